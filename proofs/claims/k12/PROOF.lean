import PyProof.Rows.All
import PySem.PyData
import PyProof.P3Eq
import PyProof.EqLayable
import HandS.ForMost
import HandS.ForExc
import HandS.Deep
import HandS.Wide
import HandS.Star
import HandS.Defaults
import HandS.TupMul
import HandS.TupAny
import HandS.Text
import HandS.SortInts
import HandS.IsInst
import HandS.Conv
import HandS.Iter
import HandS.Comp
import KE.DataMinMax
import KE.GoesMore
import KE.GoesEnum
import HandS.Style
import KE.DatumOrd
import HandS.Head0
import HandS.Head1
import HandS.Head2
import HandS.HeadEnd
import HandS.HeadHook1
import HandS.HeadHook2
import PySem.Challenge.RW_eatersheet_k12_whole_costs
set_option linter.all false
/-! The pure side: data, cells, outcomes. -/
namespace F
open PySem

/-- data: tuples, frozen lists, frozen instances by value; ref n: the n-th cell -/
inductive D where
  | non | bl (b : Bool) | int (i : Int) | str (s : Str) | ty (n : String)
  | tup (ds : List D) | lst (ds : List D) | frz (ds : List D)
  | ins (c : Str) (fs : List (Str × D))
  | ref (n : Nat)
  deriving Inhabited

/-- what stands in a cell -/
inductive C where
  | lst (ds : List D)
  | ins (c : Str) (fs : List (Str × D))

abbrev Store := List C
structure Xn where
  cls : Str
  fld : Option (Str × D)

inductive Out (α : Type) where
  | ok (a : α) (S : Store)
  | exn (x : Xn) (S : Store)
  | stuck

abbrev M (α : Type) := Store → Out α
def ret {α : Type} (a : α) : M α := fun S => .ok a S
def stuck {α : Type} : M α := fun _ => .stuck
def bnd {α β : Type} (m : M α) (f : α → M β) : M β := fun S => match m S with
  | .ok a S' => f a S'
  | .exn x S' => .exn x S'
  | .stuck => .stuck

abbrev Env := List (Option D)
abbrev SE := Env → M D
abbrev SA := Env → M (List D)
abbrev ST := Env → M Bool

inductive Fl where
  | nx (ρ : Env) | rt (d : D) | bk (ρ : Env) | ct (ρ : Env) | xn (x : Xn) (ρ : Env)
inductive OS where
  | fl (f : Fl) (S : Store)
  | stuck
abbrev SS := Env → Store → OS
/-- an expression ahead of the rest of a statement -/
def exS {α : Type} (e : Env → M α) (k : α → Env → Store → OS) : SS := fun ρ S => match e ρ S with
  | .ok d S' => k d ρ S'
  | .exn x S' => .fl (.xn x ρ) S'
  | .stuck => .stuck

/-! ### reading -/
def lineN : Nat := 16777216
/-- the items of a list, frozen or a cell -/
def lv (S : Store) : D → Option (List D)
  | .lst ds => some ds
  | .ref n => (match S[n]? with
    | some (.lst ds) => some ds
    | _ => none)
  | _ => none
/-- .. or the script -/
def lvf (S : Store) : D → Option (List D)
  | .frz ds => some ds
  | d => lv S d
/-- the items of a list or a tuple -/
def sv (S : Store) : D → Option (List D)
  | .tup ds => some ds
  | d => lvf S d

/-! ### data for == -/
mutual
def D.toP : D → PyData
  | .non => .none
  | .bl b => .bool b
  | .int i => .int i
  | .str s => .str s
  | .tup ds => .tuple (toPs ds)
  | .lst ds => .list (toPs ds)
  | .frz ds => .list (toPs ds)
  | .ty _ => .dict []
  | .ins _ _ => .dict []
  | .ref _ => .dict []
def toPs : List D → List PyData
  | [] => []
  | d :: ds => d.toP :: toPs ds
end
/-- one cell's list is read -/
def vw (S : Store) (d : D) : D := match lv S d with
  | some ds => .lst ds
  | none => d
/-- a plain one: its kind (0 None, 1 bool, 2 int, 3 text), 9 else -/
def kind : D → Nat
  | .non => 0
  | .bl _ => 1
  | .int _ => 2
  | .str _ => 3
  | _ => 9
def scalD (x y : D) : Bool := decide (kind x < 9) && decide (kind y < 9) && !(decide (kind x = 1 ∧ kind y = 2) || decide (kind x = 2 ∧ kind y = 1))
def scalEq : D → D → Bool
  | .non, .non => true
  | .int i, .int j => decide (i = j)
  | .bl a, .bl b => a == b
  | .str a, .str b => decide (a = b)
  | _, _ => false
def eqV (S : Store) (x y : D) : Option Bool :=
  if scalD x y then some (scalEq x y)
  else if SeqAt.shaped (vw S x).toP && SeqAt.shaped (vw S y).toP then some (PyData.eqv (vw S x).toP (vw S y).toP) else none
def eqM (x y : D) : M D := fun S => match eqV S x y with
  | some b => .ok (.bl b) S
  | none => .stuck
def neM (x y : D) : M D := fun S => match eqV S x y with
  | some b => .ok (.bl (!b)) S
  | none => .stuck

/-! ### operators -/
def mkL (ds : List D) : M D := fun S => if ds.length ≤ lineN then .ok (.lst ds) S else .stuck
def mkT (ds : List D) : M D := fun S => if ds.length ≤ lineN then .ok (.tup ds) S else .stuck
/-- a new cell -/
def mkC (ds : List D) : M D := fun S => if ds.length ≤ lineN then .ok (.ref S.length) (S ++ [.lst ds]) else .stuck
def addL (x y : D) : M D := fun S => match lv S x, lv S y with
  | some a, some b => if a.length + b.length ≤ lineN then .ok (.lst (a ++ b)) S else .stuck
  | _, _ => .stuck
def addD (x y : D) : M D := match x with
  | .int i => (match y with
    | .int j => ret (.int (i + j))
    | _ => stuck)
  | .str a => (match y with
    | .str b => fun S => if a.length + b.length ≤ lineN then .ok (.str (a ++ b)) S else .stuck
    | _ => stuck)
  | .tup a => (match y with
    | .tup b => fun S => if a.length + b.length ≤ lineN then .ok (.tup (a ++ b)) S else .stuck
    | _ => stuck)
  | x => addL x y
def subD : D → D → M D
  | .int i, .int j => ret (.int (i - j))
  | _, _ => stuck
def mulOk (i j : Int) : Prop := (-18446744073709551616 < i ∧ i < 18446744073709551616) ∨ (-18446744073709551616 < j ∧ j < 18446744073709551616)
instance (i j : Int) : Decidable (mulOk i j) := by unfold mulOk; infer_instance
def repL (x : D) (k : Int) : M D := fun S => match lv S x with
  | some a => if -(2 ^ 63) ≤ k ∧ k < 2 ^ 63 ∧ a.length * k.toNat ≤ lineN then .ok (.lst (List.replicate k.toNat a).flatten) S else .stuck
  | none => .stuck
def mulD (x y : D) : M D := match y with
  | .int k => (match x with
    | .int i => fun S => if mulOk i k then .ok (.int (i * k)) S else .stuck
    | .tup a => fun S => if a ≠ [] ∧ a.length ≤ 1000 ∧ 2 ≤ k ∧ k ≤ 1000 then .ok (.tup (List.replicate k.toNat a).flatten) S else .stuck
    | x => repL x k)
  | _ => stuck
def divD : D → D → M D
  | .int i, .int j => fun S => if 0 < j ∧ j < 18446744073709551616 then .ok (.int (i / j)) S else .stuck
  | _, _ => stuck
def modD : D → D → M D
  | .int i, .int j => fun S => if 0 < j then .ok (.int (i % j)) S else .stuck
  | _, _ => stuck
def powD : D → D → M D
  | .int i, .int j => fun S => if 0 ≤ j ∧ j ≤ 1000000 ∧ i.natAbs < 18446744073709551616 then .ok (.int (i ^ j.toNat)) S else .stuck
  | _, _ => stuck
def negD : D → M D
  | .int i => ret (.int (-i))
  | _ => stuck
def notD : D → M D
  | .bl b => ret (.bl (!b))
  | _ => stuck
def ltD : D → D → M D
  | .int i, .int j => ret (.bl (decide (i < j)))
  | _, _ => stuck
def leD : D → D → M D
  | .int i, .int j => ret (.bl (decide (i ≤ j)))
  | _, _ => stuck
def gtD : D → D → M D
  | .int i, .int j => ret (.bl (decide (j < i)))
  | _, _ => stuck
def geD : D → D → M D
  | .int i, .int j => ret (.bl (decide (j ≤ i)))
  | _, _ => stuck
def isN : D → Bool
  | .non => true
  | _ => false
def isNoneD (x : D) : M D := ret (.bl (isN x))
def notNoneD (x : D) : M D := ret (.bl (!isN x))

/-! ### subscripts -/
/-- the place that an index tells -/
def pos? (n : Nat) (i : Int) : Option Nat := if i < 0 then (if 0 ≤ i + n then some (i + n).toNat else none) else if i < n then some i.toNat else none
def at? {α : Type} (xs : List α) (i : Int) : Option α := match pos? xs.length i with
  | some j => xs[j]?
  | none => none
def ixS (x : D) (i : Int) : M D := fun S => match sv S x with
  | some ds => (match at? ds i with
    | some d => .ok d S
    | none => .stuck)
  | none => .stuck
def ixD (x y : D) : M D := match y with
  | .int i => (match x with
    | .str z => fun S => if z.length ≤ lineN then (match at? z.cps.toList i with
      | some c => .ok (.str ⟨#[c]⟩) S
      | none => .stuck) else .stuck
    | x => ixS x i)
  | _ => stuck
/-- a part of a slice: None where it is left out -/
def part (d : Option D) : Option (Option Int) := match d with
  | none => some none
  | some (.int i) => some (some i)
  | _ => none
def cutN (n d : Nat) : Option Int → Nat
  | some v => if v < 0 then ((n : Int) + v).toNat else min n v.toNat
  | none => d
def cutD {α : Type} (xs : List α) (lo hi : Option Int) : List α := (xs.drop (cutN xs.length 0 lo)).take (cutN xs.length xs.length hi - cutN xs.length 0 lo)
def slL (x : D) (lo hi : Option Int) : M D := fun S => match lvf S x with
  | some ds => .ok (.lst (cutD ds lo hi)) S
  | none => .stuck
def slD (x : D) (lo hi : Option Int) : M D := match x with
  | .tup ds => ret (.tup (cutD ds lo hi))
  | x => slL x lo hi
def asInt : D → M (Option Int)
  | .int i => ret (some i)
  | _ => stuck
/-! ### in, truth, chains -/
def inV (S : Store) (x y : D) : Option Bool := match y with
  | .str z => (match x with
    | .str a => (match a.cps.toList with
      | [c] => some (decide (c ∈ z.cps.toList))
      | _ => none)
    | _ => none)
  | y => (match sv S y with
    | some ds => if SeqAt.shaped x.toP && SeqAt.shaped (.list (toPs ds)) then some ((toPs ds).any fun z => PyData.eqv z x.toP) else none
    | none => none)
def inD (x y : D) : M D := fun S => match inV S x y with
  | some b => .ok (.bl b) S
  | none => .stuck
def notInD (x y : D) : M D := fun S => match inV S x y with
  | some b => .ok (.bl (!b)) S
  | none => .stuck
def truD (d : D) : M Bool := match d with
  | .non => ret false
  | .bl b => ret b
  | .int i => ret (i != 0)
  | .str z => fun S => if z.length ≤ lineN then .ok ((z.length : Int) != 0) S else .stuck
  | d => fun S => match sv S d with
    | some ds => .ok (!ds.isEmpty) S
    | none => .stuck
def op2 (g : D → D → M D) (fa fc : SE) : SE := fun ρ => bnd (fa ρ) fun x => bnd (fc ρ) fun y => g x y
def op1 (g : D → M D) (fa : SE) : SE := fun ρ => bnd (fa ρ) g
def chain (g g' : D → D → M D) (fa fb fc : SE) : SE := fun ρ => bnd (fa ρ) fun x => bnd (fb ρ) fun y => bnd (g x y) fun z => match z with
  | .bl true => bnd (fc ρ) fun u => g' y u
  | .bl false => ret (.bl false)
  | _ => stuck
def boolT (f : SE) : ST := fun ρ => bnd (f ρ) fun d => match d with
  | .bl b => ret b
  | _ => stuck
def truT (f : SE) : ST := fun ρ => bnd (f ρ) truD
def notT (f : ST) : ST := fun ρ => bnd (f ρ) fun c => ret (!c)
def andT (f g : ST) : ST := fun ρ => bnd (f ρ) fun c => if c = true then g ρ else ret false
def orT (f g : ST) : ST := fun ρ => bnd (f ρ) fun c => if c = true then ret true else g ρ
def andE (f g : SE) : SE := fun ρ => bnd (f ρ) fun d => match d with
  | .bl c => if c = true then g ρ else ret (.bl false)
  | _ => stuck
def orE (f g : SE) : SE := fun ρ => bnd (f ρ) fun d => match d with
  | .bl c => if c = true then ret (.bl true) else g ρ
  | _ => stuck
def ifE (c : ST) (f g : SE) : SE := fun ρ => bnd (c ρ) fun d => if d = true then f ρ else g ρ
def nilA : SA := fun _ => ret []
def consA (f : SE) (g : SA) : SA := fun ρ => bnd (f ρ) fun d => bnd (g ρ) fun ds => ret (d :: ds)
def starA (f : SE) (g : SA) : SA := fun ρ => bnd (f ρ) fun d => bnd (fun S => match sv S d with
  | some es => .ok es S
  | none => .stuck) fun es => bnd (g ρ) fun ds => ret (es ++ ds)
def appA {α : Type} (f : SA) (k : List D → M α) : Env → M α := fun ρ => bnd (f ρ) k
def varD (i : Nat) : SE := fun ρ S => match ρ[i]? with
  | some (some d) => .ok d S
  | _ => .stuck
def cD (d : D) : SE := fun _ S => .ok d S
def noneOp (neg : Bool) (x y : D) : M D := match y with
  | .non => ret (.bl (if neg then !isN x else isN x))
  | _ => stuck
def lstE (fs : SA) : SE := appA fs mkL
def celE (fs : SA) : SE := appA fs mkC
def tupE (fs : SA) : SE := appA fs mkT
def slE (fa : SE) (fl fh : Env → M (Option Int)) : SE := fun ρ => bnd (fa ρ) fun x => bnd (fl ρ) fun lo => bnd (fh ρ) fun hi => slD x lo hi
/-- of one value -/
def g1 (f : D → M D) : List D → M D
  | [d] => f d
  | _ => stuck
def g2 (f : D → D → M D) : List D → M D
  | [d, e] => f d e
  | _ => stuck
def lenD (d : D) : M D := match d with
  | .str z => fun S => if z.length ≤ lineN then .ok (.int z.length) S else .stuck
  | d => fun S => match sv S d with
    | some ds => .ok (.int ds.length) S
    | none => .stuck
def typ (S : Store) : D → Option String
  | .non => some "NoneType"
  | .bl _ => some "bool"
  | .int _ => some "int"
  | .str _ => some "str"
  | .tup _ => some "tuple"
  | .lst _ => some "list"
  | .frz _ => some "list"
  | .ref n => (match S[n]? with
    | some (.lst _) => some "list"
    | _ => none)
  | _ => none
def isB (a b : String) : Bool := a == b || (a == "bool" && b == "int")
def known (b : String) : Bool := ["int", "bool", "str", "tuple", "list", "dict"].contains b
def tyN : D → Option String
  | .ty n => if known n then some n else none
  | _ => none
def tyNs : List D → Option (List String)
  | [] => some []
  | d :: ds => (match tyN d, tyNs ds with
    | some n, some ns => some (n :: ns)
    | _, _ => none)
def isiD (d c : D) : M D := fun S => match typ S d with
  | some t => (match c with
    | .tup cs => (match tyNs cs with
      | some ns => .ok (.bl (ns.any fun n => isB t n)) S
      | none => .stuck)
    | c => (match tyN c with
      | some n => .ok (.bl (isB t n)) S
      | none => .stuck))
  | none => .stuck
def ints? : List D → Option (List Int)
  | [] => some []
  | d :: ds => (match d, ints? ds with
    | .int i, some r => some (i :: r)
    | _, _ => none)
def bls? : List D → Option (List Bool)
  | [] => some []
  | d :: ds => (match d, bls? ds with
    | .bl i, some r => some (i :: r)
    | _, _ => none)
def maxI : List Int → Int
  | [] => 0
  | [a] => a
  | a :: r => max a (maxI r)
def minI : List Int → Int
  | [] => 0
  | [a] => a
  | a :: r => min a (minI r)
def ofInts (f : List Int → D) (d : D) : M D := fun S => match lvf S d with
  | some ds => (match ints? ds with
    | some ns => .ok (f ns) S
    | none => .stuck)
  | none => .stuck
def sumD : D → M D := ofInts fun ns => .int ns.sum
def maxLD (d : D) : M D := fun S => match lvf S d with
  | some ds => (match ints? ds with
    | some (n :: ns) => .ok (.int (maxI (n :: ns))) S
    | _ => .stuck)
  | none => .stuck
def minLD (d : D) : M D := fun S => match lvf S d with
  | some ds => (match ints? ds with
    | some (n :: ns) => .ok (.int (minI (n :: ns))) S
    | _ => .stuck)
  | none => .stuck
def max2D : D → D → M D
  | .int i, .int j => ret (.int (if j > i then j else i))
  | _, _ => stuck
def min2D : D → D → M D
  | .int i, .int j => ret (.int (if j < i then j else i))
  | _, _ => stuck
def ofBls (f : List Bool → D) (d : D) : M D := fun S => match lvf S d with
  | some ds => (match bls? ds with
    | some ns => .ok (f ns) S
    | none => .stuck)
  | none => .stuck
def allD : D → M D := ofBls fun bs => .bl (bs.all id)
def anyD : D → M D := ofBls fun bs => .bl (bs.any id)
def absD : D → M D
  | .int i => ret (.int (if i < 0 then -i else i))
  | _ => stuck
def intD : D → M D
  | .int i => ret (.int i)
  | .bl b => ret (.int (if b then 1 else 0))
  | _ => stuck
def listD (d : D) : M D := fun S => match sv S d with
  | some ds => .ok (.lst ds) S
  | none => .stuck
def listC (d : D) : M D := fun S => match sv S d with
  | some ds => .ok (.ref S.length) (S ++ [.lst ds])
  | none => .stuck
def tupleD (d : D) : M D := fun S => match sv S d with
  | some ds => .ok (.tup ds) S
  | none => .stuck
inductive Tg where
  | name (i : Nat)
  | tup (is : List Nat)
def setAll {α : Type} : List Nat → List α → List (Option α) → List (Option α)
  | i :: is, d :: ds, ρ => setAll is ds (ρ.set i (some d))
  | _, _, ρ => ρ
def tgD : Tg → D → Env → Option Env
  | .name i, d, ρ => some (ρ.set i (some d))
  | .tup is, d, ρ => (match d with
    | .tup ds => if ds.length = is.length then some (setAll is ds ρ) else none
    | _ => none)
def Tg.slots : Tg → List Nat
  | .name i => [i]
  | .tup is => is
/-- the items of a list or tuple that stands still -/
def still : D → M (List D)
  | .tup ds => ret ds
  | .lst ds => ret ds
  | .frz ds => ret ds
  | _ => stuck
def itE (f : SE) : SA := fun ρ => bnd (f ρ) still
def itR1 : List D → M (List D)
  | [.int j] => fun S => if -(2 ^ 62) ≤ j ∧ j < 2 ^ 62 then .ok ((List.range j.toNat).map fun i => D.int (i : Nat)) S else .stuck
  | _ => stuck
def itR2 : List D → M (List D)
  | [.int i, .int j] => fun S => if -(2 ^ 62) ≤ i ∧ i < 2 ^ 62 ∧ -(2 ^ 62) ≤ j ∧ j < 2 ^ 62 then .ok ((List.range (j - i).toNat).map fun k => D.int (i + (k : Nat))) S else .stuck
  | _ => stuck
def wipeD (ρ : Env) : List Nat → Env
  | [] => ρ
  | v :: vs => (wipeD ρ vs).set v none
/-- as bnd; an error is not foreseen -/
def bns {α β : Type} (m : M α) (f : α → M β) : M β := fun S => match m S with
  | .ok a S' => f a S'
  | _ => .stuck
def lcGo (t : Tg) (ft : ST) (fe : SE) (ρ : Env) : List D → M (List D)
  | [] => ret []
  | d :: ds => match tgD t d ρ with
    | none => stuck
    | some ρ' => bns (ft ρ') fun c => if c = true then bns (fe ρ') fun y => bns (lcGo t ft fe ρ ds) fun r => ret (y :: r) else lcGo t ft fe ρ ds
def lcE (own : List Nat) (t : Tg) (fi : SA) (ft : ST) (fe : SE) : SE := fun ρ => bnd (fi ρ) fun ds S => if ds.length ≤ lineN then bns (lcGo t ft fe (wipeD ρ own) ds) (fun r => ret (.lst r)) S else .stuck
def yesT : ST := fun _ => ret true
def nxS : SS := fun ρ S => .fl (.nx ρ) S
def seqS (f g : SS) : SS := fun ρ S => match f ρ S with
  | .fl (.nx ρ') S' => g ρ' S'
  | o => o
def retS (e : SE) : SS := exS e fun d _ S => .fl (.rt d) S
def retN : SS := fun _ S => .fl (.rt .non) S
def dropS (e : SE) : SS := exS e fun _ ρ S => .fl (.nx ρ) S
def asgS (e : SE) (t : Tg) : SS := exS e fun d ρ S => match tgD t d ρ with
  | some ρ' => .fl (.nx ρ') S
  | none => .stuck
def ifS (c : ST) (f g : SS) : SS := exS c fun k ρ S => if k = true then f ρ S else g ρ S
def brkS : SS := fun ρ S => .fl (.bk ρ) S
def cntS : SS := fun ρ S => .fl (.ct ρ) S
def nevS : SS := fun _ _ => .stuck
/-- the turns over the items ds -/
def forGo (t : Tg) (f : SS) : List D → SS
  | [] => nxS
  | d :: ds => fun ρ S => match tgD t d ρ with
    | none => .stuck
    | some ρ' => (match f ρ' S with
      | .fl (.nx ρ2) S2 => forGo t f ds ρ2 S2
      | .fl (.ct ρ2) S2 => forGo t f ds ρ2 S2
      | .fl (.bk ρ2) S2 => .fl (.nx ρ2) S2
      | o => o)
def forS (t : Tg) (fi : SA) (f : SS) : SS := exS fi fun ds ρ S => forGo t f ds ρ S
/-- at most n turns -/
def whGo (c : ST) (f : SS) : Nat → SS
  | 0 => nevS
  | n + 1 => exS c fun k ρ S => if k = true then (match f ρ S with
      | .fl (.nx ρ2) S2 => whGo c f n ρ2 S2
      | .fl (.ct ρ2) S2 => whGo c f n ρ2 S2
      | .fl (.bk ρ2) S2 => .fl (.nx ρ2) S2
      | o => o) else .fl (.nx ρ) S
def setItS (v o i : SE) : SS := exS v fun x ρ S => exS o (fun y ρ S => exS i (fun k ρ S => match y, k with
  | .ref n, .int j => (match S[n]? with
    | some (.lst ds) => (match pos? ds.length j with
      | some m => .fl (.nx ρ) (S.set n (.lst (ds.set m x)))
      | none => .stuck)
    | _ => .stuck)
  | _, _ => .stuck) ρ S) ρ S
def runB (f : SS) (N : Nat) (ds : List D) : M D := fun S => match f (ds.map some ++ List.replicate (N - ds.length) none) S with
  | .fl (.rt d) S' => .ok d S'
  | .fl (.nx _) S' => .ok .non S'
  | .fl (.xn x _) S' => .exn x S'
  | _ => .stuck
/-- (0, d0), (1, d1), .. -/
def enumL (ds : List D) : List D := (List.range ds.length).zipWith (fun i d => D.tup [.int (i : Nat), d]) ds
def itEn (f : SA) : SA := fun ρ => bnd (f ρ) fun vs => match vs with
  | [d] => bnd (still d) fun ds => ret (enumL ds)
  | _ => stuck
def appD (x y : D) : M D := fun S => match x with
  | .ref n => (match S[n]? with
    | some (.lst ds) => if ds.length < lineN then .ok .non (S.set n (.lst (ds ++ [y]))) else .stuck
    | _ => .stuck)
  | _ => .stuck
/-- o.m(..), o a cell's list -/
def chkL (x : D) : M D := fun S => match lv S x with
  | some _ => .ok x S
  | none => .stuck
def mtE (fa : SE) (fs : SA) (g : D → D → M D) : SE := fun ρ => bnd (fa ρ) fun x => bnd (chkL x) fun x => bnd (fs ρ) (g1 (g x))
/-- [..] * k as a cell -/
def repC (x y : D) : M D := fun S => match y with
  | .int k => (match lv S x with
    | some a => if -(2 ^ 63) ≤ k ∧ k < 2 ^ 63 ∧ a.length * k.toNat ≤ lineN then .ok (.ref S.length) (S ++ [.lst (List.replicate k.toNat a).flatten]) else .stuck
    | none => .stuck)
  | _ => .stuck
/-- [..] + [..] as a cell -/
def addC (x y : D) : M D := fun S => match lv S x, lv S y with
  | some a, some b => if a.length + b.length ≤ lineN then .ok (.ref S.length) (S ++ [.lst (a ++ b)]) else .stuck
  | _, _ => .stuck
def itR3 : List D → M (List D)
  | [.int i, .int j, .int (-1)] => fun S => if -(2 ^ 62) ≤ i ∧ i < 2 ^ 62 ∧ -(2 ^ 62) ≤ j ∧ j < 2 ^ 62 then .ok ((List.range (i - j).toNat).map fun k => D.int (i - (k : Nat))) S else .stuck
  | _ => stuck
mutual
def D.bel (m : Nat) : D → Bool
  | .tup ds => belL m ds
  | .lst ds => belL m ds
  | .frz ds => belL m ds
  | .ins _ fs => belF m fs
  | .ref n => decide (n < m)
  | _ => true
def belL (m : Nat) : List D → Bool
  | [] => true
  | d :: ds => d.bel m && belL m ds
def belF (m : Nat) : List (Str × D) → Bool
  | [] => true
  | (_, d) :: ds => d.bel m && belF m ds
end
def C.bel (m : Nat) : C → Bool
  | .lst ds => belL m ds
  | .ins _ fs => belF m fs
mutual
/-- cells from m on become lists by value -/
def D.res (m : Nat) (S : Store) : D → Option D
  | .tup ds => (match resL m S ds with
    | some es => some (.tup es)
    | none => none)
  | .ref n => if n < m then some (.ref n) else (match S[n]? with
    | some (.lst ds) => if belL m ds then some (.lst ds) else none
    | _ => none)
  | d => if d.bel m then some d else none
def resL (m : Nat) (S : Store) : List D → Option (List D)
  | [] => some []
  | d :: ds => (match d.res m S, resL m S ds with
    | some e, some es => some (e :: es)
    | _, _ => none)
end
def closeOut (m : Nat) (o : Out D) : Out D := match o with
  | .ok d S => if (S.take m).all (·.bel m) ∧ m ≤ S.length then (match d.res m S with
    | some e => .ok e (S.take m)
    | none => .stuck) else .stuck
  | _ => .stuck
def cal (n : Nat) (g : List D → M D) : List D → M D := fun ds => if ds.length = n then g ds else stuck
/-- a, b = e, f with plain names: the pair itself does not stand -/
def parS (fs : SA) (is : List Nat) : SS := fun ρ S => match fs ρ S with
  | .ok ds S' => if ds.length = is.length then .fl (.nx (setAll is ds ρ)) S' else .stuck
  | .exn x S' => .fl (.xn x ρ) S'
  | .stuck => .stuck
/-- pairs of ints -/
def prs? : List D → Option (List (Int × Int))
  | [] => some []
  | d :: ds => (match d, prs? ds with
    | .tup [.int a, .int b], some r => some ((a, b) :: r)
    | _, _ => none)
def ltP (a b : Int × Int) : Bool := if a.1 = b.1 then decide (a.2 < b.2) else decide (a.1 < b.1)
def minP (x : Int × Int) (xs : List (Int × Int)) : Int × Int := xs.foldl (fun a y => if ltP y a = true then y else a) x
def minPD (d : D) : M D := fun S => match lvf S d with
  | some ds => (match prs? ds with
    | some (p :: ps) => .ok (.tup [.int (minP p ps).1, .int (minP p ps).2]) S
    | _ => .stuck)
  | none => .stuck
end F

set_option linter.all false
set_option maxRecDepth 100000
set_option maxHeartbeats 2000000
set_option autoImplicit false
/-! Data lie in the abstract heap; an expression, a statement reckons a function of data. -/
namespace F
open PySem PySem.Spec PyProof.Rows L2
abbrev Sl := L2.St

/-- the written part: a class's name stands for its object -/
structure B where
  K : PySem.W.Frag
  mg : Str → Option Value
/-- the world of a moment: the cells' addresses, the heap -/
structure Wd where
  μ : List Addr
  H : Hp
  hid : List Addr
def Wd.up (w : Wd) (p : Addr) (o : HO) : Wd := ⟨w.μ, upd w.H p o, w.hid⟩
def Wd.cell (w : Wd) (p : Addr) (o : HO) : Wd := ⟨w.μ ++ [p], upd w.H p o, w.hid⟩
/-- no cell, not hidden -/
def Fz (w : Wd) (a : Addr) : Prop := a ∉ w.μ ∧ a ∉ w.hid
def KTup (K : PySem.W.Frag) (a : Addr) (xs : List V) : Prop :=
  ∃ (o : Obj) (its : Array Value) (n : Nat), K.lookup a = some o ∧ o.cls = .type "tuple" ∧ o.data = .seq its n ∧ its.size ≤ sizeLine ∧ Vals xs its.toList
def TupAt (b : B) (w : Wd) (a : Addr) (vs : List V) : Prop := (Fz w a ∧ w.H a = some (.tup vs)) ∨ KTup b.K a vs
def LstAt (w : Wd) (a : Addr) (vs : List V) : Prop := Fz w a ∧ w.H a = some (.lst vs)
def KLst (K : PySem.W.Frag) (a : Addr) (xs : List V) : Prop :=
  ∃ (o : Obj) (its : Array Value) (n : Nat), K.lookup a = some o ∧ o.cls = .type "list" ∧ o.dict = none ∧ o.data = .seq its n ∧ its.size ≤ sizeLine ∧ Vals xs its.toList
def FrzAt (b : B) (w : Wd) (a : Addr) (vs : List V) : Prop := (Fz w a ∧ ∃ o, w.H a = some (.frz o (.lst vs))) ∨ KLst b.K a vs
mutual
def Rp (b : B) (w : Wd) : D → V → Prop
  | .non, v => v = .non
  | .bl k, v => v = .bl k
  | .int i, v => v = .int i
  | .str s, v => v = .str s
  | .ty n, v => v = .ty n
  | .tup ds, v => ∃ a vs, v = .ref a ∧ TupAt b w a vs ∧ RpL b w ds vs
  | .lst ds, v => ∃ a vs, v = .ref a ∧ LstAt w a vs ∧ RpL b w ds vs
  | .frz ds, v => ∃ a vs, v = .ref a ∧ FrzAt b w a vs ∧ RpL b w ds vs
  | .ins c fs, v => ∃ a cc dx vs, v = .ref a ∧ b.mg c = some (.ref cc) ∧ Fz w a ∧ w.H a = some (.ins cc dx vs) ∧ RpF b w fs vs
  | .ref n, v => ∃ a, w.μ[n]? = some a ∧ v = .ref a
def RpL (b : B) (w : Wd) : List D → List V → Prop
  | [], vs => vs = []
  | d :: ds, vs => ∃ v r, vs = v :: r ∧ Rp b w d v ∧ RpL b w ds r
def RpF (b : B) (w : Wd) : List (Str × D) → List (Str × V) → Prop
  | [], vs => vs = []
  | (f, d) :: ds, vs => ∃ v r, vs = (f, v) :: r ∧ Rp b w d v ∧ RpF b w ds r
end
def CellAt (b : B) (w : Wd) (a : Addr) : C → Prop
  | .lst ds => ∃ vs, w.H a = some (.lst vs) ∧ RpL b w ds vs
  | .ins c fs => ∃ cc dx vs, b.mg c = some (.ref cc) ∧ w.H a = some (.ins cc dx vs) ∧ RpF b w fs vs
structure StR (b : B) (w : Wd) (S : Store) : Prop where
  len : w.μ.length = S.length
  nd : w.μ.Nodup
  hd : ∀ a ∈ w.hid, a ∉ w.μ ∧ ∃ o, w.H a = some o
  at_ : ∀ (n : Nat) (c : C), S[n]? = some c → ∃ a, w.μ[n]? = some a ∧ CellAt b w a c
structure EnvR (b : B) (w : Wd) (ρ : Env) (σ : Sl) : Prop where
  len : ρ.length = σ.length
  at_ : ∀ (i : Nat) (d : D), ρ[i]? = some (some d) → ∃ v, σ[i]? = some (some v) ∧ Rp b w d v
/-- what data lean on stays -/
structure Mo (w w' : Wd) : Prop where
  pre : w.μ <+: w'.μ
  fz : ∀ a o, w.H a = some o → Fz w a → Fz w' a ∧ w'.H a = some o
structure Le (w w' : Wd) : Prop where
  pre : w.μ <+: w'.μ
  keep : ∀ a o, w.H a = some o → a ∉ w.μ → w'.H a = some o
  new : ∀ a, a ∈ w'.μ → a ∉ w.μ → w.H a = none
  hid : w'.hid = w.hid
theorem Le.refl (w : Wd) : Le w w := ⟨List.prefix_refl _, fun _ _ h _ => h, fun _ h n => absurd h n, rfl⟩
theorem Le.out1 {w w' : Wd} (l : Le w w') {a : Addr} {o : HO} (h : w.H a = some o) (n : a ∉ w.μ) : a ∉ w'.μ := fun z => by
  have := l.new a z n
  rw [h] at this; cases this
theorem Le.mo {w w' : Wd} (l : Le w w') : Mo w w' := ⟨l.pre, fun a o h n => ⟨⟨l.out1 h n.1, by rw [l.hid]; exact n.2⟩, l.keep a o h n.1⟩⟩
theorem Le.trans {w w' w'' : Wd} (l : Le w w') (m : Le w' w'') : Le w w'' where
  pre := l.pre.trans m.pre
  keep := fun a o h n => m.keep a o (l.keep a o h n) (l.out1 h n)
  new := fun a h n => by
    cases q : w.H a with
    | none => rfl
    | some o =>
      have h1 := l.keep a o q n
      have h2 := m.new a h (l.out1 q n)
      rw [h1] at h2; cases h2
  hid := m.hid.trans l.hid
section
variable {b : B} {w w' : Wd} {S : Store}
mutual
theorem Rp.mo (l : Mo w w') : ∀ (d : D) (v : V), Rp b w d v → Rp b w' d v
  | .non, v, h => h
  | .bl _, v, h => h
  | .int _, v, h => h
  | .str _, v, h => h
  | .ty _, v, h => h
  | .tup ds, v, h => by
    obtain ⟨a, vs, e, t, r⟩ := h
    refine ⟨a, vs, e, ?_, RpL.mo l ds vs r⟩
    rcases t with ⟨n, t⟩ | t
    · exact .inl (l.fz a _ t n)
    · exact .inr t
  | .lst ds, v, h => by
    obtain ⟨a, vs, e, ⟨n, t⟩, r⟩ := h
    exact ⟨a, vs, e, l.fz a _ t n, RpL.mo l ds vs r⟩
  | .frz ds, v, h => by
    obtain ⟨a, vs, e, t, r⟩ := h
    refine ⟨a, vs, e, ?_, RpL.mo l ds vs r⟩
    rcases t with ⟨n, o, t⟩ | t
    · obtain ⟨h1, h2⟩ := l.fz a _ t n
      exact .inl ⟨h1, o, h2⟩
    · exact .inr t
  | .ins c fs, v, h => by
    obtain ⟨a, cc, dx, vs, e, m, n, t, r⟩ := h
    obtain ⟨h1, h2⟩ := l.fz a _ t n
    exact ⟨a, cc, dx, vs, e, m, h1, h2, RpF.mo l fs vs r⟩
  | .ref n, v, h => by
    obtain ⟨a, e, q⟩ := h
    refine ⟨a, ?_, q⟩
    obtain ⟨t, ht⟩ := l.pre
    obtain ⟨hn, he⟩ := List.getElem?_eq_some_iff.mp e
    rw [← ht, List.getElem?_append_left hn]
    exact e
theorem RpL.mo (l : Mo w w') : ∀ (ds : List D) (vs : List V), RpL b w ds vs → RpL b w' ds vs
  | [], vs, h => h
  | d :: ds, vs, h => by
    obtain ⟨v, r, e, h1, h2⟩ := h
    exact ⟨v, r, e, Rp.mo l d v h1, RpL.mo l ds r h2⟩
theorem RpF.mo (l : Mo w w') : ∀ (ds : List (Str × D)) (vs : List (Str × V)), RpF b w ds vs → RpF b w' ds vs
  | [], vs, h => h
  | (f, d) :: ds, vs, h => by
    obtain ⟨v, r, e, h1, h2⟩ := h
    exact ⟨v, r, e, Rp.mo l d v h1, RpF.mo l ds r h2⟩
end
theorem Rp.mono (l : Le w w') (d : D) (v : V) (h : Rp b w d v) : Rp b w' d v := Rp.mo l.mo d v h
theorem RpL.mono (l : Le w w') (d : List D) (v : List V) (h : RpL b w d v) : RpL b w' d v := RpL.mo l.mo d v h
theorem RpF.mono (l : Le w w') (d : List (Str × D)) (v : List (Str × V)) (h : RpF b w d v) : RpF b w' d v := RpF.mo l.mo d v h
theorem EnvR.mo (l : Mo w w') {ρ : Env} {σ : Sl} (e : EnvR b w ρ σ) : EnvR b w' ρ σ :=
  ⟨e.len, fun i d h => let ⟨v, h1, h2⟩ := e.at_ i d h; ⟨v, h1, Rp.mo l d v h2⟩⟩
theorem EnvR.mono (l : Le w w') {ρ : Env} {σ : Sl} (e : EnvR b w ρ σ) : EnvR b w' ρ σ :=
  ⟨e.len, fun i d h => let ⟨v, h1, h2⟩ := e.at_ i d h; ⟨v, h1, Rp.mono l d v h2⟩⟩
theorem RpL.length : ∀ {ds : List D} {vs : List V}, RpL b w ds vs → ds.length = vs.length
  | [], vs, h => by cases (show vs = [] from h); rfl
  | d :: ds, vs, h => by
    obtain ⟨v, r, e, _, h2⟩ := h
    subst e
    simp [RpL.length h2]
theorem RpL.get : ∀ {ds : List D} {vs : List V} {i : Nat} {d : D}, RpL b w ds vs → ds[i]? = some d → ∃ v, vs[i]? = some v ∧ Rp b w d v
  | [], vs, i, d, h, e => by simp at e
  | d' :: ds, vs, 0, d, h, e => by
    obtain ⟨v, r, e1, h1, _⟩ := h
    subst e1
    simp at e; subst e
    exact ⟨v, rfl, h1⟩
  | d' :: ds, vs, i + 1, d, h, e => by
    obtain ⟨v, r, e1, _, h2⟩ := h
    subst e1
    obtain ⟨u, h3, h4⟩ := RpL.get (i := i) h2 (by simpa using e)
    exact ⟨u, by simpa using h3, h4⟩
theorem RpL.getV : ∀ {ds : List D} {vs : List V} {i : Nat} {v : V}, RpL b w ds vs → vs[i]? = some v → ∃ d, ds[i]? = some d ∧ Rp b w d v := fun {ds vs i v} h e => by
  have hl := RpL.length h
  obtain ⟨hi, _⟩ := List.getElem?_eq_some_iff.mp e
  have hd : ds[i]? = some (ds[i]'(by omega)) := List.getElem?_eq_getElem (by omega)
  obtain ⟨u, h1, h2⟩ := RpL.get h hd
  rw [e] at h1; cases h1
  exact ⟨_, hd, h2⟩
theorem RpL.append : ∀ {ds es : List D} {vs us : List V}, RpL b w ds vs → RpL b w es us → RpL b w (ds ++ es) (vs ++ us)
  | [], es, vs, us, h, g => by cases (show vs = [] from h); exact g
  | d :: ds, es, vs, us, h, g => by
    obtain ⟨v, r, e, h1, h2⟩ := h
    subst e
    exact ⟨v, r ++ us, rfl, h1, RpL.append h2 g⟩
theorem RpL.take : ∀ (n : Nat) {ds : List D} {vs : List V}, RpL b w ds vs → RpL b w (ds.take n) (vs.take n)
  | 0, ds, vs, h => by rw [List.take_zero, List.take_zero]; rfl
  | n + 1, [], vs, h => by cases (show vs = [] from h); rfl
  | n + 1, d :: ds, vs, h => by
    obtain ⟨v, r, e, h1, h2⟩ := h
    subst e
    exact ⟨v, r.take n, rfl, h1, RpL.take n h2⟩
theorem RpL.drop : ∀ (n : Nat) {ds : List D} {vs : List V}, RpL b w ds vs → RpL b w (ds.drop n) (vs.drop n)
  | 0, ds, vs, h => h
  | n + 1, [], vs, h => by cases (show vs = [] from h); rfl
  | n + 1, d :: ds, vs, h => by
    obtain ⟨v, r, e, h1, h2⟩ := h
    subst e
    exact RpL.drop n h2
theorem RpL.set : ∀ (i : Nat) {ds : List D} {vs : List V} {d : D} {v : V}, RpL b w ds vs → Rp b w d v → RpL b w (ds.set i d) (vs.set i v)
  | i, [], vs, d, v, h, g => by cases (show vs = [] from h); rfl
  | 0, d' :: ds, vs, d, v, h, g => by
    obtain ⟨v', r, e, h1, h2⟩ := h
    subst e
    exact ⟨v, r, rfl, g, h2⟩
  | i + 1, d' :: ds, vs, d, v, h, g => by
    obtain ⟨v', r, e, h1, h2⟩ := h
    subst e
    exact ⟨v', r.set i v, rfl, h1, RpL.set i h2 g⟩
theorem RpL.one {d : D} {v : V} (h : Rp b w d v) : RpL b w [d] [v] := ⟨v, [], rfl, h, rfl⟩
theorem RpL.rep : ∀ (k : Nat) {ds : List D} {vs : List V}, RpL b w ds vs → RpL b w (List.replicate k ds).flatten (List.replicate k vs).flatten
  | 0, ds, vs, h => rfl
  | k + 1, ds, vs, h => by
    rw [List.replicate_succ, List.replicate_succ, List.flatten_cons, List.flatten_cons]
    exact RpL.append h (RpL.rep k h)
theorem RpL.ints : ∀ {ns : List Int} {vs : List V}, RpL b w (ns.map D.int) vs → vs = ns.map V.int
  | [], vs, h => h
  | n :: ns, vs, h => by
    obtain ⟨v, r, e, h1, h2⟩ := h
    rw [e, show v = .int n from h1, RpL.ints h2]; rfl
theorem RpL.bls : ∀ {ns : List Bool} {vs : List V}, RpL b w (ns.map D.bl) vs → vs = ns.map V.bl
  | [], vs, h => h
  | n :: ns, vs, h => by
    obtain ⟨v, r, e, h1, h2⟩ := h
    rw [e, show v = .bl n from h1, RpL.bls h2]; rfl
theorem RpL.ofInts : ∀ (ns : List Int), RpL b w (ns.map D.int) (ns.map V.int)
  | [] => rfl
  | n :: ns => ⟨_, _, rfl, rfl, RpL.ofInts ns⟩
theorem RpL.strs : ∀ {ns : List Str} {vs : List V}, RpL b w (ns.map D.str) vs → vs = ns.map V.str
  | [], vs, h => h
  | n :: ns, vs, h => by
    obtain ⟨v, r, e, h1, h2⟩ := h
    rw [e, show v = .str n from h1, RpL.strs h2]; rfl
theorem TupAt.sq {a : Addr} {vs : List V} (t : TupAt b w a vs) : SqT b.K w.H a vs := by
  rcases t with ⟨_, t⟩ | t
  · exact .inl (.inl t)
  · exact .inr t
theorem FrzAt.sq {a : Addr} {vs : List V} (t : FrzAt b w a vs) : SqL b.K w.H a vs := by
  rcases t with ⟨_, o, t⟩ | t
  · exact .inl (.inr ⟨o, t⟩)
  · exact .inr t
theorem LstAt.sq {K : PySem.W.Frag} {a : Addr} {vs : List V} (t : LstAt w a vs) : SqL K w.H a vs := .inl (.inl t.2)
/-! ### the heap's steps -/
theorem StR.cell (st : StR b w S) {n : Nat} {a : Addr} (h : w.μ[n]? = some a) : ∃ c, S[n]? = some c ∧ CellAt b w a c := by
  obtain ⟨hn, _⟩ := List.getElem?_eq_some_iff.mp h
  have hs : n < S.length := by rw [← st.len]; exact hn
  have e : S[n]? = some S[n] := List.getElem?_eq_getElem hs
  obtain ⟨a', h1, h2⟩ := st.at_ n _ e
  rw [h] at h1; cases h1
  exact ⟨_, e, h2⟩
theorem StR.there (st : StR b w S) {a : Addr} (h : a ∈ w.μ) : ∃ o, w.H a = some o ∧ ((∃ xs, o = .lst xs) ∨ ∃ C dx fs, o = .ins C dx fs) := by
  obtain ⟨n, hn⟩ := List.mem_iff_getElem?.mp h
  obtain ⟨c, _, h2⟩ := st.cell hn
  cases c with
  | lst ds => obtain ⟨vs, e, _⟩ := h2; exact ⟨_, e, .inl ⟨_, rfl⟩⟩
  | ins c fs => obtain ⟨cc, dx, vs, _, e, _⟩ := h2; exact ⟨_, e, .inr ⟨_, _, _, rfl⟩⟩
theorem StR.fresh (st : StR b w S) {p : Addr} (h : w.H p = none) : Fz w p := by
  refine ⟨fun z => ?_, fun z => ?_⟩
  · obtain ⟨o, e, _⟩ := st.there z
    rw [h] at e; cases e
  · obtain ⟨_, o, e⟩ := st.hd p z
    rw [h] at e; cases e
/-- a new object beside the cells -/
theorem le_new {p : Addr} {o : HO} (h : w.H p = none) : Le w (w.up p o) :=
  ⟨List.prefix_refl _, fun a u e _ => by show upd w.H p o a = _; rw [upd_ne (ne_of_none e h)]; exact e, fun a z n => absurd z n, rfl⟩
theorem le_cell {p : Addr} {o : HO} (h : w.H p = none) : Le w (w.cell p o) :=
  ⟨List.prefix_append _ _, fun a u e _ => by show upd w.H p o a = _; rw [upd_ne (ne_of_none e h)]; exact e, fun a z n => by
    rcases List.mem_append.mp z with z | z
    · exact absurd z n
    · rw [List.mem_singleton.mp z]; exact h, rfl⟩
theorem le_mut {a : Addr} {o : HO} (h : a ∈ w.μ) : Le w (w.up a o) :=
  ⟨List.prefix_refl _, fun c u e n => by show upd w.H a o c = _; rw [upd_ne (fun z : c = a => n (by rw [z]; exact h))]; exact e, fun c z n => absurd z n, rfl⟩
theorem CellAt.mo (l : Mo w w') {a : Addr} {c : C} (h : CellAt b w a c) (e : w'.H a = w.H a) : CellAt b w' a c := by
  cases c with
  | lst ds => obtain ⟨vs, h1, h2⟩ := h; exact ⟨vs, e.trans h1, RpL.mo l _ _ h2⟩
  | ins c fs => obtain ⟨cc, dx, vs, h0, h1, h2⟩ := h; exact ⟨cc, dx, vs, h0, e.trans h1, RpF.mo l _ _ h2⟩
theorem hd_up (st : StR b w S) {p : Addr} {o : HO} : ∀ a ∈ w.hid, ∃ u, upd w.H p o a = some u := fun a ha => by
  obtain ⟨_, u, e⟩ := st.hd a ha
  by_cases q : a = p
  · exact ⟨o, by rw [q]; exact upd_same⟩
  · exact ⟨u, by rw [upd_ne q]; exact e⟩
theorem StR.new (st : StR b w S) {p : Addr} {o : HO} (h : w.H p = none) : StR b (w.up p o) S := by
  refine ⟨st.len, st.nd, fun a ha => ⟨(st.hd a ha).1, hd_up st a ha⟩, fun n c e => ?_⟩
  obtain ⟨a, h1, h2⟩ := st.at_ n c e
  exact ⟨a, h1, h2.mo (le_new h).mo (upd_ne (fun z => (st.fresh h).1 (z ▸ List.mem_of_getElem? h1)))⟩
theorem StR.newCell (st : StR b w S) {p : Addr} {o : HO} {c : C} (h : w.H p = none) (hc : CellAt b (w.cell p o) p c) : StR b (w.cell p o) (S ++ [c]) := by
  refine ⟨by simp [st.len, Wd.cell], ?_, fun a ha => ⟨fun z => ?_, hd_up st a ha⟩, fun n c' e => ?_⟩
  · refine List.nodup_append.mpr ⟨st.nd, by simp, fun a ha c' hc' z => ?_⟩
    rw [List.mem_singleton] at hc'
    exact (st.fresh h).1 (by rw [← hc', ← z]; exact ha)
  · rcases List.mem_append.mp z with z | z
    · exact (st.hd a ha).1 z
    · exact (st.fresh h).2 (by rw [← List.mem_singleton.mp z]; exact ha)
  · by_cases hn : n < S.length
    · rw [List.getElem?_append_left hn] at e
      obtain ⟨a, h1, h2⟩ := st.at_ n c' e
      refine ⟨a, ?_, h2.mo (le_cell h).mo (upd_ne (fun z => (st.fresh h).1 (z ▸ List.mem_of_getElem? h1)))⟩
      show (w.μ ++ [p])[n]? = some a
      rw [List.getElem?_append_left (by rw [st.len]; exact hn)]
      exact h1
    · have hn2 : n < (S ++ [c]).length := (List.getElem?_eq_some_iff.mp e).1
      have hn3 : n = S.length := by simp at hn2; omega
      subst hn3
      rw [List.getElem?_append_right (Nat.le_refl _)] at e
      simp at e
      subst e
      refine ⟨p, ?_, hc⟩
      show (w.μ ++ [p])[S.length]? = some p
      rw [← st.len, List.getElem?_append_right (Nat.le_refl _)]
      simp
theorem StR.mut (st : StR b w S) {n : Nat} {a : Addr} {o : HO} {c : C} (h : w.μ[n]? = some a) (hc : CellAt b (w.up a o) a c) : StR b (w.up a o) (S.set n c) := by
  have ha : a ∈ w.μ := List.mem_of_getElem? h
  refine ⟨by simp [st.len, Wd.up], st.nd, fun a ha => ⟨(st.hd a ha).1, hd_up st a ha⟩, fun m c' e => ?_⟩
  by_cases hm : m = n
  · subst hm
    have hl : m < (S.set m c).length := (List.getElem?_eq_some_iff.mp e).1
    rw [List.getElem?_set_self (by simpa using hl)] at e
    cases e
    exact ⟨a, h, hc⟩
  · rw [List.getElem?_set_ne (Ne.symm hm)] at e
    obtain ⟨a', h1, h2⟩ := st.at_ m c' e
    refine ⟨a', h1, h2.mo (le_mut ha).mo (upd_ne (fun z => ?_))⟩
    subst z
    obtain ⟨l1, e1⟩ := List.getElem?_eq_some_iff.mp h1
    obtain ⟨l2, e2⟩ := List.getElem?_eq_some_iff.mp h
    exact hm ((List.getElem_inj st.nd).mp (e1.trans e2.symm))
/-- what a list that is read is -/
theorem lv_at (st : StR b w S) {d : D} {v : V} {ds : List D} (h : lv S d = some ds) (r : Rp b w d v) : ∃ a vs, v = .ref a ∧ w.H a = some (.lst vs) ∧ RpL b w ds vs := by
  cases d with
  | lst es =>
    cases (show es = ds from Option.some.inj h)
    obtain ⟨a, vs, e, t, r⟩ := r
    exact ⟨a, vs, e, t.2, r⟩
  | ref n =>
    obtain ⟨a, h1, h2⟩ := r
    obtain ⟨c, hc, h3⟩ := st.cell h1
    have h' : (match S[n]? with | some (.lst ds) => some ds | _ => none) = some ds := h
    rw [hc] at h'
    cases c with
    | lst es =>
      cases (show es = ds from Option.some.inj h')
      obtain ⟨vs, e, r⟩ := h3
      exact ⟨a, vs, h2, e, r⟩
    | ins c fs => cases h'
  | _ => cases h
theorem lvf_at (st : StR b w S) {d : D} {v : V} {ds : List D} (h : lvf S d = some ds) (r : Rp b w d v) : ∃ a vs, v = .ref a ∧ SqL b.K w.H a vs ∧ RpL b w ds vs := by
  cases d with
  | frz es =>
    cases (show es = ds from Option.some.inj h)
    obtain ⟨a, vs, e, t, r⟩ := r
    exact ⟨a, vs, e, t.sq, r⟩
  | lst es =>
    obtain ⟨a, vs, e, t, r⟩ := lv_at st (d := .lst es) h r
    exact ⟨a, vs, e, .inl (.inl t), r⟩
  | ref n =>
    obtain ⟨a, vs, e, t, r⟩ := lv_at st (d := .ref n) h r
    exact ⟨a, vs, e, .inl (.inl t), r⟩
  | _ => cases h
theorem sv_at (st : StR b w S) {d : D} {v : V} {ds : List D} (h : sv S d = some ds) (r : Rp b w d v) : ∃ a vs, v = .ref a ∧ (SqL b.K w.H a vs ∨ SqT b.K w.H a vs) ∧ RpL b w ds vs := by
  cases d with
  | tup es =>
    cases (show es = ds from Option.some.inj h)
    obtain ⟨a, vs, e, t, r⟩ := r
    exact ⟨a, vs, e, .inr t.sq, r⟩
  | frz es =>
    obtain ⟨a, vs, e, t, r⟩ := lvf_at st (d := .frz es) h r
    exact ⟨a, vs, e, .inl t, r⟩
  | lst es =>
    obtain ⟨a, vs, e, t, r⟩ := lvf_at st (d := .lst es) h r
    exact ⟨a, vs, e, .inl t, r⟩
  | ref n =>
    obtain ⟨a, vs, e, t, r⟩ := lvf_at st (d := .ref n) h r
    exact ⟨a, vs, e, .inl t, r⟩
  | _ => cases h
end
/-! ### what is wanted -/
/-- an error as it lies -/
def XnR (b : B) (w : Wd) (x : Xn) (cls : Value) (dd : Option Addr) : Prop :=
  b.mg x.cls = some cls ∧ (∃ a, cls = .ref a) ∧ match x.fld with
    | none => True
    | some (f, d) => ∃ a v, dd = some a ∧ w.H a = some (.xd [(f, v)]) ∧ Rp b w d v
def PostE (b : B) (Wx : WX) (σ : Sl) (w : Wd) (o : Out D) (Q : VK) : Prop := match o with
  | .ok d S => ∀ w' v, Le w w' → StR b w' S → Rp b w' d v → Q v w'.H
  | .exn x S => ∀ w' cls dd, Le w w' → StR b w' S → XnR b w' x cls dd → Wx cls dd σ w'.H
  | .stuck => False
def PostA (b : B) (Wx : WX) (σ : Sl) (w : Wd) (o : Out (List D)) (Q : List V → Hp → Prop) : Prop := match o with
  | .ok d S => ∀ w' v, Le w w' → StR b w' S → RpL b w' d v → Q v w'.H
  | .exn x S => ∀ w' cls dd, Le w w' → StR b w' S → XnR b w' x cls dd → Wx cls dd σ w'.H
  | .stuck => False
def PostT (b : B) (Wx : WX) (σ : Sl) (w : Wd) (o : Out Bool) (Q : Bool → Hp → Prop) : Prop := match o with
  | .ok d S => ∀ w', Le w w' → StR b w' S → Q d w'.H
  | .exn x S => ∀ w' cls dd, Le w w' → StR b w' S → XnR b w' x cls dd → Wx cls dd σ w'.H
  | .stuck => False
def tE (b : B) (Wx : WX) (f : SE) : TE := fun σ H Q => ∃ w ρ S, w.H = H ∧ EnvR b w ρ σ ∧ StR b w S ∧ PostE b Wx σ w (f ρ S) Q
def tA (b : B) (Wx : WX) (f : SA) : TA := fun σ H Q => ∃ w ρ S, w.H = H ∧ EnvR b w ρ σ ∧ StR b w S ∧ PostA b Wx σ w (f ρ S) Q
def tT (b : B) (Wx : WX) (f : ST) : TT := fun σ H Q => ∃ w ρ S, w.H = H ∧ EnvR b w ρ σ ∧ StR b w S ∧ PostT b Wx σ w (f ρ S) Q
abbrev bX (X : Cx) : B := ⟨X.K, X.mg⟩
abbrev FE (X : Cx) (Wx : WX) (e : Expr) (f : SE) : Prop := PE X e (tE (bX X) Wx f)
abbrev FA (X : Cx) (Wx : WX) (e : List Expr) (f : SA) : Prop := PA X e (tA (bX X) Wx f)
abbrev FT (X : Cx) (Wx : WX) (e : Expr) (f : ST) : Prop := PT X e (tT (bX X) Wx f)

section
variable {b : B} {Wx : WX} {σ : Sl} {w w' : Wd} {Q : VK}
theorem PostE.le {o : Out D} (l : Le w w') (h : PostE b Wx σ w o Q) : PostE b Wx σ w' o Q := by
  cases o with
  | ok d S => exact fun w2 v m => h w2 v (l.trans m)
  | exn x S => exact fun w2 c d m => h w2 c d (l.trans m)
  | stuck => exact h
theorem PostA.le {o : Out (List D)} {Q : List V → Hp → Prop} (l : Le w w') (h : PostA b Wx σ w o Q) : PostA b Wx σ w' o Q := by
  cases o with
  | ok d S => exact fun w2 v m => h w2 v (l.trans m)
  | exn x S => exact fun w2 c d m => h w2 c d (l.trans m)
  | stuck => exact h
theorem PostT.le {o : Out Bool} {Q : Bool → Hp → Prop} (l : Le w w') (h : PostT b Wx σ w o Q) : PostT b Wx σ w' o Q := by
  cases o with
  | ok d S => exact fun w2 m => h w2 (l.trans m)
  | exn x S => exact fun w2 c d m => h w2 c d (l.trans m)
  | stuck => exact h
theorem PostE.bind {α : Type} {m : M D} {k : D → M α} {S : Store} {R : VK} {P : Wd → Out α → Prop} (hle : ∀ w1 o, Le w w1 → P w o → P w1 o) (hx : ∀ x S', P w (.exn x S') → PostE b Wx σ w (.exn x S') R) (hs : P w .stuck → False) (h : P w (bnd m k S))
    (hk : ∀ w1 d v S1, Le w w1 → StR b w1 S1 → Rp b w1 d v → P w1 (k d S1) → R v w1.H) : PostE b Wx σ w (m S) R := by
  unfold bnd at h
  cases q : m S with
  | ok d S1 =>
    rw [q] at h
    exact fun w1 v l st r => hk w1 d v S1 l st r (hle w1 _ l h)
  | exn x S1 => rw [q] at h; exact hx x S1 h
  | stuck => rw [q] at h; exact (hs h).elim
theorem PostE.bindE {m : M D} {k : D → M D} {S : Store} {R : VK} (h : PostE b Wx σ w (bnd m k S) Q)
    (hk : ∀ w1 d v S1, Le w w1 → StR b w1 S1 → Rp b w1 d v → PostE b Wx σ w1 (k d S1) Q → R v w1.H) : PostE b Wx σ w (m S) R :=
  PostE.bind (P := fun w o => PostE b Wx σ w o Q) (fun _ _ l h => h.le l) (fun _ _ h => h) (fun h => h) h hk
/-- an expression, then the rest -/
theorem bindE {f : SE} {k : D → M D} {ρ : Env} {S : Store} {R : VK} (hE : EnvR b w ρ σ) (hS : StR b w S) (h : PostE b Wx σ w (bnd (f ρ) k S) Q)
    (hk : ∀ w1 d v S1, Le w w1 → EnvR b w1 ρ σ → StR b w1 S1 → Rp b w1 d v → PostE b Wx σ w1 (k d S1) Q → R v w1.H) : tE b Wx f σ w.H R := by
  refine ⟨w, ρ, S, rfl, hE, hS, ?_⟩
  unfold bnd at h
  cases q : f ρ S with
  | ok d S1 =>
    rw [q] at h
    exact fun w1 v l st r => hk w1 d v S1 l (hE.mono l) st r (PostE.le l h)
  | exn x S1 =>
    rw [q] at h
    exact h
  | stuck => rw [q] at h; exact h
theorem bindET {f : SE} {k : D → M Bool} {ρ : Env} {S : Store} {R : VK} {Q : Bool → Hp → Prop} (hE : EnvR b w ρ σ) (hS : StR b w S) (h : PostT b Wx σ w (bnd (f ρ) k S) Q)
    (hk : ∀ w1 d v S1, Le w w1 → EnvR b w1 ρ σ → StR b w1 S1 → Rp b w1 d v → PostT b Wx σ w1 (k d S1) Q → R v w1.H) : tE b Wx f σ w.H R := by
  refine ⟨w, ρ, S, rfl, hE, hS, ?_⟩
  unfold bnd at h
  cases q : f ρ S with
  | ok d S1 =>
    rw [q] at h
    exact fun w1 v l st r => hk w1 d v S1 l (hE.mono l) st r (PostT.le l h)
  | exn x S1 =>
    rw [q] at h
    exact h
  | stuck => rw [q] at h; exact h
theorem bindEA {f : SE} {k : D → M (List D)} {ρ : Env} {S : Store} {R : VK} {Q : List V → Hp → Prop} (hE : EnvR b w ρ σ) (hS : StR b w S) (h : PostA b Wx σ w (bnd (f ρ) k S) Q)
    (hk : ∀ w1 d v S1, Le w w1 → EnvR b w1 ρ σ → StR b w1 S1 → Rp b w1 d v → PostA b Wx σ w1 (k d S1) Q → R v w1.H) : tE b Wx f σ w.H R := by
  refine ⟨w, ρ, S, rfl, hE, hS, ?_⟩
  unfold bnd at h
  cases q : f ρ S with
  | ok d S1 =>
    rw [q] at h
    exact fun w1 v l st r => hk w1 d v S1 l (hE.mono l) st r (PostA.le l h)
  | exn x S1 =>
    rw [q] at h
    exact h
  | stuck => rw [q] at h; exact h
theorem bindAA {f : SA} {k : List D → M (List D)} {ρ : Env} {S : Store} {R : List V → Hp → Prop} {Q : List V → Hp → Prop} (hE : EnvR b w ρ σ) (hS : StR b w S) (h : PostA b Wx σ w (bnd (f ρ) k S) Q)
    (hk : ∀ w1 d v S1, Le w w1 → EnvR b w1 ρ σ → StR b w1 S1 → RpL b w1 d v → PostA b Wx σ w1 (k d S1) Q → R v w1.H) : tA b Wx f σ w.H R := by
  refine ⟨w, ρ, S, rfl, hE, hS, ?_⟩
  unfold bnd at h
  cases q : f ρ S with
  | ok d S1 =>
    rw [q] at h
    exact fun w1 v l st r => hk w1 d v S1 l (hE.mono l) st r (PostA.le l h)
  | exn x S1 =>
    rw [q] at h
    exact h
  | stuck => rw [q] at h; exact h
theorem bindAE {f : SA} {k : List D → M D} {ρ : Env} {S : Store} {R : List V → Hp → Prop} (hE : EnvR b w ρ σ) (hS : StR b w S) (h : PostE b Wx σ w (bnd (f ρ) k S) Q)
    (hk : ∀ w1 d v S1, Le w w1 → EnvR b w1 ρ σ → StR b w1 S1 → RpL b w1 d v → PostE b Wx σ w1 (k d S1) Q → R v w1.H) : tA b Wx f σ w.H R := by
  refine ⟨w, ρ, S, rfl, hE, hS, ?_⟩
  unfold bnd at h
  cases q : f ρ S with
  | ok d S1 =>
    rw [q] at h
    exact fun w1 v l st r => hk w1 d v S1 l (hE.mono l) st r (PostE.le l h)
  | exn x S1 =>
    rw [q] at h
    exact h
  | stuck => rw [q] at h; exact h
theorem bindTE {f : ST} {k : Bool → M D} {ρ : Env} {S : Store} {R : Bool → Hp → Prop} (hE : EnvR b w ρ σ) (hS : StR b w S) (h : PostE b Wx σ w (bnd (f ρ) k S) Q)
    (hk : ∀ w1 d S1, Le w w1 → EnvR b w1 ρ σ → StR b w1 S1 → PostE b Wx σ w1 (k d S1) Q → R d w1.H) : tT b Wx f σ w.H R := by
  refine ⟨w, ρ, S, rfl, hE, hS, ?_⟩
  unfold bnd at h
  cases q : f ρ S with
  | ok d S1 =>
    rw [q] at h
    exact fun w1 l st => hk w1 d S1 l (hE.mono l) st (PostE.le l h)
  | exn x S1 =>
    rw [q] at h
    exact h
  | stuck => rw [q] at h; exact h
theorem bindTT {f : ST} {k : Bool → M Bool} {ρ : Env} {S : Store} {R : Bool → Hp → Prop} {Q : Bool → Hp → Prop} (hE : EnvR b w ρ σ) (hS : StR b w S) (h : PostT b Wx σ w (bnd (f ρ) k S) Q)
    (hk : ∀ w1 d S1, Le w w1 → EnvR b w1 ρ σ → StR b w1 S1 → PostT b Wx σ w1 (k d S1) Q → R d w1.H) : tT b Wx f σ w.H R := by
  refine ⟨w, ρ, S, rfl, hE, hS, ?_⟩
  unfold bnd at h
  cases q : f ρ S with
  | ok d S1 =>
    rw [q] at h
    exact fun w1 l st => hk w1 d S1 l (hE.mono l) st (PostT.le l h)
  | exn x S1 =>
    rw [q] at h
    exact h
  | stuck => rw [q] at h; exact h
end
theorem PE.imp {X : Cx} {e : Expr} {t t' : TE} (h : PE X e t) (i : ∀ σ H Q, t' σ H Q → t σ H Q) : PE X e t' := ⟨fun pins s σ H Q I hw => h.run pins s σ H Q I (i σ H Q hw)⟩
theorem PT.imp {X : Cx} {e : Expr} {t t' : TT} (h : PT X e t) (i : ∀ σ H Q, t' σ H Q → t σ H Q) : PT X e t' := ⟨fun pins s σ H Q I hw => h.run pins s σ H Q I (i σ H Q hw)⟩
theorem PW.imp {X : Cx} {e : Expr} {t t' : TT} (h : PW X e t) (i : ∀ σ H Q, t' σ H Q → t σ H Q) : PW X e t' := ⟨fun wh pins s σ H Q I hw => h.run wh pins s σ H Q I (i σ H Q hw)⟩
theorem PA.imp {X : Cx} {e : List Expr} {t t' : TA} (h : PA X e t) (i : ∀ σ H Q, t' σ H Q → t σ H Q) : PA X e t' := ⟨fun pos pins s σ H Q I hw => h.run pos pins s σ H Q I (i σ H Q hw)⟩
theorem PS.imp {X : Cx} {e : Stmt} {t t' : TS} (h : PS X e t) (i : ∀ D σ H, t' D σ H → t D σ H) : PS X e t' := ⟨fun pins s σ H D I hw => h.run pins s σ H D I (i D σ H hw)⟩
theorem PSs.imp {X : Cx} {e : List Stmt} {t t' : TS} (h : PSs X e t) (i : ∀ D σ H, t' D σ H → t D σ H) : PSs X e t' := ⟨fun pins s σ H D I hw => h.run pins s σ H D I (i D σ H hw)⟩
end F

set_option linter.all false
set_option maxRecDepth 100000
set_option maxHeartbeats 2000000
set_option autoImplicit false
namespace F
open PySem PySem.Spec PyProof.Rows L2
theorem lineN_eq : lineN = sizeLine := by rw [sizeLine_eq]; rfl
section
variable {b : B} {Wx : WX} {σ : Sl} {w : Wd} {S : Store} {Q : VK}
/-- a plain answer -/
theorem PostE.now {d : D} {v : V} (h : PostE b Wx σ w (.ok d S) Q) (st : StR b w S) (r : Rp b w d v) : Q v w.H := h w v (Le.refl w) st r
theorem PostE.newL {ds : List D} {vs : List V} {p : Addr} (h : PostE b Wx σ w (.ok (.lst ds) S) Q) (st : StR b w S) (r : RpL b w ds vs) (hp : w.H p = none) : Q (.ref p) (upd w.H p (.lst vs)) :=
  h (w.up p (.lst vs)) (.ref p) (le_new hp) (st.new hp) ⟨p, vs, rfl, ⟨st.fresh hp, upd_same⟩, RpL.mono (le_new hp) _ _ r⟩
theorem PostE.newT {ds : List D} {vs : List V} {p : Addr} (h : PostE b Wx σ w (.ok (.tup ds) S) Q) (st : StR b w S) (r : RpL b w ds vs) (hp : w.H p = none) : Q (.ref p) (upd w.H p (.tup vs)) :=
  h (w.up p (.tup vs)) (.ref p) (le_new hp) (st.new hp) ⟨p, vs, rfl, .inl ⟨st.fresh hp, upd_same⟩, RpL.mono (le_new hp) _ _ r⟩
theorem PostE.newC {ds : List D} {vs : List V} {p : Addr} (h : PostE b Wx σ w (.ok (.ref S.length) (S ++ [.lst ds])) Q) (st : StR b w S) (r : RpL b w ds vs) (hp : w.H p = none) : Q (.ref p) (upd w.H p (.lst vs)) := by
  refine h (w.cell p (.lst vs)) (.ref p) (le_cell hp) (st.newCell hp ⟨vs, upd_same, RpL.mono (le_cell hp) _ _ r⟩) ⟨p, ?_, rfl⟩
  show (w.μ ++ [p])[S.length]? = some p
  rw [← st.len, List.getElem?_append_right (Nat.le_refl _)]
  simp
theorem TupAt.rp {a : Addr} {vs : List V} {ds : List D} (t : TupAt b w a vs) (r : RpL b w ds vs) : Rp b w (.tup ds) (.ref a) := ⟨a, vs, rfl, t, r⟩
end
/-! ### names, constants -/
section
variable {X : Cx} {Wx : WX}
theorem fe_var {x : Str} {pos : Pos} (i : Nat) (hN : X.N[i]? = some x := by rfl) (hv : Vis X.env.scope x := by first | exact Or.inl rfl | exact Or.inr (Or.inl rfl) | exact Or.inr (Or.inr rfl)) (hd : (x == ("__debug__" : Str)) = false := by decide)
    (hcd : (x == ("__classdict__" : Str)) = false := by decide) : FE X Wx (.Name x pos) (varD i) :=
  PE.imp (pe_var hN hv hd hcd) fun σ H Q ⟨w, ρ, S, e, hE, hS, h⟩ => by
    subst e
    unfold varD at h
    cases q : ρ[i]? with
    | none => rw [q] at h; exact h.elim
    | some o =>
      rw [q] at h
      cases o with
      | none => exact h.elim
      | some d =>
        obtain ⟨v, h1, h2⟩ := hE.at_ i d q
        exact ⟨v, h1, PostE.now h hS h2⟩
theorem fe_con {e : Expr} {v : V} {d : D} (h : PE X e (tC v)) (r : ∀ w, Rp (bX X) w d v) : FE X Wx e (cD d) :=
  PE.imp h fun σ H Q ⟨w, ρ, S, e, hE, hS, h⟩ => by
    subst e
    exact PostE.now h hS (r w)
theorem fe_int {i j pos} : FE X Wx (.Constant (.int i) j pos) (cD (.int i)) := fe_con pe_int fun _ => rfl
theorem fe_bl {i j pos} : FE X Wx (.Constant (.bool i) j pos) (cD (.bl i)) := fe_con pe_bl fun _ => rfl
theorem fe_non {j pos} : FE X Wx (.Constant .none j pos) (cD .non) := fe_con pe_non fun _ => rfl
theorem fe_str {i j pos} : FE X Wx (.Constant (.str i) j pos) (cD (.str i)) := fe_con pe_str fun _ => rfl
/-- a module's constant: an int, a text -/
theorem fe_gint {x : Str} {pos : Pos} {i : Int} (hm : ∃ t, X.mg x = some (.int i t)) (hg : Gl X x := by rfl) (hd : (x == ("__debug__" : Str)) = false := by decide) : FE X Wx (.Name x pos) (cD (.int i)) := by
  obtain ⟨t, hm⟩ := hm
  exact fe_con (pe_glob hg hm (v := .int i) ⟨t, rfl⟩ hd) fun _ => rfl
theorem fe_gstr {x : Str} {pos : Pos} {i : Str} (hm : ∃ t, X.mg x = some (.str i t)) (hg : Gl X x := by rfl) (hd : (x == ("__debug__" : Str)) = false := by decide) : FE X Wx (.Name x pos) (cD (.str i)) := by
  obtain ⟨t, hm⟩ := hm
  exact fe_con (pe_glob hg hm (v := .str i) ⟨t, rfl⟩ hd) fun _ => rfl
/-- a module's constant: a tuple of ints and texts -/
structure GTup (b : B) (x : Str) (ds : List D) : Prop where
  ex : ∃ a vs, b.mg x = some (.ref a) ∧ KTup b.K a vs ∧ ∀ w, RpL b w ds vs
theorem fe_gtup {x : Str} {pos : Pos} {ds : List D} (hm : GTup (bX X) x ds) (hg : Gl X x := by rfl) (hd : (x == ("__debug__" : Str)) = false := by decide) : FE X Wx (.Name x pos) (cD (.tup ds)) := by
  obtain ⟨a, vs, hm, k, r⟩ := hm.ex
  exact fe_con (pe_glob hg hm (v := .ref a) rfl hd) fun w => ⟨a, vs, rfl, .inr k, r w⟩
end
/-! ### two values -/
def OpS (b : B) (r : R2) (g : D → D → M D) : Prop := ∀ (Wx : WX) (σ : Sl) (w : Wd) (S : Store) (d e : D) (x y : V) (Q : VK), StR b w S → Rp b w d x → Rp b w e y → PostE b Wx σ w (g d e S) Q → r x y w.H Q
section
variable {X : Cx} {Wx : WX} {a c : Expr} {pos : Pos} {r : R2} {g : D → D → M D} {fa fc : SE}
theorem tOp_of (hs : OpS (bX X) r g) : ∀ σ H Q, tE (bX X) Wx (op2 g fa fc) σ H Q → tOp r (tE (bX X) Wx fa) (tE (bX X) Wx fc) σ H Q := fun σ H Q ⟨w, ρ, S, e, hE, hS, h⟩ => by
  subst e
  refine bindE hE hS h fun w1 d v S1 l1 e1 s1 r1 h1 => bindE e1 s1 h1 fun w2 d2 v2 S2 l2 e2 s2 r2 h2 => ?_
  exact hs Wx σ w2 S2 d d2 v v2 Q s2 (Rp.mono l2 d v r1) r2 h2
theorem fe_op {op : Operator} (ho : OpR X (binaryOp op) r) (hs : OpS (bX X) r g) (ha : FE X Wx a fa) (hc : FE X Wx c fc) : FE X Wx (.BinOp a op c pos) (op2 g fa fc) := PE.imp (pe_op ho ha hc) (tOp_of hs)
theorem fe_cmp {op : CmpOp} (ho : OpR X (compareOp op) r) (hs : OpS (bX X) r g) (ha : FE X Wx a fa) (hc : FE X Wx c fc) (hm : behindInMarks op c = false := by first | exact nomark _ (by decide) (by decide) | rfl) : FE X Wx (.Compare a [op] [c] pos) (op2 g fa fc) := PE.imp (pe_cmpR ho ha hc hm) (tOp_of hs)
theorem opS_ints {f : Int → Int → V} {k : Int → Int → D} (hg : ∀ i j, g (.int i) (.int j) = ret (k i j)) (h0 : ∀ d e S, (∀ i j, ¬ (d = .int i ∧ e = .int j)) → g d e S = .stuck) (hr : ∀ w i j, Rp (bX X) w (k i j) (f i j)) : OpS (bX X) (rI0 f) g := by
  intro Wx σ w S d e x y Q st rd re h
  by_cases q : ∃ i j, d = .int i ∧ e = .int j
  · obtain ⟨i, j, rfl, rfl⟩ := q
    rw [hg] at h
    exact ⟨i, j, rd, re, PostE.now h st (hr w i j)⟩
  · rw [h0 d e S (fun i j z => q ⟨i, j, z⟩)] at h
    exact h.elim
end
section
variable {X : Cx} {Wx : WX} {a c : Expr} {pos : Pos} {fa fc : SE}
theorem opS_add : OpS (bX X) (fun x y H Q => (∃ i j, x = V.int i ∧ y = V.int j ∧ Q (.int (i + j)) H) ∨ ((∃ i j, x = .str i ∧ y = .str j ∧ i.length + j.length ≤ sizeLine ∧ Q (.str (i ++ j)) H) ∨ (rCatA X.K x y H Q ∨ rCat x y H Q))) addD := by
  intro Wx σ w S d e x y Q st rd re h
  have lists : PostE (bX X) Wx σ w (addL d e S) Q → rCat x y w.H Q := fun h => by
    unfold addL at h
    cases q1 : lv S d with
    | none => rw [q1] at h; exact h.elim
    | some ds =>
      cases q2 : lv S e with
      | none => rw [q1, q2] at h; exact h.elim
      | some es =>
        rw [q1, q2] at h
        obtain ⟨p, vs, rfl, t1, r1⟩ := lv_at st q1 rd
        obtain ⟨p2, us, rfl, t2, r2⟩ := lv_at st q2 re
        by_cases hl : ds.length + es.length ≤ lineN
        · simp only [hl, if_true] at h
          refine ⟨p, p2, vs, us, rfl, rfl, t1, t2, ?_, fun q hq => PostE.newL h st (RpL.append r1 r2) hq⟩
          rw [← RpL.length r1, ← RpL.length r2, ← lineN_eq]; exact hl
        · simp only [hl, if_false] at h; exact h.elim
  cases d with
  | int i => cases e with
    | int j => exact .inl ⟨i, j, rd, re, PostE.now h st rfl⟩
    | _ => exact h.elim
  | str i => cases e with
    | str j =>
      have h' : PostE (bX X) Wx σ w (if i.length + j.length ≤ lineN then .ok (.str (i ++ j)) S else .stuck) Q := h
      by_cases hl : i.length + j.length ≤ lineN
      · rw [if_pos hl] at h'
        exact .inr (.inl ⟨i, j, rd, re, by rw [← lineN_eq]; exact hl, PostE.now h' st rfl⟩)
      · rw [if_neg hl] at h'; exact h'.elim
    | _ => exact h.elim
  | tup ds => cases e with
    | tup es =>
      have h' : PostE (bX X) Wx σ w (if ds.length + es.length ≤ lineN then .ok (.tup (ds ++ es)) S else .stuck) Q := h
      by_cases hl : ds.length + es.length ≤ lineN
      · rw [if_pos hl] at h'
        obtain ⟨p, vs, rfl, t1, r1⟩ := rd
        obtain ⟨p2, us, rfl, t2, r2⟩ := re
        have l1 := RpL.length r1
        have l2 := RpL.length r2
        refine .inr (.inr (.inl ⟨p, p2, vs, us, rfl, rfl, t1.sq, t2.sq, by rw [← l1, ← l2, ← lineN_eq]; exact hl, fun z => ?_, fun _ z => ?_, fun _ _ q hq => PostE.newT h' st (RpL.append r1 r2) hq⟩))
        · subst z
          have : ds = [] := List.eq_nil_of_length_eq_zero l1
          subst this
          exact PostE.now h' st (t2.rp r2)
        · subst z
          have : es = [] := List.eq_nil_of_length_eq_zero l2
          subst this
          rw [List.append_nil] at h'
          exact PostE.now h' st (t1.rp r1)
      · rw [if_neg hl] at h'; exact h'.elim
    | _ => exact h.elim
  | non => exact .inr (.inr (.inr (lists h)))
  | bl _ => exact .inr (.inr (.inr (lists h)))
  | ty _ => exact .inr (.inr (.inr (lists h)))
  | lst _ => exact .inr (.inr (.inr (lists h)))
  | frz _ => exact .inr (.inr (.inr (lists h)))
  | ins _ _ => exact .inr (.inr (.inr (lists h)))
  | ref _ => exact .inr (.inr (.inr (lists h)))
theorem fe_add (ha : FE X Wx a fa) (hc : FE X Wx c fc) : FE X Wx (.BinOp a .Add c pos) (op2 addD fa fc) := fe_op (OpR.or op_add (OpR.or op_add_str (OpR.or op_catA op_cat))) opS_add ha hc
theorem fe_sub (ha : FE X Wx a fa) (hc : FE X Wx c fc) : FE X Wx (.BinOp a .Sub c pos) (op2 subD fa fc) := by
  refine fe_op op_sub (opS_ints (k := fun i j => .int (i - j)) (fun _ _ => rfl) (fun d e S h => ?_) fun _ _ _ => rfl) ha hc
  cases d <;> cases e <;> first | rfl | exact absurd ⟨rfl, rfl⟩ (h _ _)
theorem opS_mul : OpS (bX X) (fun x y H Q => (∃ i j, x = V.int i ∧ y = V.int j ∧ CMul i j ∧ Q (.int (i * j)) H) ∨ (rRepT X.K x y H Q ∨ rRep x y H Q)) mulD := by
  intro Wx σ w S d e x y Q st rd re h
  cases e with
  | int k =>
    have lists : PostE (bX X) Wx σ w (repL d k S) Q → rRep x y w.H Q := fun h => by
      unfold repL at h
      cases q1 : lv S d with
      | none => rw [q1] at h; exact h.elim
      | some ds =>
        rw [q1] at h
        obtain ⟨p, vs, rfl, t1, r1⟩ := lv_at st q1 rd
        by_cases hl : -(2 ^ 63) ≤ k ∧ k < 2 ^ 63 ∧ ds.length * k.toNat ≤ lineN
        · simp only [hl, and_self, if_true] at h
          refine ⟨p, k, vs, rfl, re, t1, hl.1, hl.2.1, ?_, fun q hq => PostE.newL h st (RpL.rep _ r1) hq⟩
          rw [← RpL.length r1, ← lineN_eq]; exact hl.2.2
        · dsimp only at h
          rw [if_neg hl] at h; exact h.elim
    cases d with
    | int i =>
      have h' : PostE (bX X) Wx σ w (if mulOk i k then .ok (.int (i * k)) S else .stuck) Q := h
      by_cases hl : mulOk i k
      · rw [if_pos hl] at h'
        exact .inl ⟨i, k, rd, re, hl, PostE.now h' st rfl⟩
      · rw [if_neg hl] at h'; exact h'.elim
    | tup ds =>
      have h' : PostE (bX X) Wx σ w (if ds ≠ [] ∧ ds.length ≤ 1000 ∧ 2 ≤ k ∧ k ≤ 1000 then .ok (.tup (List.replicate k.toNat ds).flatten) S else .stuck) Q := h
      by_cases hl : ds ≠ [] ∧ ds.length ≤ 1000 ∧ 2 ≤ k ∧ k ≤ 1000
      · rw [if_pos hl] at h'
        obtain ⟨p, vs, rfl, t1, r1⟩ := rd
        have l1 := RpL.length r1
        refine .inr (.inl ⟨p, k, vs, rfl, re, t1.sq, fun z => hl.1 ?_, hl.2.2.1, hl.2.2.2, by omega, fun q hq => PostE.newT h' st (RpL.rep _ r1) hq⟩)
        subst z
        exact List.eq_nil_of_length_eq_zero l1
      · rw [if_neg hl] at h'; exact h'.elim
    | non => exact .inr (.inr (lists h))
    | bl _ => exact .inr (.inr (lists h))
    | str _ => exact .inr (.inr (lists h))
    | ty _ => exact .inr (.inr (lists h))
    | lst _ => exact .inr (.inr (lists h))
    | frz _ => exact .inr (.inr (lists h))
    | ins _ _ => exact .inr (.inr (lists h))
    | ref _ => exact .inr (.inr (lists h))
  | _ => exact h.elim
theorem fe_mul (ha : FE X Wx a fa) (hc : FE X Wx c fc) : FE X Wx (.BinOp a .Mult c pos) (op2 mulD fa fc) := fe_op (OpR.or op_mul (OpR.or op_repT op_rep)) opS_mul ha hc
theorem opS_cond {f k : Int → Int → Int} {P : Int → Int → Prop} {C : Int → Int → Prop} {g : D → D → M D} [∀ i j, Decidable (P i j)] (hk : ∀ i j, k i j = f i j) (hg : ∀ i j S, g (.int i) (.int j) S = if P i j then .ok (.int (k i j)) S else .stuck) (h0 : ∀ d e S, (∀ i j, ¬ (d = .int i ∧ e = .int j)) → g d e S = .stuck) (hP : ∀ i j, P i j → C i j) :
    OpS (bX X) (rI C fun i j => .int (f i j)) g := by
  intro Wx σ w S d e x y Q st rd re h
  by_cases q : ∃ i j, d = .int i ∧ e = .int j
  · obtain ⟨i, j, rfl, rfl⟩ := q
    rw [hg] at h
    by_cases hp : P i j
    · rw [if_pos hp, hk] at h
      exact ⟨i, j, rd, re, hP i j hp, PostE.now h st rfl⟩
    · rw [if_neg hp] at h; exact h.elim
  · rw [h0 d e S (fun i j z => q ⟨i, j, z⟩)] at h
    exact h.elim
theorem fe_div (ha : FE X Wx a fa) (hc : FE X Wx c fc) : FE X Wx (.BinOp a .FloorDiv c pos) (op2 divD fa fc) := by
  refine fe_op op_fdivW (opS_cond (k := fun i j => i / j) (P := fun i j => 0 < j ∧ j < 18446744073709551616) (fun _ _ => rfl) (fun i j S => rfl) (fun d e S h => ?_) fun i j h => ?_) ha hc
  · cases d <;> cases e <;> first | rfl | exact absurd ⟨rfl, rfl⟩ (h _ _)
  · exact wide_div (i := i) (b := 64) h.1 (by omega) (by decide) (by decide)
theorem fe_mod (ha : FE X Wx a fa) (hc : FE X Wx c fc) : FE X Wx (.BinOp a .Mod c pos) (op2 modD fa fc) := by
  refine fe_op op_mod (opS_cond (k := fun i j => i % j) (P := fun i j => 0 < j) (fun _ _ => rfl) (fun i j S => rfl) (fun d e S h => ?_) fun i j h => h) ha hc
  cases d <;> cases e <;> first | rfl | exact absurd ⟨rfl, rfl⟩ (h _ _)
theorem fe_pow (ha : FE X Wx a fa) (hc : FE X Wx c fc) : FE X Wx (.BinOp a .Pow c pos) (op2 powD fa fc) := by
  refine fe_op op_pow (opS_cond (k := fun i j => i ^ j.toNat) (P := fun i j => 0 ≤ j ∧ j ≤ 1000000 ∧ i.natAbs < 18446744073709551616) (fun _ _ => rfl) (fun i j S => rfl) (fun d e S h => ?_) fun i j h => h) ha hc
  cases d <;> cases e <;> first | rfl | exact absurd ⟨rfl, rfl⟩ (h _ _)
end
end F

set_option linter.all false
set_option maxRecDepth 100000
set_option maxHeartbeats 2000000
set_option autoImplicit false
namespace F
open PySem PySem.Spec PyProof.Rows L2
section
variable {b : B} {w : Wd} {S : Store}
mutual
theorem Rp.dp : ∀ (d : D) (v : V), Rp b w d v → d.toP.canLay0 = true → Dp b.K w.H v d.toP
  | .non, v, h, _ => by cases (show v = .non from h); exact .non
  | .bl k, v, h, _ => by cases (show v = .bl k from h); exact .bl k
  | .int i, v, h, _ => by cases (show v = .int i from h); exact .int i
  | .str s, v, h, _ => by cases (show v = .str s from h); exact .str s
  | .ty n, v, h, c => by simp [D.toP, PyData.canLay0] at c
  | .tup ds, v, h, c => by
    obtain ⟨a, vs, e, t, r⟩ := h
    subst e
    exact .tup t.sq (RpL.dp ds vs r (by simpa [D.toP, PyData.canLay0] using c))
  | .lst ds, v, h, c => by
    obtain ⟨a, vs, e, t, r⟩ := h
    subst e
    exact .lst t.sq (RpL.dp ds vs r (by simpa [D.toP, PyData.canLay0] using c))
  | .frz ds, v, h, c => by
    obtain ⟨a, vs, e, t, r⟩ := h
    subst e
    exact .lst t.sq (RpL.dp ds vs r (by simpa [D.toP, PyData.canLay0] using c))
  | .ins c fs, v, h, q => by simp [D.toP, PyData.canLay0] at q
  | .ref n, v, h, q => by simp [D.toP, PyData.canLay0] at q
theorem RpL.dp : ∀ (ds : List D) (vs : List V), RpL b w ds vs → PyData.canLayAll0 (toPs ds) = true → DpAll b.K w.H vs (toPs ds)
  | [], vs, h, _ => by cases (show vs = [] from h); exact .nil
  | d :: ds, vs, h, c => by
    obtain ⟨v, r, e, h1, h2⟩ := h
    subst e
    have c' : d.toP.canLay0 = true ∧ PyData.canLayAll0 (toPs ds) = true := by simpa [toPs, PyData.canLayAll0] using c
    exact .cons (Rp.dp d v h1 c'.1) (RpL.dp ds r h2 c'.2)
end
theorem vw_dp (st : StR b w S) {d : D} {v : V} (h : Rp b w d v) (c : SeqAt.shaped (vw S d).toP = true) : Dp b.K w.H v (vw S d).toP := by
  have c0 := SeqAt.canLay_of_shaped c
  unfold vw at c0 ⊢
  cases q : lv S d with
  | none => rw [q] at c0; exact Rp.dp d v h c0
  | some ds =>
    rw [q] at c0
    obtain ⟨a, vs, e, t, r⟩ := lv_at st q h
    subst e
    exact .lst (.inl (.inl t)) (RpL.dp ds vs r (by simpa [D.toP, PyData.canLay0] using c0))
theorem scal_of {d e : D} {x y : V} (h : scalD d e = true) (rd : Rp b w d x) (re : Rp b w e y) : scal x y = true ∧ decide (x = y) = scalEq d e := by
  cases d <;> first
    | (exfalso; revert h; simp [scalD, kind]; done)
    | (cases e <;> first
        | (exfalso; revert h; simp [scalD, kind]; done)
        | (have e1 := rd; have e2 := re; simp only [Rp] at e1 e2; subst e1; subst e2; refine ⟨rfl, ?_⟩; simp [scalEq]; done)
        | (have e1 := rd; have e2 := re; simp only [Rp] at e1 e2; subst e1; subst e2; refine ⟨rfl, ?_⟩; simp [scalEq]; first | rfl | (split <;> simp_all)))
end
section
variable {X : Cx} {Wx : WX} {a c : Expr} {pos : Pos} {fa fc : SE}
theorem opS_eq : OpS (bX X) (fun x y H Q => rEq x y H Q ∨ rEqD X.K x y H Q) eqM := by
  intro Wx σ w S d e x y Q st rd re h
  unfold eqM eqV at h
  by_cases hs : scalD d e = true
  · rw [if_pos hs] at h
    obtain ⟨h1, h2⟩ := scal_of (b := bX X) hs rd re
    exact .inl ⟨h1, by rw [h2]; exact PostE.now h st rfl⟩
  · rw [if_neg hs] at h
    by_cases hh : (SeqAt.shaped (vw S d).toP && SeqAt.shaped (vw S e).toP) = true
    · rw [if_pos hh] at h
      obtain ⟨c1, c2⟩ := Bool.and_eq_true_iff.mp hh
      exact .inr ⟨_, _, vw_dp st rd c1, vw_dp st re c2, c1, c2, PostE.now h st rfl⟩
    · rw [if_neg hh] at h; exact h.elim
theorem opS_ne : OpS (bX X) (fun x y H Q => rNe x y H Q ∨ rNeD X.K x y H Q) neM := by
  intro Wx σ w S d e x y Q st rd re h
  unfold neM eqV at h
  by_cases hs : scalD d e = true
  · rw [if_pos hs] at h
    obtain ⟨h1, h2⟩ := scal_of (b := bX X) hs rd re
    exact .inl ⟨h1, by rw [h2]; exact PostE.now h st rfl⟩
  · rw [if_neg hs] at h
    by_cases hh : (SeqAt.shaped (vw S d).toP && SeqAt.shaped (vw S e).toP) = true
    · rw [if_pos hh] at h
      obtain ⟨c1, c2⟩ := Bool.and_eq_true_iff.mp hh
      exact .inr ⟨_, _, vw_dp st rd c1, vw_dp st re c2, c1, c2, PostE.now h st rfl⟩
    · rw [if_neg hh] at h; exact h.elim
/-- the operators of ==, !=, <, <=, >, >=, in, not in, by their rules -/
def CmpS (X : Cx) (op : CmpOp) (g : D → D → M D) : Prop := ∃ r, OpR X (compareOp op) r ∧ OpS (bX X) r g
theorem cm_eq (hu : X.A.units + 64 < cLine) : CmpS X .Eq eqM := ⟨_, OpR.or op_eq (op_eqD hu), opS_eq⟩
theorem cm_ne (hu : X.A.units + 64 < cLine) : CmpS X .NotEq neM := ⟨_, OpR.or op_ne (op_neD hu), opS_ne⟩
theorem cm_lt : CmpS X .Lt ltD := ⟨_, op_lt, opS_ints (k := fun i j => .bl (decide (i < j))) (fun _ _ => rfl) (fun d e S h => by cases d <;> cases e <;> first | rfl | exact absurd ⟨rfl, rfl⟩ (h _ _)) fun _ _ _ => rfl⟩
theorem cm_le : CmpS X .LtE leD := ⟨_, op_le, opS_ints (k := fun i j => .bl (decide (i ≤ j))) (fun _ _ => rfl) (fun d e S h => by cases d <;> cases e <;> first | rfl | exact absurd ⟨rfl, rfl⟩ (h _ _)) fun _ _ _ => rfl⟩
theorem cm_gt : CmpS X .Gt gtD := ⟨_, op_gt, opS_ints (k := fun i j => .bl (decide (j < i))) (fun _ _ => rfl) (fun d e S h => by cases d <;> cases e <;> first | rfl | exact absurd ⟨rfl, rfl⟩ (h _ _)) fun _ _ _ => rfl⟩
theorem cm_ge : CmpS X .GtE geD := ⟨_, op_ge, opS_ints (k := fun i j => .bl (decide (j ≤ i))) (fun _ _ => rfl) (fun d e S h => by cases d <;> cases e <;> first | rfl | exact absurd ⟨rfl, rfl⟩ (h _ _)) fun _ _ _ => rfl⟩
/-! in -/
def rInT (K : PySem.W.Frag) : R2 := fun x y H Q => ∃ d ds, Dp K H x d ∧ Dp K H y (.tuple ds) ∧ SeqAt.shaped d = true ∧ SeqAt.shaped (.list ds) = true ∧ Q (.bl (ds.any fun z => PyData.eqv z d)) H
def rNotInT (K : PySem.W.Frag) : R2 := fun x y H Q => ∃ d ds, Dp K H x d ∧ Dp K H y (.tuple ds) ∧ SeqAt.shaped d = true ∧ SeqAt.shaped (.list ds) = true ∧ Q (.bl (!ds.any fun z => PyData.eqv z d)) H
theorem room_in {ds : List PyData} {d : PyData} {A : Around} (s : SeqAt.shaped d = true) (hu : A.units + 65 < cLine) : A.units + 1 + min (PyData.depthAll ds) d.depth < cLine := by
  have h1 := SeqAt.depth_of_shaped s
  have h2 : min (PyData.depthAll ds) d.depth ≤ d.depth := Nat.min_le_right _ _
  omega
theorem op_inT (hu : X.A.units + 65 < cLine) : OpR X (compareOp .In) (rInT X.K) := by
  intro pins s σ H x y v u Q I rx ry ⟨d, ds, hd, he, sd, se, q⟩
  obtain ⟨as, r1⟩ := Dp.reads I d x v hd rx
  obtain ⟨bs, r2⟩ := Dp.reads I (.tuple ds) y u he ry
  exact SeqAt.in_tuple_reads r2 r1 (SeqAt.canLay_of_shaped se) (SeqAt.canLay_of_shaped sd) (room_in sd hu) ⟨.bl _, H, I, rfl, q⟩
theorem op_notInT (hu : X.A.units + 65 < cLine) : OpR X (compareOp .NotIn) (rNotInT X.K) := by
  intro pins s σ H x y v u Q I rx ry ⟨d, ds, hd, he, sd, se, q⟩
  obtain ⟨as, r1⟩ := Dp.reads I d x v hd rx
  obtain ⟨bs, r2⟩ := Dp.reads I (.tuple ds) y u he ry
  exact SeqAt.notIn_tuple_reads r2 r1 (SeqAt.canLay_of_shaped se) (SeqAt.canLay_of_shaped sd) (room_in sd hu) ⟨.bl _, H, I, rfl, q⟩
theorem inSeq_dp {b : B} {w : Wd} {S : Store} (st : StR b w S) {e : D} {y : V} {ds : List D} (q : sv S e = some ds) (re : Rp b w e y) (c : SeqAt.shaped (.list (toPs ds)) = true) : Dp b.K w.H y (.list (toPs ds)) ∨ Dp b.K w.H y (.tuple (toPs ds)) := by
  obtain ⟨p, vs, rfl, t, r⟩ := sv_at st q re
  have c0 : PyData.canLayAll0 (toPs ds) = true := by simpa [PyData.canLay0] using SeqAt.canLay_of_shaped c
  rcases t with t | t
  · exact .inl (.lst t (RpL.dp ds vs r c0))
  · exact .inr (.tup t (RpL.dp ds vs r c0))
theorem inV_of {b : B} {w : Wd} {S : Store} (st : StR b w S) {d e : D} {x y : V} {k : Bool} (h : inV S d e = some k) (rd : Rp b w d x) (re : Rp b w e y) :
    (∃ (c : Nat) (z : Str), x = .str ⟨#[c]⟩ ∧ y = .str z ∧ k = decide (c ∈ z.cps.toList)) ∨ ∃ dd ds, Dp b.K w.H x dd ∧ (Dp b.K w.H y (.list ds) ∨ Dp b.K w.H y (.tuple ds)) ∧ SeqAt.shaped dd = true ∧ SeqAt.shaped (.list ds) = true ∧ k = ds.any fun z => PyData.eqv z dd := by
  have seq : (match sv S e with
    | some ds => if SeqAt.shaped d.toP && SeqAt.shaped (.list (toPs ds)) then some ((toPs ds).any fun z => PyData.eqv z d.toP) else none
    | none => none) = some k → ∃ dd ds, Dp b.K w.H x dd ∧ (Dp b.K w.H y (.list ds) ∨ Dp b.K w.H y (.tuple ds)) ∧ SeqAt.shaped dd = true ∧ SeqAt.shaped (.list ds) = true ∧ k = ds.any fun z => PyData.eqv z dd := fun h => by
    cases q : sv S e with
    | none => rw [q] at h; cases h
    | some ds =>
      rw [q] at h
      dsimp only at h
      by_cases hh : (SeqAt.shaped d.toP && SeqAt.shaped (.list (toPs ds))) = true
      · rw [if_pos hh] at h
        obtain ⟨c1, c2⟩ := Bool.and_eq_true_iff.mp hh
        exact ⟨_, _, Rp.dp d x rd (SeqAt.canLay_of_shaped c1), inSeq_dp st q re c2, c1, c2, (Option.some.inj h).symm⟩
      · rw [if_neg hh] at h; cases h
  cases e with
  | str z =>
    cases d with
    | str a' =>
      have h' : (match a'.cps.toList with | [c] => some (decide (c ∈ z.cps.toList)) | _ => none) = some k := h
      cases q : a'.cps.toList with
      | nil => rw [q] at h'; cases h'
      | cons c r =>
        cases r with
        | nil =>
          rw [q] at h'
          have e1 : a' = ⟨#[c]⟩ := by
            cases a' with
            | mk arr =>
              have : arr = #[c] := by
                apply Array.ext'
                simpa using q
              rw [this]
          have e2 : x = .str a' := rd
          exact .inl ⟨c, z, by rw [e2, e1], re, (Option.some.inj h').symm⟩
        | cons _ _ => rw [q] at h'; cases h'
    | _ => cases h
  | _ => exact .inr (seq h)
theorem cm_in (hu : X.A.units + 65 < cLine) : CmpS X .In inD := by
  refine ⟨_, OpR.or op_in_sign (OpR.or (op_inD hu) (op_inT hu)), ?_⟩
  intro Wx σ w S d e x y Q st rd re h
  unfold inD at h
  cases q : inV S d e with
  | none => rw [q] at h; exact h.elim
  | some k =>
    rw [q] at h
    rcases inV_of (b := bX X) st q rd re with ⟨c, z, e1, e2, e3⟩ | ⟨dd, ds, e1, e2, e3, e4, e5⟩
    · exact .inl ⟨c, z, e1, e2, by rw [← e3]; exact PostE.now h st rfl⟩
    · rcases e2 with e2 | e2
      · exact .inr (.inl ⟨dd, ds, e1, e2, e3, e4, by rw [← e5]; exact PostE.now h st rfl⟩)
      · exact .inr (.inr ⟨dd, ds, e1, e2, e3, e4, by rw [← e5]; exact PostE.now h st rfl⟩)
theorem cm_notIn (hu : X.A.units + 65 < cLine) : CmpS X .NotIn notInD := by
  refine ⟨_, OpR.or op_notIn_sign (OpR.or (op_notInD hu) (op_notInT hu)), ?_⟩
  intro Wx σ w S d e x y Q st rd re h
  unfold notInD at h
  cases q : inV S d e with
  | none => rw [q] at h; exact h.elim
  | some k =>
    rw [q] at h
    rcases inV_of (b := bX X) st q rd re with ⟨c, z, e1, e2, e3⟩ | ⟨dd, ds, e1, e2, e3, e4, e5⟩
    · exact .inl ⟨c, z, e1, e2, by rw [← e3]; exact PostE.now h st rfl⟩
    · rcases e2 with e2 | e2
      · exact .inr (.inl ⟨dd, ds, e1, e2, e3, e4, by rw [← e5]; exact PostE.now h st rfl⟩)
      · exact .inr (.inr ⟨dd, ds, e1, e2, e3, e4, by rw [← e5]; exact PostE.now h st rfl⟩)
/-! None -/
theorem isN_of {b : B} {w : Wd} {d : D} {x : V} (r : Rp b w d x) : decide (x = .non) = isN d := by
  cases d with
  | non => cases (show x = .non from r); rfl
  | bl k => cases (show x = .bl k from r); rfl
  | int k => cases (show x = .int k from r); rfl
  | str k => cases (show x = .str k from r); rfl
  | ty k => cases (show x = .ty k from r); rfl
  | tup ds => obtain ⟨p, vs, rfl, _⟩ := r; rfl
  | lst ds => obtain ⟨p, vs, rfl, _⟩ := r; rfl
  | frz ds => obtain ⟨p, vs, rfl, _⟩ := r; rfl
  | ins c fs => obtain ⟨p, _, _, _, rfl, _⟩ := r; rfl
  | ref n => obtain ⟨p, _, rfl⟩ := r; rfl
theorem cm_is : CmpS X .Is (noneOp false) := by
  refine ⟨_, op_isN, ?_⟩
  intro Wx σ w S d e x y Q st rd re h
  cases e with
  | non => exact ⟨re, by rw [isN_of rd]; exact PostE.now h st rfl⟩
  | _ => exact h.elim
theorem cm_isNot : CmpS X .IsNot (noneOp true) := by
  refine ⟨_, op_notN, ?_⟩
  intro Wx σ w S d e x y Q st rd re h
  cases e with
  | non => exact ⟨re, by rw [isN_of rd]; exact PostE.now h st rfl⟩
  | _ => exact h.elim
theorem fe_cm {op : CmpOp} {g : D → D → M D} (h : CmpS X op g) (ha : FE X Wx a fa) (hc : FE X Wx c fc) (hm : behindInMarks op c = false := by first | exact nomark _ (by decide) (by decide) | rfl) : FE X Wx (.Compare a [op] [c] pos) (op2 g fa fc) := by
  obtain ⟨r, ho, hs⟩ := h
  exact fe_cmp ho hs ha hc hm
theorem boolT_of {f : SE} : ∀ σ H Q, tT (bX X) Wx (boolT f) σ H Q → tE (bX X) Wx f σ H (fun x H' => ∃ k, x = .bl k ∧ Q k H') := fun σ H Q ⟨w, ρ, S, e, hE, hS, h⟩ => by
  subst e
  refine bindET hE hS h fun w1 d v S1 l1 e1 s1 r1 h1 => ?_
  cases d with
  | bl k => exact ⟨k, r1, h1 w1 (Le.refl _) s1⟩
  | _ => exact h1.elim
theorem ft_cm {op : CmpOp} {g : D → D → M D} (h : CmpS X op g) (ha : FE X Wx a fa) (hc : FE X Wx c fc) (hm : behindInMarks op c = false := by first | exact nomark _ (by decide) (by decide) | rfl) : FT X Wx (.Compare a [op] [c] pos) (boolT (op2 g fa fc)) := by
  obtain ⟨r, ho, hs⟩ := h
  exact PT.imp (pt_cmpR ho ha hc hm) fun σ H Q h => tOp_of hs σ H _ (boolT_of σ H Q h)
theorem chain_of {r r' : R2} {fb : SE} {g g' : D → D → M D} (hs : OpS (bX X) r g) (hs' : OpS (bX X) r' g') : ∀ σ H Q, tE (bX X) Wx (chain g g' fa fb fc) σ H Q → tChain r r' (tE (bX X) Wx fa) (tE (bX X) Wx fb) (tE (bX X) Wx fc) σ H Q := fun σ H Q ⟨w, ρ, S, e, hE, hS, h⟩ => by
  subst e
  refine bindE hE hS h fun w1 d v S1 l1 e1 s1 r1 h1 => bindE e1 s1 h1 fun w2 d2 v2 S2 l2 en2 s2 r2 h2 => ?_
  refine hs Wx σ w2 S2 d d2 v v2 _ s2 (Rp.mono l2 d v r1) r2 (PostE.bindE h2 fun w3 d3 v3 S3 l3 s3 r3 h3 => ?_)
  cases d3 with
  | bl k =>
    refine ⟨k, r3, ?_⟩
    cases k with
    | true =>
      rw [if_pos rfl]
      refine bindE (en2.mono l3) s3 h3 fun w4 d4 v4 S4 l4 e4 s4 r4 h4 => ?_
      exact hs' Wx σ w4 S4 d2 d4 v2 v4 Q s4 (Rp.mono l4 _ _ (Rp.mono l3 _ _ r2)) r4 h4
    | false =>
      rw [if_neg Bool.false_ne_true]
      exact PostE.now h3 s3 rfl
  | _ => exact h3.elim
theorem fe_chain {e2 : Expr} {fb : SE} {op op' : CmpOp} {g g' : D → D → M D} (h : CmpS X op g) (h' : CmpS X op' g') (ha : FE X Wx a fa) (hb : FE X Wx e2 fb) (hc : FE X Wx c fc)
    (hm : lastMarks [op, op'] [e2, c] = false := by with_unfolding_all rfl) : FE X Wx (.Compare a [op, op'] [e2, c] pos) (chain g g' fa fb fc) := by
  obtain ⟨r, ho, hs⟩ := h
  obtain ⟨r', ho', hs'⟩ := h'
  exact PE.imp (pe_chain ho ho' ha hb hc hm) (chain_of hs hs')
theorem ft_chain {e2 : Expr} {fb : SE} {op op' : CmpOp} {g g' : D → D → M D} (h : CmpS X op g) (h' : CmpS X op' g') (ha : FE X Wx a fa) (hb : FE X Wx e2 fb) (hc : FE X Wx c fc)
    (hm : lastMarks [op, op'] [e2, c] = false := by with_unfolding_all rfl) : FT X Wx (.Compare a [op, op'] [e2, c] pos) (boolT (chain g g' fa fb fc)) := by
  obtain ⟨r, ho, hs⟩ := h
  obtain ⟨r', ho', hs'⟩ := h'
  exact PT.imp (pt_chain ho ho' ha hb hc hm) fun σ H Q h => chain_of hs hs' σ H _ (boolT_of σ H Q h)
end
/-! ### tests -/
section
variable {X : Cx} {Wx : WX} {a c : Expr} {pos : Pos} {fa fc : SE} {ta tc : ST} {rest : List Expr}
theorem truV_of {b : B} {w : Wd} {S : Store} {d : D} {x : V} (st : StR b w S) (r : Rp b w d x) {Wx : WX} {σ : Sl} {Q : Bool → Hp → Prop} (h : PostT b Wx σ w (truD d S) Q) : ∃ k, TruV b.K x w.H k ∧ Q k w.H := by
  have seq : PostT b Wx σ w (match sv S d with | some ds => Out.ok (!ds.isEmpty) S | none => Out.stuck) Q → ∃ k, TruV b.K x w.H k ∧ Q k w.H := fun h => by
    cases q : sv S d with
    | none => rw [q] at h; exact h.elim
    | some ds =>
      rw [q] at h
      obtain ⟨p, vs, rfl, t, r⟩ := sv_at st q r
      have e : (!ds.isEmpty) = !vs.isEmpty := by
        have := RpL.length r
        cases ds <;> cases vs <;> first | rfl | simp at this
      refine ⟨!ds.isEmpty, ?_, h w (Le.refl _) st⟩
      rcases t with t | t
      · exact .inl ⟨vs, t, e⟩
      · exact .inr (.inl ⟨vs, t, e⟩)
  cases d with
  | non => cases (show x = .non from r); exact ⟨false, rfl, h w (Le.refl _) st⟩
  | bl k => cases (show x = .bl k from r); exact ⟨k, rfl, h w (Le.refl _) st⟩
  | int k => cases (show x = .int k from r); exact ⟨_, rfl, h w (Le.refl _) st⟩
  | str z =>
    cases (show x = .str z from r)
    have h' : PostT b Wx σ w (if z.length ≤ lineN then .ok ((z.length : Int) != 0) S else .stuck) Q := h
    by_cases hl : z.length ≤ lineN
    · rw [if_pos hl] at h'
      exact ⟨_, ⟨by rw [← lineN_eq]; exact hl, rfl⟩, h' w (Le.refl _) st⟩
    · rw [if_neg hl] at h'; exact h'.elim
  | ty _ => exact seq h
  | tup _ => exact seq h
  | lst _ => exact seq h
  | frz _ => exact seq h
  | ins _ _ => exact seq h
  | ref _ => exact seq h
theorem ft_tru (ha : FE X Wx a fa) (he : ∀ whole, isTrue a X.env whole = (do let v ← whole; standAt a.pos; holding [v] (truthy v)) := by intro _; rfl) : FT X Wx a (truT fa) :=
  PT.imp (pt_truth ha he) fun σ H Q ⟨w, ρ, S, e, hE, hS, h⟩ => by
    subst e
    exact bindET hE hS h fun w1 d v S1 l1 e1 s1 r1 h1 => truV_of s1 r1 h1
theorem ft_not (ha : FT X Wx a ta) : FT X Wx (.UnaryOp .Not a pos) (notT ta) :=
  PT.imp (pt_not ha) fun σ H Q ⟨w, ρ, S, e, hE, hS, h⟩ => by
    subst e
    exact bindTT hE hS h fun w1 d S1 l1 e1 s1 h1 => h1 w1 (Le.refl _) s1
abbrev FW (X : Cx) (Wx : WX) (e : Expr) (f : ST) : Prop := PW X e (tT (bX X) Wx f)
theorem fw_and1 (ha : FT X Wx a ta) : FW X Wx (.BoolOp .And [a] pos) ta := pw_and1 ha
theorem fw_or1 (ha : FT X Wx a ta) : FW X Wx (.BoolOp .Or [a] pos) ta := pw_or1 ha
theorem fw_and (ha : FT X Wx a ta) (hb : FW X Wx (.BoolOp .And (c :: rest) pos) tc) : FW X Wx (.BoolOp .And (a :: c :: rest) pos) (andT ta tc) :=
  PW.imp (pw_and ha hb) fun σ H Q ⟨w, ρ, S, e, hE, hS, h⟩ => by
    subst e
    refine bindTT hE hS h fun w1 d S1 l1 e1 s1 h1 => ?_
    cases d with
    | true => rw [if_pos rfl] at h1 ⊢; exact ⟨w1, ρ, S1, rfl, e1, s1, h1⟩
    | false => rw [if_neg Bool.false_ne_true] at h1 ⊢; exact h1 w1 (Le.refl _) s1
theorem fw_or (ha : FT X Wx a ta) (hb : FW X Wx (.BoolOp .Or (c :: rest) pos) tc) : FW X Wx (.BoolOp .Or (a :: c :: rest) pos) (orT ta tc) :=
  PW.imp (pw_or ha hb) fun σ H Q ⟨w, ρ, S, e, hE, hS, h⟩ => by
    subst e
    refine bindTT hE hS h fun w1 d S1 l1 e1 s1 h1 => ?_
    cases d with
    | true => rw [if_pos rfl] at h1 ⊢; exact h1 w1 (Le.refl _) s1
    | false => rw [if_neg Bool.false_ne_true] at h1 ⊢; exact ⟨w1, ρ, S1, rfl, e1, s1, h1⟩
theorem ft_w {f : ST} (h : FW X Wx a f) : FT X Wx a f := PW.pt h
/-! .. as values -/
theorem fe_one {op} (ha : FE X Wx a fa) : FE X Wx (.BoolOp op [a] pos) fa := pe_one ha
theorem fe_and (ha : FE X Wx a fa) (hb : FE X Wx (.BoolOp .And (c :: rest) pos) fc) : FE X Wx (.BoolOp .And (a :: c :: rest) pos) (andE fa fc) :=
  PE.imp (pe_and ha hb) fun σ H Q ⟨w, ρ, S, e, hE, hS, h⟩ => by
    subst e
    refine bindE hE hS h fun w1 d v S1 l1 e1 s1 r1 h1 => ?_
    cases d with
    | bl k =>
      refine ⟨k, r1, ?_⟩
      dsimp only at h1
      cases k with
      | true => rw [if_pos rfl] at h1 ⊢; exact ⟨w1, ρ, S1, rfl, e1, s1, h1⟩
      | false => rw [if_neg Bool.false_ne_true] at h1 ⊢; exact PostE.now h1 s1 rfl
    | _ => exact h1.elim
theorem fe_or (ha : FE X Wx a fa) (hb : FE X Wx (.BoolOp .Or (c :: rest) pos) fc) : FE X Wx (.BoolOp .Or (a :: c :: rest) pos) (orE fa fc) :=
  PE.imp (pe_or ha hb) fun σ H Q ⟨w, ρ, S, e, hE, hS, h⟩ => by
    subst e
    refine bindE hE hS h fun w1 d v S1 l1 e1 s1 r1 h1 => ?_
    cases d with
    | bl k =>
      refine ⟨k, r1, ?_⟩
      dsimp only at h1
      cases k with
      | true => rw [if_pos rfl] at h1 ⊢; exact PostE.now h1 s1 rfl
      | false => rw [if_neg Bool.false_ne_true] at h1 ⊢; exact ⟨w1, ρ, S1, rfl, e1, s1, h1⟩
    | _ => exact h1.elim
theorem fe_not (ha : FE X Wx a fa) : FE X Wx (.UnaryOp .Not a pos) (op1 notD fa) :=
  PE.imp (pe_not ha) fun σ H Q ⟨w, ρ, S, e, hE, hS, h⟩ => by
    subst e
    refine bindE hE hS h fun w1 d v S1 l1 e1 s1 r1 h1 => ?_
    cases d with
    | bl k => exact ⟨k, r1, PostE.now h1 s1 rfl⟩
    | _ => exact h1.elim
theorem fe_neg (ha : FE X Wx a fa) : FE X Wx (.UnaryOp .USub a pos) (op1 negD fa) :=
  PE.imp (pe_un un_neg ha) fun σ H Q ⟨w, ρ, S, e, hE, hS, h⟩ => by
    subst e
    refine bindE hE hS h fun w1 d v S1 l1 e1 s1 r1 h1 => ?_
    cases d with
    | int k => exact ⟨k, r1, PostE.now h1 s1 rfl⟩
    | _ => exact h1.elim
theorem fe_if {t : Expr} {ft : ST} (ht : FT X Wx t ft) (ha : FE X Wx a fa) (hc : FE X Wx c fc) : FE X Wx (.IfExp t a c pos) (ifE ft fa fc) :=
  PE.imp (pe_ifExp ht ha hc) fun σ H Q ⟨w, ρ, S, e, hE, hS, h⟩ => by
    subst e
    refine bindTE hE hS h fun w1 d S1 l1 e1 s1 h1 => ?_
    cases d with
    | true => rw [if_pos rfl] at h1 ⊢; exact ⟨w1, ρ, S1, rfl, e1, s1, h1⟩
    | false => rw [if_neg Bool.false_ne_true] at h1 ⊢; exact ⟨w1, ρ, S1, rfl, e1, s1, h1⟩
end
end F

set_option linter.all false
set_option maxRecDepth 100000
set_option maxHeartbeats 2000000
set_option autoImplicit false
namespace F
open PySem PySem.Spec PyProof.Rows L2
section
variable {X : Cx} {Wx : WX} {a c : Expr} {pos : Pos} {fa fc : SE} {es : List Expr} {fs : SA}
/-! ### arguments, displays -/
theorem PostA.now {b : B} {Wx : WX} {σ : Sl} {w : Wd} {S : Store} {Q : List V → Hp → Prop} {d : List D} {v : List V} (h : PostA b Wx σ w (.ok d S) Q) (st : StR b w S) (r : RpL b w d v) : Q v w.H := h w v (Le.refl w) st r
theorem fa_nil : FA X Wx [] nilA := PA.imp pa_nil fun σ H Q ⟨w, ρ, S, e, hE, hS, h⟩ => by
  subst e
  exact PostA.now h hS rfl
theorem fa_cons (ha : FE X Wx a fa) (hr : FA X Wx es fs) (hs : starEach (a :: es) X.env = (false, eval a X.env) :: starEach es X.env := by rfl) : FA X Wx (a :: es) (consA fa fs) :=
  PA.imp (pa_cons ha hr hs) fun σ H Q ⟨w, ρ, S, e, hE, hS, h⟩ => by
    subst e
    refine bindEA hE hS h fun w1 d v S1 l1 e1 s1 r1 h1 => bindAA e1 s1 h1 fun w2 d2 v2 S2 l2 e2 s2 r2 h2 => ?_
    exact PostA.now h2 s2 ⟨v, v2, rfl, Rp.mono l2 _ _ r1, r2⟩
theorem fa_star {p : Pos} (ha : FE X Wx a fa) (hr : FA X Wx es fs) (hs : starEach (.Starred a p :: es) X.env = (true, eval a X.env) :: starEach es X.env := by rfl) : FA X Wx (.Starred a p :: es) (starA fa fs) :=
  PA.imp (StX.pa_star ha hr hs) fun σ H Q ⟨w, ρ, S, e, hE, hS, h⟩ => by
    subst e
    refine bindEA hE hS h fun w1 d v S1 l1 e1 s1 r1 h1 => ?_
    unfold bnd at h1
    dsimp only at h1
    cases q : sv S1 d with
    | none => rw [q] at h1; exact h1.elim
    | some ds =>
      rw [q] at h1
      obtain ⟨p, vs, rfl, t, r⟩ := sv_at s1 q r1
      refine ⟨p, vs, rfl, t.symm, ?_⟩
      refine bindAA e1 s1 h1 fun w2 d2 v2 S2 l2 e2 s2 r2 h2 => ?_
      exact PostA.now h2 s2 (RpL.append (RpL.mono l2 _ _ r) r2)
theorem fe_lst (h : FA X Wx es fs) : FE X Wx (.List es pos) (lstE fs) := PE.imp (pe_lst h) fun σ H Q ⟨w, ρ, S, e, hE, hS, h⟩ => by
  subst e
  refine bindAE hE hS h fun w1 d v S1 l1 e1 s1 r1 h1 => ?_
  unfold mkL at h1
  by_cases hl : d.length ≤ lineN
  · rw [if_pos hl] at h1
    exact ⟨by rw [← RpL.length r1, ← lineN_eq]; exact hl, fun p hp => PostE.newL h1 s1 r1 hp⟩
  · rw [if_neg hl] at h1; exact h1.elim
theorem fe_cel (h : FA X Wx es fs) : FE X Wx (.List es pos) (celE fs) := PE.imp (pe_lst h) fun σ H Q ⟨w, ρ, S, e, hE, hS, h⟩ => by
  subst e
  refine bindAE hE hS h fun w1 d v S1 l1 e1 s1 r1 h1 => ?_
  unfold mkC at h1
  by_cases hl : d.length ≤ lineN
  · rw [if_pos hl] at h1
    exact ⟨by rw [← RpL.length r1, ← lineN_eq]; exact hl, fun p hp => PostE.newC h1 s1 r1 hp⟩
  · rw [if_neg hl] at h1; exact h1.elim
theorem fe_tup {k : Nat} (h : FA X Wx es fs) : FE X Wx (.Tuple es k pos) (tupE fs) := PE.imp (pe_tup h) fun σ H Q ⟨w, ρ, S, e, hE, hS, h⟩ => by
  subst e
  refine bindAE hE hS h fun w1 d v S1 l1 e1 s1 r1 h1 => ?_
  unfold mkT at h1
  by_cases hl : d.length ≤ lineN
  · rw [if_pos hl] at h1
    exact ⟨by rw [← RpL.length r1, ← lineN_eq]; exact hl, fun p hp => PostE.newT h1 s1 r1 hp⟩
  · rw [if_neg hl] at h1; exact h1.elim
/-! ### subscripts, slices -/
theorem pos_eq (n : Nat) (i : Int) : pos? n i = ixN n i := by
  unfold pos? ixN
  by_cases h0 : 0 ≤ i
  · rw [if_neg (by omega), if_pos h0]
  · rw [if_pos (by omega), if_neg h0]
    by_cases h1 : -(n : Int) ≤ i
    · rw [if_pos (by omega), if_pos h1]
    · rw [if_neg (by omega), if_neg h1]
theorem at_eq {α : Type} (xs : List α) (i : Int) : at? xs i = atI xs i := by
  unfold at? atI
  rw [pos_eq]
  cases ixN xs.length i <;> rfl
theorem at_get {b : B} {w : Wd} {ds : List D} {vs : List V} {i : Int} {d : D} (r : RpL b w ds vs) (h : at? ds i = some d) : ∃ v, atI vs i = some v ∧ Rp b w d v := by
  rw [at_eq] at h
  unfold atI at h ⊢
  rw [← RpL.length r]
  cases q : ixN ds.length i with
  | none => rw [q] at h; cases h
  | some j =>
    rw [q] at h
    exact RpL.get r h
theorem opS_ix : OpS (bX X) (rIx X.K) ixD := by
  intro Wx σ w S d e x y Q st rd re h
  cases e with
  | int i =>
    have seq : PostE (bX X) Wx σ w (ixS d i S) Q → (rIxL X.K x y w.H Q ∨ rIxT X.K x y w.H Q) := fun h => by
      unfold ixS at h
      cases q : sv S d with
      | none => rw [q] at h; exact h.elim
      | some ds =>
        rw [q] at h
        dsimp only at h
        cases q2 : at? ds i with
        | none => rw [q2] at h; exact h.elim
        | some z =>
          rw [q2] at h
          obtain ⟨p, vs, rfl, t, r⟩ := sv_at st q rd
          obtain ⟨v, h1, h2⟩ := at_get r q2
          rcases t with t | t
          · exact .inl ⟨p, vs, i, v, rfl, re, t, h1, PostE.now h st h2⟩
          · exact .inr ⟨p, vs, i, v, rfl, re, t, h1, PostE.now h st h2⟩
    have seq' : PostE (bX X) Wx σ w (ixS d i S) Q → rIx X.K x y w.H Q := fun h => (seq h).elim (fun z => .inl z) fun z => .inr (.inl z)
    cases d with
    | str z =>
      have h' : PostE (bX X) Wx σ w (if z.length ≤ lineN then (match at? z.cps.toList i with | some c => .ok (.str ⟨#[c]⟩) S | none => .stuck) else .stuck) Q := h
      by_cases hl : z.length ≤ lineN
      · rw [if_pos hl] at h'
        cases q : at? z.cps.toList i with
        | none => rw [q] at h'; exact h'.elim
        | some c =>
          rw [q] at h'
          rw [at_eq] at q
          exact .inr (.inr ⟨z, i, c, rd, re, by rw [← lineN_eq]; exact hl, q, PostE.now h' st rfl⟩)
      · rw [if_neg hl] at h'; exact h'.elim
    | _ => exact seq' h
  | _ => exact h.elim
theorem fe_ix (ha : FE X Wx a fa) (hc : FE X Wx c fc) (hs : PlainIx c := by exact fun _ _ => rfl) : FE X Wx (.Subscript a c pos) (op2 ixD fa fc) := PE.imp (pe_ix ix_seq ha hc hs) (tOp_of opS_ix)
theorem cut_eq (n d : Nat) (o : Option Int) (h : d ≤ n) : cutN n d o = HT.sIx n d o := by
  cases o with
  | none => rfl
  | some v =>
    show (if v < 0 then ((n : Int) + v).toNat else min n v.toNat) = if v < 0 then (v + (n : Int)).toNat else min v.toNat n
    rw [Int.add_comm, Nat.min_comm]
theorem cutD_eq (xs : List V) (lo hi : Option Int) : cutD xs lo hi = cutV xs lo hi := by
  unfold cutD cutV
  rw [cut_eq _ _ _ (Nat.zero_le _), cut_eq _ _ _ (Nat.le_refl _)]
theorem RpL.cut {b : B} {w : Wd} {ds : List D} {vs : List V} (lo hi : Option Int) (r : RpL b w ds vs) : RpL b w (cutD ds lo hi) (cutV vs lo hi) := by
  rw [← cutD_eq]
  unfold cutD
  rw [RpL.length r]
  exact RpL.take _ (RpL.drop _ r)
def SlS (b : B) (r : V → Option Int → Option Int → Hp → VK → Prop) : Prop := ∀ (Wx : WX) (σ : Sl) (w : Wd) (S : Store) (d : D) (x : V) (lo hi : Option Int) (Q : VK), StR b w S → Rp b w d x → PostE b Wx σ w (slD d lo hi S) Q → r x lo hi w.H Q
theorem slS : SlS (bX X) (fun x lo hi H Q => rSlA X.K x lo hi H Q ∨ rSlL X.K x lo hi H Q) := by
  intro Wx σ w S d x lo hi Q st rd h
  have lists : PostE (bX X) Wx σ w (slL d lo hi S) Q → rSlL X.K x lo hi w.H Q := fun h => by
    unfold slL at h
    cases q : lvf S d with
    | none => rw [q] at h; exact h.elim
    | some ds =>
      rw [q] at h
      obtain ⟨p, vs, rfl, t, r⟩ := lvf_at st q rd
      exact ⟨p, vs, rfl, t, fun u hu => PostE.newL h st (RpL.cut lo hi r) hu⟩
  cases d with
  | tup ds =>
    obtain ⟨p, vs, rfl, t, r⟩ := rd
    refine .inl ⟨p, vs, rfl, t.sq, fun hw => ?_, fun _ u hu => PostE.newT h st (RpL.cut lo hi r) hu⟩
    have e : cutV vs lo hi = vs := by
      unfold cutV
      rw [hw.1, hw.2]
      simp
    exact PostE.now h st (t.rp (by have := RpL.cut lo hi r; rw [e] at this; exact this))
  | _ => exact .inr (lists h)
/-- a slice's end -/
inductive FO (X : Cx) (Wx : WX) : Option Expr → (Env → M (Option Int)) → Prop
  | none : FO X Wx none fun _ => ret none
  | some {e : Expr} {f : SE} (h : FE X Wx e f) : FO X Wx (some e) fun ρ => bnd (f ρ) asInt
theorem fo_po {o : Option Expr} {f : Env → M (Option Int)} (h : FO X Wx o f) : ∃ t, PO X o t ∧ ∀ (σ : Sl) (w : Wd) (ρ : Env) (S : Store) (k : Option Int → M D) (Q : VK) (R : Option Int → Hp → Prop), EnvR (bX X) w ρ σ → StR (bX X) w S → PostE (bX X) Wx σ w (bnd (f ρ) k S) Q →
    (∀ w1 lo S1, Le w w1 → EnvR (bX X) w1 ρ σ → StR (bX X) w1 S1 → PostE (bX X) Wx σ w1 (k lo S1) Q → R lo w1.H) → t σ w.H R := by
  cases h with
  | none => exact ⟨_, po_none, fun σ w ρ S k Q R hE hS h hk => hk w Option.none S (Le.refl _) hE hS h⟩
  | @some e0 f he =>
    refine ⟨_, po_some he, fun σ w ρ S k Q R hE hS h hk => ?_⟩
    refine ⟨w, ρ, S, rfl, hE, hS, ?_⟩
    refine PostE.bind (P := fun w o => PostE (bX X) Wx σ w o Q) (fun _ _ l h => h.le l) (fun _ _ h => h) (fun h => h) (k := fun d => bnd (asInt d) k) (by
      unfold bnd at h ⊢
      dsimp only at h ⊢
      cases q : f ρ S with
      | ok d S1 => rw [q] at h; exact h
      | exn x S1 => rw [q] at h; exact h
      | stuck => rw [q] at h; exact h) fun w1 d v S1 l1 s1 r1 h1 => ?_
    cases d with
    | int i => exact ⟨i, r1, hk w1 (Option.some i) S1 l1 (hE.mono l1) s1 h1⟩
    | _ => exact h1.elim
theorem fe_slice {lo hi : Option Expr} {fl fh : Env → M (Option Int)} {p2 : Pos} (ha : FE X Wx a fa) (hl : FO X Wx lo fl) (hh : FO X Wx hi fh) : FE X Wx (.Subscript a (.Slice lo hi none p2) pos) (slE fa fl fh) := by
  obtain ⟨tl, pl, kl⟩ := fo_po hl
  obtain ⟨th, ph, kh⟩ := fo_po hh
  refine PE.imp (pe_slice (SlR.or sl_tupA sl_list) ha pl ph) fun σ H Q ⟨w, ρ, S, e, hE, hS, h⟩ => ?_
  subst e
  refine bindE hE hS h fun w1 d v S1 l1 e1 s1 r1 h1 => ?_
  refine kl σ w1 ρ S1 _ Q _ e1 s1 h1 fun w2 lo S2 l2 e2 s2 h2 => ?_
  refine kh σ w2 ρ S2 _ Q _ e2 s2 h2 fun w3 hi S3 l3 e3 s3 h3 => ?_
  exact slS Wx σ w3 S3 d v lo hi Q s3 (Rp.mono l3 _ _ (Rp.mono l2 _ _ r1)) h3
/-! ### built-in functions -/
/-- a built-in's rule by data -/
def CaS (b : B) (r : List V → Hp → VK → Prop) (g : List D → M D) : Prop := ∀ (Wx : WX) (σ : Sl) (w : Wd) (S : Store) (ds : List D) (vs : List V) (Q : VK), StR b w S → RpL b w ds vs → PostE b Wx σ w (g ds S) Q → r vs w.H Q
theorem fe_callB {x : Str} {p : Pos} {id : String} {e : Expr} {r : List V → Hp → VK → Prop} {g : List D → M D} (hc : CallR X (.builtin id) r) (hs : CaS (bX X) r g) (hm : X.mg x = none) (ha : FA X Wx (e :: es) fs) (hv : bootBuiltins x = some (.builtin id) := by decide +kernel) (hg : Gl X x := by rfl) (hn : x ≠ "__name__" := by decide) (hdb : (x == ("__debug__" : Str)) = false := by decide)
    (he : starEach (e :: es) X.env = (false, eval e X.env) :: starEach es X.env := by rfl) (hpl : (backTo pos (starEach es X.env)).any (·.1) = false := by rfl) : FE X Wx (.Call (.Name x p) (e :: es) [] pos) (appA fs g) :=
  PE.imp (pe_callB hc hg hm hv ha hn hdb he hpl) fun σ H Q ⟨w, ρ, S, e, hE, hS, h⟩ => by
    subst e
    exact bindAE hE hS h fun w1 d v S1 l1 e1 s1 r1 h1 => hs Wx σ w1 S1 d v Q s1 r1 h1
theorem fe_callT {x : Str} {p : Pos} {T : String} {e : Expr} {r : List V → Hp → VK → Prop} {g : List D → M D} (hc : CallR X (.type T) r) (hs : CaS (bX X) r g) (hm : X.mg x = none) (ha : FA X Wx (e :: es) fs) (hv : bootBuiltins x = some (.type T) := by decide +kernel) (hg : Gl X x := by rfl) (hn : x ≠ "__name__" := by decide) (hdb : (x == ("__debug__" : Str)) = false := by decide)
    (he : starEach (e :: es) X.env = (false, eval e X.env) :: starEach es X.env := by rfl) (hpl : (backTo pos (starEach es X.env)).any (·.1) = false := by rfl) : FE X Wx (.Call (.Name x p) (e :: es) [] pos) (appA fs g) :=
  PE.imp (pe_callTy hc hg hm hv ha hn hdb he hpl) fun σ H Q ⟨w, ρ, S, e, hE, hS, h⟩ => by
    subst e
    exact bindAE hE hS h fun w1 d v S1 l1 e1 s1 r1 h1 => hs Wx σ w1 S1 d v Q s1 r1 h1
theorem rpl1 {b : B} {w : Wd} {d : D} {vs : List V} (h : RpL b w [d] vs) : ∃ v, vs = [v] ∧ Rp b w d v := by
  obtain ⟨v, r, e, h1, h2⟩ := h
  cases (show r = [] from h2)
  exact ⟨v, e, h1⟩
theorem rpl2 {b : B} {w : Wd} {d e : D} {vs : List V} (h : RpL b w [d, e] vs) : ∃ v u, vs = [v, u] ∧ Rp b w d v ∧ Rp b w e u := by
  obtain ⟨v, r, e, h1, h2⟩ := h
  obtain ⟨u, rfl, h3⟩ := rpl1 h2
  exact ⟨v, u, e, h1, h3⟩
theorem caS1 {b : B} {r : List V → Hp → VK → Prop} {f : D → M D} (h : ∀ (Wx : WX) (σ : Sl) (w : Wd) (S : Store) (d : D) (v : V) (Q : VK), StR b w S → Rp b w d v → PostE b Wx σ w (f d S) Q → r [v] w.H Q) : CaS b r (g1 f) := by
  intro Wx σ w S ds vs Q st r h'
  match ds, r, h' with
  | [d], r, h' =>
    obtain ⟨v, rfl, r1⟩ := rpl1 r
    exact h Wx σ w S d v Q st r1 h'
  | [], _, h' => exact h'.elim
  | _ :: _ :: _, _, h' => exact h'.elim
theorem caS2 {b : B} {r : List V → Hp → VK → Prop} {f : D → D → M D} (h : ∀ (Wx : WX) (σ : Sl) (w : Wd) (S : Store) (d e : D) (v u : V) (Q : VK), StR b w S → Rp b w d v → Rp b w e u → PostE b Wx σ w (f d e S) Q → r [v, u] w.H Q) : CaS b r (g2 f) := by
  intro Wx σ w S ds vs Q st r h'
  match ds, r, h' with
  | [d, e], r, h' =>
    obtain ⟨v, u, rfl, r1, r2⟩ := rpl2 r
    exact h Wx σ w S d e v u Q st r1 r2 h'
  | [], _, h' => exact h'.elim
  | [_], _, h' => exact h'.elim
  | _ :: _ :: _ :: _, _, h' => exact h'.elim
/-! len -/
theorem fe_len {p : Pos} (ha : FA X Wx [a] fs) (hm : X.mg "len" = none) (hg : Gl X "len" := by rfl) (he : starEach [a] X.env = (false, eval a X.env) :: starEach [] X.env := by rfl) (hpl : (backTo pos (starEach [] X.env)).any (·.1) = false := by rfl) : FE X Wx (.Call (.Name "len" p) [a] [] pos) (appA fs (g1 lenD)) := by
  refine fe_callB call_len (caS1 fun Wx σ w S d v Q st r h => ?_) hm ha (hg := hg) (he := he) (hpl := hpl)
  have seq : PostE (bX X) Wx σ w (match sv S d with | some ds => Out.ok (.int ds.length) S | none => Out.stuck) Q → ∃ x n, [v] = [x] ∧ LenV X.K x w.H n ∧ Q (.int n) w.H := fun h => by
    cases q : sv S d with
    | none => rw [q] at h; exact h.elim
    | some ds =>
      rw [q] at h
      obtain ⟨p, vs, rfl, t, r⟩ := sv_at st q r
      rcases t with t | t
      · exact ⟨_, _, rfl, .inl ⟨vs, t, RpL.length r⟩, PostE.now h st rfl⟩
      · exact ⟨_, _, rfl, .inr ⟨vs, t, RpL.length r⟩, PostE.now h st rfl⟩
  cases d with
  | str z =>
    have h' : PostE (bX X) Wx σ w (if z.length ≤ lineN then .ok (.int z.length) S else .stuck) Q := h
    by_cases hl : z.length ≤ lineN
    · rw [if_pos hl] at h'
      cases (show v = .str z from r)
      exact ⟨_, z.length, rfl, ⟨by rw [← lineN_eq]; exact hl, rfl⟩, PostE.now h' st rfl⟩
    · rw [if_neg hl] at h'; exact h'.elim
  | _ => exact seq h
end
end F

set_option linter.all false
set_option maxRecDepth 100000
set_option maxHeartbeats 2000000
set_option autoImplicit false
namespace F
open PySem PySem.Spec PyProof.Rows L2
/-! ### the semantics of some built-ins -/
theorem ints_some : ∀ {ds : List D} {ns : List Int}, ints? ds = some ns → ds = ns.map D.int
  | [], ns, h => by cases (show ([] : List Int) = ns from Option.some.inj h); rfl
  | d :: ds, ns, h => by
    unfold ints? at h
    cases d with
    | int i =>
      cases q : ints? ds with
      | none => rw [q] at h; cases h
      | some r =>
        rw [q] at h
        cases (show i :: r = ns from Option.some.inj h)
        rw [List.map_cons, ← ints_some q]
    | _ => cases h
theorem ints_map : ∀ ns : List Int, ints? (ns.map D.int) = some ns
  | [] => rfl
  | n :: ns => by rw [List.map_cons]; unfold ints?; rw [ints_map ns]
theorem bls_some : ∀ {ds : List D} {ns : List Bool}, bls? ds = some ns → ds = ns.map D.bl
  | [], ns, h => by cases (show ([] : List Bool) = ns from Option.some.inj h); rfl
  | d :: ds, ns, h => by
    unfold bls? at h
    cases d with
    | bl i =>
      cases q : bls? ds with
      | none => rw [q] at h; cases h
      | some r =>
        rw [q] at h
        cases (show i :: r = ns from Option.some.inj h)
        rw [List.map_cons, ← bls_some q]
    | _ => cases h
theorem bls_map : ∀ ns : List Bool, bls? (ns.map D.bl) = some ns
  | [] => rfl
  | n :: ns => by rw [List.map_cons]; unfold bls?; rw [bls_map ns]
theorem maxI_mem : ∀ (n : Int) (ns : List Int), maxI (n :: ns) ∈ n :: ns ∧ ∀ y ∈ n :: ns, y ≤ maxI (n :: ns)
  | n, [] => ⟨List.mem_singleton.mpr rfl, fun y hy => by rw [List.mem_singleton.mp hy]; exact Int.le_refl _⟩
  | n, m :: ns => by
    obtain ⟨h1, h2⟩ := maxI_mem m ns
    show max n (maxI (m :: ns)) ∈ _ ∧ ∀ y ∈ _, y ≤ max n (maxI (m :: ns))
    refine ⟨?_, fun y hy => ?_⟩
    · by_cases h : n ≤ maxI (m :: ns)
      · rw [Int.max_eq_right h]; exact List.mem_cons_of_mem _ h1
      · rw [Int.max_eq_left (by omega)]; exact List.mem_cons_self
    · rcases List.mem_cons.mp hy with e | hy
      · rw [e]; exact Int.le_max_left _ _
      · exact Int.le_trans (h2 y hy) (Int.le_max_right _ _)
theorem minI_mem : ∀ (n : Int) (ns : List Int), minI (n :: ns) ∈ n :: ns ∧ ∀ y ∈ n :: ns, minI (n :: ns) ≤ y
  | n, [] => ⟨List.mem_singleton.mpr rfl, fun y hy => by rw [List.mem_singleton.mp hy]; exact Int.le_refl _⟩
  | n, m :: ns => by
    obtain ⟨h1, h2⟩ := minI_mem m ns
    show min n (minI (m :: ns)) ∈ _ ∧ ∀ y ∈ _, min n (minI (m :: ns)) ≤ y
    refine ⟨?_, fun y hy => ?_⟩
    · by_cases h : n ≤ minI (m :: ns)
      · rw [Int.min_eq_left h]; exact List.mem_cons_self
      · rw [Int.min_eq_right (by omega)]; exact List.mem_cons_of_mem _ h1
    · rcases List.mem_cons.mp hy with e | hy
      · rw [e]; exact Int.min_le_left _ _
      · exact Int.le_trans (Int.min_le_right _ _) (h2 y hy)
section
variable {X : Cx} {Wx : WX} {a c : Expr} {pos p : Pos} {fa fc : SE} {es : List Expr} {fs : SA}
theorem ofInts_at {b : B} {w : Wd} {S : Store} (st : StR b w S) {d : D} {v : V} {ds : List D} {ns : List Int} (q : lvf S d = some ds) (q2 : ints? ds = some ns) (r : Rp b w d v) : ∃ a, v = .ref a ∧ SqL b.K w.H a (ns.map V.int) := by
  obtain ⟨p, vs, rfl, t, r⟩ := lvf_at st q r
  rw [ints_some q2] at r
  rw [RpL.ints r] at t
  exact ⟨p, rfl, t⟩
theorem ofBls_at {b : B} {w : Wd} {S : Store} (st : StR b w S) {d : D} {v : V} {ds : List D} {ns : List Bool} (q : lvf S d = some ds) (q2 : bls? ds = some ns) (r : Rp b w d v) : ∃ a, v = .ref a ∧ SqL b.K w.H a (ns.map V.bl) := by
  obtain ⟨p, vs, rfl, t, r⟩ := lvf_at st q r
  rw [bls_some q2] at r
  rw [RpL.bls r] at t
  exact ⟨p, rfl, t⟩
theorem ca_sum : CaS (bX X) (rSum X.K) (g1 sumD) := caS1 fun Wx σ w S d v Q st r h => by
  unfold sumD ofInts at h
  cases q : lvf S d with
  | none => rw [q] at h; exact h.elim
  | some ds =>
    rw [q] at h
    dsimp only at h
    cases q2 : ints? ds with
    | none => rw [q2] at h; exact h.elim
    | some ns =>
      rw [q2] at h
      obtain ⟨p, rfl, t⟩ := ofInts_at st q q2 r
      exact ⟨p, ns, rfl, t, PostE.now h st rfl⟩
theorem ca_maxL : CaS (bX X) (rMax X.K) (g1 maxLD) := caS1 fun Wx σ w S d v Q st r h => by
  unfold maxLD at h
  cases q : lvf S d with
  | none => rw [q] at h; exact h.elim
  | some ds =>
    rw [q] at h
    dsimp only at h
    cases q2 : ints? ds with
    | none => rw [q2] at h; exact h.elim
    | some ns =>
      rw [q2] at h
      cases ns with
      | nil => exact h.elim
      | cons n ns =>
        obtain ⟨p, rfl, t⟩ := ofInts_at st q q2 r
        refine ⟨p, n :: ns, rfl, t, by simp, fun m hm h2 => ?_⟩
        obtain ⟨k1, k2⟩ := maxI_mem n ns
        rw [show m = maxI (n :: ns) from Int.le_antisymm (k2 m hm) (h2 _ k1)]
        exact PostE.now h st rfl
theorem ca_minL : CaS (bX X) (rMin X.K) (g1 minLD) := caS1 fun Wx σ w S d v Q st r h => by
  unfold minLD at h
  cases q : lvf S d with
  | none => rw [q] at h; exact h.elim
  | some ds =>
    rw [q] at h
    dsimp only at h
    cases q2 : ints? ds with
    | none => rw [q2] at h; exact h.elim
    | some ns =>
      rw [q2] at h
      cases ns with
      | nil => exact h.elim
      | cons n ns =>
        obtain ⟨p, rfl, t⟩ := ofInts_at st q q2 r
        refine ⟨p, n :: ns, rfl, t, by simp, fun m hm h2 => ?_⟩
        obtain ⟨k1, k2⟩ := minI_mem n ns
        rw [show m = minI (n :: ns) from Int.le_antisymm (h2 _ k1) (k2 m hm)]
        exact PostE.now h st rfl
theorem ca_all : CaS (bX X) (rAll X.K) (g1 allD) := caS1 fun Wx σ w S d v Q st r h => by
  unfold allD ofBls at h
  cases q : lvf S d with
  | none => rw [q] at h; exact h.elim
  | some ds =>
    rw [q] at h
    dsimp only at h
    cases q2 : bls? ds with
    | none => rw [q2] at h; exact h.elim
    | some ns =>
      rw [q2] at h
      obtain ⟨p, rfl, t⟩ := ofBls_at st q q2 r
      exact ⟨p, ns, rfl, t, PostE.now h st rfl⟩
theorem ca_any : CaS (bX X) (rAny X.K) (g1 anyD) := caS1 fun Wx σ w S d v Q st r h => by
  unfold anyD ofBls at h
  cases q : lvf S d with
  | none => rw [q] at h; exact h.elim
  | some ds =>
    rw [q] at h
    dsimp only at h
    cases q2 : bls? ds with
    | none => rw [q2] at h; exact h.elim
    | some ns =>
      rw [q2] at h
      obtain ⟨p, rfl, t⟩ := ofBls_at st q q2 r
      exact ⟨p, ns, rfl, t, PostE.now h st rfl⟩
theorem ca_abs : CaS (bX X) (fun xs H Q => ∃ i, xs = [.int i] ∧ Q (.int (if i < 0 then -i else i)) H) (g1 absD) := caS1 fun Wx σ w S d v Q st r h => by
  cases d with
  | int i => exact ⟨i, by rw [show v = .int i from r], PostE.now h st rfl⟩
  | _ => exact h.elim
theorem ca_int : CaS (bX X) (fun xs H Q => (∃ i, xs = [.int i] ∧ Q (.int i) H) ∨ ∃ k, xs = [.bl k] ∧ Q (.int (if k then 1 else 0)) H) (g1 intD) := caS1 fun Wx σ w S d v Q st r h => by
  cases d with
  | int i => exact .inl ⟨i, by rw [show v = .int i from r], PostE.now h st rfl⟩
  | bl k => exact .inr ⟨k, by rw [show v = .bl k from r], PostE.now h st rfl⟩
  | _ => exact h.elim
theorem ca_max2 : CaS (bX X) (fun xs H Q => ∃ i j, xs = [.int i, .int j] ∧ Q (.int (if j > i then j else i)) H) (g2 max2D) := caS2 fun Wx σ w S d e v u Q st r1 r2 h => by
  cases d with
  | int i => cases e with
    | int j => exact ⟨i, j, by rw [show v = .int i from r1, show u = .int j from r2], PostE.now h st rfl⟩
    | _ => exact h.elim
  | _ => exact h.elim
theorem ca_min2 : CaS (bX X) (fun xs H Q => ∃ i j, xs = [.int i, .int j] ∧ Q (.int (if j < i then j else i)) H) (g2 min2D) := caS2 fun Wx σ w S d e v u Q st r1 r2 h => by
  cases d with
  | int i => cases e with
    | int j => exact ⟨i, j, by rw [show v = .int i from r1, show u = .int j from r2], PostE.now h st rfl⟩
    | _ => exact h.elim
  | _ => exact h.elim
theorem ca_list : CaS (bX X) (fun xs H Q => ∃ p ys, xs = [.ref p] ∧ (SqL X.K H p ys ∨ SqT X.K H p ys) ∧ ∀ l, H l = none → Q (.ref l) (upd H l (.lst ys))) (g1 listD) := caS1 fun Wx σ w S d v Q st r h => by
  unfold listD at h
  cases q : sv S d with
  | none => rw [q] at h; exact h.elim
  | some ds =>
    rw [q] at h
    obtain ⟨p, vs, rfl, t, r⟩ := sv_at st q r
    exact ⟨p, vs, rfl, t, fun l hl => PostE.newL h st r hl⟩
theorem ca_listC : CaS (bX X) (fun xs H Q => ∃ p ys, xs = [.ref p] ∧ (SqL X.K H p ys ∨ SqT X.K H p ys) ∧ ∀ l, H l = none → Q (.ref l) (upd H l (.lst ys))) (g1 listC) := caS1 fun Wx σ w S d v Q st r h => by
  unfold listC at h
  cases q : sv S d with
  | none => rw [q] at h; exact h.elim
  | some ds =>
    rw [q] at h
    obtain ⟨p, vs, rfl, t, r⟩ := sv_at st q r
    exact ⟨p, vs, rfl, t, fun l hl => PostE.newC h st r hl⟩
theorem ca_tuple : CaS (bX X) (fun xs H Q => ∃ p ys, xs = [.ref p] ∧ ((SqL X.K H p ys ∧ ∀ l, H l = none → Q (.ref l) (upd H l (.tup ys))) ∨ (SqT X.K H p ys ∧ Q (.ref p) H))) (g1 tupleD) := caS1 fun Wx σ w S d v Q st r h => by
  unfold tupleD at h
  cases q : sv S d with
  | none => rw [q] at h; exact h.elim
  | some ds =>
    rw [q] at h
    by_cases ht : ∃ es, d = .tup es
    · obtain ⟨es, rfl⟩ := ht
      cases (show es = ds from Option.some.inj q)
      obtain ⟨p, vs, rfl, t, r⟩ := r
      exact ⟨p, vs, rfl, .inr ⟨t.sq, PostE.now h st (t.rp r)⟩⟩
    · have q' : lvf S d = some ds := by
        cases d <;> first | exact q | exact absurd ⟨_, rfl⟩ ht
      obtain ⟨p, vs, rfl, t, r⟩ := lvf_at st q' r
      exact ⟨p, vs, rfl, .inl ⟨t, fun l hl => PostE.newT h st r hl⟩⟩
/-! isinstance -/
theorem typ_of {b : B} {w : Wd} {S : Store} (st : StR b w S) {d : D} {v : V} {t : String} (h : typ S d = some t) (r : Rp b w d v) : TyX b.K w.H v (.type t) ∧ ["NoneType", "bool", "int", "str", "tuple", "list"].contains t = true := by
  cases d with
  | non => cases (show "NoneType" = t from Option.some.inj h); cases (show v = .non from r); exact ⟨.base .non, by decide⟩
  | bl k => cases (show "bool" = t from Option.some.inj h); cases (show v = .bl k from r); exact ⟨.base (.bl k), by decide⟩
  | int k => cases (show "int" = t from Option.some.inj h); cases (show v = .int k from r); exact ⟨.base (.int k), by decide⟩
  | str k => cases (show "str" = t from Option.some.inj h); cases (show v = .str k from r); exact ⟨.base (.str k), by decide⟩
  | tup ds =>
    cases (show "tuple" = t from Option.some.inj h)
    obtain ⟨p, vs, rfl, q, _⟩ := r
    refine ⟨?_, by decide⟩
    rcases q with ⟨_, q⟩ | ⟨o, its, n, q, c, _⟩
    · exact .base (.tup q)
    · exact .kTuple q c
  | lst ds =>
    cases (show "list" = t from Option.some.inj h)
    obtain ⟨p, vs, rfl, ⟨_, q⟩, _⟩ := r
    exact ⟨.base (.lst q), by decide⟩
  | frz ds =>
    cases (show "list" = t from Option.some.inj h)
    obtain ⟨p, vs, rfl, q, _⟩ := r
    refine ⟨?_, by decide⟩
    rcases q with ⟨_, o, q⟩ | ⟨o, its, n, q, c, _⟩
    · exact .base (.frz q)
    · exact .kList q c
  | ref n =>
    obtain ⟨p, h1, rfl⟩ := r
    obtain ⟨c, hc, h3⟩ := st.cell h1
    have h' : (match S[n]? with | some (.lst ds) => some "list" | _ => none) = some t := h
    rw [hc] at h'
    cases c with
    | lst es =>
      cases (show "list" = t from Option.some.inj h')
      obtain ⟨vs, e, _⟩ := h3
      exact ⟨.base (.lst e), by decide⟩
    | ins c fs => cases h'
  | _ => cases h
theorem kit_all : (["NoneType", "bool", "int", "str", "tuple", "list"].all fun a => ["int", "bool", "str", "tuple", "list", "dict"].all fun b => decide (kitB a b = some (isB a b))) = true := by decide +kernel
theorem kit_is {K : PySem.W.Frag} {a b : String} (ha : ["NoneType", "bool", "int", "str", "tuple", "list"].contains a = true) (hb : known b = true) : PySem.W.kitOne K (.type a) (.type b) = some (isB a b) := by
  refine kit_ty ?_
  have h := List.all_eq_true.mp kit_all a (by simpa using ha)
  have h2 := List.all_eq_true.mp h b (by simpa [known] using hb)
  exact of_decide_eq_true h2
theorem tyN_of {b : B} {w : Wd} {d : D} {v : V} {n : String} (h : tyN d = some n) (r : Rp b w d v) : v = .ty n ∧ known n = true := by
  cases d with
  | ty m =>
    have h' : (if known m then some m else none) = some n := h
    by_cases k : known m = true
    · rw [if_pos k] at h'
      cases (show m = n from Option.some.inj h')
      exact ⟨r, k⟩
    · rw [if_neg k] at h'; cases h'
  | _ => cases h
theorem tyNs_of {b : B} {w : Wd} : ∀ {ds : List D} {vs : List V} {ns : List String}, tyNs ds = some ns → RpL b w ds vs → Paired ClsV vs (ns.map Value.type) ∧ ∀ n ∈ ns, known n = true
  | [], vs, ns, h, r => by
    cases (show ([] : List String) = ns from Option.some.inj h)
    cases (show vs = [] from r)
    exact ⟨.nil, fun n hn => by simp at hn⟩
  | d :: ds, vs, ns, h, r => by
    obtain ⟨v, rs, rfl, r1, r2⟩ := r
    unfold tyNs at h
    cases q : tyN d with
    | none => rw [q] at h; cases h
    | some n =>
      cases q2 : tyNs ds with
      | none => rw [q, q2] at h; cases h
      | some ms =>
        rw [q, q2] at h
        cases (show n :: ms = ns from Option.some.inj h)
        obtain ⟨h1, h2⟩ := tyNs_of q2 r2
        obtain ⟨rfl, k⟩ := tyN_of q r1
        exact ⟨.cons (.ty n) h1, fun m hm => (List.mem_cons.mp hm).elim (fun e => e ▸ k) (h2 m)⟩
theorem kit_any {K : PySem.W.Frag} {t : String} (ht : ["NoneType", "bool", "int", "str", "tuple", "list"].contains t = true) : ∀ {ns : List String}, (∀ n ∈ ns, known n = true) → PySem.W.kitAny K (.type t) (ns.map Value.type) = some (ns.any fun n => isB t n)
  | [], _ => rfl
  | n :: ns, h => by
    have h1 := kit_is (K := K) ht (h n List.mem_cons_self)
    refine kitAny_cons h1 (fun e => ?_) fun e => ?_
    · rw [kit_any ht fun m hm => h m (List.mem_cons_of_mem _ hm)]
      rw [List.any_cons, e, Bool.false_or]
    · rw [List.any_cons, e, Bool.true_or]
theorem ca_isi : CaS (bX X) (fun xs H Q => rIsi X.K xs H Q ∨ (rIsiT X.K xs H Q ∨ rIsiK X.K xs H Q)) (g2 isiD) := caS2 fun Wx σ w S d c v u Q st r1 r2 h => by
  unfold isiD at h
  cases q : typ S d with
  | none => rw [q] at h; exact h.elim
  | some t =>
    rw [q] at h
    dsimp only at h
    obtain ⟨ht, hk⟩ := typ_of st q r1
    by_cases hc : ∃ cs, c = .tup cs
    · obtain ⟨cs, rfl⟩ := hc
      dsimp only at h
      cases q2 : tyNs cs with
      | none => rw [q2] at h; exact h.elim
      | some ns =>
        rw [q2] at h
        obtain ⟨p, vs, rfl, t2, r3⟩ := r2
        obtain ⟨k1, k2⟩ := tyNs_of q2 r3
        rcases t2 with ⟨_, t2⟩ | ⟨o, its, n, t2, oc, od, _, rv⟩
        · exact .inr (.inl ⟨v, p, vs, _, _, _, rfl, t2, k1, ht, kit_any hk k2, PostE.now h st rfl⟩)
        · obtain ⟨oc', odd, odt, osl⟩ := o
          simp only at oc od
          subst oc od
          have e3 := ClsV.all k1 rv
          exact .inr (.inr ⟨v, p, odd, ns.map Value.type, n, osl, _, _, rfl, by rw [t2, ← e3], ht, kit_any hk k2, PostE.now h st rfl⟩)
    · have h' : PostE (bX X) Wx σ w (match tyN c with | some n => Out.ok (.bl (isB t n)) S | none => Out.stuck) Q := by
        cases c <;> first | exact h | exact absurd ⟨_, rfl⟩ hc
      cases q2 : tyN c with
      | none => rw [q2] at h'; exact h'.elim
      | some n =>
        rw [q2] at h'
        obtain ⟨rfl, k⟩ := tyN_of q2 r2
        exact .inl ⟨v, .ty n, _, _, _, rfl, .ty n, ht, kit_is hk k, PostE.now h' st rfl⟩
end
end F

set_option linter.all false
set_option maxRecDepth 100000
set_option maxHeartbeats 2000000
set_option autoImplicit false
namespace F
open PySem PySem.Spec PyProof.Rows L2
theorem callR_or {X : Cx} {f : Value} {r r' : List V → Hp → VK → Prop} (h : CallR X f r) (h' : CallR X f r') : CallR X f (fun xs H Q => r xs H Q ∨ r' xs H Q) := by
  intro pins s σ H vs us Q I rv q
  rcases q with q | q
  · exact h pins s σ H vs us Q I rv q
  · exact h' pins s σ H vs us Q I rv q
theorem callR_isi {X : Cx} : CallR X (.builtin "isinstance") (fun xs H Q => rIsi X.K xs H Q ∨ (rIsiT X.K xs H Q ∨ rIsiK X.K xs H Q)) := callR_or call_isi (callR_or call_isiT call_isiK)
/-! ### a def, by what it reckons -/
def PostF (b : B) (w : Wd) (o : Out D) (Q : VK) (E : XK) : Prop := match o with
  | .ok d S => ∀ w' v, Le w w' → StR b w' S → Rp b w' d v → Q v w'.H
  | .exn x S => ∀ w' cls dd, Le w w' → StR b w' S → XnR b w' x cls dd → E cls dd w'.H
  | .stuck => False
def spOf (b : B) (n : Nat) (g : List D → M D) : Sp := fun vs H Q E => vs.length = n ∧ ∃ w ds S, w.H = H ∧ RpL b w ds vs ∧ StR b w S ∧ PostF b w (g ds S) Q E
/-- the def x reckons g of its n arguments, within level k -/
structure DefOk (P : Program) (w : World) (K : PySem.W.Frag) (mg : Str → Option Value) (base : Heap) (x : Str) (k n : Nat) (g : List D → M D) : Prop where
  ex : ∃ (f : Addr) (fd : FuncData) (ps : List Str), ps.length = n ∧ FnOk P w K mg base (L2.CX P w) k f fd ps (spOf ⟨K, mg⟩ n g) ∧ mg x = some (.ref f) ∧ PySem.W.keepIn K (.ref f) = true ∧ Binds K fd ps []
theorem DefOk.mono {P : Program} {w : World} {K : PySem.W.Frag} {mg : Str → Option Value} {base : Heap} {x : Str} {j k n : Nat} {g : List D → M D} (h : DefOk P w K mg base x j n g) (hk : j ≤ k) : DefOk P w K mg base x k n g := by
  obtain ⟨f, fd, ps, h1, h2, h3⟩ := h.ex
  exact ⟨f, fd, ps, h1, h2.mono hk, h3⟩
/-- another function that is the same wherever it is not stuck -/
theorem DefOk.imp {P : Program} {w : World} {K : PySem.W.Frag} {mg : Str → Option Value} {base : Heap} {x : Str} {k n : Nat} {g g' : List D → M D} (h : DefOk P w K mg base x k n g) (hg : ∀ ds S, g' ds S = .stuck ∨ g ds S = g' ds S) : DefOk P w K mg base x k n g' := by
  obtain ⟨f, fd, ps, h1, h2, h3⟩ := h.ex
  refine ⟨f, fd, ps, h1, h2.imp fun vs H Q E ⟨hl, w1, ds, S, e1, e2, e3, e4⟩ => ?_, h3⟩
  refine ⟨hl, w1, ds, S, e1, e2, e3, ?_⟩
  rcases hg ds S with z | z
  · rw [z] at e4; exact e4.elim
  · rw [z]; exact e4
section
variable {X : Cx} {Wx : WX} {x : Str} {p pos : Pos} {e : Expr} {es : List Expr} {fs : SA} {k n : Nat} {g : List D → M D}
theorem fe_call (C : DefOk X.prog X.w X.K X.mg X.base x k n g) (hr : Room k X.A) (tk : Takes X Wx) (ha : FA X Wx (e :: es) fs) (hg : Gl X x := by rfl)
    (hdb : (x == ("__debug__" : Str)) = false := by decide) (he : starEach (e :: es) X.env = (false, eval e X.env) :: starEach es X.env := by rfl) (hpl : (backTo pos (starEach es X.env)).any (·.1) = false := by rfl) :
    FE X Wx (.Call (.Name x p) (e :: es) [] pos) (appA fs fun ds S => if ds.length = n then g ds S else .stuck) := by
  obtain ⟨f, fd, ps, hn, F, hm, hk, hb⟩ := C.ex
  refine PE.imp (pe_callS (E := fun σ => WE Wx σ) F hr hg hm hk hb (fun σ => passAt tk σ) ha hdb he hpl) fun σ H Q ⟨w, ρ, S, e, hE, hS, h⟩ => ?_
  subst e
  refine bindAE hE hS h fun w1 d v S1 l1 e1 s1 r1 h1 => ?_
  by_cases hl : d.length = n
  · rw [if_pos hl] at h1
    refine ⟨by rw [← RpL.length r1]; exact hl, w1, d, S1, rfl, r1, s1, ?_⟩
    cases q : g d S1 with
    | ok z S2 => rw [q] at h1; exact h1
    | exn z S2 => rw [q] at h1; exact h1
    | stuck => rw [q] at h1; exact h1.elim
  · rw [if_neg hl] at h1; exact h1.elim
end
end F

set_option linter.all false
set_option maxRecDepth 100000
set_option maxHeartbeats 2000000
set_option autoImplicit false
namespace F
open PySem PySem.Spec PyProof.Rows L2
abbrev D_ := D
/-! ### targets: a name, a tuple of names -/
section
variable {b : B} {w : Wd}
theorem EnvR.set {ρ : Env} {σ : Sl} (h : EnvR b w ρ σ) (i : Nat) {d : D} {v : V} (r : Rp b w d v) : EnvR b w (ρ.set i (some d)) (σ.set i (some v)) := by
  refine ⟨by simp [h.len], fun j d' e => ?_⟩
  by_cases q : i = j
  · subst q
    have hl : i < (ρ.set i (some d)).length := (List.getElem?_eq_some_iff.mp e).1
    rw [List.length_set] at hl
    rw [List.getElem?_set_self hl] at e
    cases e
    exact ⟨v, by rw [List.getElem?_set_self (by rw [← h.len]; exact hl)], r⟩
  · rw [List.getElem?_set_ne q] at e
    obtain ⟨u, h1, h2⟩ := h.at_ j d' e
    exact ⟨u, by rw [List.getElem?_set_ne q]; exact h1, h2⟩
theorem EnvR.setA : ∀ {is : List Nat} {ds : List D} {vs : List V} {ρ : Env} {σ : Sl}, EnvR b w ρ σ → RpL b w ds vs → EnvR b w (setAll is ds ρ) (setAll is vs σ)
  | [], ds, vs, ρ, σ, h, r => by
    cases ds <;> cases vs <;> exact h
  | i :: is, [], vs, ρ, σ, h, r => by
    cases (show vs = [] from r)
    exact h
  | i :: is, d :: ds, vs, ρ, σ, h, r => by
    obtain ⟨v, rs, rfl, r1, r2⟩ := r
    show EnvR b w (setAll is ds (ρ.set i (some d))) (setAll is rs (σ.set i (some v)))
    exact EnvR.setA (h.set i r1) r2
end
theorem wipe_set {σ : Sl} {i : Nat} {x : Option V} : ∀ {vs : List Nat}, i ∈ vs → wipe (σ.set i x) vs = wipe σ vs := by
  intro vs
  induction vs with
  | nil => intro h; simp at h
  | cons j vs ih =>
    intro h
    show (wipe (σ.set i x) vs).set j none = (wipe σ vs).set j none
    by_cases q : i ∈ vs
    · rw [ih q]
    · have e : i = j := (List.mem_cons.mp h).resolve_right q
      subst e
      clear ih h
      have : ∀ vs : List Nat, i ∉ vs → wipe (σ.set i x) vs = (wipe σ vs).set i x := by
        intro vs
        induction vs with
        | nil => intro _; rfl
        | cons k vs ih =>
          intro hk
          show (wipe (σ.set i x) vs).set k none = ((wipe σ vs).set k none).set i x
          rw [ih (fun z => hk (List.mem_cons_of_mem _ z)), List.set_comm _ _ (fun z => hk (by rw [z]; exact List.mem_cons_self))]
      rw [this vs q, List.set_set]
theorem wipe_setAll {vs : List Nat} : ∀ {is : List Nat} {us : List V} {σ : Sl}, (∀ i ∈ is, i ∈ vs) → wipe (setAll is us σ) vs = wipe σ vs
  | [], us, σ, _ => by cases us <;> rfl
  | i :: is, [], σ, _ => rfl
  | i :: is, u :: us, σ, h => by
    show wipe (setAll is us (σ.set i (some u))) vs = _
    rw [wipe_setAll fun j hj => h j (List.mem_cons_of_mem _ hj), wipe_set (h i List.mem_cons_self)]
def gNames : List Nat → TGs
  | [] => gNil
  | i :: is => gCons (gName i) (gNames is)
def tgG (K : PySem.W.Frag) : Tg → TG
  | .name i => gName i
  | .tup is => gTup K is.length (gNames is)
theorem wipe_none {σ : Sl} {i : Nat} : ∀ {vs : List Nat}, i ∈ vs → (wipe σ vs).set i none = wipe σ vs := by
  intro vs
  induction vs with
  | nil => intro h; simp at h
  | cons j vs ih =>
    intro h
    show ((wipe σ vs).set j none).set i none = (wipe σ vs).set j none
    by_cases q : i = j
    · rw [q, List.set_set]
    · rw [List.set_comm _ _ (Ne.symm q), ih ((List.mem_cons.mp h).resolve_left q)]
theorem wipe_sub {σ : Sl} {vs : List Nat} : ∀ us : List Nat, (∀ i ∈ us, i ∈ vs) → wipe (wipe σ vs) us = wipe σ vs
  | [], _ => rfl
  | u :: us, h => by
    show (wipe (wipe σ vs) us).set u none = _
    rw [wipe_sub us fun i hi => h i (List.mem_cons_of_mem _ hi), wipe_none (h u List.mem_cons_self)]
theorem wipe_wipe {σ : Sl} {vs : List Nat} : wipe (wipe σ vs) vs = wipe σ vs := wipe_sub vs fun _ h => h
/-- the target stores at t's slots -/
abbrev FG (X : Cx) (tg : Expr) (t : Tg) : Prop := PG X tg (tgG X.K t)
theorem gNames_of : ∀ (is : List Nat) (σ : Sl) (H : Hp) (vs : List V) (Q : Sl → Hp → Prop), vs.length = is.length → Q (setAll is vs σ) H → gNames is vs σ H Q
  | [], σ, H, vs, Q, hl, q => by
    have : vs = [] := List.eq_nil_of_length_eq_zero hl
    subst this
    exact ⟨rfl, q⟩
  | i :: is, σ, H, vs, Q, hl, q => by
    cases vs with
    | nil => simp at hl
    | cons v vs => exact ⟨v, vs, rfl, gNames_of is _ H vs Q (by simpa using hl) q⟩
theorem tg_of {b : B} {t : Tg} {σ : Sl} {w : Wd} {d : D} {v : V} {ρ ρ' : Env} (hE : EnvR b w ρ σ) (r : Rp b w d v) (e : tgD t d ρ = some ρ') :
    ∃ σ', EnvR b w ρ' σ' ∧ (∀ vs, (∀ i ∈ t.slots, i ∈ vs) → wipe σ' vs = wipe σ vs) ∧ ∀ Q : Sl → Hp → Prop, Q σ' w.H → tgG b.K t v σ w.H Q := by
  cases t with
  | name i =>
    cases (show ρ.set i (some d) = ρ' from Option.some.inj e)
    exact ⟨σ.set i (some v), hE.set i r, fun vs h => wipe_set (h i (by simp [Tg.slots])), fun Q q => q⟩
  | tup is =>
    cases d with
    | tup ds =>
      have e' : (if ds.length = is.length then some (setAll is ds ρ) else none) = some ρ' := e
      by_cases hl : ds.length = is.length
      · rw [if_pos hl] at e'
        cases (show setAll is ds ρ = ρ' from Option.some.inj e')
        obtain ⟨a, vs, rfl, t, r⟩ := r
        have hl2 : vs.length = is.length := by rw [← RpL.length r]; exact hl
        exact ⟨setAll is vs σ, hE.setA r, fun us h => wipe_setAll h, fun Q q => ⟨a, vs, rfl, t.sq, hl2, gNames_of is σ w.H vs Q hl2 q⟩⟩
      · rw [if_neg hl] at e'; cases e'
    | _ => cases e
section
variable {X : Cx}
theorem fg_name {x : Str} {pos : Pos} (i : Nat) (hN : X.N.Nodup) (hi : X.N[i]? = some x := by rfl) (hx : Loc X.env.scope x := by first | exact Or.inl rfl | exact Or.inr rfl) (hf : X.fn x = true ∨ X.env.scope.names.lookup x = some .local := by first | exact .inl rfl | exact .inr rfl) : FG X (.Name x pos) (.name i) := pg_name hN hi hx hf
abbrev FGs (X : Cx) (ts : List Expr) (is : List Nat) : Prop := PGs X ts (gNames is)
theorem fgs_nil : FGs X [] [] := pgs_nil
theorem fgs_cons {x : Str} {pos : Pos} {es : List Expr} {is : List Nat} (i : Nat) (hN : X.N.Nodup) (h : FGs X es is) (hi : X.N[i]? = some x := by rfl) (hx : Loc X.env.scope x := by first | exact Or.inl rfl | exact Or.inr rfl) (hf : X.fn x = true ∨ X.env.scope.names.lookup x = some .local := by first | exact .inl rfl | exact .inr rfl)
    (hs : (assignEach (.Name x pos :: es) X.env).map (·.2) = assign (.Name x pos) X.env :: (assignEach es X.env).map (·.2) := by rfl) : FGs X (.Name x pos :: es) (i :: is) := pgs_cons (pg_name hN hi hx hf) h hs
theorem fg_tup {es : List Expr} {k : Nat} {is : List Nat} {pos : Pos} (hc : X.calm = true) (h : FGs X es is) (hn : (assignEach es X.env).length = is.length := by rfl) (hst : (assignEach es X.env).findIdx? (·.1) = none := by rfl) : FG X (.Tuple es k pos) (.tup is) := pg_tup hc h hn hst
end
/-! ### what is walked -/
/-- J yields ds -/
def ItOk (b : B) (J : It) (ds : List D) (w1 : Wd) : Prop := ∀ (i : Nat) (w2 : Wd), Mo w1 w2 → (∀ p, w2.H p = none → Fz w2 p) → (∀ d, ds[i]? = some d → J.go i w2.H ∧ ∀ x H', J.yld i w2.H x H' → ∃ w3, w3.H = H' ∧ (w3 = w2 ∨ ∃ p o, w2.H p = none ∧ w3 = w2.up p o) ∧ Rp b w3 d x) ∧ (i = ds.length → J.stop i w2.H)
def PostI (b : B) (Wx : WX) (σ : Sl) (w : Wd) (o : Out (List D)) (R : It → Hp → Prop) : Prop := match o with
  | .ok ds S => ∀ w' J, Le w w' → StR b w' S → ItOk b J ds w' → R J w'.H
  | .exn x S => ∀ w' cls dd, Le w w' → StR b w' S → XnR b w' x cls dd → Wx cls dd σ w'.H
  | .stuck => False
structure FI (X : Cx) (Wx : WX) (tg iter : Expr) (fi : SA) : Prop where
  ex : ∃ wi, PI X tg iter wi ∧ ∀ (σ : Sl) (w : Wd) (ρ : Env) (S : Store) (R : It → Hp → Prop), EnvR (bX X) w ρ σ → StR (bX X) w S → PostI (bX X) Wx σ w (fi ρ S) R → wi σ w.H R
section
variable {b : B} {Wx : WX} {σ : Sl} {w w' : Wd}
theorem PostI.le {o : Out (List D)} {R : It → Hp → Prop} (l : Le w w') (h : PostI b Wx σ w o R) : PostI b Wx σ w' o R := by
  cases o with
  | ok d S => exact fun w2 v m => h w2 v (l.trans m)
  | exn x S => exact fun w2 c d m => h w2 c d (l.trans m)
  | stuck => exact h
theorem bindEI {f : SE} {k : D → M (List D)} {ρ : Env} {S : Store} {R : VK} {Q : It → Hp → Prop} (hE : EnvR b w ρ σ) (hS : StR b w S) (h : PostI b Wx σ w (bnd (f ρ) k S) Q)
    (hk : ∀ w1 d v S1, Le w w1 → EnvR b w1 ρ σ → StR b w1 S1 → Rp b w1 d v → PostI b Wx σ w1 (k d S1) Q → R v w1.H) : tE b Wx f σ w.H R := by
  refine ⟨w, ρ, S, rfl, hE, hS, ?_⟩
  unfold bnd at h
  cases q : f ρ S with
  | ok d S1 =>
    rw [q] at h
    exact fun w1 v l st r => hk w1 d v S1 l (hE.mono l) st r (PostI.le l h)
  | exn x S1 => rw [q] at h; exact h
  | stuck => rw [q] at h; exact h
theorem bindAI {f : SA} {k : List D → M (List D)} {ρ : Env} {S : Store} {R : List V → Hp → Prop} {Q : It → Hp → Prop} (hE : EnvR b w ρ σ) (hS : StR b w S) (h : PostI b Wx σ w (bnd (f ρ) k S) Q)
    (hk : ∀ w1 d v S1, Le w w1 → EnvR b w1 ρ σ → StR b w1 S1 → RpL b w1 d v → PostI b Wx σ w1 (k d S1) Q → R v w1.H) : tA b Wx f σ w.H R := by
  refine ⟨w, ρ, S, rfl, hE, hS, ?_⟩
  unfold bnd at h
  cases q : f ρ S with
  | ok d S1 =>
    rw [q] at h
    exact fun w1 v l st r => hk w1 d v S1 l (hE.mono l) st r (PostI.le l h)
  | exn x S1 => rw [q] at h; exact h
  | stuck => rw [q] at h; exact h
end
section
variable {X : Cx} {Wx : WX} {tg a c : Expr} {pos p : Pos} {fa fc : SE} {fs : SA}
theorem sqL_still {b : B} {w1 w2 : Wd} {a : Addr} {vs : List V} (m : Mo w1 w2) (h : LstAt w1 a vs ∨ FrzAt b w1 a vs) : SqL b.K w2.H a vs := by
  rcases h with ⟨n, h⟩ | ⟨n, o, h⟩ | h
  · exact .inl (.inl (m.fz _ _ h n).2)
  · exact .inl (.inr ⟨o, (m.fz _ _ h n).2⟩)
  · exact .inr h
theorem itl_ok {b : B} {w1 : Wd} {a : Addr} {vs : List V} {ds : List D} (h : LstAt w1 a vs ∨ FrzAt b w1 a vs) (r : RpL b w1 ds vs) : ItOk b (Itl b.K a) ds w1 := by
  intro i w2 m _
  have hs : SqL b.K w2.H a vs := sqL_still m h
  refine ⟨fun d e => ?_, fun e => ⟨vs, hs, by rw [e, RpL.length r]; exact Nat.le_refl _⟩⟩
  obtain ⟨v, h1, h2⟩ := RpL.get r e
  refine ⟨⟨vs, v, hs, h1⟩, fun x H' ⟨e1, e2⟩ => ⟨w2, e1.symm, .inl rfl, ?_⟩⟩
  have := e2 vs hs
  rw [h1] at this; cases this
  exact Rp.mo m d v h2
theorem tup_still {b : B} {w1 w2 : Wd} {a : Addr} {vs : List V} (m : Mo w1 w2) (h : TupAt b w1 a vs) : SqT b.K w2.H a vs := by
  rcases h with ⟨n, h⟩ | h
  · exact .inl (.inl (m.fz _ _ h n).2)
  · exact .inr h
theorem itt_ok {b : B} {w1 : Wd} {a : Addr} {vs : List V} {ds : List D} (h : TupAt b w1 a vs) (r : RpL b w1 ds vs) : ItOk b (Itt b.K a) ds w1 := by
  intro i w2 m _
  have hs : SqT b.K w2.H a vs := tup_still m h
  refine ⟨fun d e => ?_, fun e => ⟨vs, hs, by rw [e, RpL.length r]; exact Nat.le_refl _⟩⟩
  obtain ⟨v, h1, h2⟩ := RpL.get r e
  refine ⟨⟨vs, v, hs, h1⟩, fun x H' ⟨e1, e2⟩ => ⟨w2, e1.symm, .inl rfl, ?_⟩⟩
  have := e2 vs hs
  rw [h1] at this; cases this
  exact Rp.mo m d v h2
theorem itr_ok {b : B} {w1 : Wd} (lo : Int) (n : Nat) : ItOk b (Itr lo n) ((List.range n).map fun k => D.int (lo + (k : Nat))) w1 := by
  intro i w2 m _
  refine ⟨fun d e => ?_, fun e => by rw [e, List.length_map, List.length_range]; exact Nat.le_refl n⟩
  rw [List.getElem?_map] at e
  cases q : (List.range n)[i]? with
  | none => rw [q] at e; cases e
  | some k =>
    rw [q] at e
    obtain ⟨hi, he⟩ := List.getElem?_eq_some_iff.mp q
    rw [List.length_range] at hi
    rw [List.getElem_range] at he
    subst he
    cases (show D.int (lo + (i : Nat)) = d from Option.some.inj e)
    exact ⟨hi, fun x H' ⟨e1, e2⟩ => ⟨w2, e1.symm, .inl rfl, e2⟩⟩
theorem pi_or {wi wj : TI} (h : PI X tg a wi) (h' : PI X tg a wj) : PI X tg a (fun σ H R => wi σ H R ∨ wj σ H R) :=
  ⟨fun pins s σ H R I q => q.elim (h.run pins s σ H R I) (h'.run pins s σ H R I)⟩
theorem fi_seq (ha : FE X Wx a fa) : FI X Wx tg a (itE fa) := by
  refine ⟨_, pi_or (pi_list ha) (pi_tup ha), fun σ w ρ S R hE hS h => ?_⟩
  -- which of the two: by what the value is
  unfold itE at h
  have h' := h
  unfold bnd at h'
  cases q : fa ρ S with
  | ok d S1 =>
    rw [q] at h'
    have lists : (∃ ds, d = .lst ds ∨ d = .frz ds) → iList X.K (tE (bX X) Wx fa) σ w.H R := fun hd => by
      refine ⟨w, ρ, S, rfl, hE, hS, ?_⟩
      rw [q]
      intro w1 v l st r
      rcases hd with ⟨ds, rfl | rfl⟩
      · obtain ⟨p, vs, rfl, t, r⟩ := r
        exact ⟨p, rfl, ⟨vs, t.sq⟩, h' w1 _ l st (itl_ok (.inl t) r)⟩
      · obtain ⟨p, vs, rfl, t, r⟩ := r
        exact ⟨p, rfl, ⟨vs, t.sq⟩, h' w1 _ l st (itl_ok (.inr t) r)⟩
    cases d with
    | lst ds => exact .inl (lists ⟨ds, .inl rfl⟩)
    | frz ds => exact .inl (lists ⟨ds, .inr rfl⟩)
    | tup ds =>
      refine .inr ⟨w, ρ, S, rfl, hE, hS, ?_⟩
      rw [q]
      intro w1 v l st r
      obtain ⟨p, vs, rfl, t, r⟩ := r
      exact ⟨p, rfl, ⟨vs, t.sq⟩, h' w1 _ l st (itt_ok t r)⟩
    | _ => exact h'.elim
  | exn x S1 =>
    rw [q] at h'
    refine .inl ⟨w, ρ, S, rfl, hE, hS, ?_⟩
    rw [q]
    exact h'
  | stuck => rw [q] at h'; exact h'.elim
theorem fi_range1 (hm : X.mg "range" = none) (ha : FA X Wx [a] fs) (hg : Gl X "range" := by rfl) (hs : starEach [a] X.env = [(false, eval a X.env)] := by rfl) : FI X Wx tg (.Call (.Name "range" p) [a] [] pos) (appA fs itR1) := by
  refine ⟨_, pi_range1 hg hm ha hs, fun σ w ρ S R hE hS h => ?_⟩
  refine bindAI hE hS h fun w1 ds vs S1 l1 e1 s1 r1 h1 => ?_
  match ds, r1, h1 with
  | [.int j], r1, h1 =>
    obtain ⟨v, rfl, r2⟩ := rpl1 r1
    cases (show v = .int j from r2)
    have h1' : PostI (bX X) Wx σ w1 (if -(2 ^ 62) ≤ j ∧ j < 2 ^ 62 then .ok ((List.range j.toNat).map fun i => D.int (i : Nat)) S1 else .stuck) R := h1
    by_cases hj : -(2 ^ 62) ≤ j ∧ j < 2 ^ 62
    · rw [if_pos hj] at h1'
      refine ⟨j, rfl, hj.1, hj.2, h1' w1 _ (Le.refl _) s1 ?_⟩
      have := itr_ok (b := bX X) (w1 := w1) 0 j.toNat
      simpa using this
    · rw [if_neg hj] at h1'; exact h1'.elim
  | [], _, h1 => exact h1.elim
  | .non :: _, _, h1 => exact h1.elim
  | .bl _ :: _, _, h1 => exact h1.elim
  | .str _ :: _, _, h1 => exact h1.elim
  | .ty _ :: _, _, h1 => exact h1.elim
  | .tup _ :: _, _, h1 => exact h1.elim
  | .lst _ :: _, _, h1 => exact h1.elim
  | .frz _ :: _, _, h1 => exact h1.elim
  | .ins _ _ :: _, _, h1 => exact h1.elim
  | .ref _ :: _, _, h1 => exact h1.elim
  | .int _ :: _ :: _, _, h1 => exact h1.elim
theorem fi_range2 (hm : X.mg "range" = none) (ha : FA X Wx [a, c] fs) (hg : Gl X "range" := by rfl) (hs : starEach [a, c] X.env = [(false, eval a X.env), (false, eval c X.env)] := by rfl) (hs2 : starEach [c] X.env = [(false, eval c X.env)] := by rfl) : FI X Wx tg (.Call (.Name "range" p) [a, c] [] pos) (appA fs itR2) := by
  refine ⟨_, pi_range2 hg hm ha hs hs2, fun σ w ρ S R hE hS h => ?_⟩
  refine bindAI hE hS h fun w1 ds vs S1 l1 e1 s1 r1 h1 => ?_
  by_cases q : ∃ i j, ds = [.int i, .int j]
  · obtain ⟨i, j, rfl⟩ := q
    obtain ⟨v, u, rfl, r2, r3⟩ := rpl2 r1
    cases (show v = .int i from r2)
    cases (show u = .int j from r3)
    have h1' : PostI (bX X) Wx σ w1 (if -(2 ^ 62) ≤ i ∧ i < 2 ^ 62 ∧ -(2 ^ 62) ≤ j ∧ j < 2 ^ 62 then .ok ((List.range (j - i).toNat).map fun k => D.int (i + (k : Nat))) S1 else .stuck) R := h1
    by_cases hj : -(2 ^ 62) ≤ i ∧ i < 2 ^ 62 ∧ -(2 ^ 62) ≤ j ∧ j < 2 ^ 62
    · rw [if_pos hj] at h1'
      exact ⟨i, j, rfl, hj, h1' w1 _ (Le.refl _) s1 (itr_ok (b := bX X) (w1 := w1) i (j - i).toNat)⟩
    · rw [if_neg hj] at h1'; exact h1'.elim
  · have : itR2 ds S1 = .stuck := by
      unfold itR2
      split
      · exact absurd ⟨_, _, rfl⟩ q
      · rfl
    rw [this] at h1
    exact h1.elim
end
/-! ### list comprehensions -/
theorem EnvR.wipe {b : B} {w : Wd} {ρ : Env} {σ : Sl} (h : EnvR b w ρ σ) : ∀ vs : List Nat, EnvR b w (wipeD ρ vs) (L2.wipe σ vs)
  | [] => h
  | v :: vs => by
    have ih := EnvR.wipe h vs
    refine ⟨by simp [wipeD, L2.wipe, ih.len], fun i d e => ?_⟩
    by_cases q : v = i
    · subst q
      have hl : v < ((wipeD ρ vs).set v none).length := (List.getElem?_eq_some_iff.mp e).1
      rw [List.length_set] at hl
      have e' : ((wipeD ρ vs).set v none)[v]? = some (some d) := e
      rw [List.getElem?_set_self hl] at e'
      cases e'
    · have e' : ((wipeD ρ vs).set v none)[i]? = some (some d) := e
      rw [List.getElem?_set_ne q] at e'
      obtain ⟨u, h1, h2⟩ := ih.at_ i d e'
      refine ⟨u, ?_, h2⟩
      show ((L2.wipe σ vs).set v none)[i]? = some (some u)
      rw [List.getElem?_set_ne q]
      exact h1
abbrev WF : WX := fun _ _ _ _ => False
def Wd.un (w : Wd) (h : List Addr) : Wd := ⟨w.μ, w.H, h⟩
section
variable {b : B} {w w1 : Wd} {S : Store} {d : Addr}
theorem mo_hide (l : Le w1 (w.un w1.hid)) (hd : w1.H d = none) (hh : w.hid = d :: w1.hid) : Mo w1 w := ⟨l.pre, fun a o h n => by
  obtain ⟨⟨h1, h2⟩, h3⟩ := l.mo.fz a o h n
  refine ⟨⟨h1, fun z => ?_⟩, h3⟩
  rw [hh] at z
  rcases List.mem_cons.mp z with z | z
  · rw [z, hd] at h; cases h
  · exact h2 z⟩
theorem mo_un (hh : w.hid = d :: w1.hid) : Mo w (w.un w1.hid) := ⟨List.prefix_refl _, fun a o h n => ⟨⟨n.1, fun z => n.2 (by rw [hh]; exact List.mem_cons_of_mem _ z)⟩, h⟩⟩
theorem str_un (st : StR b w S) (hh : w.hid = d :: w1.hid) : StR b (w.un w1.hid) S := ⟨st.len, st.nd, fun a ha => st.hd a (by rw [hh]; exact List.mem_cons_of_mem _ ha), fun n c e => by
  obtain ⟨a, h1, h2⟩ := st.at_ n c e
  exact ⟨a, h1, h2.mo (mo_un hh) rfl⟩⟩
/-- the hidden list is changed -/
theorem mo_hid {o : HO} (hd : d ∈ w.hid) : Mo w (w.up d o) := ⟨List.prefix_refl _, fun a u h n => ⟨n, by
  show upd w.H d o a = some u
  rw [upd_ne (fun z => n.2 (by rw [z]; exact hd))]
  exact h⟩⟩
theorem str_hid {o : HO} (st : StR b w S) (hd : d ∈ w.hid) : StR b (w.up d o) S := ⟨st.len, st.nd, fun a ha => ⟨(st.hd a ha).1, hd_up st a ha⟩, fun n c e => by
  obtain ⟨a, h1, h2⟩ := st.at_ n c e
  exact ⟨a, h1, h2.mo (mo_hid hd) (upd_ne (fun z => (st.hd d hd).1 (z ▸ List.mem_of_getElem? h1)))⟩⟩
theorem le_hid {o : HO} (l : Le w1 (w.un w1.hid)) (hd : w1.H d = none) : Le w1 ((w.up d o).un w1.hid) := ⟨l.pre, fun a u h n => by
  show upd w.H d o a = some u
  rw [upd_ne (ne_of_none h hd)]
  exact l.keep a u h n, l.new, rfl⟩
theorem le_un {w' : Wd} {h : List Addr} (l : Le w w') : Le (w.un h) (w'.un h) := ⟨l.pre, l.keep, l.new, rfl⟩
end
theorem PTs.imp {X : Cx} {e : List Expr} {t t' : TT} (h : PTs X e t) (i : ∀ σ H Q, t' σ H Q → t σ H Q) : PTs X e t' := ⟨fun pins s σ H Q I hw => h.run pins s σ H Q I (i σ H Q hw)⟩
abbrev FTs (X : Cx) (Wx : WX) (e : List Expr) (f : ST) : Prop := PTs X e (tT (bX X) Wx f)
section
variable {X : Cx} {Wx : WX}
theorem fts_nil : FTs X Wx [] yesT := PTs.imp pts_nil fun σ H Q ⟨w, ρ, S, e, hE, hS, h⟩ => by
  subst e
  exact h w (Le.refl _) hS
theorem fts_one {c : Expr} {f : ST} (h : FT X Wx c f) : FTs X Wx [c] f := pts_one h
theorem lc_of {wi : TI} {own : List (Str × Nat)} {t : Tg} {fi : SA} {ft : ST} {fe : SE} (hwi : ∀ (σ : Sl) (w : Wd) (ρ : Env) (S : Store) (R : It → Hp → Prop), EnvR (bX X) w ρ σ → StR (bX X) w S → PostI (bX X) Wx σ w (fi ρ S) R → wi σ w.H R)
    (hsl : ∀ i ∈ t.slots, i ∈ own.map (·.2)) {σ : Sl} {H : Hp} {Q : VK} (h : tE (bX X) Wx (lcE (own.map (·.2)) t fi ft fe) σ H Q) : tLc wi (tgG X.K t) (tT (bX X) WF ft) (tE (bX X) WF fe) (own.map (·.2)) σ H Q := by
  obtain ⟨w, ρ, S, e, hE, hS, h⟩ := h
  subst e
  refine hwi σ w ρ S _ hE hS ?_
  unfold lcE bnd at h
  cases q : fi ρ S with
  | exn x S1 => rw [q] at h; exact h
  | stuck => rw [q] at h; exact h.elim
  | ok ds S1 =>
    rw [q] at h
    dsimp only at h
    intro w1 J l1 s1 jok D hD
    have h := PostE.le l1 h
    by_cases hlen : ds.length ≤ lineN
    · rw [if_pos hlen] at h
      have hDf : Fz w1 D := s1.fresh hD
      refine ⟨fun i m H => m = ds.length - i ∧ i ≤ ds.length ∧ ∃ (wn : Wd) (Sn : Store) (accD : List D_) (accV : List V), wn.H = H ∧ wn.hid = D :: w1.hid ∧ Le w1 (wn.un w1.hid) ∧ StR (bX X) wn Sn ∧ wn.H D = some (.lst accV) ∧ RpL (bX X) wn accD accV ∧ accD.length ≤ i ∧
        PostE (bX X) Wx σ w1 (bns (lcGo t ft fe (wipeD ρ (own.map (·.2))) (ds.drop i)) (fun r => ret (.lst (accD ++ r))) Sn) Q, ⟨ds.length, by simp, Nat.zero_le _, ⟨w1.μ, upd w1.H D (.lst []), D :: w1.hid⟩, S1, [], [], rfl, rfl, ?_, ?_, upd_same, rfl, Nat.le_refl _, ?_⟩, ?_⟩
      · exact le_new hD
      · refine ⟨s1.len, s1.nd, fun a ha => ?_, fun n c e => ?_⟩
        · rcases List.mem_cons.mp ha with z | z
          · subst z; exact ⟨hDf.1, _, upd_same⟩
          · exact ⟨(s1.hd a z).1, hd_up s1 a z⟩
        · obtain ⟨a, h1, h2⟩ := s1.at_ n c e
          refine ⟨a, h1, h2.mo (mo_hide (w := ⟨w1.μ, upd w1.H D (.lst []), D :: w1.hid⟩) (le_new hD) hD rfl) (upd_ne (fun z => hDf.1 (z ▸ List.mem_of_getElem? h1)))⟩
      · rw [List.drop_zero]
        simpa using h
      · rintro i m H ⟨rfl, hi, wn, Sn, accD, accV, rfl, hh, l2, st, hacc, racc, hal, hp⟩
        have hDh : D ∈ wn.hid := by rw [hh]; exact List.mem_cons_self
        have m1 : Mo w1 wn := mo_hide l2 hD hh
        obtain ⟨jgo, jstop⟩ := jok i wn m1 fun p hp => st.fresh hp
        by_cases hlt : i < ds.length
        · have ed : ds[i]? = some ds[i] := List.getElem?_eq_getElem hlt
          obtain ⟨g1, g2⟩ := jgo _ ed
          refine .inr ⟨g1, _, fun H' z => z, fun x H' y => ?_⟩
          obtain ⟨w3, rfl, hw3, rx⟩ := g2 x H' y
          have l3 : Le wn w3 := by
            rcases hw3 with z | ⟨p, o, z1, z2⟩
            · rw [z]; exact Le.refl _
            · rw [z2]; exact le_new z1
          have st3 : StR (bX X) w3 Sn := by
            rcases hw3 with z | ⟨p, o, z1, z2⟩
            · rw [z]; exact st
            · rw [z2]; exact st.new z1
          have hdrop : ds.drop i = ds[i] :: ds.drop (i + 1) := (List.drop_eq_getElem_cons hlt)
          rw [hdrop] at hp
          unfold lcGo at hp
          cases qt : tgD t ds[i] (wipeD ρ (own.map (·.2))) with
          | none => rw [qt] at hp; exact hp.elim
          | some ρ' =>
            rw [qt] at hp
            have eW : EnvR (bX X) w3 (wipeD ρ (own.map (·.2))) (L2.wipe σ (own.map (·.2))) := (((hE.mono l1).mo m1).mono l3).wipe _
            obtain ⟨σ', e3, hw, hq⟩ := tg_of eW rx qt
            refine hq _ ⟨by rw [hw _ hsl, wipe_wipe], ?_⟩
            refine ⟨w3, ρ', Sn, rfl, e3, st3, ?_⟩
            unfold bns at hp
            dsimp only at hp
            cases qc : ft ρ' Sn with
            | exn x S4 => rw [qc] at hp; exact hp.elim
            | stuck => rw [qc] at hp; exact hp.elim
            | ok c S4 =>
              rw [qc] at hp
              intro w4 l4 st4
              have l2' : Le w1 (w4.un w1.hid) := (l2.trans (le_un l3)).trans (le_un l4)
              have hh4 : w4.hid = D :: w1.hid := (l4.hid.trans l3.hid).trans hh
              have k3 : w3.H D = some (.lst accV) := l3.keep D _ hacc (st.hd D hDh).1
              have hD3 : D ∈ w3.hid := by rw [l3.hid]; exact hDh
              have k4 : w4.H D = some (.lst accV) := l4.keep D _ k3 (st3.hd D hD3).1
              cases c with
              | false =>
                rw [if_neg Bool.false_ne_true]
                refine ⟨ds.length - (i + 1), by omega, rfl, hlt, w4, S4, accD, accV, rfl, hh4, l2', st4, k4, RpL.mono l4 _ _ (RpL.mono l3 _ _ racc), Nat.le_succ_of_le hal, ?_⟩
                exact hp
              | true =>
                rw [if_pos rfl]
                refine ⟨w4, ρ', S4, rfl, e3.mono l4, st4, ?_⟩
                have hp2 : PostE (bX X) Wx σ w1 (bns (bns (fe ρ') fun y => bns (lcGo t ft fe (wipeD ρ (own.map (·.2))) (ds.drop (i + 1))) fun r => ret (y :: r)) (fun r => ret (.lst (accD ++ r))) S4) Q := hp
                unfold bns at hp2
                dsimp only at hp2
                cases qe : fe ρ' S4 with
                | exn x S5 => rw [qe] at hp2; exact hp2.elim
                | stuck => rw [qe] at hp2; exact hp2.elim
                | ok y S5 =>
                  rw [qe] at hp2
                  dsimp only at hp2
                  intro w5 v l5 st5 ry
                  have hD4 : D ∈ w4.hid := by rw [hh4]; exact List.mem_cons_self
                  have hh5 : w5.hid = D :: w1.hid := l5.hid.trans hh4
                  have hD5 : D ∈ w5.hid := by rw [hh5]; exact List.mem_cons_self
                  have k5 : w5.H D = some (.lst accV) := l5.keep D _ k4 (st4.hd D hD4).1
                  have r5 : RpL (bX X) w5 accD accV := RpL.mono l5 _ _ (RpL.mono l4 _ _ (RpL.mono l3 _ _ racc))
                  refine ⟨accV, k5, ?_, ?_⟩
                  · have z1 := RpL.length racc
                    have z2 := lineN_eq
                    omega
                  refine ⟨ds.length - (i + 1), by omega, rfl, hlt, w5.up D (.lst (accV ++ [v])), S5, accD ++ [y], accV ++ [v], rfl, hh5, le_hid (l2'.trans (le_un l5)) hD, str_hid st5 hD5, upd_same, RpL.mo (mo_hid hD5) _ _ (RpL.append r5 (RpL.one ry)), by simp; omega, ?_⟩
                  unfold bns
                  cases qr : lcGo t ft fe (wipeD ρ (own.map (·.2))) (ds.drop (i + 1)) S5 with
                  | exn x S6 => rw [qr] at hp2; exact hp2.elim
                  | stuck => rw [qr] at hp2; exact hp2.elim
                  | ok r S6 =>
                    rw [qr] at hp2
                    have e1 : accD ++ [y] ++ r = accD ++ (y :: r) := by simp
                    dsimp only
                    rw [e1]
                    exact hp2
        · have e : i = ds.length := by omega
          refine .inl ⟨jstop e, ?_⟩
          rw [e, List.drop_length] at hp
          have hp' : PostE (bX X) Wx σ w1 (.ok (.lst (accD ++ [])) Sn) Q := hp
          rw [List.append_nil] at hp'
          refine hp' (wn.un w1.hid) (.ref D) l2 (str_un st hh) ⟨D, accV, rfl, ⟨⟨(st.hd D hDh).1, hDf.2⟩, hacc⟩, RpL.mo (mo_un hh) _ _ racc⟩
    · rw [if_neg hlen] at h; exact h.elim
theorem fe_lc {elt tg iter : Expr} {ifs : List Expr} {scope : Scope} {own : List (Str × Nat)} {pos : Pos} {t : Tg} {fi : SA} {ft : ST} {fe : SE} (hc : X.calm = true) (hN : X.N.Nodup) (hi : FI X Wx tg iter fi) (ok : BlkOk X.N X.env.scope scope own)
    (hsl : ∀ i ∈ t.slots, i ∈ own.map (·.2))
    (hg : ∀ (s : Shared) (H : Hp) (C : Addr) (cl : List (Str × Addr)) (fp : List Addr), PG (X.blk s H scope (compEnvC scope cl C X.env) fp) tg (tgG X.K t)) (ht : ∀ (s : Shared) (H : Hp) (C : Addr) (cl : List (Str × Addr)) (fp : List Addr), PTs (X.blk s H scope (compEnvC scope cl C X.env) fp) ifs (tT (bX X) WF ft))
    (he : ∀ (s : Shared) (H : Hp) (C : Addr) (cl : List (Str × Addr)) (fp : List Addr), PE (X.blk s H scope (compEnvC scope cl C X.env) fp) elt (tE (bX X) WF fe)) (hs : ∀ x, foldedSetIterable iter X.env x = pure x := by intro _; rfl) :
    FE X Wx (.ListComp elt [⟨tg, iter, ifs, 0⟩] scope pos) (lcE (own.map (·.2)) t fi ft fe) := by
  obtain ⟨wi, hpi, hwi⟩ := hi.ex
  exact PE.imp (pe_lc hc hN hpi ok hg ht he hs) fun σ H Q h => lc_of hwi hsl h
end
end F

set_option linter.all false
set_option maxRecDepth 100000
set_option maxHeartbeats 2000000
set_option autoImplicit false
namespace F
open PySem PySem.Spec PyProof.Rows L2
def PostS (b : B) (Wx : WX) (w : Wd) (o : OS) (E : Ends) : Prop := match o with
  | .fl (.nx ρ) S => ∀ w' σ, Le w w' → EnvR b w' ρ σ → StR b w' S → E.nx σ w'.H
  | .fl (.bk ρ) S => ∀ w' σ, Le w w' → EnvR b w' ρ σ → StR b w' S → E.bk σ w'.H
  | .fl (.ct ρ) S => ∀ w' σ, Le w w' → EnvR b w' ρ σ → StR b w' S → E.ct σ w'.H
  | .fl (.rt d) S => ∀ w' v, Le w w' → StR b w' S → Rp b w' d v → E.rt v w'.H
  | .fl (.xn x ρ) S => ∀ w' σ cls dd, Le w w' → EnvR b w' ρ σ → StR b w' S → XnR b w' x cls dd → Wx cls dd σ w'.H
  | .stuck => False
def tS (b : B) (Wx : WX) (f : SS) : TS := fun E σ H => ∃ w ρ S, w.H = H ∧ EnvR b w ρ σ ∧ StR b w S ∧ PostS b Wx w (f ρ S) E
abbrev FS (X : Cx) (Wx : WX) (st : Stmt) (f : SS) : Prop := PS X st (tS (bX X) Wx f)
abbrev FSs (X : Cx) (Wx : WX) (st : List Stmt) (f : SS) : Prop := PSs X st (tS (bX X) Wx f)
/-! ### the semantics -/
section
variable {b : B} {Wx : WX} {w w' : Wd} {σ : Sl}
theorem PostS.le {o : OS} {E : Ends} (l : Le w w') (h : PostS b Wx w o E) : PostS b Wx w' o E := by
  cases o with
  | stuck => exact h
  | fl f S =>
    cases f with
    | nx ρ => exact fun w2 s m => h w2 s (l.trans m)
    | bk ρ => exact fun w2 s m => h w2 s (l.trans m)
    | ct ρ => exact fun w2 s m => h w2 s (l.trans m)
    | rt d => exact fun w2 v m => h w2 v (l.trans m)
    | xn x ρ => exact fun w2 s c d m => h w2 s c d (l.trans m)
theorem PostS.imp {o : OS} {E E' : Ends} (h : PostS b Wx w o E) (hn : ∀ σ w, E.nx σ w → E'.nx σ w) (hb : ∀ σ w, E.bk σ w → E'.bk σ w) (hc : ∀ σ w, E.ct σ w → E'.ct σ w) (hr : ∀ σ w, E.rt σ w → E'.rt σ w) : PostS b Wx w o E' := by
  cases o with
  | stuck => exact h
  | fl f S =>
    cases f with
    | nx ρ => exact fun w2 s m e t => hn _ _ (h w2 s m e t)
    | bk ρ => exact fun w2 s m e t => hb _ _ (h w2 s m e t)
    | ct ρ => exact fun w2 s m e t => hc _ _ (h w2 s m e t)
    | rt d => exact fun w2 v m s r => hr _ _ (h w2 v m s r)
    | xn x ρ => exact h
theorem exE {f : SE} {k : D → Env → Store → OS} {ρ : Env} {S : Store} {R : VK} {E : Ends} (hE : EnvR b w ρ σ) (hS : StR b w S) (h : PostS b Wx w (exS f k ρ S) E)
    (hk : ∀ w1 d v S1, Le w w1 → EnvR b w1 ρ σ → StR b w1 S1 → Rp b w1 d v → PostS b Wx w1 (k d ρ S1) E → R v w1.H) : tE b Wx f σ w.H R := by
  refine ⟨w, ρ, S, rfl, hE, hS, ?_⟩
  unfold exS at h
  cases q : f ρ S with
  | ok d S1 =>
    rw [q] at h
    exact fun w1 v l st r => hk w1 d v S1 l (hE.mono l) st r (PostS.le l h)
  | exn x S1 =>
    rw [q] at h
    exact fun w1 c dd l st r => h w1 σ c dd l (hE.mono l) st r
  | stuck => rw [q] at h; exact h
theorem exT {f : ST} {k : Bool → Env → Store → OS} {ρ : Env} {S : Store} {R : Bool → Hp → Prop} {E : Ends} (hE : EnvR b w ρ σ) (hS : StR b w S) (h : PostS b Wx w (exS f k ρ S) E)
    (hk : ∀ w1 d S1, Le w w1 → EnvR b w1 ρ σ → StR b w1 S1 → PostS b Wx w1 (k d ρ S1) E → R d w1.H) : tT b Wx f σ w.H R := by
  refine ⟨w, ρ, S, rfl, hE, hS, ?_⟩
  unfold exS at h
  cases q : f ρ S with
  | ok d S1 =>
    rw [q] at h
    exact fun w1 l st => hk w1 d S1 l (hE.mono l) st (PostS.le l h)
  | exn x S1 =>
    rw [q] at h
    exact fun w1 c dd l st r => h w1 σ c dd l (hE.mono l) st r
  | stuck => rw [q] at h; exact h
end
section
variable {X : Cx} {Wx : WX} {st : Stmt} {rest : List Stmt} {f g : SS} {e c : Expr} {fe : SE} {fc : ST} {pos : Pos}
theorem fss_nil : FSs X Wx [] nxS := PSs.imp pss_nil fun E σ H ⟨w, ρ, S, e, hE, hS, h⟩ => by
  subst e
  exact h w σ (Le.refl _) hE hS
theorem fss_cons (h1 : FS X Wx st f) (h2 : FSs X Wx rest g) : FSs X Wx (st :: rest) (seqS f g) := PSs.imp (pss_cons h1 h2) fun E σ H ⟨w, ρ, S, e, hE, hS, h⟩ => by
  subst e
  refine ⟨w, ρ, S, rfl, hE, hS, ?_⟩
  unfold seqS at h
  cases q : f ρ S with
  | stuck => rw [q] at h; exact h.elim
  | fl fl S1 =>
    rw [q] at h
    cases fl with
    | nx ρ1 => exact fun w1 σ1 l e1 s1 => ⟨w1, ρ1, S1, rfl, e1, s1, PostS.le l h⟩
    | bk ρ1 => exact h
    | ct ρ1 => exact h
    | rt d => exact h
    | xn x ρ1 => exact h
theorem fss_one (h1 : FS X Wx st f) : FSs X Wx [st] f := pss_one h1
theorem fs_doc {x j pos pos'} : FS X Wx (.Expr (.Constant (.str x) j pos) pos') nxS := PS.imp ps_doc fun E σ H ⟨w, ρ, S, e, hE, hS, h⟩ => by
  subst e
  exact h w σ (Le.refl _) hE hS
theorem fs_pass {pos} : FS X Wx (.Pass pos) nxS := PS.imp ps_pass fun E σ H ⟨w, ρ, S, e, hE, hS, h⟩ => by
  subst e
  exact h w σ (Le.refl _) hE hS
theorem fs_expr (he : FE X Wx e fe) (hs : swapsWith e none pos.line X.env = pure false := by rfl) : FS X Wx (.Expr e pos) (dropS fe) := PS.imp (ps_expr he hs) fun E σ H ⟨w, ρ, S, e, hE, hS, h⟩ => by
  subst e
  exact exE hE hS h fun w1 d v S1 l1 e1 s1 r1 h1 => h1 w1 σ (Le.refl _) e1 s1
theorem fs_ret (he : FE X Wx e fe) : FS X Wx (.Return (some e) pos) (retS fe) := PS.imp (ps_ret he) fun E σ H ⟨w, ρ, S, e, hE, hS, h⟩ => by
  subst e
  exact exE hE hS h fun w1 d v S1 l1 e1 s1 r1 h1 => h1 w1 v (Le.refl _) s1 r1
theorem fs_retN : FS X Wx (.Return none pos) retN := PS.imp ps_retN fun E σ H ⟨w, ρ, S, e, hE, hS, h⟩ => by
  subst e
  exact h w .non (Le.refl _) hS rfl
theorem fs_if {a1 a2 : List Stmt} (hc : FT X Wx c fc) (ha : FSs X Wx a1 f) (hb : FSs X Wx a2 g) : FS X Wx (.If c a1 a2 pos) (ifS fc f g) := PS.imp (ps_if hc ha hb) fun E σ H ⟨w, ρ, S, e, hE, hS, h⟩ => by
  subst e
  refine exT hE hS h fun w1 d S1 l1 e1 s1 h1 => ?_
  cases d with
  | true => rw [if_pos rfl] at h1 ⊢; exact ⟨w1, ρ, S1, rfl, e1, s1, h1⟩
  | false => rw [if_neg Bool.false_ne_true] at h1 ⊢; exact ⟨w1, ρ, S1, rfl, e1, s1, h1⟩
theorem fs_never : FS X Wx st nevS := PS.imp ps_never fun E σ H ⟨w, ρ, S, e, hE, hS, h⟩ => h.elim
theorem asg_of {t : Tg} : ∀ E σ H, tS (bX X) Wx (asgS fe t) E σ H → tAsg (tE (bX X) Wx fe) (tgG X.K t) E σ H := fun E σ H ⟨w, ρ, S, e, hE, hS, h⟩ => by
  subst e
  refine exE hE hS h fun w1 d v S1 l1 e1 s1 r1 h1 => ?_
  cases q : tgD t d ρ with
  | none => rw [q] at h1; exact h1.elim
  | some ρ' =>
    rw [q] at h1
    obtain ⟨σ', e2, _, hq⟩ := tg_of e1 r1 q
    exact hq _ (h1 w1 σ' (Le.refl _) e2 s1)
/-- name = e, (a, b) = e -/
theorem fs_asg {tg : Expr} {t : Tg} (he : FE X Wx e fe) (hg : FG X tg t) (hs : swapsWithSole [tg] e pos.line X.env = pure false := by rfl) (hw : swappedStores [tg] e X.env = pure none := by rfl)
    (h1 : (assignEach [tg] X.env).map (·.2) = [assign tg X.env] := by rfl) : FS X Wx (.Assign [tg] e pos) (asgS fe t) := PS.imp (ps_asg he hg hs hw h1) asg_of
theorem fs_set {x : Str} {pos' : Pos} (i : Nat) (hN : X.N.Nodup) (he : FE X Wx e fe) (hi : X.N[i]? = some x := by rfl) (hx : Loc X.env.scope x := by first | exact Or.inl rfl | exact Or.inr rfl) (hs : swapsWith e (some (.Name x pos')) pos.line X.env = pure false := by rfl) (hf : X.fn x = true ∨ X.env.scope.names.lookup x = some .local := by first | exact .inl rfl | exact .inr rfl) :
    FS X Wx (.Assign [.Name x pos'] e pos) (asgS fe (.name i)) := PS.imp (ps_set hN hi hx he hs hf) asg_of
/-- name = [.. for ..] -/
theorem fs_setLc {i : Nat} {y : Str} {py : Pos} {elt tg iter : Expr} {ifs : List Expr} {scope : Scope} {own : List (Str × Nat)} {pos spos : Pos} {t : Tg} {fi : SA} {ft : ST} {fe : SE} (hc : X.calm = true) (hN : X.N.Nodup) (hi : FI X Wx tg iter fi) (ok : BlkOk X.N X.env.scope scope own)
    (hsl : ∀ i ∈ t.slots, i ∈ own.map (·.2))
    (hg : ∀ (s : Shared) (H : Hp) (C : Addr) (cl : List (Str × Addr)) (fp : List Addr), PG (X.blk s H scope (compEnvC scope cl C X.env) fp) tg (tgG X.K t)) (ht : ∀ (s : Shared) (H : Hp) (C : Addr) (cl : List (Str × Addr)) (fp : List Addr), PTs (X.blk s H scope (compEnvC scope cl C X.env) fp) ifs (tT (bX X) WF ft))
    (he : ∀ (s : Shared) (H : Hp) (C : Addr) (cl : List (Str × Addr)) (fp : List Addr), PE (X.blk s H scope (compEnvC scope cl C X.env) fp) elt (tE (bX X) WF fe)) (hy : X.N[i]? = some y := by rfl) (hyl : X.env.scope.names.lookup y = some .local := by rfl)
    (hsw : swapsWith (.ListComp elt [⟨tg, iter, ifs, 0⟩] scope pos) (some (.Name y py)) spos.line X.env = pure true := by exact sw_true rfl rfl rfl (by decide +kernel)) (hs : ∀ x, foldedSetIterable iter X.env x = pure x := by intro _; rfl) :
    FS X Wx (.Assign [.Name y py] (.ListComp elt [⟨tg, iter, ifs, 0⟩] scope pos) spos) (asgS (lcE (own.map (·.2)) t fi ft fe) (.name i)) := by
  obtain ⟨wi, hpi, hwi⟩ := hi.ex
  refine PS.imp (ps_setLc hc hN hy hyl hsw hpi ok hg ht he hs) fun E σ H h => ?_
  have h2 := asg_of (X := X) E σ H h
  exact lc_of hwi hsl h2
/-- for -/
theorem fs_for {tg iter : Expr} {body : List Stmt} {t : Tg} {fi : SA} (hp : PassesOwn (model X.prog X.w) X.A X.env X.xe) (hc : X.calm = true) (hi : FI X Wx tg iter fi) (hg : FG X tg t) (hb : FSs X Wx body f)
    (hs : ∀ x, foldedSetIterable iter X.env x = pure x := by intro _; rfl) : FS X Wx (.For tg iter body [] pos) (forS t fi f) := by
  obtain ⟨wi, hpi, hwi⟩ := hi.ex
  refine PS.imp (ps_for hp hc hpi hg hb hs) fun E σ H ⟨w, ρ, S, e, hE, hS, h⟩ => ?_
  subst e
  refine hwi σ w ρ S _ hE hS ?_
  unfold forS exS at h
  cases q : fi ρ S with
  | exn x S1 =>
    rw [q] at h
    exact fun w1 c dd l st r => h w1 σ c dd l (hE.mono l) st r
  | stuck => rw [q] at h; exact h.elim
  | ok ds S1 =>
    rw [q] at h
    dsimp only at h
    intro w1 J l1 s1 jok
    have h := PostS.le l1 h
    refine ⟨fun i m σ H => m = ds.length - i ∧ i ≤ ds.length ∧ ∃ (wn : Wd) (ρn : Env) (Sn : Store), wn.H = H ∧ Le w1 wn ∧ EnvR (bX X) wn ρn σ ∧ StR (bX X) wn Sn ∧ PostS (bX X) Wx wn (forGo t f (ds.drop i) ρn Sn) E, ⟨ds.length, by simp, Nat.zero_le _, w1, ρ, S1, rfl, Le.refl _, hE.mono l1, s1, by rw [List.drop_zero]; exact h⟩, ?_⟩
    rintro i m σn H ⟨rfl, hil, wn, ρn, Sn, rfl, l2, en, st, hp⟩
    obtain ⟨jgo, jstop⟩ := jok i wn l2.mo fun p hp => st.fresh hp
    by_cases hlt : i < ds.length
    · have ed : ds[i]? = some ds[i] := List.getElem?_eq_getElem hlt
      obtain ⟨g1, g2⟩ := jgo _ ed
      refine .inr ⟨g1, _, fun σ' H' z => z, fun x H' y => ?_⟩
      obtain ⟨w3, rfl, hw3, rx⟩ := g2 x H' y
      have l3 : Le wn w3 := by
        rcases hw3 with z | ⟨p, o, z1, z2⟩
        · rw [z]; exact Le.refl _
        · rw [z2]; exact le_new z1
      have st3 : StR (bX X) w3 Sn := by
        rcases hw3 with z | ⟨p, o, z1, z2⟩
        · rw [z]; exact st
        · rw [z2]; exact st.new z1
      have hdrop : ds.drop i = ds[i] :: ds.drop (i + 1) := (List.drop_eq_getElem_cons hlt)
      rw [hdrop] at hp
      unfold forGo at hp
      cases qt : tgD t ds[i] ρn with
      | none => rw [qt] at hp; exact hp.elim
      | some ρ' =>
        rw [qt] at hp
        dsimp only at hp
        obtain ⟨σ', e3, _, hq⟩ := tg_of (en.mono l3) rx qt
        refine hq _ ⟨w3, ρ', Sn, rfl, e3, st3, ?_⟩
        have hp := PostS.le l3 hp
        cases qf : f ρ' Sn with
        | stuck => rw [qf] at hp; exact hp.elim
        | fl fl S4 =>
          rw [qf] at hp
          cases fl with
          | nx ρ4 => exact fun w4 σ4 l4 e4 s4 => ⟨ds.length - (i + 1), by omega, rfl, hlt, w4, ρ4, S4, rfl, (l2.trans l3).trans l4, e4, s4, PostS.le l4 hp⟩
          | ct ρ4 => exact fun w4 σ4 l4 e4 s4 => ⟨ds.length - (i + 1), by omega, rfl, hlt, w4, ρ4, S4, rfl, (l2.trans l3).trans l4, e4, s4, PostS.le l4 hp⟩
          | bk ρ4 => exact hp
          | rt d => exact hp
          | xn x ρ4 => exact hp
    · have e : i = ds.length := by omega
      rw [e, List.drop_length] at hp
      exact .inl ⟨jstop e, hp wn σn (Le.refl _) en st⟩
/-- while, at most n turns -/
theorem fs_while {c : Expr} {body : List Stmt} (n : Nat) (hp : PassesOwn (model X.prog X.w) X.A X.env X.xe) (hc : FT X Wx c fc) (hb : FSs X Wx body f) : FS X Wx (.While c body [] pos) (whGo fc f n) := by
  refine PS.imp (ps_while hp hc hb) fun E σ H ⟨w, ρ, S, e, hE, hS, h⟩ => ?_
  subst e
  refine ⟨fun m σ H => ∃ (wn : Wd) (ρn : Env) (Sn : Store), wn.H = H ∧ EnvR (bX X) wn ρn σ ∧ StR (bX X) wn Sn ∧ PostS (bX X) Wx wn (whGo fc f m ρn Sn) E, ⟨n, w, ρ, S, rfl, hE, hS, h⟩, ?_⟩
  rintro m σn H ⟨wn, ρn, Sn, rfl, en, st, hm⟩
  cases m with
  | zero => exact hm.elim
  | succ m =>
    refine exT en st hm fun w1 d S1 l1 e1 s1 h1 => ?_
    cases d with
    | false => rw [if_neg Bool.false_ne_true] at h1 ⊢; exact h1 w1 σn (Le.refl _) e1 s1
    | true =>
      rw [if_pos rfl] at h1 ⊢
      refine ⟨_, fun σ' H' z => z, w1, ρn, S1, rfl, e1, s1, ?_⟩
      cases qf : f ρn S1 with
      | stuck => rw [qf] at h1; exact h1.elim
      | fl fl S4 =>
        rw [qf] at h1
        cases fl with
        | nx ρ4 => exact fun w4 σ4 l4 e4 s4 => ⟨m, Nat.lt_succ_self m, w4, ρ4, S4, rfl, e4, s4, PostS.le l4 h1⟩
        | ct ρ4 => exact fun w4 σ4 l4 e4 s4 => ⟨m, Nat.lt_succ_self m, w4, ρ4, S4, rfl, e4, s4, PostS.le l4 h1⟩
        | bk ρ4 => exact h1
        | rt d => exact h1
        | xn x ρ4 => exact h1
end
/-! ### a def -/
theorem env_start {b : B} {w : Wd} {ds : List D} {vs : List V} {N : List Str} (r : RpL b w ds vs) : EnvR b w (ds.map some ++ List.replicate (N.length - ds.length) none) (L2.start N vs) := by
  have hl := RpL.length r
  unfold L2.start
  refine ⟨by simp [hl], fun i d e => ?_⟩
  by_cases hi : i < ds.length
  · rw [List.getElem?_append_left (by simpa using hi), List.getElem?_map] at e
    cases q : ds[i]? with
    | none => rw [q] at e; cases e
    | some d' =>
      rw [q] at e
      cases e
      obtain ⟨v, h1, h2⟩ := RpL.get r q
      refine ⟨v, ?_, h2⟩
      rw [List.getElem?_append_left (by rw [List.length_map, ← hl]; exact hi), List.getElem?_map, h1]
      rfl
  · rw [List.getElem?_append_right (by simpa using hi)] at e
    rw [List.getElem?_replicate] at e
    split at e <;> cases e
section
variable {P : Program} {w : World} {K : PySem.W.Frag} {mg : Str → Option Value} {base : Heap}
theorem def_ok {x qual : Str} {params : Arguments} {body : List Stmt} {sc : Scope} {f : Addr} {fd : FuncData} {N ps : List Str} {k : Nat} {g : SS} (F : FunD K x qual params body sc [] [] f fd) (S : FnScope N ps sc) (hm : mg x = some (.ref f)) (hb : Binds K fd ps [])
    (hbody : ∀ (cdv : Value) (A : Around) (outer : List PySem.Env) (s : Shared) (H : Hp) (E : XK), Room k (A.deeper (envOfC qual sc s.heap.objs.size f cdv)) →
      FSs (cxOf (L2.CX P w) P w K mg base N qual sc f cdv A outer s H E) (fun cls d _ H => E cls d H) body g) : DefOk P w K mg base x (k + 1) ps.length (runB g N.length) := by
  refine ⟨f, fd, ps, rfl, ?_, hm, F.kp, hb⟩
  refine F.ok S (fun vs H Q E h => h.1) fun cdv A outer s H vs Q E hr ⟨hl, w1, ds, S1, e1, r1, s1, h⟩ => ⟨_, hbody cdv A outer s H E hr, w1, _, S1, e1, env_start (N := N) r1, s1, ?_⟩
  unfold runB at h
  cases q : g (ds.map some ++ List.replicate (N.length - ds.length) none) S1 with
  | stuck => rw [q] at h; exact h.elim
  | fl fl S2 =>
    rw [q] at h
    cases fl with
    | nx ρ => exact fun w2 σ l e s => h w2 .non l s rfl
    | rt d => exact h
    | xn x ρ => exact fun w2 σ c dd l e s r => h w2 c dd l s r
    | bk ρ => exact h.elim
    | ct ρ => exact h.elim
end
end F

set_option linter.all false
set_option maxRecDepth 100000
set_option maxHeartbeats 2000000
set_option autoImplicit false
/-! enumerate(tuple) -/
namespace F
open PySem PySem.Spec PyProof.Rows L2
open AutoSeq1 (wpAny_loadPart')
theorem meets_enumT (l : Addr) (items : Array Value) (n : Nat) (dct : Option Addr) (sl : Array (Option Value)) :
    Meets (Builtin.«enumerate.__new__» ⟨[.type "enumerate", .ref l], []⟩) (fun _ R s => s.heap.get? l = some { cls := .type "tuple", dict := dct, data := .seq items n, slots := sl } ∧
      R (.ok (.ret (.ref (s.heap.push { cls := .type "tuple_iterator", data := .fields #[.ref l, .int 0 0] }).objs.size)))
        { s with heap := (s.heap.push { cls := .type "tuple_iterator", data := .fields #[.ref l, .int 0 0] }).push { cls := .type "enumerate", data := .fields #[.none, .bool false, .ref s.heap.objs.size, rawInt 0, .none, .none] } }) :=
  .of_wp fun prog w A R s h => by
    obtain ⟨hp, g, d, tk, os⟩ := s; obtain ⟨hl, h⟩ := h
    have hsub := sub_enumerate
    have hL : Heap.IsTuple (Shared.heap ⟨hp, g, d, tk, os⟩) l items := ⟨_, hl, rfl, n, rfl⟩
    wp_walk using wpAny_loadPart' hl
    refine wpAny_stack_any fun st => wpAny_pure ?_
    split
    · rename_i c _ _ _ _ _
      cases (c == Value.type "enumerate")
      · wp_walk using wpAny_loadPart' hl, wpAny_pyIter_tuple hL
        exact ⟨_, rfl, h⟩
      · wp_walk using wpAny_loadPart' hl, wpAny_pyIter_tuple hL
        exact ⟨_, rfl, h⟩
    · wp_walk using wpAny_loadPart' hl, wpAny_pyIter_tuple hL
      exact ⟨_, rfl, h⟩
theorem call_enumT {prog : Program} {w : World} {A : Around} {E : Value → Shared → Prop} {s : Shared} {l : Addr} {items : Array Value} {Q : Value → Shared → Prop} (hL : s.heap.IsTuple l items)
    (h : ∀ h', IsEnum h' (s.heap.objs.size + 1) s.heap.objs.size 0 .none → h'.IsTupleIter s.heap.objs.size l 0 → h'.objs.size = s.heap.objs.size + 2 →
      (∀ b o, s.heap.get? b = some o → h'.get? b = some o) → Q (.ref (s.heap.objs.size + 1)) { s with heap := h' }) :
    wpAny (model prog w) A (call (.type "enumerate") [.ref l]) Q E s := by
  obtain ⟨⟨c, dct, dt, sl⟩, hl, hc, n, hd⟩ := hL
  replace hc : c = .type "tuple" := hc
  replace hd : dt = .seq items n := hd
  subst hc hd
  refine callType_new F.called_enumerate (by decide) (F.typeCall_enumerate_1 _) (F.newCall_enumerate_1 _) (fun obj => F.args_object_init_2 obj _) F.entry_enumerate_new (meets_enumT l items n dct sl) ⟨hl, ?_⟩
  have hz : (s.heap.push { cls := .type "tuple_iterator", data := .fields #[.ref l, .int 0 0] }).objs.size = s.heap.objs.size + 1 := Heap.size_push ..
  show _ ∧ _
  rw [hz]
  have he : IsEnum ((s.heap.push { cls := .type "tuple_iterator", data := .fields #[.ref l, .int 0 0] }).push { cls := .type "enumerate", data := .fields #[.none, .bool false, .ref s.heap.objs.size, rawInt 0, .none, .none] }) (s.heap.objs.size + 1) s.heap.objs.size 0 .none := by
    have := Heap.get?_push_size (s.heap.push { cls := .type "tuple_iterator", data := .fields #[.ref l, .int 0 0] }) (o := { cls := .type "enumerate", data := .fields #[.none, .bool false, .ref s.heap.objs.size, rawInt 0, .none, .none] }) rfl
    rw [hz] at this; exact this
  refine ⟨⟨_, he, rfl⟩, h _ he ⟨_, Heap.get?_push_of_some _ (Heap.get?_push_size _ rfl), rfl, rfl⟩ (by rw [Heap.size_push, hz]) fun b o x => Heap.get?_push_of_some _ (Heap.get?_push_of_some _ x)⟩
/-- the tuple at a, each item in a new pair -/
def IteT (K : PySem.W.Frag) (a : Addr) : It :=
  ⟨fun i H => ∃ (xs : List V) (x : V), SqT K H a xs ∧ xs[i]? = some x, fun i H v H' => ∃ T x, v = .ref T ∧ H T = none ∧ H' = upd H T (.tup [.int (i : Nat), x]) ∧ ∀ xs, SqT K H a xs → xs[i]? = some x, fun i H => ∃ xs : List V, SqT K H a xs ∧ xs.length = i⟩
theorem tup_apart {h : Heap} {it a : Addr} {i : Nat} {its : Array Value} (hit : h.IsTupleIter it a i) (hT : h.IsTuple a its) : a ≠ it := fun z => by
  subst z
  obtain ⟨o, e1, e2, _⟩ := hT
  obtain ⟨o', e3, e4, _⟩ := hit
  rw [e1] at e3
  cases e3
  rw [e2] at e4
  exact absurd e4 (by decide)
theorem turn_enumT {P : Program} {w : World} {K : PySem.W.Frag} {elts : List Expr} {kk : Nat} {tpos : Pos} (a e it : Addr) :
    Turn P w K (.Tuple elts kk tpos) (IteT K a) [e, it] e (fun i h => (∃ old, IsEnum h e it ((i : Nat) : Int) old) ∧ h.IsTupleIter it a i ∧ e ≠ it) where
  mem := by simp
  obj := fun i h st b hb => by
    obtain ⟨⟨old, he⟩, ⟨o, ho, hc, hd⟩, _⟩ := st
    have e' : b = e ∨ b = it := by simpa using hb
    rcases e' with z | z
    · rw [z]; exact ⟨_, he, fun v q => nomatch q⟩
    · rw [z]; exact ⟨o, ho, fun v q => by rw [hd] at q; cases q⟩
  keep := fun i h h' st k => let ⟨⟨old, he⟩, hi, hne⟩ := st; ⟨⟨old, k e (by simp) _ he⟩, hi.at fun o q => k it (by simp) o q, hne⟩
  item := by
    intro X hP hw hK hc i pins s σ H E I hf st hg
    subst hP hw hK
    obtain ⟨⟨old, he⟩, hit, hne⟩ := st
    obtain ⟨xs, x, hq, hx⟩ := hg
    obtain ⟨its, rv, p, hz⟩ := I.tuple hq
    obtain ⟨u, hu, ru⟩ := rv.get hx
    have hil : i < its.toArray.size := by simp; exact (List.getElem?_eq_some_iff.mp hu).1
    have hel : e < s.heap.objs.size := Heap.lt_size he
    have hIt : it < s.heap.objs.size := by obtain ⟨_, q, _⟩ := hit; exact Heap.lt_size q
    have hT : s.heap.IsTuple a its.toArray := p
    have hea : e ≠ a := fun z => by
      subst z
      obtain ⟨o, e1, e2, _⟩ := hT
      have e3 := Option.some.inj (he.symm.trans e1)
      rw [← e3] at e2
      simp at e2
    have Dr := Draws.tuple (prog := X.prog) (w := X.w) (A := X.A.in1) (I.ok.hd hc) it a (tup_apart hit hT) its.toArray
    refine wpAny_pyNext_enum_itemD Dr he ⟨hit, hT⟩ hil hne (by simp; exact ⟨hne, hea⟩) fun x' h' tk hx' ho hst hTt hsz hk => ?_
    have ex : x' = u := by
      have h1 : its.toArray[i]? = some x' := hx'
      have h2 : its.toArray[i]? = some u := by simpa using hu
      rw [h1] at h2; exact Option.some.inj h2
    subst ex
    refine ⟨_, rfl, wpAny_letOwnedTupleGo_enum (s := { s with heap := h', toks := tk + 1 }) ho fun h'' he' sb => ?_⟩
    have hT2 : h''.get? s.heap.objs.size = some { cls := .type "tuple", data := .seq #[.int i tk, x'] } := (sb.2 _ (Nat.ne_of_gt hel)).trans hTt
    have new : ObjOk X.prog X.w (upd H s.heap.objs.size (.tup [.int (i : Nat), x])) h'' s.heap.objs.size (.tup [.int (i : Nat), x]) :=
      ⟨by show 2 ≤ sizeLine; decide, [.int i tk, x'], .cons ⟨_, rfl⟩ (.cons ru .nil), ⟨_, hT2, rfl, _, rfl⟩⟩
    have I1 : Inv X pins σ (upd H s.heap.objs.size (.tup [.int (i : Nat), x])) { s with heap := h'', toks := tk + 1 } :=
      I.turnedNew (ch := [e, it]) (fun b ob hb q => (sb.2 b (fun z => hb (by simp [z]))).trans (hk b ob (fun z => hb (by simp [z])) (fun z => hb (by simp [z])) q)) hf (Nat.le_refl _) new
    refine ⟨.ref s.heap.objs.size, _, I1, rfl, ⟨_, x, rfl, I.hok.fresh (Nat.le_refl _), rfl, fun ys hy => by rw [I.tuple_inj hy hq]; exact hx⟩, ⟨⟨x', ?_⟩, hst.1.at fun o q => (sb.2 it (Ne.symm hne)).trans q, hne⟩, fun b hb => ?_⟩
    · have e1 : ((i + 1 : Nat) : Int) = (i : Int) + 1 := by omega
      rw [e1]; exact he'
    · have hb' : b < s.heap.objs.size := by
        have e' : b = e ∨ b = it := by simpa using hb
        rcases e' with z | z
        · rw [z]; exact hel
        · rw [z]; exact hIt
      rw [upd_ne (Nat.ne_of_lt hb')]
      exact (hf b hb).1
  done := by
    intro X hP hw hK hc i pins s σ H E I hf st hg
    subst hP hw hK
    obtain ⟨⟨old, he⟩, hit, hne⟩ := st
    obtain ⟨xs, hq, hx⟩ := hg
    obtain ⟨its, rv, p, hz⟩ := I.tuple hq
    obtain ⟨f0, f1, f2, f3, f4, f5⟩ := hf it (by simp)
    have hl := rv.length
    have hT : s.heap.IsTuple a its.toArray := p
    have Dr := Draws.tuple (prog := X.prog) (w := X.w) (A := X.A.in1) (I.ok.hd hc) it a (tup_apart hit hT) its.toArray
    have ei : i = its.toArray.size := by simp; omega
    subst ei
    exact wpAny_pyNext_enum_endD Dr he ⟨hit, hT⟩ fun h' eb => ⟨rfl, I.turned (t' := s.toks) (fun b o hb q => eb b o hb q) f0 f1 f3 f4 f5⟩
  self := fun A i s Q E st h => let ⟨⟨_, he⟩, _⟩ := st; wpAny_pyIter_enum he h
def iEnumT (K : PySem.W.Frag) (ta : TA) : TI := fun σ H R => ta σ H fun vs H1 => ∃ a xs, vs = [.ref a] ∧ SqT K H1 a xs ∧ R (IteT K a) H1
theorem pi_enumT {X : Cx} {e : Expr} {ta : TA} {p pos tpos : Pos} {elts : List Expr} {kk : Nat} (hg : Gl X "enumerate") (hm : X.mg "enumerate" = none) (ha : PA X [e] ta) (hs : starEach [e] X.env = [(false, eval e X.env)] := by rfl) : PI X (.Tuple elts kk tpos) (.Call (.Name "enumerate" p) [e] [] pos) (iEnumT X.K ta) := by
  refine ⟨fun pins s σ H R I h => ?_⟩
  refine Call_ (ld_blt I hg hm boot_enumerate (PyProof.Rows.callWith_type1 (thn (ha.run pos pins s σ H _ I h) fun us s1 ⟨vs, H1, I1, r1, q1⟩ => ?_) hs rfl))
  obtain ⟨a, xs, ex, hq, q⟩ := q1
  subst ex
  cases r1 with
  | cons r rr =>
    cases rr
    cases r
    obtain ⟨its, rv, p', hz⟩ := I1.tuple hq
    refine call_enumT (show s1.heap.IsTuple a its.toArray from p') fun h' he hit hsz hk => wpAny_pyIter_enum he ?_
    have I2 : Inv X pins σ H1 { s1 with heap := h' } := I1.kept (t' := s1.toks) hk
    refine ⟨s1.heap.objs.size + 1, [s1.heap.objs.size + 1, s1.heap.objs.size], _, _, H1, rfl, I2, turn_enumT a (s1.heap.objs.size + 1) s1.heap.objs.size, ⟨⟨.none, he⟩, hit, Nat.succ_ne_self _⟩, fun b hb => ?_, q⟩
    have e' : b = s1.heap.objs.size + 1 ∨ b = s1.heap.objs.size := by simpa using hb
    have hle : s1.heap.objs.size ≤ b := by
      rcases e' with z | z
      · rw [z]; exact Nat.le_add_right _ _
      · rw [z]; exact Nat.le_refl _
    exact I1.fpOk hle (I1.hok.fresh hle)
theorem enumL_get {ds : List D} {i : Nat} {e : D} (h : (enumL ds)[i]? = some e) : ∃ d, ds[i]? = some d ∧ e = .tup [.int (i : Nat), d] := by
  unfold enumL at h
  rw [List.getElem?_zipWith] at h
  cases q1 : (List.range ds.length)[i]? with
  | none => rw [q1] at h; cases h
  | some k =>
    cases q2 : ds[i]? with
    | none => rw [q1, q2] at h; cases h
    | some d =>
      rw [q1, q2] at h
      obtain ⟨hi, he⟩ := List.getElem?_eq_some_iff.mp q1
      rw [List.getElem_range] at he
      subst he
      exact ⟨d, rfl, (Option.some.inj h).symm⟩
theorem enumL_len (ds : List D) : (enumL ds).length = ds.length := by unfold enumL; simp
section
variable {X : Cx} {Wx : WX} {tg a c : Expr} {pos p : Pos} {fa fc : SE} {fs : SA}
theorem en_pair {b : B} {w2 : Wd} {i : Nat} {T : Addr} {d : D} {v : V} (hn : w2.H T = none) (hf : Fz w2 T) (r : Rp b w2 d v) : Rp b (w2.up T (.tup [.int (i : Nat), v])) (.tup [.int (i : Nat), d]) (.ref T) :=
  ⟨T, _, rfl, .inl ⟨hf, upd_same⟩, ⟨_, _, rfl, rfl, RpL.one (Rp.mono (le_new hn) _ _ r)⟩⟩
theorem ite_ok {b : B} {w1 : Wd} {a : Addr} {vs : List V} {ds : List D} (h : LstAt w1 a vs ∨ FrzAt b w1 a vs) (r : RpL b w1 ds vs) : ItOk b (Ite b.K a) (enumL ds) w1 := by
  intro i w2 m hfr
  have hs : SqL b.K w2.H a vs := sqL_still m h
  refine ⟨fun e he => ?_, fun e => ⟨vs, hs, by rw [e, enumL_len, RpL.length r]; exact Nat.le_refl _⟩⟩
  obtain ⟨d, h0, rfl⟩ := enumL_get he
  obtain ⟨v, h1, h2⟩ := RpL.get r h0
  refine ⟨⟨vs, v, hs, h1⟩, fun x H' ⟨T, y, e1, e2, e3, e4⟩ => ⟨w2.up T (.tup [.int (i : Nat), v]), ?_, .inr ⟨T, _, e2, rfl⟩, ?_⟩⟩
  · have := e4 vs hs
    rw [h1] at this; cases this
    exact e3.symm
  · rw [e1]
    exact en_pair e2 (hfr T e2) (Rp.mo m d v h2)
theorem iteT_ok {b : B} {w1 : Wd} {a : Addr} {vs : List V} {ds : List D} (h : TupAt b w1 a vs) (r : RpL b w1 ds vs) : ItOk b (IteT b.K a) (enumL ds) w1 := by
  intro i w2 m hfr
  have hs : SqT b.K w2.H a vs := tup_still m h
  refine ⟨fun e he => ?_, fun e => ⟨vs, hs, by rw [e, enumL_len, RpL.length r]⟩⟩
  obtain ⟨d, h0, rfl⟩ := enumL_get he
  obtain ⟨v, h1, h2⟩ := RpL.get r h0
  refine ⟨⟨vs, v, hs, h1⟩, fun x H' ⟨T, y, e1, e2, e3, e4⟩ => ⟨w2.up T (.tup [.int (i : Nat), v]), ?_, .inr ⟨T, _, e2, rfl⟩, ?_⟩⟩
  · have := e4 vs hs
    rw [h1] at this; cases this
    exact e3.symm
  · rw [e1]
    exact en_pair e2 (hfr T e2) (Rp.mo m d v h2)
theorem fi_enum {elts : List Expr} {kk : Nat} {tpos : Pos} (hm : X.mg "enumerate" = none) (ha : FA X Wx [a] fs) (hg : Gl X "enumerate" := by rfl) (hs : starEach [a] X.env = [(false, eval a X.env)] := by rfl) : FI X Wx (.Tuple elts kk tpos) (.Call (.Name "enumerate" p) [a] [] pos) (itEn fs) := by
  refine ⟨_, pi_or (pi_enum hg hm ha hs) (pi_enumT hg hm ha hs), fun σ w ρ S R hE hS h => ?_⟩
  unfold itEn at h
  have h' := h
  unfold bnd at h'
  cases q : fs ρ S with
  | ok vs S1 =>
    rw [q] at h'
    dsimp only at h'
    match vs, q, h' with
    | [d], q, h' =>
      cases d with
      | lst ds =>
        refine .inl ⟨w, ρ, S, rfl, hE, hS, ?_⟩
        rw [q]
        intro w1 v l st r
        obtain ⟨u, rfl, p, vs, rfl, t, r⟩ := rpl1 r
        exact ⟨p, vs, rfl, t.sq, h' w1 _ l st (ite_ok (.inl t) r)⟩
      | frz ds =>
        refine .inl ⟨w, ρ, S, rfl, hE, hS, ?_⟩
        rw [q]
        intro w1 v l st r
        obtain ⟨u, rfl, p, vs, rfl, t, r⟩ := rpl1 r
        exact ⟨p, vs, rfl, t.sq, h' w1 _ l st (ite_ok (.inr t) r)⟩
      | tup ds =>
        refine .inr ⟨w, ρ, S, rfl, hE, hS, ?_⟩
        rw [q]
        intro w1 v l st r
        obtain ⟨u, rfl, p, vs, rfl, t, r⟩ := rpl1 r
        exact ⟨p, vs, rfl, t.sq, h' w1 _ l st (iteT_ok t r)⟩
      | _ => exact h'.elim
    | [], _, h' => exact h'.elim
    | _ :: _ :: _, _, h' => exact h'.elim
  | exn x S1 =>
    rw [q] at h'
    refine .inl ⟨w, ρ, S, rfl, hE, hS, ?_⟩
    rw [q]
    exact h'
  | stuck => rw [q] at h'; exact h'.elim
/-! ### a cell's list grows, is stored in -/
theorem fe_append {apos : Pos} (ho : FE X Wx a fa) (hc : FA X Wx [c] fs) (hbase : attributeBase a "append" X.env (eval a X.env) = eval a X.env := by rfl)
    (hfew : ((backTo pos (starEach [c] X.env)).all (fun x => !x.1) && (backToKw pos (keywordEach [] X.env)).all (fun x => x.1.isSome)
      && decide ([c].length + ([] : List Keyword).length + (if ([] : List Keyword).isEmpty then 0 else 1) < 30)) = true := by rfl)
    (hline : (apos.endLine == pos.line) = true := by rfl) (hs : starEach [c] X.env = (false, eval c X.env) :: starEach [] X.env := by rfl) (hplain : (backTo pos (starEach [] X.env)).any (·.1) = false := by rfl) :
    FE X Wx (.Call (.Attribute a "append" apos) [c] [] pos) (mtE fa fs appD) :=
  PE.imp (pe_bm PySem.F.plainAttrs_list PySem.F.slot_list_append PySem.F.type_list_append mt_append ho hc hbase hfew hline hs hplain) fun σ H Q ⟨w, ρ, S, e, hE, hS, h⟩ => by
    subst e
    refine bindE hE hS h fun w1 d v S1 l1 e1 s1 r1 h1 => ?_
    cases q : lv S1 d with
    | none => unfold bnd chkL at h1; dsimp only at h1; rw [q] at h1; exact h1.elim
    | some ds0 =>
      have h1 : PostE (bX X) Wx σ w1 (bnd (fs ρ) (g1 (appD d)) S1) Q := by
        unfold bnd chkL at h1
        dsimp only at h1
        rw [q] at h1
        exact h1
      obtain ⟨p, vs, rfl, t, _⟩ := lv_at s1 q r1
      refine ⟨.inl ⟨rfl, vs, .inl (.inl t)⟩, ?_⟩
      refine bindAE e1 s1 h1 fun w2 ds us S2 l2 e2 s2 r2 h2 => ?_
      match ds, r2, h2 with
      | [y], r2, h2 =>
        obtain ⟨u, rfl, r3⟩ := rpl1 r2
        have h2 : PostE (bX X) Wx σ w2 (appD d y S2) Q := h2
        unfold appD at h2
        cases d with
        | ref n =>
          dsimp only at h2
          obtain ⟨p', hp, ep⟩ := Rp.mono l2 _ _ r1
          cases ep
          obtain ⟨cc, hcc, hat⟩ := s2.cell hp
          rw [hcc] at h2
          cases cc with
          | lst es =>
            dsimp only at h2
            obtain ⟨xs, hx, rx⟩ := hat
            by_cases hl : es.length < lineN
            · rw [if_pos hl] at h2
              refine ⟨p, xs, u, rfl, rfl, hx, by rw [← RpL.length rx, ← lineN_eq]; exact hl, ?_⟩
              have hm : p ∈ w2.μ := List.mem_of_getElem? hp
              refine h2 (w2.up p (.lst (xs ++ [u]))) .non (le_mut hm) (s2.mut hp ⟨_, upd_same, ?_⟩) rfl
              exact RpL.append (RpL.mono (le_mut hm) _ _ rx) (RpL.one (Rp.mono (le_mut hm) _ _ r3))
            · rw [if_neg hl] at h2; exact h2.elim
          | ins _ _ => exact h2.elim
        | _ => exact h2.elim
      | [], _, h2 => exact h2.elim
      | _ :: _ :: _, _, h2 => exact h2.elim
/-- o[i] = v, o a cell's list -/
theorem fs_setit {o i e : Expr} {fo fi fe : SE} {p' : Pos} (he : FE X Wx e fe) (ho : FE X Wx o fo) (hi : FE X Wx i fi) (hs : swapsWithSole [.Subscript o i p'] e pos.line X.env = pure false := by rfl) (hw : swappedStores [.Subscript o i p'] e X.env = pure none := by rfl)
    (h1 : (assignEach [.Subscript o i p'] X.env).map (·.2) = [assign (.Subscript o i p') X.env] := by rfl)
    (ha : ∀ v, assign (.Subscript o i p') X.env v = (do
      let ov ← holding [v] (eval o X.env)
      let iv ← holding [v, ov] (eval i X.env)
      standAt p'
      holding [v, ov, iv] (setItem ov iv v)
      release [v, ov, iv] []) := by intro _; rfl) : FS X Wx (.Assign [.Subscript o i p'] e pos) (setItS fe fo fi) :=
  PS.imp (ps_asg he (pg_sub ho hi set_list ha) hs hw h1) fun E σ H ⟨w, ρ, S, e, hE, hS, h⟩ => by
    subst e
    refine exE hE hS h fun w1 d v S1 l1 e1 s1 r1 h1 => ?_
    refine exE e1 s1 h1 fun w2 d2 v2 S2 l2 e2 s2 r2 h2 => ?_
    refine exE e2 s2 h2 fun w3 d3 v3 S3 l3 e3 s3 r3 h3 => ?_
    cases d2 with
    | ref n =>
      cases d3 with
      | int j =>
        dsimp only at h3
        obtain ⟨p, hp, rfl⟩ := Rp.mono l3 _ _ r2
        obtain ⟨cc, hcc, hat⟩ := s3.cell hp
        rw [hcc] at h3
        cases cc with
        | lst es =>
          dsimp only at h3
          obtain ⟨xs, hx, rx⟩ := hat
          cases q : pos? es.length j with
          | none => rw [q] at h3; exact h3.elim
          | some m =>
            rw [q] at h3
            rw [pos_eq] at q
            have hm : p ∈ w3.μ := List.mem_of_getElem? hp
            refine ⟨p, xs, j, m, rfl, r3, hx, by rw [← RpL.length rx]; exact q, ?_⟩
            refine h3 (w3.up p (.lst (xs.set m v))) σ (le_mut hm) (e3.mono (le_mut hm)) (s3.mut hp ⟨_, upd_same, ?_⟩)
            exact RpL.set _ (RpL.mono (le_mut hm) _ _ rx) (Rp.mono (le_mut hm) _ _ (Rp.mono l3 _ _ (Rp.mono l2 _ _ r1)))
        | ins _ _ => exact h3.elim
      | _ => exact h3.elim
    | _ => exact h3.elim
theorem fe_repC (ha : FE X Wx a fa) (hc : FE X Wx c fc) : FE X Wx (.BinOp a .Mult c pos) (op2 repC fa fc) := by
  refine fe_op op_rep ?_ ha hc
  intro Wx σ w S d e x y Q st rd re h
  cases e with
  | int k =>
    unfold repC at h
    dsimp only at h
    cases q1 : lv S d with
    | none => rw [q1] at h; exact h.elim
    | some ds =>
      rw [q1] at h
      dsimp only at h
      obtain ⟨p, vs, rfl, t1, r1⟩ := lv_at st q1 rd
      by_cases hl : -(2 ^ 63) ≤ k ∧ k < 2 ^ 63 ∧ ds.length * k.toNat ≤ lineN
      · rw [if_pos hl] at h
        refine ⟨p, k, vs, rfl, re, t1, hl.1, hl.2.1, ?_, fun q hq => PostE.newC h st (RpL.rep _ r1) hq⟩
        rw [← RpL.length r1, ← lineN_eq]; exact hl.2.2
      · rw [if_neg hl] at h; exact h.elim
  | _ => exact h.elim
theorem fe_addC (ha : FE X Wx a fa) (hc : FE X Wx c fc) : FE X Wx (.BinOp a .Add c pos) (op2 addC fa fc) := by
  refine fe_op op_cat ?_ ha hc
  intro Wx σ w S d e x y Q st rd re h
  unfold addC at h
  cases q1 : lv S d with
  | none => rw [q1] at h; exact h.elim
  | some ds =>
    cases q2 : lv S e with
    | none => rw [q1, q2] at h; exact h.elim
    | some es =>
      rw [q1, q2] at h
      dsimp only at h
      obtain ⟨p1, vs1, rfl, t1, r1⟩ := lv_at st q1 rd
      obtain ⟨p2, vs2, rfl, t2, r2⟩ := lv_at st q2 re
      by_cases hl : ds.length + es.length ≤ lineN
      · rw [if_pos hl] at h
        refine ⟨p1, p2, vs1, vs2, rfl, rfl, t1, t2, ?_, fun q hq => PostE.newC h st (RpL.append r1 r2) hq⟩
        rw [← RpL.length r1, ← RpL.length r2, ← lineN_eq]; exact hl
      · rw [if_neg hl] at h; exact h.elim
/-! ### range with a step of -1 -/
theorem fi_range3 {c2 : Expr} (hm : X.mg "range" = none) (ha : FA X Wx [a, c, c2] fs) (hg : Gl X "range" := by rfl) (hs : starEach [a, c, c2] X.env = (false, eval a X.env) :: starEach [c, c2] X.env := by rfl) (hpl : (backTo pos (starEach [c, c2] X.env)).any (·.1) = false := by rfl) : FI X Wx tg (.Call (.Name "range" p) [a, c, c2] [] pos) (appA fs itR3) := by
  refine ⟨_, pi_range3 hg hm ha hs hpl, fun σ w ρ S R hE hS h => ?_⟩
  refine bindAI hE hS h fun w1 ds vs S1 l1 e1 s1 r1 h1 => ?_
  by_cases q : ∃ i j, ds = [.int i, .int j, .int (-1)]
  · obtain ⟨i, j, rfl⟩ := q
    obtain ⟨v, u, rfl, r2, r3⟩ := r1
    obtain ⟨v2, v3, rfl, r4, r5⟩ := rpl2 r3
    cases (show v = .int i from r2)
    cases (show v2 = .int j from r4)
    cases (show v3 = .int (-1) from r5)
    have h1' : PostI (bX X) Wx σ w1 (if -(2 ^ 62) ≤ i ∧ i < 2 ^ 62 ∧ -(2 ^ 62) ≤ j ∧ j < 2 ^ 62 then .ok ((List.range (i - j).toNat).map fun k => D.int (i - (k : Nat))) S1 else .stuck) R := h1
    by_cases hj : -(2 ^ 62) ≤ i ∧ i < 2 ^ 62 ∧ -(2 ^ 62) ≤ j ∧ j < 2 ^ 62
    · rw [if_pos hj] at h1'
      refine ⟨i, j, -1, _, rfl, RgC.neg hj.1 hj.2.1 hj.2.2.1 hj.2.2.2, h1' w1 _ (Le.refl _) s1 ?_⟩
      intro m w2 _ _
      refine ⟨fun d e => ?_, fun e => by rw [e, List.length_map, List.length_range]; exact Nat.le_refl _⟩
      rw [List.getElem?_map] at e
      cases q : (List.range (i - j).toNat)[m]? with
      | none => rw [q] at e; cases e
      | some k =>
        rw [q] at e
        obtain ⟨hi, he⟩ := List.getElem?_eq_some_iff.mp q
        rw [List.length_range] at hi
        rw [List.getElem_range] at he
        subst he
        cases (show D.int (i - (m : Nat)) = d from Option.some.inj e)
        refine ⟨hi, fun x H' ⟨e1, e2⟩ => ⟨w2, e1.symm, .inl rfl, ?_⟩⟩
        rw [e2]
        show V.int (i + (m : Nat) * -1) = V.int (i - (m : Nat))
        congr 1
        omega
    · rw [if_neg hj] at h1'; exact h1'.elim
  · have : itR3 ds S1 = .stuck := by
      unfold itR3
      split
      · exact absurd ⟨_, _, rfl⟩ q
      · rfl
    rw [this] at h1
    exact h1.elim
end
end F

set_option linter.all false
set_option maxRecDepth 100000
set_option maxHeartbeats 2000000
set_option autoImplicit false
namespace F
open PySem PySem.Spec PyProof.Rows L2
/-! ### a def's own cells are closed behind it -/
section
variable {b : B} {w : Wd} {S : Store} {m : Nat}
/-- the world with the first m cells alone -/
def Wd.first (w : Wd) (m : Nat) : Wd := ⟨w.μ.take m, w.H, w.hid⟩
theorem fz_first {a : Addr} (h : Fz w a) : Fz (w.first m) a := ⟨fun z => h.1 ((List.take_sublist _ _).subset z), h.2⟩
mutual
theorem Rp.first : ∀ (d : D) (v : V), Rp b w d v → d.bel m = true → Rp b (w.first m) d v
  | .non, v, h, _ => h
  | .bl _, v, h, _ => h
  | .int _, v, h, _ => h
  | .str _, v, h, _ => h
  | .ty _, v, h, _ => h
  | .tup ds, v, h, c => by
    obtain ⟨a, vs, e, t, r⟩ := h
    refine ⟨a, vs, e, ?_, RpL.first ds vs r (by simpa [D.bel] using c)⟩
    rcases t with ⟨n, t⟩ | t
    · exact .inl ⟨fz_first n, t⟩
    · exact .inr t
  | .lst ds, v, h, c => by
    obtain ⟨a, vs, e, ⟨n, t⟩, r⟩ := h
    exact ⟨a, vs, e, ⟨fz_first n, t⟩, RpL.first ds vs r (by simpa [D.bel] using c)⟩
  | .frz ds, v, h, c => by
    obtain ⟨a, vs, e, t, r⟩ := h
    refine ⟨a, vs, e, ?_, RpL.first ds vs r (by simpa [D.bel] using c)⟩
    rcases t with ⟨n, t⟩ | t
    · exact .inl ⟨fz_first n, t⟩
    · exact .inr t
  | .ins cn fs, v, h, c => by
    obtain ⟨a, cc, dx, vs, e, mm, n, t, r⟩ := h
    exact ⟨a, cc, dx, vs, e, mm, fz_first n, t, RpF.first fs vs r (by simpa [D.bel] using c)⟩
  | .ref n, v, h, c => by
    obtain ⟨a, e, q⟩ := h
    refine ⟨a, ?_, q⟩
    have hn : n < m := by simpa [D.bel] using c
    show (w.μ.take m)[n]? = some a
    rw [List.getElem?_take_of_lt hn]
    exact e
theorem RpL.first : ∀ (ds : List D) (vs : List V), RpL b w ds vs → belL m ds = true → RpL b (w.first m) ds vs
  | [], vs, h, _ => h
  | d :: ds, vs, h, c => by
    obtain ⟨v, r, e, h1, h2⟩ := h
    have c' : d.bel m = true ∧ belL m ds = true := by simpa [belL] using c
    exact ⟨v, r, e, Rp.first d v h1 c'.1, RpL.first ds r h2 c'.2⟩
theorem RpF.first : ∀ (ds : List (Str × D)) (vs : List (Str × V)), RpF b w ds vs → belF m ds = true → RpF b (w.first m) ds vs
  | [], vs, h, _ => h
  | (f, d) :: ds, vs, h, c => by
    obtain ⟨v, r, e, h1, h2⟩ := h
    have c' : d.bel m = true ∧ belF m ds = true := by simpa [belF] using c
    exact ⟨v, r, e, Rp.first d v h1 c'.1, RpF.first ds r h2 c'.2⟩
end
mutual
theorem Rp.res (st : StR b w S) : ∀ (d e : D) (v : V), Rp b w d v → d.res m S = some e → Rp b (w.first m) e v
  | .non, e, v, h, q => by cases (show D.non = e by simpa [D.res, D.bel] using q); exact h
  | .bl k, e, v, h, q => by cases (show D.bl k = e by simpa [D.res, D.bel] using q); exact h
  | .int k, e, v, h, q => by cases (show D.int k = e by simpa [D.res, D.bel] using q); exact h
  | .str k, e, v, h, q => by cases (show D.str k = e by simpa [D.res, D.bel] using q); exact h
  | .ty k, e, v, h, q => by cases (show D.ty k = e by simpa [D.res, D.bel] using q); exact h
  | .tup ds, e, v, h, q => by
    unfold D.res at q
    cases q1 : resL m S ds with
    | none => rw [q1] at q; cases q
    | some es =>
      rw [q1] at q
      cases (show D.tup es = e from Option.some.inj q)
      obtain ⟨a, vs, e, t, r⟩ := h
      refine ⟨a, vs, e, ?_, RpL.res st ds es vs r q1⟩
      rcases t with ⟨n, t⟩ | t
      · exact .inl ⟨fz_first n, t⟩
      · exact .inr t
  | .lst ds, e, v, h, q => by
    have q' : (if (D.lst ds).bel m = true then some (D.lst ds) else none) = some e := by simpa [D.res] using q
    by_cases c : (D.lst ds).bel m = true
    · rw [if_pos c] at q'
      cases (show D.lst ds = e from Option.some.inj q')
      exact Rp.first _ v h c
    · rw [if_neg c] at q'; cases q'
  | .frz ds, e, v, h, q => by
    have q' : (if (D.frz ds).bel m = true then some (D.frz ds) else none) = some e := by simpa [D.res] using q
    by_cases c : (D.frz ds).bel m = true
    · rw [if_pos c] at q'
      cases (show D.frz ds = e from Option.some.inj q')
      exact Rp.first _ v h c
    · rw [if_neg c] at q'; cases q'
  | .ins cn fs, e, v, h, q => by
    have q' : (if (D.ins cn fs).bel m = true then some (D.ins cn fs) else none) = some e := by simpa [D.res] using q
    by_cases c : (D.ins cn fs).bel m = true
    · rw [if_pos c] at q'
      cases (show D.ins cn fs = e from Option.some.inj q')
      exact Rp.first _ v h c
    · rw [if_neg c] at q'; cases q'
  | .ref n, e, v, h, q => by
    unfold D.res at q
    by_cases hn : n < m
    · rw [if_pos hn] at q
      cases (show D.ref n = e from Option.some.inj q)
      exact Rp.first _ v h (by simpa [D.bel] using hn)
    · rw [if_neg hn] at q
      cases q1 : S[n]? with
      | none => rw [q1] at q; cases q
      | some c =>
        rw [q1] at q
        cases c with
        | ins _ _ => cases q
        | lst ds =>
          dsimp only at q
          by_cases hb : belL m ds = true
          · rw [if_pos hb] at q
            cases (show D.lst ds = e from Option.some.inj q)
            obtain ⟨a, h1, h2⟩ := h
            obtain ⟨a', h3, h4⟩ := st.at_ n _ q1
            rw [h1] at h3; cases h3
            obtain ⟨vs, h5, h6⟩ := h4
            refine ⟨a, vs, h2, ⟨⟨fun z => ?_, fun z => (st.hd a z).1 (List.mem_of_getElem? h1)⟩, h5⟩, RpL.first ds vs h6 hb⟩
            obtain ⟨k, hk⟩ := List.mem_iff_getElem?.mp (show a ∈ w.μ.take m from z)
            have hkm : k < m := by
              have := (List.getElem?_eq_some_iff.mp hk).1
              rw [List.length_take] at this
              omega
            rw [List.getElem?_take_of_lt hkm] at hk
            obtain ⟨l1, e1⟩ := List.getElem?_eq_some_iff.mp hk
            obtain ⟨l2, e2⟩ := List.getElem?_eq_some_iff.mp h1
            have := (List.getElem_inj st.nd).mp (e1.trans e2.symm)
            omega
          · rw [if_neg hb] at q; cases q
theorem RpL.res (st : StR b w S) : ∀ (ds es : List D) (vs : List V), RpL b w ds vs → resL m S ds = some es → RpL b (w.first m) es vs
  | [], es, vs, h, q => by
    cases (show [] = es by simpa [resL] using q)
    exact h
  | d :: ds, es, vs, h, q => by
    obtain ⟨v, r, e, h1, h2⟩ := h
    unfold resL at q
    cases q1 : d.res m S with
    | none => rw [q1] at q; cases q
    | some d' =>
      cases q2 : resL m S ds with
      | none => rw [q1, q2] at q; cases q
      | some ds' =>
        rw [q1, q2] at q
        cases (show d' :: ds' = es from Option.some.inj q)
        exact ⟨v, r, e, Rp.res st d d' v h1 q1, RpL.res st ds ds' r h2 q2⟩
end
theorem StR.first (st : StR b w S) (hb : (S.take m).all (·.bel m) = true) (hm : m ≤ S.length) : StR b (w.first m) (S.take m) := by
  refine ⟨by simp [Wd.first, st.len], st.nd.sublist (List.take_sublist _ _), fun a ha => ⟨fun z => (st.hd a ha).1 ((List.take_sublist _ _).subset z), (st.hd a ha).2⟩, fun n c e => ?_⟩
  have hn : n < m := by
    have := (List.getElem?_eq_some_iff.mp e).1
    rw [List.length_take] at this
    omega
  have hc : c.bel m = true := List.all_eq_true.mp hb c (List.mem_of_getElem? e)
  rw [List.getElem?_take_of_lt hn] at e
  obtain ⟨a, h1, h2⟩ := st.at_ n c e
  refine ⟨a, ?_, ?_⟩
  · show (w.μ.take m)[n]? = some a
    rw [List.getElem?_take_of_lt hn]
    exact h1
  · cases c with
    | lst ds => obtain ⟨vs, h3, h4⟩ := h2; exact ⟨vs, h3, RpL.first ds vs h4 hc⟩
    | ins cn fs => obtain ⟨cc, dx, vs, h0, h3, h4⟩ := h2; exact ⟨cc, dx, vs, h0, h3, RpF.first fs vs h4 hc⟩
end
/-- its own cells are closed -/
theorem DefOk.close {P : Program} {w : World} {K : PySem.W.Frag} {mg : Str → Option Value} {base : Heap} {x : Str} {k n : Nat} {g : List D → M D} (h : DefOk P w K mg base x k n g) : DefOk P w K mg base x k n (fun ds S => closeOut S.length (g ds S)) := by
  obtain ⟨f, fd, ps, h1, h2, h3⟩ := h.ex
  refine ⟨f, fd, ps, h1, h2.imp fun vs H Q E ⟨hl, w1, ds, S, e1, e2, e3, e4⟩ => ?_, h3⟩
  refine ⟨hl, w1, ds, S, e1, e2, e3, ?_⟩
  dsimp only at e4
  cases q : g ds S with
  | stuck => rw [q] at e4; exact e4.elim
  | exn x S1 => rw [q] at e4; exact e4.elim
  | ok d S1 =>
    rw [q] at e4
    have e4 : PostF ⟨K, mg⟩ w1 (if (S1.take S.length).all (·.bel S.length) ∧ S.length ≤ S1.length then (match d.res S.length S1 with
      | some e => .ok e (S1.take S.length)
      | none => .stuck) else .stuck) Q E := e4
    by_cases hb : ((S1.take S.length).all (·.bel S.length) = true) ∧ S.length ≤ S1.length
    · rw [if_pos hb] at e4
      cases q2 : d.res S.length S1 with
      | none => rw [q2] at e4; exact e4.elim
      | some e =>
        rw [q2] at e4
        intro w2 v l st r
        have hμ : w2.μ.take S.length = w1.μ := by
          obtain ⟨t, ht⟩ := l.pre
          rw [← ht, ← e3.len, List.take_left']
          rfl
        have l2 : Le w1 (w2.first S.length) := ⟨by show w1.μ <+: w2.μ.take _; rw [hμ]; exact List.prefix_refl _, l.keep, fun a z n => absurd (by show a ∈ w1.μ; rw [← hμ]; exact z) n, l.hid⟩
        exact e4 (w2.first S.length) v l2 (st.first hb.1 hb.2) (Rp.res st d e v r q2)
    · rw [if_neg hb] at e4; exact e4.elim
theorem fe_cal {X : Cx} {Wx : WX} {x : Str} {p pos : Pos} {e : Expr} {es : List Expr} {fs : SA} {k n : Nat} {g : List D → M D} (C : DefOk X.prog X.w X.K X.mg X.base x k n g) (hr : Room k X.A) (tk : Takes X Wx) (ha : FA X Wx (e :: es) fs) (hg : Gl X x := by rfl)
    (hdb : (x == ("__debug__" : Str)) = false := by decide) (he : starEach (e :: es) X.env = (false, eval e X.env) :: starEach es X.env := by rfl) (hpl : (backTo pos (starEach es X.env)).any (·.1) = false := by rfl) :
    FE X Wx (.Call (.Name x p) (e :: es) [] pos) (appA fs (cal n g)) := by
  have h : (fun ds S => if ds.length = n then g ds S else Out.stuck) = cal n g := by
    funext ds S
    unfold cal
    by_cases h : ds.length = n
    · rw [if_pos h, if_pos h]
    · rw [if_neg h, if_neg h]; rfl
  rw [← h]
  exact fe_call C hr tk ha hg hdb he hpl
end F

set_option linter.all false
set_option maxRecDepth 100000
set_option maxHeartbeats 2000000
set_option autoImplicit false
namespace F
open PySem PySem.Spec PyProof.Rows L2
open PySem.W (Holds HoldAll Datum)
theorem u65 {k : Nat} {A : Around} (r : Room k A) : A.units + 65 < cLine := by have := r.un; omega
section
variable {b : B} {Wx : WX} {w : Wd} {σ : Sl}
theorem exA {f : SA} {is : List Nat} {ρ : Env} {S : Store} {R : List V → Hp → Prop} {E : Ends} (hE : EnvR b w ρ σ) (hS : StR b w S) (h : PostS b Wx w (parS f is ρ S) E)
    (hk : ∀ w1 ds vs, ds.length = is.length → RpL b w1 ds vs → E.nx (setAll is vs σ) w1.H → R vs w1.H) : tA b Wx f σ w.H R := by
  refine ⟨w, ρ, S, rfl, hE, hS, ?_⟩
  unfold parS at h
  cases q : f ρ S with
  | ok ds S1 =>
    rw [q] at h
    dsimp only at h
    by_cases hl : ds.length = is.length
    · rw [if_pos hl] at h
      exact fun w1 v l st r => hk w1 ds v hl r (h w1 _ l (EnvR.setA (hE.mono l) r) st)
    · rw [if_neg hl] at h; exact h.elim
  | exn x S1 =>
    rw [q] at h
    exact fun w1 c dd l st r => h w1 σ c dd l (hE.mono l) st r
  | stuck => rw [q] at h; exact h
end
section
variable {X : Cx} {Wx : WX} {pos : Pos}
theorem fs_par {i j : Nat} {x y : Str} {a b : Expr} {fs : SA} {px py pt : Pos} {kt k2 pt2} (hN : X.N.Nodup) (ha : FA X Wx [a, b] fs) (hc : X.calm = true := by rfl) (hi : X.N[i]? = some x := by rfl) (hj : X.N[j]? = some y := by rfl) (hij : i ≠ j := by decide)
    (hx : X.env.scope.names.lookup x = some .local := by rfl) (hy : X.env.scope.names.lookup y = some .local := by rfl)
    (hw : swappedStores [.Tuple [.Name x px, .Name y py] kt pt] (.Tuple [a, b] k2 pt2) X.env = pure (some [x, y]) := by rfl)
    (hs : swapsWithSole [.Tuple [.Name x px, .Name y py] kt pt] (.Tuple [a, b] k2 pt2) pos.line X.env = pure false := by rfl) :
    FS X Wx (.Assign [.Tuple [.Name x px, .Name y py] kt pt] (.Tuple [a, b] k2 pt2) pos) (parS fs [i, j]) := PS.imp (ps_par hc hN hi hj hij hx hy ha hw hs) fun E σ H ⟨w, ρ, S, e, hE, hS, h⟩ => by
  subst e
  refine exA hE hS h fun w1 ds vs hl r q => ?_
  have h2 := RpL.length r
  match vs, (show vs.length = 2 by rw [← h2]; exact hl) with
  | [u, v], _ => exact ⟨u, v, rfl, q⟩
theorem fs_par3 {i j l : Nat} {x y z : Str} {a b c : Expr} {fs : SA} {px py pz pt : Pos} {kt k2 pt2} (hN : X.N.Nodup) (ha : FA X Wx [a, b, c] fs) (hc : X.calm = true := by rfl) (hi : X.N[i]? = some x := by rfl) (hj : X.N[j]? = some y := by rfl) (hl : X.N[l]? = some z := by rfl) (hij : i ≠ j := by decide) (hil : i ≠ l := by decide) (hjl : j ≠ l := by decide)
    (hx : X.env.scope.names.lookup x = some .local := by rfl) (hy : X.env.scope.names.lookup y = some .local := by rfl) (hz : X.env.scope.names.lookup z = some .local := by rfl)
    (hw : swappedStores [.Tuple [.Name x px, .Name y py, .Name z pz] kt pt] (.Tuple [a, b, c] k2 pt2) X.env = pure (some [x, y, z]) := by rfl)
    (hs : swapsWithSole [.Tuple [.Name x px, .Name y py, .Name z pz] kt pt] (.Tuple [a, b, c] k2 pt2) pos.line X.env = pure false := by rfl) :
    FS X Wx (.Assign [.Tuple [.Name x px, .Name y py, .Name z pz] kt pt] (.Tuple [a, b, c] k2 pt2) pos) (parS fs [i, j, l]) := PS.imp (ps_par3 hc hN hi hj hl hij hil hjl hx hy hz ha hw hs) fun E σ H ⟨w, ρ, S, e, hE, hS, h⟩ => by
  subst e
  refine exA hE hS h fun w1 ds vs hl r q => ?_
  have h2 := RpL.length r
  match vs, (show vs.length = 3 by rw [← h2]; exact hl) with
  | [u, v, z], _ => exact ⟨u, v, z, rfl, q⟩
theorem fs_subeq {x : Str} {e : Expr} {fe : SE} {pos' : Pos} (i : Nat) (hN : X.N.Nodup) (he : FE X Wx e fe) (hi : X.N[i]? = some x := by rfl) (hx : Loc X.env.scope x := by first | exact Or.inl rfl | exact Or.inr rfl) (hf : X.fn x = true ∨ X.env.scope.names.lookup x = some .local := by first | exact .inl rfl | exact .inr rfl) :
    FS X Wx (.AugAssign (.Name x pos') .Sub e pos) (asgS (op2 subD (varD i) fe) (.name i)) := PS.imp (ps_aug hN hi hx he ip_sub hf) fun E σ H ⟨w, ρ, S, e, hE, hS, h⟩ => by
  subst e
  unfold asgS exS op2 at h
  have e1 : varD i ρ S = match ρ[i]? with
    | some (some d) => Out.ok d S
    | _ => Out.stuck := rfl
  cases q : ρ[i]? with
  | none => rw [bnd, e1, q] at h; exact h.elim
  | some o =>
    cases o with
    | none => rw [bnd, e1, q] at h; exact h.elim
    | some d =>
      rw [bnd, e1, q] at h
      dsimp only at h
      obtain ⟨v, h1, h2⟩ := hE.at_ i d q
      refine ⟨v, h1, w, ρ, S, rfl, hE, hS, ?_⟩
      unfold bnd at h
      cases q2 : fe ρ S with
      | stuck => rw [q2] at h; exact h
      | exn x S1 =>
        rw [q2] at h
        exact fun w1 c dd l st r => h w1 σ c dd l (hE.mono l) st r
      | ok d2 S1 =>
        rw [q2] at h
        intro w1 v2 l st r
        have h2' := Rp.mono l d v h2
        cases d <;> try exact h.elim
        cases d2 <;> try exact h.elim
        rename_i m n
        refine ⟨m, n, h2', r, ?_⟩
        exact h w1 _ l ((hE.mono l).set i (show Rp _ _ (.int (m - n)) (.int (m - n)) from rfl)) st
end
/-! ### min of pairs -/
theorem minP_eq (x : Int × Int) (xs : List (Int × Int)) : PySem.W.minOf x xs = minP x xs := rfl
def rMinP (K : PySem.W.Frag) : List V → Hp → VK → Prop := fun vs H Q => ∃ (a : Addr) (xs : List V) (p : Int × Int) (ps : List (Int × Int)), vs = [.ref a] ∧ SqL K H a xs ∧ DpAll K H xs ((p :: ps).map Datum.toD) ∧
  ∀ (i : Nat) (x : V), xs[i]? = some x → (p :: ps)[i]? = some (minP p ps) → Q x H
theorem callR_minP {X : Cx} (hu : X.A.units + 65 < cLine) (hc : X.calm = true) : CallR X (.builtin "min") (rMinP X.K) := by
  intro pins s σ H vs us Q I r h
  obtain ⟨a, xs, p, ps, rfl, hs, hd, q⟩ := h
  obtain ⟨its, rv, hl, _⟩ := I.list hs
  obtain ⟨as, ra⟩ := Dp.readsAll I _ _ _ hd rv
  rw [Vals.ref1 r]
  have HA : HoldAll s.heap its.toArray.toList (p :: ps) := ⟨as, by simpa using ra⟩
  refine PySem.W.min_list_datum (I.ok.hd hc) hl.isList HA (by show X.A.units + 1 + 1 < cLine; omega) fun i v h' tk hv hH hk => ?_
  obtain ⟨y, hy, hY⟩ := HA.at (i := i) (v := v) (by rw [← Array.getElem?_toList] at hv; exact hv)
  obtain ⟨cs, rc⟩ := Holds.keeps hk hY
  obtain ⟨ds, rd⟩ := hH
  have e := PySem.W.alike_unique (Datum.toD y) (Datum.toD (minP p ps)) v cs ds (PySem.W.DatumOrd.alike _ _) rc rd
  have e2 : y = minP p ps := by
    obtain ⟨y1, y2⟩ := y
    have e' : PyData.tuple [.int y1, .int y2] = PyData.tuple [.int (minP p ps).1, .int (minP p ps).2] := e
    injection e' with e'
    injection e' with e1 e3
    injection e3 with e3 _
    injection e1 with e1
    injection e3 with e3
    rw [e1, e3]
  subst e2
  have hil : i < its.length := by
    have hv' : its[i]? = some v := by simpa using hv
    exact (List.getElem?_eq_some_iff.mp hv').1
  have hxl : i < xs.length := by rw [rv.length]; exact hil
  obtain ⟨u, hu1, ru⟩ := rv.get (List.getElem?_eq_getElem hxl)
  have hv' : its[i]? = some v := by simpa using hv
  rw [hu1] at hv'
  cases hv'
  exact ⟨xs[i], H, I.kept hk, ru, q i _ (List.getElem?_eq_getElem hxl) hy⟩
theorem prs_toD : ∀ {ds : List D} {ps : List (Int × Int)}, prs? ds = some ps → ds = ps.map (fun p => D.tup [.int p.1, .int p.2])
  | [], ps, h => by cases (show [] = ps from Option.some.inj h); rfl
  | d :: ds, ps, h => by
    unfold prs? at h
    split at h
    · rename_i a b r q
      cases (Option.some.inj h)
      rw [prs_toD q]; rfl
    · cases h
theorem minP_mem : ∀ (ps : List (Int × Int)) (p : Int × Int), minP p ps ∈ p :: ps
  | [], p => by simp [minP]
  | y :: ps, p => by
    show minP (if ltP y p = true then y else p) ps ∈ _
    have := minP_mem ps (if ltP y p = true then y else p)
    split at this <;> simp_all
    rcases this with h | h <;> simp [h]
theorem ca_minP {X : Cx} : CaS (bX X) (rMinP X.K) (g1 minPD) := caS1 fun Wx σ w S d v Q st r h => by
  unfold minPD at h
  cases q : lvf S d with
  | none => rw [q] at h; exact h.elim
  | some ds =>
    rw [q] at h
    dsimp only at h
    cases q2 : prs? ds with
    | none => rw [q2] at h; exact h.elim
    | some ns =>
      rw [q2] at h
      cases ns with
      | nil => exact h.elim
      | cons n ns =>
        obtain ⟨p, vs, rfl, t, r⟩ := lvf_at st q r
        have e := prs_toD q2
        have dp : DpAll (bX X).K w.H vs ((n :: ns).map Datum.toD) := by
          have e2 : toPs ds = (n :: ns).map Datum.toD := by
            rw [e]
            generalize n :: ns = l
            induction l with
            | nil => rfl
            | cons z l ih =>
              rw [List.map_cons, List.map_cons, toPs, ih]
              rfl
          rw [← e2]
          refine RpL.dp ds vs r ?_
          rw [e2]
          generalize n :: ns = l
          induction l with
          | nil => rfl
          | cons z l ih => exact ih
        refine ⟨p, vs, n, ns, rfl, t, dp, fun i x hx hi => ?_⟩
        have hd : ds[i]? = some (.tup [.int (minP n ns).1, .int (minP n ns).2]) := by rw [e, List.getElem?_map, hi]; rfl
        obtain ⟨v2, h1, h2⟩ := RpL.get r hd
        rw [h1] at hx
        cases hx
        exact PostE.now h st h2
/-- def_ok, with what the body needs of its place -/
theorem def_ok2 {P : Program} {w : World} {K : PySem.W.Frag} {mg : Str → Option Value} {base : Heap} {x qual : Str} {params : Arguments} {body : List Stmt} {sc : Scope} {f : Addr} {fd : FuncData} {N ps : List Str} {k : Nat} {g : SS} (F : FunD K x qual params body sc [] [] f fd) (S : FnScope N ps sc) (hm : mg x = some (.ref f)) (hb : Binds K fd ps [])
    (hbody : ∀ (cdv : Value) (A : Around) (outer : List PySem.Env) (s : Shared) (H : Hp) (E : XK), Room k (A.deeper (envOfC qual sc s.heap.objs.size f cdv)) →
      Takes (cxOf (L2.CX P w) P w K mg base N qual sc f cdv A outer s H E) (fun cls d _ H => E cls d H) →
      PassesOwn (model P w) (A.deeper (envOfC qual sc s.heap.objs.size f cdv)) (envOfC qual sc s.heap.objs.size f cdv) (cxOf (L2.CX P w) P w K mg base N qual sc f cdv A outer s H E).xe →
      FSs (cxOf (L2.CX P w) P w K mg base N qual sc f cdv A outer s H E) (fun cls d _ H => E cls d H) body g) : DefOk P w K mg base x (k + 1) ps.length (runB g N.length) :=
  def_ok F S hm hb fun cdv A outer s H E hr => hbody cdv A outer s H E hr
    (takes_of (X := cxOf (L2.CX P w) P w K mg base N qual sc f cdv A outer s H E) rfl rfl rfl rfl)
    (passes_of (X := cxOf (L2.CX P w) P w K mg base N qual sc f cdv A outer s H E) rfl)
theorem def_fn {P : Program} {w : World} {K : PySem.W.Frag} {mg : Str → Option Value} {base : Heap} {x qual : Str} {params : Arguments} {body : List Stmt} {sc : Scope} {f : Addr} {fd : FuncData} {N ps : List Str} {k : Nat} {g : SS} (F : FunD K x qual params body sc [] [] f fd) (S : FnScope N ps sc)
    (hbody : ∀ (cdv : Value) (A : Around) (outer : List PySem.Env) (s : Shared) (H : Hp) (E : XK), Room k (A.deeper (envOfC qual sc s.heap.objs.size f cdv)) →
      Takes (cxOf (L2.CX P w) P w K mg base N qual sc f cdv A outer s H E) (fun cls d _ H => E cls d H) →
      PassesOwn (model P w) (A.deeper (envOfC qual sc s.heap.objs.size f cdv)) (envOfC qual sc s.heap.objs.size f cdv) (cxOf (L2.CX P w) P w K mg base N qual sc f cdv A outer s H E).xe →
      FSs (cxOf (L2.CX P w) P w K mg base N qual sc f cdv A outer s H E) (fun cls d _ H => E cls d H) body g) : FnOk P w K mg base (L2.CX P w) (k + 1) f fd ps (spOf ⟨K, mg⟩ ps.length (runB g N.length)) := by
  refine F.ok S (fun vs H Q E h => h.1) fun cdv A outer s H vs Q E hr ⟨hl, w1, ds, S1, e1, r1, s1, h⟩ => ⟨_, hbody cdv A outer s H E hr
    (takes_of (X := cxOf (L2.CX P w) P w K mg base N qual sc f cdv A outer s H E) rfl rfl rfl rfl)
    (passes_of (X := cxOf (L2.CX P w) P w K mg base N qual sc f cdv A outer s H E) rfl), w1, _, S1, e1, env_start (N := N) r1, s1, ?_⟩
  unfold runB at h
  cases q : g (ds.map some ++ List.replicate (N.length - ds.length) none) S1 with
  | stuck => rw [q] at h; exact h.elim
  | fl fl S2 =>
    rw [q] at h
    cases fl with
    | nx ρ => exact fun w2 σ l e s => h w2 .non l s rfl
    | rt d => exact h
    | xn x ρ => exact fun w2 σ c dd l e s r => h w2 c dd l s r
    | bk ρ => exact h.elim
    | ct ρ => exact h.elim
/-- a def that is not called -/
theorem def_stuck {P : Program} {w : World} {K : PySem.W.Frag} {mg : Str → Option Value} {base : Heap} {x : Str} {ps : List Str} {f : Addr} {fd : FuncData} {k : Nat} (hm : mg x = some (.ref f)) (hk : PySem.W.keepIn K (.ref f) = true) (hb : Binds K fd ps []) : DefOk P w K mg base x k ps.length (fun _ => stuck) :=
  ⟨f, fd, ps, rfl, ⟨fun vs H Q E h => h.1, fun A outer s H args us vs Q E hr _ _ _ ⟨_, w1, ds, S1, _, _, _, h⟩ => h.elim⟩, hm, hk, hb⟩
end F

set_option linter.all false
set_option maxRecDepth 100000
set_option maxHeartbeats 2000000
set_option autoImplicit false
namespace F
open PySem PySem.Spec PyProof.Rows L2
/-- the script's place -/
theorem sp_law {K : PySem.W.Frag} {mg : Str → Option Value} {g : List D → M D} {H : Hp} {a : Addr} {ns : List Int} (hO : Only H) (hS : SqL K H a (ns.map V.int)) (hg : ∃ S, g [.frz (ns.map .int)] [] = .ok (.bl true) S) :
    spOf ⟨K, mg⟩ 1 g [.ref a] H (fun v _ => v = .bl true) fun _ _ _ => False := by
  obtain ⟨S, hg⟩ := hg
  refine ⟨rfl, ⟨[], H, []⟩, [.frz (ns.map .int)], [], rfl, ⟨.ref a, [], rfl, ⟨a, ns.map V.int, rfl, ?_, ?_⟩, rfl⟩, ⟨rfl, List.nodup_nil, fun b hb => absurd hb List.not_mem_nil, fun n c e => by simp at e⟩, ?_⟩
  · rcases hS with (h | ⟨o, h⟩) | h
    · rcases hO a with e | ⟨o, xs, e⟩
      · rw [e] at h; cases h
      · rw [e] at h; cases h
    · exact .inl ⟨⟨List.not_mem_nil, List.not_mem_nil⟩, o, h⟩
    · exact .inr h
  · clear hg hS
    induction ns with
    | nil => rfl
    | cons n ns ih => exact ⟨.int n, _, rfl, rfl, ih⟩
  · rw [hg]
    exact fun w' v _ _ r => r
theorem cx_no {P : Program} {w : World} (H : Hp) (s : Shared) (e : Value) (s' : Shared) (h : L2.CX P w [] H s (fun _ _ _ => False) e s') : False := by
  obtain ⟨_, _, _, _, _, _, _, _, _, _, _, _, z⟩ := h
  exact z
/-- the end of a law, by what its def reckons -/
theorem walk_ofF {l : PySem.W.OpenLaw} {n k : Nat} {q : Program} {loose : List Str} {XP : (Str → Option Value) → Heap → Prop} {YP : World → Heap → Prop} {d : DefRec} {x : Str} {g : List D → M D}
    (hn : l.most = some n) (hn2 : n ≤ sizeLine) (hdf : d.params.defaults = []) (hr : Room k callerA)
    (F : ∀ (w : World) (mg : Str → Option Value) (fa : Addr) (h : Heap), YP w h → h.Ns mainGlobals mg → mg d.name = some (.ref fa) →
      ∃ (K : PySem.W.Frag) (fd : FuncData), K.In h ∧ (∀ (s : Shared) (u : Value), BindsTo s fd ⟨[u], []⟩ [(x, u)]) ∧
        ∀ base : Heap, K.In base → base.Ns mainGlobals mg → FnOk l.prog w K mg base (L2.CX l.prog w) k fa fd [x] (spOf ⟨K, mg⟩ 1 g))
    (hg : ∀ ns : List Int, ns.length ≤ n → ∃ S, g [.frz (ns.map .int)] [] = .ok (.bl true) S) :
    PySem.W.WalkO q loose XP YP l.row.toRowW d [] (fun f vs => PySem.call f vs) := by
  refine Att.attach_call hn hdf fun w s₀ s₁ mg mb fa o pm cd doc a vs ns G Y ho hd hcd hmg hobj hints hlen hgen => ?_
  obtain ⟨K, fd, KX, hb, hF⟩ := F w mg fa _ Y G.T.g hmg
  exact law_call KX G.T.g G.T.b G.T.builtins G.T.nolimit hgen hobj hints (Nat.le_trans hlen hn2) hr hF hb (fun H hO hS => sp_law hO hS (hg ns hlen)) fun H e s' z => cx_no H s₁ e s' z
end F

set_option linter.all false
set_option autoImplicit false
set_option maxRecDepth 100000
/-! Reckoning with FSem's functions. -/
namespace F
open PySem
/-! ### loops -/
theorem forGo_ind {t : Tg} {f : SS} {ds : List D} (I : Nat → Env → Store → Prop) {ρ : Env} {S : Store} (h0 : I 0 ρ S)
    (hs : ∀ (k : Nat) (hk : k < ds.length) (ρ : Env) (S : Store), I k ρ S → ∃ ρ' ρ2 S2, tgD t ds[k] ρ = some ρ' ∧ (f ρ' S = .fl (.nx ρ2) S2 ∨ f ρ' S = .fl (.ct ρ2) S2) ∧ I (k + 1) ρ2 S2) :
    ∃ ρ2 S2, forGo t f ds ρ S = .fl (.nx ρ2) S2 ∧ I ds.length ρ2 S2 := by
  suffices ∀ (m k : Nat) (ρ : Env) (S : Store), k + m = ds.length → I k ρ S → ∃ ρ2 S2, forGo t f (ds.drop k) ρ S = .fl (.nx ρ2) S2 ∧ I ds.length ρ2 S2 by
    have := this ds.length 0 ρ S (by omega) h0
    simpa using this
  intro m
  induction m with
  | zero =>
    intro k ρ S e h
    have e' : ds.drop k = [] := List.drop_eq_nil_of_le (by omega)
    refine ⟨ρ, S, by rw [e']; rfl, ?_⟩
    have : k = ds.length := by omega
    rw [← this]; exact h
  | succ m ih =>
    intro k ρ S e h
    have hk : k < ds.length := by omega
    obtain ⟨ρ', ρ2, S2, h1, h2, h3⟩ := hs k hk ρ S h
    obtain ⟨ρ3, S3, h4, h5⟩ := ih (k + 1) ρ2 S2 (by omega) h3
    refine ⟨ρ3, S3, ?_, h5⟩
    rw [List.drop_eq_getElem_cons hk]
    unfold forGo
    rw [h1]
    dsimp only
    rcases h2 with h2 | h2 <;> rw [h2] <;> exact h4
/-- a loop that may end by a return at the first item of some kind: each turn goes on or the k-th returns -/
theorem forGo_ret {t : Tg} {f : SS} {ds : List D} (I : Nat → Env → Store → Prop) {ρ : Env} {S : Store} {m : Nat} {o : OS} (hm : m < ds.length) (h0 : I 0 ρ S)
    (hs : ∀ (k : Nat) (hk : k < ds.length) (ρ : Env) (S : Store), k < m → I k ρ S → ∃ ρ' ρ2 S2, tgD t ds[k] ρ = some ρ' ∧ (f ρ' S = .fl (.nx ρ2) S2 ∨ f ρ' S = .fl (.ct ρ2) S2) ∧ I (k + 1) ρ2 S2)
    (hr : ∀ (ρ : Env) (S : Store), I m ρ S → ∃ ρ' d S2, tgD t ds[m] ρ = some ρ' ∧ f ρ' S = .fl (.rt d) S2 ∧ o = .fl (.rt d) S2) :
    forGo t f ds ρ S = o := by
  suffices ∀ (j k : Nat) (ρ : Env) (S : Store), k + j = m → I k ρ S → forGo t f (ds.drop k) ρ S = o by
    have := this m 0 ρ S (by omega) h0
    simpa using this
  intro j
  induction j with
  | zero =>
    intro k ρ S e h
    have : k = m := by omega
    subst this
    obtain ⟨ρ', d, S2, h1, h2, h3⟩ := hr ρ S h
    rw [List.drop_eq_getElem_cons hm]
    unfold forGo
    rw [h1]; dsimp only; rw [h2]; exact h3.symm
  | succ j ih =>
    intro k ρ S e h
    have hk : k < ds.length := by omega
    obtain ⟨ρ', ρ2, S2, h1, h2, h3⟩ := hs k hk ρ S (by omega) h
    rw [List.drop_eq_getElem_cons hk]
    unfold forGo
    rw [h1]; dsimp only
    rcases h2 with h2 | h2 <;> rw [h2] <;> exact ih (k + 1) ρ2 S2 (by omega) h3
theorem whGo_ind {c : ST} {f : SS} {n : Nat} (I : Nat → Env → Store → Prop) (m : Nat) {ρ : Env} {S : Store} (hm : m < n) (h0 : I 0 ρ S)
    (hs : ∀ (k : Nat) (ρ : Env) (S : Store), k < m → I k ρ S → ∃ S1 ρ2 S2, c ρ S = .ok true S1 ∧ (f ρ S1 = .fl (.nx ρ2) S2 ∨ f ρ S1 = .fl (.ct ρ2) S2) ∧ I (k + 1) ρ2 S2)
    (he : ∀ (ρ : Env) (S : Store), I m ρ S → c ρ S = .ok false S) :
    ∃ ρ2 S2, whGo c f n ρ S = .fl (.nx ρ2) S2 ∧ I m ρ2 S2 := by
  suffices ∀ (j k n : Nat) (ρ : Env) (S : Store), k + j = m → j < n → I k ρ S → ∃ ρ2 S2, whGo c f n ρ S = .fl (.nx ρ2) S2 ∧ I m ρ2 S2 by
    exact this m 0 n ρ S (by omega) hm h0
  intro j
  induction j with
  | zero =>
    intro k n ρ S e hn h
    have : k = m := by omega
    subst this
    obtain ⟨n, rfl⟩ : ∃ n', n = n' + 1 := ⟨n - 1, by omega⟩
    refine ⟨ρ, S, ?_, h⟩
    unfold whGo exS
    rw [he ρ S h]
    simp
  | succ j ih =>
    intro k n ρ S e hn h
    obtain ⟨n, rfl⟩ : ∃ n', n = n' + 1 := ⟨n - 1, by omega⟩
    obtain ⟨S1, ρ2, S2, h1, h2, h3⟩ := hs k ρ S (by omega) h
    obtain ⟨ρ3, S3, h4, h5⟩ := ih (k + 1) n ρ2 S2 (by omega) (by omega) h3
    refine ⟨ρ3, S3, ?_, h5⟩
    unfold whGo exS
    rw [h1]
    dsimp only
    rcases h2 with h2 | h2 <;> rw [h2] <;> simpa using h4
theorem lcGo_map {t : Tg} {ft : ST} {fe : SE} {ρ : Env} {S : Store} (p : D → Bool) (h : D → D) : ∀ ds : List D,
    (∀ d ∈ ds, ∃ ρ', tgD t d ρ = some ρ' ∧ ft ρ' S = .ok (p d) S ∧ (p d = true → fe ρ' S = .ok (h d) S)) →
    lcGo t ft fe ρ ds S = .ok ((ds.filter p).map h) S
  | [], _ => rfl
  | d :: ds, hd => by
    obtain ⟨ρ', h1, h2, h3⟩ := hd d (by simp)
    have ih := lcGo_map p h ds (fun e he => hd e (by simp [he]))
    unfold lcGo
    rw [h1]
    dsimp only
    unfold bns
    rw [h2]
    dsimp only
    cases q : p d with
    | false =>
      rw [if_neg (by simp)]
      rw [ih, List.filter_cons_of_neg (by simp [q])]
    | true =>
      rw [if_pos rfl, h3 q]
      dsimp only
      rw [ih, List.filter_cons_of_pos (by simp [q])]
      rfl
/-- by place: the items are of a list of anything -/
theorem lcGo_of {α : Type} {t : Tg} {ft : ST} {fe : SE} {ρ : Env} {S : Store} (e : α → D) (p : α → Bool) (h : α → D) : ∀ xs : List α,
    (∀ x ∈ xs, ∃ ρ', tgD t (e x) ρ = some ρ' ∧ ft ρ' S = .ok (p x) S ∧ (p x = true → fe ρ' S = .ok (h x) S)) →
    lcGo t ft fe ρ (xs.map e) S = .ok ((xs.filter p).map h) S
  | [], _ => rfl
  | d :: ds, hd => by
    obtain ⟨ρ', h1, h2, h3⟩ := hd d (by simp)
    have ih := lcGo_of e p h ds (fun e he => hd e (by simp [he]))
    rw [List.map_cons]
    unfold lcGo
    rw [h1]
    dsimp only
    unfold bns
    rw [h2]
    dsimp only
    cases q : p d with
    | false =>
      rw [if_neg (by simp)]
      rw [ih, List.filter_cons_of_neg (by simp [q])]
    | true =>
      rw [if_pos rfl, h3 q]
      dsimp only
      rw [ih, List.filter_cons_of_pos (by simp [q])]
      rfl
theorem lcE_of {α : Type} {own : List Nat} {t : Tg} {fi : SA} {ft : ST} {fe : SE} {ρ : Env} {S : Store} (e : α → D) (p : α → Bool) (h : α → D) (xs : List α) (hi : fi ρ S = .ok (xs.map e) S) (hl : xs.length ≤ lineN)
    (hd : ∀ x ∈ xs, ∃ ρ', tgD t (e x) (wipeD ρ own) = some ρ' ∧ ft ρ' S = .ok (p x) S ∧ (p x = true → fe ρ' S = .ok (h x) S)) :
    lcE own t fi ft fe ρ S = .ok (.lst ((xs.filter p).map h)) S := by
  unfold lcE bnd
  rw [hi]
  dsimp only
  rw [List.length_map, if_pos hl]
  unfold bns
  rw [lcGo_of e p h xs hd]
  rfl
theorem lcE_all {α : Type} {own : List Nat} {t : Tg} {fi : SA} {ft : ST} {fe : SE} {ρ : Env} {S : Store} (e : α → D) (h : α → D) (xs : List α) (hi : fi ρ S = .ok (xs.map e) S) (hl : xs.length ≤ lineN)
    (hd : ∀ x ∈ xs, ∃ ρ', tgD t (e x) (wipeD ρ own) = some ρ' ∧ ft ρ' S = .ok true S ∧ fe ρ' S = .ok (h x) S) :
    lcE own t fi ft fe ρ S = .ok (.lst (xs.map h)) S := by
  have := lcE_of (own := own) (t := t) (fi := fi) (ft := ft) (fe := fe) (ρ := ρ) (S := S) e (fun _ => true) h xs hi hl (fun x hx => by
    obtain ⟨r, a, b, c⟩ := hd x hx
    exact ⟨r, a, b, fun _ => c⟩)
  rw [this, List.filter_eq_self.mpr (by simp)]
/-! ### places -/
theorem at?_nat {α : Type} (xs : List α) (i : Nat) : at? xs ((i : Nat) : Int) = xs[i]? := by
  unfold at? pos?
  by_cases h : i < xs.length
  · have h1 : ¬ ((i : Int) < 0) := by omega
    have h2 : (i : Int) < xs.length := by omega
    rw [if_neg h1, if_pos h2]
    simp
  · have h1 : ¬ ((i : Int) < 0) := by omega
    have h2 : ¬ (i : Int) < xs.length := by omega
    rw [if_neg h1, if_neg h2]
    simp; omega
theorem at?_of {α : Type} (xs : List α) {i : Int} (k : Nat) (h : i = (k : Nat)) : at? xs i = xs[k]? := by rw [h, at?_nat]
theorem pos?_nat (n i : Nat) (h : i < n) : pos? n ((i : Nat) : Int) = some i := by
  unfold pos?
  have h1 : ¬ ((i : Int) < 0) := by omega
  have h2 : (i : Int) < n := by omega
  rw [if_neg h1, if_pos h2]
  simp
theorem cutD_upto {α : Type} (xs : List α) (k : Nat) : cutD xs none (some ((k : Nat) : Int)) = xs.take k := by
  unfold cutD cutN
  have h1 : ¬ ((k : Int) < 0) := by omega
  simp only [h1, if_false, Int.toNat_natCast, Nat.sub_zero, List.drop_zero]
  by_cases h : k ≤ xs.length
  · rw [Nat.min_eq_right h]
  · rw [Nat.min_eq_left (by omega), List.take_of_length_le (Nat.le_refl _), List.take_of_length_le (by omega)]
theorem cutD_from {α : Type} (xs : List α) (k : Nat) : cutD xs (some ((k : Nat) : Int)) none = xs.drop k := by
  unfold cutD cutN
  have h1 : ¬ ((k : Int) < 0) := by omega
  simp only [h1, if_false, Int.toNat_natCast]
  by_cases h : k ≤ xs.length
  · rw [Nat.min_eq_right h]
    rw [List.take_of_length_le]
    simp
  · rw [Nat.min_eq_left (by omega)]
    simp
    omega
theorem ints?_map {α : Type} (f : α → Int) : ∀ xs : List α, ints? (xs.map fun x => D.int (f x)) = some (xs.map f)
  | [] => rfl
  | x :: xs => by
    rw [List.map_cons]
    unfold ints?
    rw [ints?_map f xs]
    rfl
theorem bls?_map {α : Type} (f : α → Bool) : ∀ xs : List α, bls? (xs.map fun x => D.bl (f x)) = some (xs.map f)
  | [] => rfl
  | x :: xs => by
    rw [List.map_cons]
    unfold bls?
    rw [bls?_map f xs]
    rfl
theorem enumL_map (ds : List D) : enumL ds = (List.range ds.length).map fun i => D.tup [.int (i : Nat), ds.getD i .non] := by
  unfold enumL
  apply List.ext_getElem
  · simp
  · intro i h1 h2
    simp at h1
    simp [h1]
theorem belL_all (m : Nat) : ∀ ds : List D, (∀ d ∈ ds, d.bel m = true) → belL m ds = true
  | [], _ => rfl
  | d :: ds, h => by
    unfold belL
    rw [h d (by simp), belL_all m ds (fun e he => h e (by simp [he]))]
    rfl
theorem resL_all (m : Nat) (S : Store) : ∀ ds : List D, (∀ d ∈ ds, d.res m S = some d) → resL m S ds = some ds
  | [], _ => rfl
  | d :: ds, h => by
    unfold resL
    rw [h d (by simp), resL_all m S ds (fun e he => h e (by simp [he]))]
theorem ok_inj {α : Type} {a b : α} {S T : Store} (h : (Out.ok a S) = .ok b T) : a = b ∧ S = T := by
  cases h; exact ⟨rfl, rfl⟩
/-! ### the law's own makings: h is the second cell -/
def HI (S : Store) : Prop := ∃ (zs : List Int) (st k : Int), zs.length ≤ 63 ∧ S = [.lst (zs.map D.int), .lst [.int st, .ref 0, .int k]]
theorem HI.len {S : Store} (h : HI S) : S.length = 2 := by
  obtain ⟨_, _, _, _, rfl⟩ := h; rfl
theorem HI.bel {S : Store} (h : HI S) : S.all (·.bel 2) = true := by
  obtain ⟨zs, st, k, _, rfl⟩ := h
  have : belL 2 (zs.map D.int) = true := belL_all 2 _ (fun d hd => by
    obtain ⟨z, _, rfl⟩ := List.mem_map.mp hd
    rfl)
  simp [C.bel, belL, D.bel, this]
theorem close_HI {S T : Store} {d e : D} (h : HI S) (hd : d.res 2 (S ++ T) = some e) : closeOut S.length (.ok d (S ++ T)) = .ok e S := by
  have hl := h.len
  unfold closeOut
  have h1 : (S ++ T).take 2 = S := by rw [← hl]; exact List.take_left' rfl
  rw [hl]
  dsimp only
  rw [h1]
  have h2 : (S.all (·.bel 2)) = true ∧ 2 ≤ (S ++ T).length := ⟨h.bel, by simp [hl]⟩
  rw [if_pos h2, hd]
/-! ### single steps -/
theorem isi_non_int (S : Store) : isiD .non (.ty "int") S = .ok (.bl false) S := rfl
theorem isi_non_bool (S : Store) : isiD .non (.ty "bool") S = .ok (.bl false) S := rfl
theorem isi_non_str (S : Store) : isiD .non (.ty "str") S = .ok (.bl false) S := rfl
theorem isi_non_tuple (S : Store) : isiD .non (.ty "tuple") S = .ok (.bl false) S := rfl
theorem isi_non_list (S : Store) : isiD .non (.ty "list") S = .ok (.bl false) S := rfl
theorem isi_non_dict (S : Store) : isiD .non (.ty "dict") S = .ok (.bl false) S := rfl
theorem isi_non_tuple_list (S : Store) : isiD .non (.tup [.ty "tuple", .ty "list"]) S = .ok (.bl false) S := rfl
theorem isi_non_list_tuple (S : Store) : isiD .non (.tup [.ty "list", .ty "tuple"]) S = .ok (.bl false) S := rfl
theorem isi_bl_int (b : Bool) (S : Store) : isiD (.bl b) (.ty "int") S = .ok (.bl true) S := rfl
theorem isi_bl_bool (b : Bool) (S : Store) : isiD (.bl b) (.ty "bool") S = .ok (.bl true) S := rfl
theorem isi_bl_str (b : Bool) (S : Store) : isiD (.bl b) (.ty "str") S = .ok (.bl false) S := rfl
theorem isi_bl_tuple (b : Bool) (S : Store) : isiD (.bl b) (.ty "tuple") S = .ok (.bl false) S := rfl
theorem isi_bl_list (b : Bool) (S : Store) : isiD (.bl b) (.ty "list") S = .ok (.bl false) S := rfl
theorem isi_bl_dict (b : Bool) (S : Store) : isiD (.bl b) (.ty "dict") S = .ok (.bl false) S := rfl
theorem isi_bl_tuple_list (b : Bool) (S : Store) : isiD (.bl b) (.tup [.ty "tuple", .ty "list"]) S = .ok (.bl false) S := rfl
theorem isi_bl_list_tuple (b : Bool) (S : Store) : isiD (.bl b) (.tup [.ty "list", .ty "tuple"]) S = .ok (.bl false) S := rfl
theorem isi_int_int (i : Int) (S : Store) : isiD (.int i) (.ty "int") S = .ok (.bl true) S := rfl
theorem isi_int_bool (i : Int) (S : Store) : isiD (.int i) (.ty "bool") S = .ok (.bl false) S := rfl
theorem isi_int_str (i : Int) (S : Store) : isiD (.int i) (.ty "str") S = .ok (.bl false) S := rfl
theorem isi_int_tuple (i : Int) (S : Store) : isiD (.int i) (.ty "tuple") S = .ok (.bl false) S := rfl
theorem isi_int_list (i : Int) (S : Store) : isiD (.int i) (.ty "list") S = .ok (.bl false) S := rfl
theorem isi_int_dict (i : Int) (S : Store) : isiD (.int i) (.ty "dict") S = .ok (.bl false) S := rfl
theorem isi_int_tuple_list (i : Int) (S : Store) : isiD (.int i) (.tup [.ty "tuple", .ty "list"]) S = .ok (.bl false) S := rfl
theorem isi_int_list_tuple (i : Int) (S : Store) : isiD (.int i) (.tup [.ty "list", .ty "tuple"]) S = .ok (.bl false) S := rfl
theorem isi_str_int (z : Str) (S : Store) : isiD (.str z) (.ty "int") S = .ok (.bl false) S := rfl
theorem isi_str_bool (z : Str) (S : Store) : isiD (.str z) (.ty "bool") S = .ok (.bl false) S := rfl
theorem isi_str_str (z : Str) (S : Store) : isiD (.str z) (.ty "str") S = .ok (.bl true) S := rfl
theorem isi_str_tuple (z : Str) (S : Store) : isiD (.str z) (.ty "tuple") S = .ok (.bl false) S := rfl
theorem isi_str_list (z : Str) (S : Store) : isiD (.str z) (.ty "list") S = .ok (.bl false) S := rfl
theorem isi_str_dict (z : Str) (S : Store) : isiD (.str z) (.ty "dict") S = .ok (.bl false) S := rfl
theorem isi_str_tuple_list (z : Str) (S : Store) : isiD (.str z) (.tup [.ty "tuple", .ty "list"]) S = .ok (.bl false) S := rfl
theorem isi_str_list_tuple (z : Str) (S : Store) : isiD (.str z) (.tup [.ty "list", .ty "tuple"]) S = .ok (.bl false) S := rfl
theorem isi_tup_int (ds : List D) (S : Store) : isiD (.tup ds) (.ty "int") S = .ok (.bl false) S := rfl
theorem isi_tup_bool (ds : List D) (S : Store) : isiD (.tup ds) (.ty "bool") S = .ok (.bl false) S := rfl
theorem isi_tup_str (ds : List D) (S : Store) : isiD (.tup ds) (.ty "str") S = .ok (.bl false) S := rfl
theorem isi_tup_tuple (ds : List D) (S : Store) : isiD (.tup ds) (.ty "tuple") S = .ok (.bl true) S := rfl
theorem isi_tup_list (ds : List D) (S : Store) : isiD (.tup ds) (.ty "list") S = .ok (.bl false) S := rfl
theorem isi_tup_dict (ds : List D) (S : Store) : isiD (.tup ds) (.ty "dict") S = .ok (.bl false) S := rfl
theorem isi_tup_tuple_list (ds : List D) (S : Store) : isiD (.tup ds) (.tup [.ty "tuple", .ty "list"]) S = .ok (.bl true) S := rfl
theorem isi_tup_list_tuple (ds : List D) (S : Store) : isiD (.tup ds) (.tup [.ty "list", .ty "tuple"]) S = .ok (.bl true) S := rfl
theorem isi_lst_int (ds : List D) (S : Store) : isiD (.lst ds) (.ty "int") S = .ok (.bl false) S := rfl
theorem isi_lst_bool (ds : List D) (S : Store) : isiD (.lst ds) (.ty "bool") S = .ok (.bl false) S := rfl
theorem isi_lst_str (ds : List D) (S : Store) : isiD (.lst ds) (.ty "str") S = .ok (.bl false) S := rfl
theorem isi_lst_tuple (ds : List D) (S : Store) : isiD (.lst ds) (.ty "tuple") S = .ok (.bl false) S := rfl
theorem isi_lst_list (ds : List D) (S : Store) : isiD (.lst ds) (.ty "list") S = .ok (.bl true) S := rfl
theorem isi_lst_dict (ds : List D) (S : Store) : isiD (.lst ds) (.ty "dict") S = .ok (.bl false) S := rfl
theorem isi_lst_tuple_list (ds : List D) (S : Store) : isiD (.lst ds) (.tup [.ty "tuple", .ty "list"]) S = .ok (.bl true) S := rfl
theorem isi_lst_list_tuple (ds : List D) (S : Store) : isiD (.lst ds) (.tup [.ty "list", .ty "tuple"]) S = .ok (.bl true) S := rfl
theorem isi_frz_int (ds : List D) (S : Store) : isiD (.frz ds) (.ty "int") S = .ok (.bl false) S := rfl
theorem isi_frz_bool (ds : List D) (S : Store) : isiD (.frz ds) (.ty "bool") S = .ok (.bl false) S := rfl
theorem isi_frz_str (ds : List D) (S : Store) : isiD (.frz ds) (.ty "str") S = .ok (.bl false) S := rfl
theorem isi_frz_tuple (ds : List D) (S : Store) : isiD (.frz ds) (.ty "tuple") S = .ok (.bl false) S := rfl
theorem isi_frz_list (ds : List D) (S : Store) : isiD (.frz ds) (.ty "list") S = .ok (.bl true) S := rfl
theorem isi_frz_dict (ds : List D) (S : Store) : isiD (.frz ds) (.ty "dict") S = .ok (.bl false) S := rfl
theorem isi_frz_tuple_list (ds : List D) (S : Store) : isiD (.frz ds) (.tup [.ty "tuple", .ty "list"]) S = .ok (.bl true) S := rfl
theorem isi_frz_list_tuple (ds : List D) (S : Store) : isiD (.frz ds) (.tup [.ty "list", .ty "tuple"]) S = .ok (.bl true) S := rfl
theorem tru_bl (b : Bool) : truD (.bl b) = ret b := rfl
theorem tru_int (i : Int) : truD (.int i) = ret (i != 0) := rfl
theorem tru_non : truD .non = ret false := rfl
theorem tru_tup (ds : List D) (S : Store) : truD (.tup ds) S = .ok (!ds.isEmpty) S := rfl
theorem len_tup (ds : List D) (S : Store) : lenD (.tup ds) S = .ok (.int ds.length) S := rfl
theorem ix_tup (ds : List D) (i : Int) (S : Store) : ixD (.tup ds) (.int i) S = match at? ds i with
  | some d => .ok d S
  | none => .stuck := id rfl
theorem tru_lst (ds : List D) (S : Store) : truD (.lst ds) S = .ok (!ds.isEmpty) S := rfl
theorem len_lst (ds : List D) (S : Store) : lenD (.lst ds) S = .ok (.int ds.length) S := rfl
theorem ix_lst (ds : List D) (i : Int) (S : Store) : ixD (.lst ds) (.int i) S = match at? ds i with
  | some d => .ok d S
  | none => .stuck := id rfl
theorem tru_frz (ds : List D) (S : Store) : truD (.frz ds) S = .ok (!ds.isEmpty) S := rfl
theorem len_frz (ds : List D) (S : Store) : lenD (.frz ds) S = .ok (.int ds.length) S := rfl
theorem ix_frz (ds : List D) (i : Int) (S : Store) : ixD (.frz ds) (.int i) S = match at? ds i with
  | some d => .ok d S
  | none => .stuck := id rfl
theorem ix_ref (n : Nat) (i : Int) (S : Store) : ixD (.ref n) (.int i) S = ixS (.ref n) i S := rfl
theorem sl_lst (ds : List D) (lo hi : Option Int) (S : Store) : slD (.lst ds) lo hi S = .ok (.lst (cutD ds lo hi)) S := rfl
theorem sl_frz (ds : List D) (lo hi : Option Int) (S : Store) : slD (.frz ds) lo hi S = .ok (.lst (cutD ds lo hi)) S := rfl
theorem sl_tup (ds : List D) (lo hi : Option Int) : slD (.tup ds) lo hi = ret (.tup (cutD ds lo hi)) := rfl
theorem asInt_int (i : Int) : asInt (.int i) = ret (some i) := rfl
theorem at0 {α : Type} (x0 : α) (l : List α) : at? (x0 :: l) 0 = some x0 := at?_of _ 0 rfl
theorem at1 {α : Type} (x0 : α) (x1 : α) (l : List α) : at? (x0 :: x1 :: l) 1 = some x1 := at?_of _ 1 rfl
theorem at2 {α : Type} (x0 : α) (x1 : α) (x2 : α) (l : List α) : at? (x0 :: x1 :: x2 :: l) 2 = some x2 := at?_of _ 2 rfl
theorem at3 {α : Type} (x0 : α) (x1 : α) (x2 : α) (x3 : α) (l : List α) : at? (x0 :: x1 :: x2 :: x3 :: l) 3 = some x3 := at?_of _ 3 rfl
theorem at4 {α : Type} (x0 : α) (x1 : α) (x2 : α) (x3 : α) (x4 : α) (l : List α) : at? (x0 :: x1 :: x2 :: x3 :: x4 :: l) 4 = some x4 := at?_of _ 4 rfl
theorem add_int (i j : Int) : addD (.int i) (.int j) = ret (.int (i + j)) := rfl
theorem add_tup (a b : List D) (S : Store) : addD (.tup a) (.tup b) S = if a.length + b.length ≤ lineN then .ok (.tup (a ++ b)) S else .stuck := id rfl
theorem add_str (a b : Str) (S : Store) : addD (.str a) (.str b) S = if a.length + b.length ≤ lineN then .ok (.str (a ++ b)) S else .stuck := id rfl
theorem add_lst (a b : List D) (S : Store) : addD (.lst a) (.lst b) S = if a.length + b.length ≤ lineN then .ok (.lst (a ++ b)) S else .stuck := id rfl
theorem add_ref (n : Nat) (b : D) (S : Store) : addD (.ref n) b S = addL (.ref n) b S := rfl
theorem addC_lst (a b : List D) (S : Store) : addC (.lst a) (.lst b) S = if a.length + b.length ≤ lineN then .ok (.ref S.length) (S ++ [.lst (a ++ b)]) else .stuck := id rfl
theorem repC_lst (a : List D) (k : Int) (S : Store) : repC (.lst a) (.int k) S = if -(2 ^ 63) ≤ k ∧ k < 2 ^ 63 ∧ a.length * k.toNat ≤ lineN then .ok (.ref S.length) (S ++ [.lst (List.replicate k.toNat a).flatten]) else .stuck := id rfl
theorem sub_int (i j : Int) : subD (.int i) (.int j) = ret (.int (i - j)) := rfl
theorem mul_int (i j : Int) (S : Store) : mulD (.int i) (.int j) S = if mulOk i j then .ok (.int (i * j)) S else .stuck := id rfl
theorem mul_lst (a : List D) (k : Int) (S : Store) : mulD (.lst a) (.int k) S = if -(2 ^ 63) ≤ k ∧ k < 2 ^ 63 ∧ a.length * k.toNat ≤ lineN then .ok (.lst (List.replicate k.toNat a).flatten) S else .stuck := id rfl
theorem mul_tup (a : List D) (k : Int) (S : Store) : mulD (.tup a) (.int k) S = if a ≠ [] ∧ a.length ≤ 1000 ∧ 2 ≤ k ∧ k ≤ 1000 then .ok (.tup (List.replicate k.toNat a).flatten) S else .stuck := id rfl
theorem div_int (i j : Int) (S : Store) : divD (.int i) (.int j) S = if 0 < j ∧ j < 18446744073709551616 then .ok (.int (i / j)) S else .stuck := id rfl
theorem mod_int (i j : Int) (S : Store) : modD (.int i) (.int j) S = if 0 < j then .ok (.int (i % j)) S else .stuck := id rfl
theorem pow_int (i j : Int) (S : Store) : powD (.int i) (.int j) S = if 0 ≤ j ∧ j ≤ 1000000 ∧ i.natAbs < 18446744073709551616 then .ok (.int (i ^ j.toNat)) S else .stuck := id rfl
theorem neg_int (i : Int) : negD (.int i) = ret (.int (-i)) := rfl
theorem not_bl (b : Bool) : notD (.bl b) = ret (.bl (!b)) := rfl
theorem lt_int (i j : Int) : ltD (.int i) (.int j) = ret (.bl (decide (i < j))) := rfl
theorem le_int (i j : Int) : leD (.int i) (.int j) = ret (.bl (decide (i ≤ j))) := rfl
theorem gt_int (i j : Int) : gtD (.int i) (.int j) = ret (.bl (decide (j < i))) := rfl
theorem ge_int (i j : Int) : geD (.int i) (.int j) = ret (.bl (decide (j ≤ i))) := rfl
theorem eq_int (i j : Int) (S : Store) : eqM (.int i) (.int j) S = .ok (.bl (decide (i = j))) S := rfl
theorem eq_str (a b : Str) (S : Store) : eqM (.str a) (.str b) S = .ok (.bl (decide (a = b))) S := rfl
theorem eq_bl (a b : Bool) (S : Store) : eqM (.bl a) (.bl b) S = .ok (.bl ((a == b))) S := rfl
theorem eq_non (S : Store) : eqM .non .non S = .ok (.bl true) S := rfl
theorem eq_int_non (i : Int) (S : Store) : eqM (.int i) .non S = .ok (.bl false) S := rfl
theorem eq_non_int (i : Int) (S : Store) : eqM .non (.int i) S = .ok (.bl false) S := rfl
theorem eq_str_non (z : Str) (S : Store) : eqM (.str z) .non S = .ok (.bl false) S := rfl
theorem eq_non_str (z : Str) (S : Store) : eqM .non (.str z) S = .ok (.bl false) S := rfl
theorem eq_bl_non (b : Bool) (S : Store) : eqM (.bl b) .non S = .ok (.bl false) S := rfl
theorem eq_non_bl (b : Bool) (S : Store) : eqM .non (.bl b) S = .ok (.bl false) S := rfl
theorem ne_int (i j : Int) (S : Store) : neM (.int i) (.int j) S = .ok (.bl (!decide (i = j))) S := rfl
theorem ne_str (a b : Str) (S : Store) : neM (.str a) (.str b) S = .ok (.bl (!decide (a = b))) S := rfl
theorem ne_bl (a b : Bool) (S : Store) : neM (.bl a) (.bl b) S = .ok (.bl (!(a == b))) S := rfl
theorem ne_non (S : Store) : neM .non .non S = .ok (.bl false) S := rfl
theorem ne_int_non (i : Int) (S : Store) : neM (.int i) .non S = .ok (.bl true) S := rfl
theorem ne_non_int (i : Int) (S : Store) : neM .non (.int i) S = .ok (.bl true) S := rfl
theorem ne_str_non (z : Str) (S : Store) : neM (.str z) .non S = .ok (.bl true) S := rfl
theorem ne_non_str (z : Str) (S : Store) : neM .non (.str z) S = .ok (.bl true) S := rfl
theorem ne_bl_non (b : Bool) (S : Store) : neM (.bl b) .non S = .ok (.bl true) S := rfl
theorem ne_non_bl (b : Bool) (S : Store) : neM .non (.bl b) S = .ok (.bl true) S := rfl
theorem isNone_non (b : Bool) : noneOp b .non .non = ret (.bl (!b)) := by cases b <;> rfl
theorem isNone_int (k : Bool) (i : Int) : noneOp k (.int i) .non = ret (.bl k) := by cases k <;> rfl
theorem isNone_str (k : Bool) (z : Str) : noneOp k (.str z) .non = ret (.bl k) := by cases k <;> rfl
theorem isNone_bl (k : Bool) (b : Bool) : noneOp k (.bl b) .non = ret (.bl k) := by cases k <;> rfl
theorem isNone_tup (k : Bool) (ds : List D) : noneOp k (.tup ds) .non = ret (.bl k) := by cases k <;> rfl
theorem isNone_lst (k : Bool) (ds : List D) : noneOp k (.lst ds) .non = ret (.bl k) := by cases k <;> rfl
theorem isNone_frz (k : Bool) (ds : List D) : noneOp k (.frz ds) .non = ret (.bl k) := by cases k <;> rfl
theorem max2_int (i j : Int) : max2D (.int i) (.int j) = ret (.int (if j > i then j else i)) := rfl
theorem min2_int (i j : Int) : min2D (.int i) (.int j) = ret (.int (if j < i then j else i)) := rfl
theorem abs_int (i : Int) : absD (.int i) = ret (.int (if i < 0 then -i else i)) := rfl
theorem int_int (i : Int) : intD (.int i) = ret (.int i) := rfl
theorem int_bl (b : Bool) : intD (.bl b) = ret (.int (if b then 1 else 0)) := rfl
theorem still_tup (ds : List D) : still (.tup ds) = ret ds := rfl
theorem list_tup (ds : List D) (S : Store) : listD (.tup ds) S = .ok (.lst ds) S := rfl
theorem tuple_tup (ds : List D) (S : Store) : tupleD (.tup ds) S = .ok (.tup ds) S := rfl
theorem listC_tup (ds : List D) (S : Store) : listC (.tup ds) S = .ok (.ref S.length) (S ++ [.lst ds])  := rfl
theorem sv_tup (ds : List D) (S : Store) : sv S (.tup ds) = some ds := rfl
theorem still_lst (ds : List D) : still (.lst ds) = ret ds := rfl
theorem list_lst (ds : List D) (S : Store) : listD (.lst ds) S = .ok (.lst ds) S := rfl
theorem tuple_lst (ds : List D) (S : Store) : tupleD (.lst ds) S = .ok (.tup ds) S := rfl
theorem listC_lst (ds : List D) (S : Store) : listC (.lst ds) S = .ok (.ref S.length) (S ++ [.lst ds])  := rfl
theorem sv_lst (ds : List D) (S : Store) : sv S (.lst ds) = some ds := rfl
theorem still_frz (ds : List D) : still (.frz ds) = ret ds := rfl
theorem list_frz (ds : List D) (S : Store) : listD (.frz ds) S = .ok (.lst ds) S := rfl
theorem tuple_frz (ds : List D) (S : Store) : tupleD (.frz ds) S = .ok (.tup ds) S := rfl
theorem listC_frz (ds : List D) (S : Store) : listC (.frz ds) S = .ok (.ref S.length) (S ++ [.lst ds])  := rfl
theorem sv_frz (ds : List D) (S : Store) : sv S (.frz ds) = some ds := rfl
theorem r1_int (j : Int) (S : Store) : itR1 [.int j] S = if -(2 ^ 62) ≤ j ∧ j < 2 ^ 62 then .ok ((List.range j.toNat).map fun i => D.int (i : Nat)) S else .stuck := id rfl
theorem r2_int (i j : Int) (S : Store) : itR2 [.int i, .int j] S = if -(2 ^ 62) ≤ i ∧ i < 2 ^ 62 ∧ -(2 ^ 62) ≤ j ∧ j < 2 ^ 62 then .ok ((List.range (j - i).toNat).map fun k => D.int (i + (k : Nat))) S else .stuck := id rfl
theorem r3_int (i j : Int) (S : Store) : itR3 [.int i, .int j, .int (-1)] S = if -(2 ^ 62) ≤ i ∧ i < 2 ^ 62 ∧ -(2 ^ 62) ≤ j ∧ j < 2 ^ 62 then .ok ((List.range (i - j).toNat).map fun k => D.int (i - (k : Nat))) S else .stuck := id rfl
theorem tg_name (i : Nat) (d : D) (ρ : Env) : tgD (.name i) d ρ = some (ρ.set i (some d)) := rfl
theorem tg_tup (is : List Nat) (ds : List D) (ρ : Env) : tgD (.tup is) (.tup ds) ρ = if ds.length = is.length then some (setAll is ds ρ) else none := id rfl
theorem setAll_cons {α : Type} (i : Nat) (is : List Nat) (d : α) (ds : List α) (ρ : List (Option α)) : setAll (i :: is) (d :: ds) ρ = setAll is ds (ρ.set i (some d)) := rfl
theorem setAll_nil {α : Type} (ρ : List (Option α)) : setAll [] ([] : List α) ρ = ρ := rfl
theorem mtE_ref (fa : SE) (fs : SA) (g : D → D → M D) (ρ : Env) : mtE fa fs g ρ = bnd (fa ρ) fun x => bnd (chkL x) fun x => bnd (fs ρ) (g1 (g x)) := rfl
theorem g1_one (f : D → M D) (d : D) : g1 f [d] = f d := rfl
theorem g2_two (f : D → D → M D) (d e : D) : g2 f [d, e] = f d e := rfl
theorem mkL_S (ds : List D) (S : Store) : mkL ds S = if ds.length ≤ lineN then .ok (.lst ds) S else .stuck := id rfl
theorem mkT_S (ds : List D) (S : Store) : mkT ds S = if ds.length ≤ lineN then .ok (.tup ds) S else .stuck := id rfl
theorem mkC_S (ds : List D) (S : Store) : mkC ds S = if ds.length ≤ lineN then .ok (.ref S.length) (S ++ [.lst ds]) else .stuck := id rfl
theorem bnd_S {α β : Type} (m : M α) (f : α → M β) (S : Store) : bnd m f S = match m S with
  | .ok a S' => f a S'
  | .exn x S' => .exn x S'
  | .stuck => .stuck := id rfl
theorem ret_S {α : Type} (a : α) (S : Store) : ret a S = .ok a S := rfl
theorem lineN_eq2 : lineN = 16777216 := rfl
theorem wipe_nil (ρ : Env) : wipeD ρ [] = ρ := rfl
theorem wipe_cons (ρ : Env) (v : Nat) (vs : List Nat) : wipeD ρ (v :: vs) = (wipeD ρ vs).set v none := rfl
theorem r1_nat (n : Nat) (S : Store) (h : n ≤ 16777216) : itR1 [.int (n : Nat)] S = .ok ((List.range n).map fun i => D.int (i : Nat)) S := by
  rw [r1_int, if_pos (by omega), Int.toNat_natCast]
theorem mkL_0 (S : Store) : mkL [] S = .ok (.lst []) S := rfl
theorem mkT_0 (S : Store) : mkT [] S = .ok (.tup []) S := rfl
theorem mkC_0 (S : Store) : mkC [] S = .ok (.ref S.length) (S ++ [.lst []]) := rfl
theorem mkL_1 (x0 : D) (S : Store) : mkL [x0] S = .ok (.lst [x0]) S := rfl
theorem mkT_1 (x0 : D) (S : Store) : mkT [x0] S = .ok (.tup [x0]) S := rfl
theorem mkC_1 (x0 : D) (S : Store) : mkC [x0] S = .ok (.ref S.length) (S ++ [.lst [x0]]) := rfl
theorem mkL_2 (x0 x1 : D) (S : Store) : mkL [x0, x1] S = .ok (.lst [x0, x1]) S := rfl
theorem mkT_2 (x0 x1 : D) (S : Store) : mkT [x0, x1] S = .ok (.tup [x0, x1]) S := rfl
theorem mkC_2 (x0 x1 : D) (S : Store) : mkC [x0, x1] S = .ok (.ref S.length) (S ++ [.lst [x0, x1]]) := rfl
theorem mkL_3 (x0 x1 x2 : D) (S : Store) : mkL [x0, x1, x2] S = .ok (.lst [x0, x1, x2]) S := rfl
theorem mkT_3 (x0 x1 x2 : D) (S : Store) : mkT [x0, x1, x2] S = .ok (.tup [x0, x1, x2]) S := rfl
theorem mkC_3 (x0 x1 x2 : D) (S : Store) : mkC [x0, x1, x2] S = .ok (.ref S.length) (S ++ [.lst [x0, x1, x2]]) := rfl
theorem mkL_4 (x0 x1 x2 x3 : D) (S : Store) : mkL [x0, x1, x2, x3] S = .ok (.lst [x0, x1, x2, x3]) S := rfl
theorem mkT_4 (x0 x1 x2 x3 : D) (S : Store) : mkT [x0, x1, x2, x3] S = .ok (.tup [x0, x1, x2, x3]) S := rfl
theorem mkC_4 (x0 x1 x2 x3 : D) (S : Store) : mkC [x0, x1, x2, x3] S = .ok (.ref S.length) (S ++ [.lst [x0, x1, x2, x3]]) := rfl
theorem cal_1 (g : List D → M D) (x0 : D) (S : Store) : cal 1 g [x0] S = g [x0] S := id rfl
theorem cal_2 (g : List D → M D) (x0 x1 : D) (S : Store) : cal 2 g [x0, x1] S = g [x0, x1] S := id rfl
theorem cal_3 (g : List D → M D) (x0 x1 x2 : D) (S : Store) : cal 3 g [x0, x1, x2] S = g [x0, x1, x2] S := id rfl
theorem cal_4 (g : List D → M D) (x0 x1 x2 x3 : D) (S : Store) : cal 4 g [x0, x1, x2, x3] S = g [x0, x1, x2, x3] S := id rfl
theorem cal_5 (g : List D → M D) (x0 x1 x2 x3 x4 : D) (S : Store) : cal 5 g [x0, x1, x2, x3, x4] S = g [x0, x1, x2, x3, x4] S := id rfl
theorem cal_6 (g : List D → M D) (x0 x1 x2 x3 x4 x5 : D) (S : Store) : cal 6 g [x0, x1, x2, x3, x4, x5] S = g [x0, x1, x2, x3, x4, x5] S := id rfl
theorem cal_7 (g : List D → M D) (x0 x1 x2 x3 x4 x5 x6 : D) (S : Store) : cal 7 g [x0, x1, x2, x3, x4, x5, x6] S = g [x0, x1, x2, x3, x4, x5, x6] S := id rfl
theorem nat10 : Int.natAbs 10 = 10 := rfl
theorem nat2 : Int.natAbs 2 = 2 := rfl
theorem bnd_ok {α β : Type} {m : M α} {f : α → M β} {S S1 : Store} {a : α} (h : m S = .ok a S1) : bnd m f S = f a S1 := by unfold bnd; rw [h]
/-! ### cells -/
theorem lv_cell {S : Store} {n : Nat} {ds : List D} (h : S[n]? = some (.lst ds)) : lv S (.ref n) = some ds := by
  show (match S[n]? with | some (C.lst ds) => some ds | _ => none) = some ds
  rw [h]
theorem len_cell {S : Store} {n : Nat} {ds : List D} (h : S[n]? = some (.lst ds)) : lenD (.ref n) S = .ok (.int ds.length) S := by
  show (match lv S (.ref n) with | some ds => Out.ok (D.int ds.length) S | none => .stuck) = _
  rw [lv_cell h]
theorem ix_cell {S : Store} {n : Nat} {ds : List D} (h : S[n]? = some (.lst ds)) {i : Int} {d : D} (hi : at? ds i = some d) : ixD (.ref n) (.int i) S = .ok d S := by
  show (match lv S (.ref n) with | some ds => (match at? ds i with | some d => Out.ok d S | none => .stuck) | none => .stuck) = _
  rw [lv_cell h]
  dsimp only
  rw [hi]
theorem app_cell {S : Store} {n : Nat} {ds : List D} {y : D} (h : S[n]? = some (.lst ds)) (hl : ds.length < lineN) : appD (.ref n) y S = .ok .non (S.set n (.lst (ds ++ [y]))) := by
  show (match S[n]? with | some (C.lst ds) => if ds.length < lineN then Out.ok D.non (S.set n (C.lst (ds ++ [y]))) else .stuck | _ => .stuck) = _
  rw [h]
  dsimp only
  rw [if_pos hl]
theorem chk_cell {S : Store} {n : Nat} {ds : List D} (h : S[n]? = some (.lst ds)) : chkL (.ref n) S = .ok (.ref n) S := by
  show (match lv S (.ref n) with | some _ => Out.ok (D.ref n) S | none => .stuck) = _
  rw [lv_cell h]
theorem addL_cell {S : Store} {n : Nat} {ds es : List D} (h : S[n]? = some (.lst ds)) (hl : ds.length + es.length ≤ lineN) : addL (.ref n) (.lst es) S = .ok (.lst (ds ++ es)) S := by
  show (match lv S (.ref n), (some es : Option (List D)) with | some a, some b => if a.length + b.length ≤ lineN then Out.ok (D.lst (a ++ b)) S else .stuck | _, _ => .stuck) = _
  rw [lv_cell h]
  dsimp only
  rw [if_pos hl]
theorem res_int (m : Nat) (S : Store) (i : Int) : (D.int i).res m S = some (.int i) := rfl
theorem res_cell {m n : Nat} {S : Store} {ds : List D} (hn : m ≤ n) (h : S[n]? = some (.lst ds)) (hb : belL m ds = true) : (D.ref n).res m S = some (.lst ds) := by
  unfold D.res
  rw [if_neg (by omega), h]
  dsimp only
  rw [if_pos hb]
theorem belL_ints {α : Type} (m : Nat) (f : α → Int) (xs : List α) : belL m (xs.map fun x => D.int (f x)) = true := belL_all m _ fun d hd => by
  obtain ⟨z, _, rfl⟩ := List.mem_map.mp hd
  rfl
theorem HI.two {S : Store} (h : HI S) : ∃ A B, S = [A, B] ∧ A.bel 2 = true ∧ B.bel 2 = true := by
  have hb := h.bel
  obtain ⟨zs, st, k, _, rfl⟩ := h
  rw [List.all_eq_true] at hb
  exact ⟨_, _, rfl, hb _ (by simp), hb _ (by simp)⟩
/-! ### one statement behind another -/
section
variable {f g : SS} {ρ ρ' : Env} {S S' : Store} {e : SE} {d : D} {t : Tg} {fi : SA} {ds : List D}
theorem seq_nx (h : f ρ S = .fl (.nx ρ') S') : seqS f g ρ S = g ρ' S' := by unfold seqS; rw [h]
theorem seq_rt (h : f ρ S = .fl (.rt d) S') : seqS f g ρ S = .fl (.rt d) S' := by unfold seqS; rw [h]
theorem for_ok (h : fi ρ S = .ok ds S') : forS t fi f ρ S = forGo t f ds ρ S' := by unfold forS exS; rw [h]
theorem asg_ok (h : e ρ S = .ok d S') (ht : tgD t d ρ = some ρ') : asgS e t ρ S = .fl (.nx ρ') S' := by unfold asgS exS; rw [h]; dsimp only; rw [ht]
theorem ret_ok (h : e ρ S = .ok d S') : retS e ρ S = .fl (.rt d) S' := by unfold retS exS; rw [h]
theorem drop_ok (h : e ρ S = .ok d S') : dropS e ρ S = .fl (.nx ρ) S' := by unfold dropS exS; rw [h]
theorem if_t {c : ST} (h : c ρ S = .ok true S') : ifS c f g ρ S = f ρ S' := by unfold ifS exS; rw [h]; rfl
theorem if_f {c : ST} (h : c ρ S = .ok false S') : ifS c f g ρ S = g ρ S' := by unfold ifS exS; rw [h]; rfl
theorem par_ok {fs : SA} {is : List Nat} (h : fs ρ S = .ok ds S') (hl : ds.length = is.length) : parS fs is ρ S = .fl (.nx (setAll is ds ρ)) S' := by unfold parS; rw [h]; dsimp only; rw [if_pos hl]
theorem run_rt {N : Nat} {as : List D} {ρ0 : Env} (h0 : as.map some ++ List.replicate (N - as.length) none = ρ0) (h : f ρ0 S = .fl (.rt d) S') : runB f N as S = .ok d S' := by unfold runB; rw [h0, h]
theorem run_nx {N : Nat} {as : List D} {ρ0 : Env} (h0 : as.map some ++ List.replicate (N - as.length) none = ρ0) (h : f ρ0 S = .fl (.nx ρ') S') : runB f N as S = .ok .non S' := by unfold runB; rw [h0, h]
end
end F

set_option linter.all false
set_option autoImplicit false
/-! == and in of data without truth values -/
namespace F
open PySem
mutual
/-- None, ints, texts, tuples and lists of them -/
def noB : D → Bool
  | .non => true
  | .int _ => true
  | .str _ => true
  | .tup ds => noBL ds
  | .lst ds => noBL ds
  | _ => false
def noBL : List D → Bool
  | [] => true
  | d :: ds => noB d && noBL ds
end
mutual
theorem eqv_of : ∀ (x y : D), noB x = true → noB y = true → (PyData.eqv x.toP y.toP = true ↔ x = y)
  | .non, y, _, h => by
    cases y <;> first | (simp [noB] at h; done) | simp [D.toP, PyData.eqv]
  | .int i, y, _, h => by
    cases y <;> first | (simp [noB] at h; done) | simp [D.toP, PyData.eqv]
  | .str i, y, _, h => by
    cases y <;> first | (simp [noB] at h; done) | simp [D.toP, PyData.eqv]
  | .tup xs, y, h1, h => by
    cases y <;> first | (simp [noB] at h; done) | skip
    case tup ys =>
      have := eqvL_of xs ys (by simpa [noB] using h1) (by simpa [noB] using h)
      simpa [D.toP, PyData.eqv] using this
    all_goals simp [D.toP, PyData.eqv]
  | .lst xs, y, h1, h => by
    cases y <;> first | (simp [noB] at h; done) | skip
    case lst ys =>
      have := eqvL_of xs ys (by simpa [noB] using h1) (by simpa [noB] using h)
      simpa [D.toP, PyData.eqv] using this
    all_goals simp [D.toP, PyData.eqv]
  | .bl _, _, h, _ => by simp [noB] at h
  | .ty _, _, h, _ => by simp [noB] at h
  | .frz _, _, h, _ => by simp [noB] at h
  | .ins _ _, _, h, _ => by simp [noB] at h
  | .ref _, _, h, _ => by simp [noB] at h
theorem eqvL_of : ∀ (xs ys : List D), noBL xs = true → noBL ys = true → (PyData.eqvAll (toPs xs) (toPs ys) = true ↔ xs = ys)
  | [], [], _, _ => by simp [toPs, PyData.eqvAll]
  | [], _ :: _, _, _ => by simp [toPs, PyData.eqvAll]
  | _ :: _, [], _, _ => by simp [toPs, PyData.eqvAll]
  | x :: xs, y :: ys, h1, h2 => by
    have a : noB x = true ∧ noBL xs = true := by simpa [noBL] using h1
    have b : noB y = true ∧ noBL ys = true := by simpa [noBL] using h2
    have e1 := eqv_of x y a.1 b.1
    have e2 := eqvL_of xs ys a.2 b.2
    simp only [toPs, PyData.eqvAll, Bool.and_eq_true, e1, e2, List.cons.injEq]
end
/-- such data, at most n deep, its texts sound -/
structure okD (n : Nat) (d : D) : Prop where
  nb : noB d = true
  lay : d.toP.canLay0 = true
  dep : d.toP.depth ≤ n
theorem okD.mono {n m : Nat} {d : D} (h : okD n d) (hm : n ≤ m) : okD m d := ⟨h.nb, h.lay, Nat.le_trans h.dep hm⟩
theorem okD_int (i : Int) : okD 0 (.int i) := ⟨rfl, rfl, Nat.le_refl _⟩
theorem okD_non : okD 0 .non := ⟨rfl, rfl, Nat.le_refl _⟩
theorem okD_str {z : Str} (h : PyData.canLay0 (.str z) = true) : okD 0 (.str z) := ⟨rfl, h, Nat.le_refl _⟩
theorem okL {n : Nat} : ∀ {ds : List D}, (∀ d ∈ ds, okD n d) → noBL ds = true ∧ PyData.canLayAll0 (toPs ds) = true ∧ PyData.depthAll (toPs ds) ≤ n
  | [], _ => ⟨rfl, rfl, by simp [toPs, PyData.depthAll]⟩
  | d :: ds, h => by
    obtain ⟨a, b, c⟩ := okL (n := n) (ds := ds) (fun e he => h e (by simp [he]))
    have q := h d (by simp)
    refine ⟨?_, ?_, ?_⟩
    · simp [noBL, q.nb, a]
    · simp [toPs, PyData.canLayAll0, q.lay, b]
    · have := q.dep
      simp only [toPs, PyData.depthAll]
      omega
theorem okD_tup {n : Nat} {ds : List D} (h : ∀ d ∈ ds, okD n d) : okD (n + 1) (.tup ds) := by
  obtain ⟨a, b, c⟩ := okL h
  refine ⟨by simpa [noB] using a, by simpa [D.toP, PyData.canLay0] using b, ?_⟩
  simp only [D.toP, PyData.depth]
  omega
theorem okD_lst {n : Nat} {ds : List D} (h : ∀ d ∈ ds, okD n d) : okD (n + 1) (.lst ds) := by
  obtain ⟨a, b, c⟩ := okL h
  refine ⟨by simpa [noB] using a, by simpa [D.toP, PyData.canLay0] using b, ?_⟩
  simp only [D.toP, PyData.depth]
  omega
theorem okD.shp {n : Nat} {d : D} (h : okD n d) (hn : n ≤ 64) : SeqAt.shaped d.toP = true := by
  unfold SeqAt.shaped
  have := h.dep
  simp [h.lay]
  omega
theorem vw_ok {S : Store} {d : D} (h : noB d = true) : vw S d = d := by
  cases d <;> first | rfl | (simp [noB] at h)
def dq (x y : D) : Bool := PyData.eqv x.toP y.toP
theorem dq_iff {n m : Nat} {x y : D} (hx : okD n x) (hy : okD m y) : dq x y = true ↔ x = y := eqv_of x y hx.nb hy.nb
theorem dq_self {n : Nat} {x : D} (hx : okD n x) : dq x x = true := (dq_iff hx hx).mpr rfl
theorem eqV_ok {n m : Nat} {x y : D} {S : Store} (hx : okD n x) (hy : okD m y) (hn : n ≤ 64) (hm : m ≤ 64) : eqV S x y = some (dq x y) := by
  unfold eqV
  by_cases hs : scalD x y = true
  · rw [if_pos hs]
    congr 1
    rw [Bool.eq_iff_iff, dq_iff hx hy]
    have h1 := hx.nb
    have h2 := hy.nb
    cases x <;> cases y <;> first | (simp [scalD, kind] at hs; done) | (simp [noB] at h1; done) | (simp [noB] at h2; done) | simp [scalEq]
  · rw [if_neg hs, vw_ok hx.nb, vw_ok hy.nb, hx.shp hn, hy.shp hm]
    rfl
theorem eqM_ok {n m : Nat} {x y : D} {S : Store} (hx : okD n x) (hy : okD m y) (hn : n ≤ 64) (hm : m ≤ 64) : eqM x y S = .ok (.bl (dq x y)) S := by
  unfold eqM; rw [eqV_ok hx hy hn hm]
theorem neM_ok {n m : Nat} {x y : D} {S : Store} (hx : okD n x) (hy : okD m y) (hn : n ≤ 64) (hm : m ≤ 64) : neM x y S = .ok (.bl (!dq x y)) S := by
  unfold neM; rw [eqV_ok hx hy hn hm]
theorem toPs_any (ds : List D) (x : D) : ((toPs ds).any fun z => PyData.eqv z x.toP) = ds.any fun z => dq z x := by
  induction ds with
  | nil => rfl
  | cons d ds ih => simp only [toPs, List.any_cons, ih, dq]
theorem inV_ok {n m : Nat} {x y : D} {S : Store} {ds : List D} (hy : sv S y = some ds) (hx : okD n x) (hd : ∀ d ∈ ds, okD m d) (hn : n ≤ 64) (hm : m < 64) : inV S x y = some (ds.any fun z => dq z x) := by
  have hs : SeqAt.shaped (.list (toPs ds)) = true := (okD_lst hd).shp (by omega)
  have e : inV S x y = (match sv S y with
    | some ds => if SeqAt.shaped x.toP && SeqAt.shaped (.list (toPs ds)) then some ((toPs ds).any fun z => PyData.eqv z x.toP) else none
    | none => none) := by
    cases y <;> first | rfl | cases hy
  rw [e, hy]
  dsimp only
  rw [hx.shp hn, hs, toPs_any]
  rfl
theorem inD_ok {n m : Nat} {x y : D} {S : Store} {ds : List D} (hy : sv S y = some ds) (hx : okD n x) (hd : ∀ d ∈ ds, okD m d) (hn : n ≤ 64) (hm : m < 64) : inD x y S = .ok (.bl (ds.any fun z => dq z x)) S := by
  unfold inD; rw [inV_ok hy hx hd hn hm]
theorem notInD_ok {n m : Nat} {x y : D} {S : Store} {ds : List D} (hy : sv S y = some ds) (hx : okD n x) (hd : ∀ d ∈ ds, okD m d) (hn : n ≤ 64) (hm : m < 64) : notInD x y S = .ok (.bl (!ds.any fun z => dq z x)) S := by
  unfold notInD; rw [inV_ok hy hx hd hn hm]
theorem any_dq {n m : Nat} {x : D} {ds : List D} (hx : okD n x) (hd : ∀ d ∈ ds, okD m d) : (ds.any fun z => dq z x) = true ↔ x ∈ ds := by
  rw [List.any_eq_true]
  constructor
  · rintro ⟨z, h1, h2⟩
    rw [(dq_iff (hd z h1) hx).mp h2] at h1
    exact h1
  · exact fun h => ⟨x, h, dq_self hx⟩
end F

set_option linter.all false
set_option autoImplicit false
namespace F
open PySem
def FUEL : Nat := 10000
def RECN : Nat := 8
def b__law_mix  : SS :=
  (seqS (asgS (varD 1) (.name 2))
  (seqS (forS (.name 3) (itE (varD 0)) (asgS (op2 modD (appA (consA (op2 addD (op2 addD (op2 mulD (varD 2) (cD (.int 48271))) (op2 modD (appA (consA (varD 3) nilA) (g1 intD)) (cD (.int 2147483629)))) (cD (.int 1))) nilA) (g1 intD)) (cD (.int 2147483647))) (.name 2)))
  (retS (celE (consA (varD 2) (consA (appA (consA (varD 0) nilA) (g1 listC)) (consA (cD (.int 0)) nilA)))))))

def b__law_next  : SS :=
  (seqS (asgS (op2 ixD (op2 addD (op2 ixD (varD 0) (cD (.int 1))) (lstE (consA (cD (.int 0)) nilA))) (op2 modD (appA (consA (op2 ixD (varD 0) (cD (.int 2))) nilA) (g1 intD)) (appA (consA (cD (.int 1)) (consA (appA (consA (op2 ixD (varD 0) (cD (.int 1))) nilA) (g1 lenD)) nilA)) (g2 max2D)))) (.name 2))
  (seqS (ifS (boolT (op2 geD (varD 2) (op2 powD (cD (.int 10)) (cD (.int 18))))) (seqS (setItS (op2 divD (varD 2) (varD 1)) (op2 ixD (varD 0) (cD (.int 1))) (op2 modD (appA (consA (op2 ixD (varD 0) (cD (.int 2))) nilA) (g1 intD)) (appA (consA (op2 ixD (varD 0) (cD (.int 1))) nilA) (g1 lenD))))
  (retS (op2 modD (appA (consA (varD 2) nilA) (g1 intD)) (varD 1)))) nxS)
  (seqS (setItS (op2 modD (appA (consA (op2 addD (op2 addD (op2 mulD (op2 ixD (varD 0) (cD (.int 0))) (cD (.int 48271))) (op2 mulD (varD 2) (cD (.int 69621)))) (cD (.int 11))) nilA) (g1 intD)) (cD (.int 2147483647))) (varD 0) (cD (.int 0)))
  (seqS (setItS (op2 addD (op2 ixD (varD 0) (cD (.int 2))) (cD (.int 1))) (varD 0) (cD (.int 2)))
  (retS (op2 modD (appA (consA (op2 divD (op2 ixD (varD 0) (cD (.int 0))) (cD (.int 7))) nilA) (g1 intD)) (varD 1)))))))

def b__law_pick (g__law_next : List D → M D) : SS :=
  (retS (op2 ixD (varD 1) (appA (consA (varD 0) (consA (appA (consA (varD 1) nilA) (g1 lenD)) nilA)) (cal 2 g__law_next))))

def b__law_packs (g__law_next g__law_pick : List D → M D) : SS :=
  (seqS (asgS (tupE nilA) (.name 1))
  (seqS (forS (.name 2) (appA (consA (op2 addD (cD (.int 1)) (appA (consA (varD 0) (consA (cD (.int 4)) nilA)) (cal 2 g__law_next))) nilA) itR1) (seqS (asgS (tupE (consA (op2 addD (cD (.int 1)) (appA (consA (varD 0) (consA (cD (.int 12)) nilA)) (cal 2 g__law_next))) (consA (op2 addD (cD (.int 1)) (appA (consA (varD 0) (consA (lstE (consA (appA (consA (varD 0) (consA (cD (.int 12)) nilA)) (cal 2 g__law_next)) (consA (appA (consA (varD 0) (consA (cD (.int 99)) nilA)) (cal 2 g__law_next)) nilA))) nilA)) (cal 2 g__law_pick))) nilA))) (.name 3))
  (ifS (boolT (op2 notInD (varD 3) (varD 1))) (asgS (op2 addD (varD 1) (tupE (consA (varD 3) nilA))) (.name 1)) nxS)))
  (retS (varD 1))))

def b__law_prices  : SS :=
  (seqS (asgS (op2 addC (lstE (consA (cD (.int 0)) nilA)) (op2 mulD (lstE (consA (cD .non) nilA)) (op2 addD (varD 1) (cD (.int 12))))) (.name 2))
  (seqS (forS (.name 3) (appA (consA (cD (.int 1)) (consA (appA (consA (varD 2) nilA) (g1 lenD)) nilA)) itR2) (forS (.tup [6, 7]) (itE (varD 0)) (ifS (andT (boolT (op2 leD (varD 6) (varD 3))) (boolT (op2 (noneOp true) (op2 ixD (varD 2) (op2 subD (varD 3) (varD 6))) (cD .non)))) (seqS (asgS (op2 addD (op2 ixD (varD 2) (op2 subD (varD 3) (varD 6))) (varD 7)) (.name 8))
  (setItS (ifE (boolT (op2 (noneOp false) (op2 ixD (varD 2) (varD 3)) (cD .non))) (varD 8) (appA (consA (varD 8) (consA (op2 ixD (varD 2) (varD 3)) nilA)) (g2 min2D))) (varD 2) (varD 3))) nxS)))
  (seqS (parS (consA (lstE nilA) (consA (cD .non) nilA)) [4, 5])
  (seqS (forS (.name 3) (appA (consA (op2 subD (appA (consA (varD 2) nilA) (g1 lenD)) (cD (.int 1))) (consA (op1 negD (cD (.int 1))) (consA (op1 negD (cD (.int 1))) nilA))) itR3) (seqS (ifS (andT (boolT (op2 (noneOp true) (op2 ixD (varD 2) (varD 3)) (cD .non))) (orT (boolT (op2 (noneOp false) (varD 5) (cD .non))) (boolT (op2 ltD (op2 ixD (varD 2) (varD 3)) (varD 5))))) (asgS (op2 ixD (varD 2) (varD 3)) (.name 5)) nxS)
  (asgS (ifE (boolT (op2 leD (varD 3) (varD 1))) (op2 addD (lstE (consA (varD 5) nilA)) (varD 4)) (varD 4)) (.name 4))))
  (retS (varD 4))))))

def b__law_alike (g__law_alike : List D → M D) : SS :=
  (seqS (ifS (truT (appA (consA (varD 1) (consA (cD (.ty "dict")) nilA)) (g2 isiD))) (retS (andE (appA (consA (varD 0) (consA (cD (.ty "dict")) nilA)) (g2 isiD)) (andE (appA (consA (appA (consA (varD 0) nilA) (g1 listD)) (consA (appA (consA (varD 1) nilA) (g1 listD)) nilA)) (cal 2 g__law_alike)) (op2 eqM (varD 0) (varD 1))))) nxS)
  (seqS (ifS (truT (appA (consA (varD 1) (consA (tupE (consA (cD (.ty "tuple")) (consA (cD (.ty "list")) nilA))) nilA)) (g2 isiD))) (seqS (ifS (orT (notT (truT (appA (consA (varD 0) (consA (tupE (consA (cD (.ty "tuple")) (consA (cD (.ty "list")) nilA))) nilA)) (g2 isiD)))) (boolT (op2 neM (appA (consA (varD 0) (consA (cD (.ty "list")) nilA)) (g2 isiD)) (appA (consA (varD 1) (consA (cD (.ty "list")) nilA)) (g2 isiD))))) (retS (cD (.bl false))) nxS)
  (seqS (ifS (boolT (op2 neM (appA (consA (varD 0) nilA) (g1 lenD)) (appA (consA (varD 1) nilA) (g1 lenD)))) (retS (cD (.bl false))) nxS)
  (retS (op2 eqM (lcE [2] (.name 2) (appA (consA (appA (consA (varD 1) nilA) (g1 lenD)) nilA) itR1) (notT (truT (appA (consA (op2 ixD (varD 0) (varD 2)) (consA (op2 ixD (varD 1) (varD 2)) nilA)) (cal 2 g__law_alike)))) (varD 2)) (lstE nilA))))) nxS)
  (seqS (ifS (orT (boolT (op2 (noneOp false) (varD 1) (cD .non))) (truT (appA (consA (varD 1) (consA (cD (.ty "str")) nilA)) (g2 isiD)))) (retS (andE (op2 eqM (varD 0) (varD 1)) (op2 eqM (appA (consA (varD 0) (consA (cD (.ty "str")) nilA)) (g2 isiD)) (appA (consA (varD 1) (consA (cD (.ty "str")) nilA)) (g2 isiD))))) nxS)
  (retS (andE (appA (consA (varD 0) (consA (cD (.ty "int")) nilA)) (g2 isiD)) (andE (op2 eqM (appA (consA (varD 0) (consA (cD (.ty "bool")) nilA)) (g2 isiD)) (appA (consA (varD 1) (consA (cD (.ty "bool")) nilA)) (g2 isiD))) (op2 eqM (varD 0) (varD 1))))))))

def b_is_integer  : SS :=
  (retS (andE (appA (consA (varD 0) (consA (cD (.ty "int")) nilA)) (g2 isiD)) (andE (op1 notD (appA (consA (varD 0) (consA (cD (.ty "bool")) nilA)) (g2 isiD))) (chain leD leD (varD 1) (varD 0) (varD 2)))))

def b_is_pack (g_is_integer : List D → M D) : SS :=
  (seqS (ifS (orT (notT (truT (appA (consA (varD 0) (consA (cD (.ty "tuple")) nilA)) (g2 isiD)))) (boolT (op2 neM (appA (consA (varD 0) nilA) (g1 lenD)) (cD (.int 2))))) (retS (cD (.bl false))) nxS)
  (retS (andE (appA (consA (op2 ixD (varD 0) (cD (.int 0))) (consA (cD (.int 1)) (consA (cD (.int 12)) nilA))) (cal 3 g_is_integer)) (appA (consA (op2 ixD (varD 0) (cD (.int 1))) (consA (cD (.int 1)) (consA (cD (.int 99)) nilA))) (cal 3 g_is_integer)))))

def b_check_packs (g_is_pack : List D → M D) : SS :=
  (seqS (ifS (orT (notT (truT (appA (consA (varD 0) (consA (cD (.ty "tuple")) nilA)) (g2 isiD)))) (notT (boolT (chain leD leD (cD (.int 1)) (appA (consA (varD 0) nilA) (g1 lenD)) (cD (.int 4)))))) nevS nxS)
  (forS (.tup [1, 2]) (itEn (consA (varD 0) nilA)) (ifS (orT (notT (truT (appA (consA (varD 2) nilA) (cal 1 g_is_pack)))) (boolT (op2 inD (varD 2) (slE (varD 0) (fun _ => ret none) (fun ρ => bnd ((varD 1) ρ) asInt))))) nevS nxS)))

def b_check_amount (g_is_integer : List D → M D) : SS :=
  (ifS (notT (truT (appA (consA (varD 0) (consA (cD (.int 0)) (consA (cD (.int 1000000000000000000000000000000)) nilA))) (cal 3 g_is_integer)))) nevS nxS)

def b_cheapest  : SS :=
  (seqS (asgS (cD (.int 0)) (.name 1))
  (seqS (forS (.tup [2, 3]) (itEn (consA (varD 0) nilA)) (ifS (boolT (op2 ltD (op2 mulD (op2 ixD (varD 3) (cD (.int 1))) (op2 ixD (op2 ixD (varD 0) (varD 1)) (cD (.int 0)))) (op2 mulD (op2 ixD (op2 ixD (varD 0) (varD 1)) (cD (.int 1))) (op2 ixD (varD 3) (cD (.int 0)))))) (asgS (varD 2) (.name 1)) nxS))
  (retS (varD 1))))

def b_settled_amount (g_cheapest : List D → M D) : SS :=
  (retS (op2 mulD (op2 subD (op2 ixD (op2 ixD (varD 0) (appA (consA (varD 0) nilA) (cal 1 g_cheapest))) (cD (.int 0))) (cD (.int 1))) (appA (consA (lcE [1] (.name 1) (itE (varD 0)) yesT (op2 ixD (varD 1) (cD (.int 0)))) nilA) (g1 maxLD))))

def b_split_amount (g_settled_amount g_cheapest : List D → M D) : SS :=
  (seqS (parS (consA (op2 ixD (op2 ixD (varD 0) (appA (consA (varD 0) nilA) (cal 1 g_cheapest))) (cD (.int 0))) (consA (appA (consA (varD 0) nilA) (cal 1 g_settled_amount)) nilA)) [3, 4])
  (seqS (asgS (appA (consA (cD (.int 0)) (consA (op2 divD (op2 subD (op2 addD (op2 subD (varD 1) (varD 4)) (varD 3)) (cD (.int 1))) (varD 3)) nilA)) (g2 max2D)) (.name 2))
  (retS (tupE (consA (varD 2) (consA (appA (consA (cD (.int 0)) (consA (op2 subD (varD 1) (op2 mulD (varD 2) (varD 3))) nilA)) (g2 max2D)) nilA))))))

def b_prices_to  : SS :=
  (seqS (asgS (tupE (consA (celE (consA (cD (.int 0)) nilA)) (consA (celE (consA (cD .non) nilA)) nilA))) (.tup [3, 4]))
  (seqS (forS (.name 2) (appA (consA (cD (.int 1)) (consA (op2 addD (varD 1) (cD (.int 1))) nilA)) itR2) (seqS (asgS (lcE [8, 9] (.tup [8, 9]) (itEn (consA (varD 0) nilA)) yesT (tupE (consA (op2 addD (op2 ixD (varD 9) (cD (.int 1))) (op2 ixD (varD 3) (appA (consA (cD (.int 0)) (consA (op2 subD (varD 2) (op2 ixD (varD 9) (cD (.int 0)))) nilA)) (g2 max2D)))) (consA (varD 8) nilA)))) (.name 5))
  (seqS (asgS (appA (consA (varD 5) nilA) (g1 minPD)) (.tup [6, 7]))
  (seqS (dropS (mtE (varD 3) (consA (varD 6) nilA) appD))
  (dropS (mtE (varD 4) (consA (varD 7) nilA) appD))))))
  (retS (tupE (consA (varD 3) (consA (varD 4) nilA))))))

def b_bought (g_cheapest g_prices_to g_split_amount g_check_amount g_check_packs : List D → M D) (fuel : Nat) : SS :=
  (seqS (dropS (appA (consA (varD 0) nilA) (cal 1 g_check_packs)))
  (seqS (dropS (appA (consA (varD 1) nilA) (cal 1 g_check_amount)))
  (seqS (asgS (appA (consA (varD 0) (consA (varD 1) nilA)) (cal 2 g_split_amount)) (.tup [2, 3]))
  (seqS (parS (consA (op2 ixD (appA (consA (varD 0) (consA (varD 3) nilA)) (cal 2 g_prices_to)) (cD (.int 1))) (consA (op2 repC (lstE (consA (cD (.int 0)) nilA)) (appA (consA (varD 0) nilA) (g1 lenD))) nilA)) [4, 5])
  (seqS (setItS (varD 2) (varD 5) (appA (consA (varD 0) nilA) (cal 1 g_cheapest)))
  (seqS (whGo (boolT (op2 gtD (varD 3) (cD (.int 0)))) (seqS (asgS (op2 ixD (varD 4) (varD 3)) (.name 6))
  (seqS (setItS (op2 addD (op2 ixD (varD 5) (varD 6)) (cD (.int 1))) (varD 5) (varD 6))
  (asgS (appA (consA (cD (.int 0)) (consA (op2 subD (varD 3) (op2 ixD (op2 ixD (varD 0) (varD 6)) (cD (.int 0)))) nilA)) (g2 max2D)) (.name 3)))) fuel)
  (retS (appA (consA (varD 5) nilA) (g1 tupleD)))))))))

def b__law_is_bought (g_bought : List D → M D) : SS :=
  (seqS (asgS (appA (consA (varD 0) (consA (varD 1) nilA)) (cal 2 g_bought)) (.name 3))
  (seqS (ifS (orT (notT (truT (appA (consA (varD 3) (consA (cD (.ty "tuple")) nilA)) (g2 isiD)))) (orT (boolT (op2 neM (appA (consA (varD 3) nilA) (g1 lenD)) (appA (consA (varD 0) nilA) (g1 lenD)))) (boolT (op2 neM (lcE [4] (.name 4) (itE (varD 3)) (boolT (op2 ltD (varD 4) (cD (.int 0)))) (varD 4)) (lstE nilA))))) (retS (cD (.bl false))) nxS)
  (seqS (ifS (boolT (op2 neM (lcE [4] (.name 4) (itE (varD 3)) (orT (truT (appA (consA (varD 4) (consA (cD (.ty "bool")) nilA)) (g2 isiD))) (notT (truT (appA (consA (varD 4) (consA (cD (.ty "int")) nilA)) (g2 isiD))))) (varD 4)) (lstE nilA))) (retS (cD (.bl false))) nxS)
  (seqS (ifS (boolT (op2 ltD (appA (consA (lcE [5] (.name 5) (appA (consA (appA (consA (varD 0) nilA) (g1 lenD)) nilA) itR1) yesT (op2 mulD (op2 ixD (varD 3) (varD 5)) (op2 ixD (op2 ixD (varD 0) (varD 5)) (cD (.int 0))))) nilA) (g1 sumD)) (varD 1))) (retS (cD (.bl false))) nxS)
  (retS (op2 eqM (appA (consA (lcE [5] (.name 5) (appA (consA (appA (consA (varD 0) nilA) (g1 lenD)) nilA) itR1) yesT (op2 mulD (op2 ixD (varD 3) (varD 5)) (op2 ixD (op2 ixD (varD 0) (varD 5)) (cD (.int 1))))) nilA) (g1 sumD)) (varD 2)))))))

def b_cost (g_cheapest g_prices_to g_split_amount g_check_amount g_check_packs : List D → M D) : SS :=
  (seqS (dropS (appA (consA (varD 0) nilA) (cal 1 g_check_packs)))
  (seqS (dropS (appA (consA (varD 1) nilA) (cal 1 g_check_amount)))
  (seqS (asgS (appA (consA (varD 0) (consA (varD 1) nilA)) (cal 2 g_split_amount)) (.tup [2, 3]))
  (retS (op2 addD (op2 mulD (varD 2) (op2 ixD (op2 ixD (varD 0) (appA (consA (varD 0) nilA) (cal 1 g_cheapest))) (cD (.int 1)))) (op2 ixD (op2 ixD (appA (consA (varD 0) (consA (varD 3) nilA)) (cal 2 g_prices_to)) (cD (.int 0))) (varD 3)))))))

def b_law (g__law_is_bought g__law_alike g_cost g__law_pick g__law_next g__law_prices g__law_packs g__law_mix : List D → M D) : SS :=
  (seqS (asgS (appA (consA (varD 0) (consA (cD (.int 12)) nilA)) (cal 2 g__law_mix)) (.name 1))
  (seqS (forS (.name 2) (appA (consA (cD (.int 4)) nilA) itR1) (seqS (asgS (appA (consA (varD 1) nilA) (cal 1 g__law_packs)) (.name 3))
  (seqS (parS (consA (appA (consA (varD 3) (consA (cD (.int 200)) nilA)) (cal 2 g__law_prices)) (consA (op2 ixD (varD 3) (cD (.int 0))) nilA)) [9, 10])
  (seqS (forS (.name 4) (itE (varD 3)) (ifS (boolT (op2 ltD (op2 mulD (op2 ixD (varD 4) (cD (.int 1))) (op2 ixD (varD 10) (cD (.int 0)))) (op2 mulD (op2 ixD (varD 10) (cD (.int 1))) (op2 ixD (varD 4) (cD (.int 0)))))) (asgS (varD 4) (.name 10)) nxS))
  (seqS (forS (.name 5) (appA (consA (cD (.int 5)) nilA) itR1) (seqS (asgS (appA (consA (varD 1) (consA (cD (.int 201)) nilA)) (cal 2 g__law_next)) (.name 11))
  (ifS (orT (notT (truT (appA (consA (appA (consA (varD 3) (consA (varD 11) nilA)) (cal 2 g_cost)) (consA (op2 ixD (varD 9) (varD 11)) nilA)) (cal 2 g__law_alike)))) (notT (truT (appA (consA (varD 3) (consA (varD 11) (consA (op2 ixD (varD 9) (varD 11)) nilA))) (cal 3 g__law_is_bought))))) (retS (cD (.bl false))) nxS)))
  (seqS (asgS (appA (consA (varD 1) (consA (lstE (consA (op2 powD (cD (.int 10)) (cD (.int 30))) (consA (op2 subD (op2 powD (cD (.int 10)) (cD (.int 30))) (appA (consA (varD 1) (consA (op2 powD (cD (.int 10)) (cD (.int 17))) nilA)) (cal 2 g__law_next))) (consA (op2 addD (cD (.int 201)) (appA (consA (varD 1) (consA (op2 powD (cD (.int 10)) (cD (.int 6))) nilA)) (cal 2 g__law_next))) nilA)))) nilA)) (cal 2 g__law_pick)) (.name 6))
  (seqS (asgS (op2 divD (op2 subD (varD 6) (cD (.int 188))) (op2 ixD (varD 10) (cD (.int 0)))) (.name 7))
  (seqS (asgS (op2 addD (op2 mulD (varD 7) (op2 ixD (varD 10) (cD (.int 1)))) (op2 ixD (varD 9) (op2 subD (varD 6) (op2 mulD (varD 7) (op2 ixD (varD 10) (cD (.int 0))))))) (.name 8))
  (ifS (orT (notT (truT (appA (consA (appA (consA (varD 3) (consA (varD 6) nilA)) (cal 2 g_cost)) (consA (varD 8) nilA)) (cal 2 g__law_alike)))) (notT (truT (appA (consA (varD 3) (consA (varD 6) (consA (varD 8) nilA))) (cal 3 g__law_is_bought))))) (retS (cD (.bl false))) nxS)))))))))
  (retS (cD (.bl true)))))
def g__law_mix : List D → M D := runB (b__law_mix) 4

def g__law_next : List D → M D := runB (b__law_next) 3

def g__law_pick : List D → M D := runB (b__law_pick g__law_next) 2

def g__law_packs : List D → M D := runB (b__law_packs g__law_next g__law_pick) 4

def g__law_prices : List D → M D := fun ds S => closeOut S.length (runB (b__law_prices) 9 ds S)

def r__law_alike : Nat → List D → M D
  | 0 => fun _ => stuck
  | n + 1 => let r := r__law_alike n; runB (b__law_alike r) 3
def g__law_alike : List D → M D := r__law_alike RECN

def g_is_integer : List D → M D := runB (b_is_integer) 3

def g_is_pack : List D → M D := runB (b_is_pack g_is_integer) 1

def g_check_packs : List D → M D := runB (b_check_packs g_is_pack) 3

def g_check_amount : List D → M D := runB (b_check_amount g_is_integer) 1

def g_cheapest : List D → M D := runB (b_cheapest) 4

def g_settled_amount : List D → M D := runB (b_settled_amount g_cheapest) 2

def g_split_amount : List D → M D := runB (b_split_amount g_settled_amount g_cheapest) 5

def g_prices_to : List D → M D := fun ds S => closeOut S.length (runB (b_prices_to) 10 ds S)

def g_bought : List D → M D := fun ds S => closeOut S.length (runB (b_bought g_cheapest g_prices_to g_split_amount g_check_amount g_check_packs FUEL) 7 ds S)

def g__law_is_bought : List D → M D := runB (b__law_is_bought g_bought) 6

def g_cost : List D → M D := runB (b_cost g_cheapest g_prices_to g_split_amount g_check_amount g_check_packs) 4

def g_law : List D → M D := runB (b_law g__law_is_bought g__law_alike g_cost g__law_pick g__law_next g__law_prices g__law_packs g__law_mix) 12
end F

set_option linter.all false
set_option autoImplicit false
/-! The least price of at least so much, by packs (size, price). -/
namespace F
def minL : List Nat → Nat
  | [] => 0
  | [a] => a
  | a :: b :: l => min a (minL (b :: l))
theorem minL_cons {a : Nat} {l : List Nat} (h : l ≠ []) : minL (a :: l) = min a (minL l) := by
  cases l with
  | nil => exact absurd rfl h
  | cons b l => rfl
theorem minL_le : ∀ {l : List Nat} {x : Nat}, x ∈ l → minL l ≤ x
  | [a], x, h => by simp at h; subst h; exact Nat.le_refl _
  | a :: b :: l, x, h => by
    rw [minL_cons (by simp)]
    rcases List.mem_cons.mp h with h | h
    · subst h; omega
    · have := minL_le h; omega
theorem minL_mem : ∀ {l : List Nat}, l ≠ [] → minL l ∈ l
  | [a], _ => by simp [minL]
  | a :: b :: l, _ => by
    rw [minL_cons (by simp)]
    have := minL_mem (l := b :: l) (by simp)
    by_cases h : a ≤ minL (b :: l)
    · rw [Nat.min_eq_left h]; simp
    · rw [Nat.min_eq_right (by omega)]; exact List.mem_cons_of_mem _ this
abbrev Pk := Nat × Nat
def Cf (ps : List Pk) : Nat → Nat → Nat
  | 0, _ => 0
  | n + 1, a => if a = 0 then 0 else minL (ps.map fun p => p.2 + Cf ps n (a - p.1))
def Co (ps : List Pk) (a : Nat) : Nat := Cf ps a a
structure WP (ps : List Pk) : Prop where
  ne : ps ≠ []
  len : ps.length ≤ 4
  sz : ∀ p ∈ ps, 1 ≤ p.1 ∧ p.1 ≤ 12
  pr : ∀ p ∈ ps, 1 ≤ p.2 ∧ p.2 ≤ 99
  nd : ps.Nodup
section
variable {ps : List Pk}
theorem Cf_eq (hs : ∀ p ∈ ps, 1 ≤ p.1) : ∀ (n a m : Nat), a ≤ n → a ≤ m → Cf ps n a = Cf ps m a := by
  intro n
  induction n with
  | zero =>
    intro a m h1 h2
    have : a = 0 := by omega
    subst this
    cases m <;> simp [Cf]
  | succ n ih =>
    intro a m h1 h2
    cases m with
    | zero =>
      have : a = 0 := by omega
      subst this
      simp [Cf]
    | succ m =>
      by_cases ha : a = 0
      · simp [Cf, ha]
      · simp only [Cf, ha, if_false]
        congr 1
        apply List.map_congr_left
        intro p hp
        have := hs p hp
        rw [ih (a - p.1) m (by omega) (by omega)]
theorem C_zero : Co ps 0 = 0 := rfl
theorem C_pos (hs : ∀ p ∈ ps, 1 ≤ p.1) {a : Nat} (ha : 0 < a) : Co ps a = minL (ps.map fun p => p.2 + Co ps (a - p.1)) := by
  obtain ⟨n, rfl⟩ : ∃ n, a = n + 1 := ⟨a - 1, by omega⟩
  unfold Co
  show (if n + 1 = 0 then 0 else minL (ps.map fun p => p.2 + Cf ps n (n + 1 - p.1))) = _
  rw [if_neg (by omega)]
  congr 1
  apply List.map_congr_left
  intro p hp
  have := hs p hp
  rw [Cf_eq hs n (n + 1 - p.1) (n + 1 - p.1) (by omega) (Nat.le_refl _)]
variable (W : WP ps)
include W
theorem WP.s1 : ∀ p ∈ ps, 1 ≤ p.1 := fun p h => (W.sz p h).1
theorem C_le {a : Nat} {p : Pk} (hp : p ∈ ps) (ha : 0 < a) : Co ps a ≤ p.2 + Co ps (a - p.1) := by
  rw [C_pos W.s1 ha]
  exact minL_le (List.mem_map.mpr ⟨p, hp, rfl⟩)
theorem C_ex {a : Nat} (ha : 0 < a) : ∃ p ∈ ps, Co ps a = p.2 + Co ps (a - p.1) := by
  have := minL_mem (l := ps.map fun p => p.2 + Co ps (a - p.1)) (by simp [W.ne])
  rw [← C_pos W.s1 ha] at this
  obtain ⟨p, h1, h2⟩ := List.mem_map.mp this
  exact ⟨p, h1, h2.symm⟩
end
/-! lists of packs -/
def szs (l : List Pk) : Nat := (l.map (·.1)).sum
def prs (l : List Pk) : Nat := (l.map (·.2)).sum
theorem szs_cons (p : Pk) (l : List Pk) : szs (p :: l) = p.1 + szs l := by simp [szs]
theorem prs_cons (p : Pk) (l : List Pk) : prs (p :: l) = p.2 + prs l := by simp [prs]
theorem szs_app (l m : List Pk) : szs (l ++ m) = szs l + szs m := by simp [szs]
theorem prs_app (l m : List Pk) : prs (l ++ m) = prs l + prs m := by simp [prs]
theorem szs_rep (p : Pk) (k : Nat) : szs (List.replicate k p) = k * p.1 := by simp [szs]
theorem prs_rep (p : Pk) (k : Nat) : prs (List.replicate k p) = k * p.2 := by simp [prs]
section
variable {ps : List Pk} (W : WP ps)
include W
theorem C_opt : ∀ (l : List Pk) (a : Nat), (∀ p ∈ l, p ∈ ps) → a ≤ szs l → Co ps a ≤ prs l
  | [], a, _, h => by
    have : a = 0 := by simpa [szs] using h
    subst this
    simp [C_zero]
  | p :: l, a, hl, h => by
    by_cases ha : a = 0
    · subst ha; simp [C_zero]
    · have h1 := C_le W (a := a) (hl p (by simp)) (by omega)
      rw [szs_cons] at h
      have h2 := C_opt l (a - p.1) (fun q hq => hl q (by simp [hq])) (by omega)
      rw [prs_cons]
      omega
theorem C_list : ∀ (n a : Nat), a ≤ n → ∃ l : List Pk, (∀ p ∈ l, p ∈ ps) ∧ a ≤ szs l ∧ szs l ≤ a + 11 ∧ prs l = Co ps a := by
  intro n
  induction n with
  | zero =>
    intro a h
    have : a = 0 := by omega
    subst this
    exact ⟨[], by simp, by simp [szs], by simp [szs], by simp [prs, C_zero]⟩
  | succ n ih =>
    intro a h
    by_cases ha : a = 0
    · subst ha
      exact ⟨[], by simp, by simp [szs], by simp [szs], by simp [prs, C_zero]⟩
    · obtain ⟨p, hp, e⟩ := C_ex W (a := a) (by omega)
      have hs := W.sz p hp
      obtain ⟨l, h1, h2, h3, h4⟩ := ih (a - p.1) (by omega)
      by_cases hc : p.1 ≤ a
      · refine ⟨p :: l, ?_, ?_, ?_, ?_⟩
        · intro q hq
          rcases List.mem_cons.mp hq with rfl | hq
          · exact hp
          · exact h1 q hq
        · rw [szs_cons]; omega
        · rw [szs_cons]; omega
        · rw [prs_cons, h4, e]
      · refine ⟨[p], by simpa using hp, ?_, ?_, ?_⟩
        · rw [szs_cons]; simp [szs]; omega
        · rw [szs_cons]; simp [szs]; omega
        · rw [prs_cons, e]
          have : a - p.1 = 0 := by omega
          rw [this, C_zero]
          simp [prs]
end
/-! some run of as many as n makes a multiple of n -/
theorem php : ∀ (n : Nat) (f : Nat → Nat), (∀ i ≤ n, f i < n) → ∃ i j, i < j ∧ j ≤ n ∧ f i = f j
  | 0, f, h => absurd (h 0 (Nat.le_refl _)) (by omega)
  | n + 1, f, h => by
    by_cases hx : ∃ i, i ≤ n ∧ f i = f (n + 1)
    · obtain ⟨i, h1, h2⟩ := hx
      exact ⟨i, n + 1, by omega, Nat.le_refl _, h2⟩
    · have hx' : ∀ i ≤ n, f i ≠ f (n + 1) := fun i hi e => hx ⟨i, hi, e⟩
      obtain ⟨i, j, h1, h2, h3⟩ := php n (fun i => if f (n + 1) < f i then f i - 1 else f i) (fun i hi => by
        have a := hx' i hi
        have b := h i (by omega)
        have c := h (n + 1) (Nat.le_refl _)
        split <;> omega)
      have a := hx' i (by omega)
      have b := hx' j h2
      refine ⟨i, j, h1, by omega, ?_⟩
      split at h3 <;> split at h3 <;> omega
theorem run_mul {n : Nat} (hn : 0 < n) {l : List Pk} (hl : n ≤ l.length) : ∃ a b c : List Pk, l = a ++ b ++ c ∧ b ≠ [] ∧ szs b % n = 0 := by
  obtain ⟨i, j, h1, h2, h3⟩ := php n (fun i => szs (l.take i) % n) (fun i _ => Nat.mod_lt _ hn)
  refine ⟨l.take i, (l.drop i).take (j - i), l.drop j, ?_, ?_, ?_⟩
  · have e : l.take i ++ (l.drop i).take (j - i) = l.take j := by
      have := List.take_add (l := l) (i := i) (j := j - i)
      rw [show i + (j - i) = j by omega] at this
      exact this.symm
    rw [e, List.take_append_drop]
  · intro e
    have := congrArg List.length e
    rw [List.length_take, List.length_drop] at this
    simp at this
    omega
  · have e : l.take i ++ (l.drop i).take (j - i) = l.take j := by
      have := List.take_add (l := l) (i := i) (j := j - i)
      rw [show i + (j - i) = j by omega] at this
      exact this.symm
    rw [← e, szs_app] at h3
    have := Nat.sub_mod_eq_zero_of_mod_eq h3.symm
    rw [Nat.add_sub_cancel_left] at this
    exact this
/-- the i-th is a best one -/
structure Best (ps : List Pk) (b : Pk) : Prop where
  mem : b ∈ ps
  le : ∀ p ∈ ps, b.2 * p.1 ≤ p.2 * b.1
theorem best_run {ps : List Pk} {b : Pk} (B : Best ps b) : ∀ l : List Pk, (∀ p ∈ l, p ∈ ps) → b.2 * szs l ≤ prs l * b.1
  | [], _ => by simp [szs]
  | p :: l, h => by
    rw [szs_cons, prs_cons, Nat.mul_add, Nat.add_mul]
    have h1 := B.le p (h p (by simp))
    have h2 := best_run B l (fun q hq => h q (by simp [hq]))
    omega
theorem szs_le {M : Nat} : ∀ l : List Pk, (∀ p ∈ l, p.1 ≤ M) → szs l ≤ l.length * M
  | [], _ => by simp [szs]
  | p :: l, h => by
    rw [szs_cons, List.length_cons, Nat.add_mul]
    have h1 := h p (by simp)
    have h2 := szs_le l (fun q hq => h q (by simp [hq]))
    omega
theorem C_shift {ps : List Pk} (W : WP ps) {b : Pk} (B : Best ps b) {M : Nat} (hM : ∀ p ∈ ps, p.1 ≤ M) {a : Nat} (ha : (b.1 - 1) * M < a + b.1) : Co ps (a + b.1) = Co ps a + b.2 := by
  have hb := W.sz b B.mem
  have h1 := C_le W (a := a + b.1) B.mem (by omega)
  rw [Nat.add_sub_cancel] at h1
  obtain ⟨l, l1, l2, _, l4⟩ := C_list W (a + b.1) (a + b.1) (Nat.le_refl _)
  have hlen : b.1 ≤ l.length := by
    by_cases h : b.1 ≤ l.length
    · exact h
    · have := szs_le (M := M) l (fun p hp => hM p (l1 p hp))
      have h3 : l.length * M ≤ (b.1 - 1) * M := Nat.mul_le_mul_right _ (by omega)
      omega
  obtain ⟨x, y, z, e, hy, hm⟩ := run_mul (n := b.1) (by omega) hlen
  obtain ⟨k, hk⟩ := Nat.dvd_of_mod_eq_zero hm
  have hin : ∀ p ∈ y, p ∈ ps := fun p hp => l1 p (by rw [e]; simp [hp])
  have hy1 : 0 < szs y := by
    cases y with
    | nil => exact absurd rfl hy
    | cons q y => rw [szs_cons]; have := W.sz q (hin q (by simp)); omega
  have hk1 : 0 < k := by
    cases k with
    | zero => simp at hk; omega
    | succ k => omega
  have hq := best_run B y hin
  rw [hk] at hq
  have hq2 : b.2 * k ≤ prs y := by
    have : b.2 * k * b.1 ≤ prs y * b.1 := by rw [Nat.mul_assoc, Nat.mul_comm k b.1]; exact hq
    exact Nat.le_of_mul_le_mul_right this (by omega)
  have h5 := C_opt W (x ++ List.replicate (k - 1) b ++ z) a (fun p hp => by
    rcases List.mem_append.mp hp with hp | hp
    · rcases List.mem_append.mp hp with hp | hp
      · exact l1 p (by rw [e]; simp [hp])
      · rw [(List.mem_replicate.mp hp).2]; exact B.mem
    · exact l1 p (by rw [e]; simp [hp])) (by
    rw [e, szs_app, szs_app, hk] at l2
    rw [szs_app, szs_app, szs_rep]
    have : b.1 * k = (k - 1) * b.1 + b.1 := by
      obtain ⟨m, rfl⟩ : ∃ m, k = m + 1 := ⟨k - 1, by omega⟩
      rw [Nat.add_sub_cancel, Nat.mul_comm, Nat.add_mul, Nat.one_mul]
    omega)
  rw [prs_app, prs_app, prs_rep] at h5
  rw [e, prs_app, prs_app] at l4
  have h6 : b.2 * k = (k - 1) * b.2 + b.2 := by
    obtain ⟨m, rfl⟩ : ∃ m, k = m + 1 := ⟨k - 1, by omega⟩
    rw [Nat.add_sub_cancel, Nat.mul_comm, Nat.add_mul, Nat.one_mul]
  omega
end F

set_option linter.all false
set_option autoImplicit false
namespace F
open PySem
def pkD (p : Pk) : D := .tup [.int (p.1 : Nat), .int (p.2 : Nat)]
def psD (ps : List Pk) : D := .tup (ps.map pkD)
def opD : Option Nat → D
  | none => .non
  | some v => .int (v : Nat)
def Tl (n : Nat) (T : Nat → Option Nat) : List D := (List.range n).map fun i => opD (T i)
def uT (T : Nat → Option Nat) (n : Nat) (x : Option Nat) : Nat → Option Nat := fun i => if i = n then x else T i
theorem Tl_get {n : Nat} {T : Nat → Option Nat} {i : Nat} (h : i < n) : (Tl n T)[i]? = some (opD (T i)) := by simp [Tl, h]
theorem Tl_len {n : Nat} {T : Nat → Option Nat} : (Tl n T).length = n := by simp [Tl]
theorem Tl_set {n : Nat} {T : Nat → Option Nat} {i : Nat} {x : Option Nat} : (Tl n T).set i (opD x) = Tl n (uT T i x) := by
  apply List.ext_getElem
  · simp [Tl]
  · intro j h1 h2
    simp [Tl, List.getElem_set, uT]
    by_cases e : i = j
    · subst e; simp
    · rw [if_neg e, if_neg (Ne.symm e)]
theorem uT_same {T : Nat → Option Nat} {n : Nat} : uT T n (T n) = T := by
  funext i; unfold uT; split
  · rename_i h; rw [h]
  · rfl
structure EX (ps : List Pk) (i : Nat) (o : Option Nat) : Prop where
  le : ∀ v, o = some v → ∃ l : List Pk, (∀ p ∈ l, p ∈ ps) ∧ szs l = i ∧ prs l = v
  ge : ∀ l : List Pk, (∀ p ∈ l, p ∈ ps) → szs l = i → ∃ v, o = some v ∧ v ≤ prs l
structure EK (ps ks : List Pk) (i : Nat) (o : Option Nat) : Prop where
  le : ∀ v, o = some v → ∃ l : List Pk, (∀ p ∈ l, p ∈ ps) ∧ szs l = i ∧ prs l = v
  ge : ∀ (p : Pk) (l : List Pk), p ∈ ks → (∀ p ∈ l, p ∈ ps) → p.1 + szs l = i → ∃ v, o = some v ∧ v ≤ p.2 + prs l
def put (T : Nat → Option Nat) (n : Nat) (acc : Option Nat) (p : Pk) : Option Nat :=
  if p.1 ≤ n then (match T (n - p.1) with
    | none => acc
    | some v => some (match acc with
      | none => v + p.2
      | some u => if u < v + p.2 then u else v + p.2)) else acc
theorem EK.put {ps ks : List Pk} {n : Nat} {acc : Option Nat} {T : Nat → Option Nat} {p : Pk} (h : EK ps ks n acc) (hp : p ∈ ps) (hT : p.1 ≤ n → EX ps (n - p.1) (T (n - p.1))) : EK ps (ks ++ [p]) n (put T n acc p) := by
  unfold F.put
  by_cases hc : p.1 ≤ n
  · rw [if_pos hc]
    have E := hT hc
    cases q : T (n - p.1) with
    | none =>
      refine ⟨h.le, fun r l hr hl e => ?_⟩
      rcases List.mem_append.mp hr with hr | hr
      · exact h.ge r l hr hl e
      · have : r = p := by simpa using hr
        subst this
        obtain ⟨v, h1, _⟩ := E.ge l hl (by omega)
        rw [q] at h1; cases h1
    | some v =>
      obtain ⟨l0, a1, a2, a3⟩ := E.le v q
      have hnew : ∃ l : List Pk, (∀ p ∈ l, p ∈ ps) ∧ szs l = n ∧ prs l = v + p.2 := ⟨p :: l0, fun r hr => by
        rcases List.mem_cons.mp hr with rfl | hr
        · exact hp
        · exact a1 r hr, by rw [szs_cons]; omega, by rw [prs_cons]; omega⟩
      have hge : ∀ (l : List Pk), (∀ p ∈ l, p ∈ ps) → p.1 + szs l = n → v + p.2 ≤ p.2 + prs l := fun l hl e => by
        obtain ⟨u, h1, h2⟩ := E.ge l hl (by omega)
        rw [q] at h1; cases h1
        omega
      cases acc with
      | none =>
        refine ⟨fun u e => ?_, fun r l hr hl e => ?_⟩
        · cases e; exact hnew
        · rcases List.mem_append.mp hr with hr | hr
          · obtain ⟨_, h1, _⟩ := h.ge r l hr hl e; cases h1
          · have : r = p := by simpa using hr
            subst this
            exact ⟨_, rfl, hge l hl e⟩
      | some u =>
        dsimp only
        refine ⟨fun x e => ?_, fun r l hr hl e => ?_⟩
        · cases e
          split
          · exact h.le u rfl
          · exact hnew
        · refine ⟨_, rfl, ?_⟩
          rcases List.mem_append.mp hr with hr | hr
          · obtain ⟨w, h1, h2⟩ := h.ge r l hr hl e
            cases h1
            split <;> omega
          · have : r = p := by simpa using hr
            subst this
            have := hge l hl e
            split <;> omega
  · rw [if_neg hc]
    refine ⟨h.le, fun r l hr hl e => ?_⟩
    rcases List.mem_append.mp hr with hr | hr
    · exact h.ge r l hr hl e
    · have : r = p := by simpa using hr
      subst this
      omega
theorem EK.nil {ps : List Pk} {n : Nat} : EK ps [] n none := ⟨(fun v h => by cases h), (fun p l hp => by simp at hp)⟩
theorem EK.ex {ps : List Pk} {n : Nat} {o : Option Nat} (hn : 0 < n) (h : EK ps ps n o) : EX ps n o := by
  refine ⟨h.le, fun l hl e => ?_⟩
  cases l with
  | nil => simp [szs] at e; omega
  | cons p l =>
    rw [szs_cons] at e
    rw [prs_cons]
    exact h.ge p l (hl p (by simp)) (fun q hq => hl q (by simp [hq])) e
theorem EX.zero {ps : List Pk} (W : WP ps) : EX ps 0 (some 0) := by
  refine ⟨fun v h => by cases h; exact ⟨[], by simp, by simp [szs], by simp [F.prs]⟩, fun l hl e => ⟨0, rfl, by omega⟩⟩
def LE (T : Nat → Option Nat) (j : Nat) (o : Option Nat) : Prop := (∀ v, o = some v → ∃ i, j ≤ i ∧ i < 213 ∧ T i = some v) ∧ ∀ i v, j ≤ i → i < 213 → T i = some v → ∃ u, o = some u ∧ u ≤ v
def low (x least : Option Nat) : Option Nat := match x with
  | none => least
  | some v => (match least with
    | none => some v
    | some u => if v < u then some v else some u)
theorem LE.step {T : Nat → Option Nat} {j : Nat} {o : Option Nat} (h : LE T (j + 1) o) (hj : j < 213) : LE T j (low (T j) o) := by
  obtain ⟨h1, h2⟩ := h
  cases q : T j with
  | none =>
    refine ⟨fun v e => ?_, fun i v a b c => ?_⟩
    · obtain ⟨i, a, b, c⟩ := h1 v e
      exact ⟨i, by omega, b, c⟩
    · by_cases hi : i = j
      · subst hi; rw [q] at c; cases c
      · exact h2 i v (by omega) b c
  | some w =>
    cases o with
    | none =>
      refine ⟨fun v e => ?_, fun i v a b c => ?_⟩
      · cases e; exact ⟨j, Nat.le_refl _, hj, q⟩
      · by_cases hi : i = j
        · subst hi; rw [q] at c; cases c; exact ⟨_, rfl, Nat.le_refl _⟩
        · obtain ⟨u, e, _⟩ := h2 i v (by omega) b c; cases e
    | some u =>
      unfold low
      dsimp only
      refine ⟨fun v e => ?_, fun i v a b c => ?_⟩
      · split at e
        · cases e; exact ⟨j, Nat.le_refl _, hj, q⟩
        · cases e
          obtain ⟨i, a, b, c⟩ := h1 u rfl
          exact ⟨i, by omega, b, c⟩
      · by_cases hi : i = j
        · subst hi; rw [q] at c; cases c
          split
          · exact ⟨_, rfl, Nat.le_refl _⟩
          · exact ⟨_, rfl, by omega⟩
        · obtain ⟨u', e, hu⟩ := h2 i v (by omega) b c
          cases e
          split
          · exact ⟨_, rfl, by omega⟩
          · exact ⟨_, rfl, hu⟩
theorem LE.co {ps : List Pk} (W : WP ps) {T : Nat → Option Nat} (hT : ∀ i, i < 213 → EX ps i (T i)) {j : Nat} (hj : j ≤ 200) {o : Option Nat} (h : LE T j o) : o = some (Co ps j) := by
  obtain ⟨l, a1, a2, a3, a4⟩ := C_list W j j (Nat.le_refl _)
  obtain ⟨v, b1, b2⟩ := (hT (szs l) (by omega)).ge l a1 rfl
  obtain ⟨u, c1, c2⟩ := h.2 (szs l) v a2 (by omega) b1
  obtain ⟨i, d1, d2, d3⟩ := h.1 u c1
  obtain ⟨m, e1, e2, e3⟩ := (hT i d2).le u d3
  have := C_opt W m j e1 (by omega)
  rw [c1]
  congr 1
  omega
end F

set_option linter.all false
set_option autoImplicit false
set_option maxRecDepth 100000
namespace F
open PySem
theorem none_op (x : Option Nat) (k : Bool) : noneOp k (opD x) .non = ret (.bl (if k then x.isSome else x.isNone)) := by
  cases x <;> cases k <;> rfl
def f_in : SS := (ifS (andT (boolT (op2 leD (varD 6) (varD 3))) (boolT (op2 (noneOp true) (op2 ixD (varD 2) (op2 subD (varD 3) (varD 6))) (cD .non)))) (seqS (asgS (op2 addD (op2 ixD (varD 2) (op2 subD (varD 3) (varD 6))) (varD 7)) (.name 8))
  (setItS (ifE (boolT (op2 (noneOp false) (op2 ixD (varD 2) (varD 3)) (cD .non))) (varD 8) (appA (consA (varD 8) (consA (op2 ixD (varD 2) (varD 3)) nilA)) (g2 min2D))) (varD 2) (varD 3))) nxS)
theorem inner_turn {P : D} {A B : C} {T : Nat → Option Nat} {n : Nat} (hn : n < 213) {p : Pk} (hp : 1 ≤ p.1) {b o8 : Option D} :
    ∃ o8', f_in [some P, b, some (.ref 2), some (.int (n : Nat)), none, none, some (.int (p.1 : Nat)), some (.int (p.2 : Nat)), o8] [A, B, .lst (Tl 213 T)] = .fl (.nx [some P, b, some (.ref 2), some (.int (n : Nat)), none, none, some (.int (p.1 : Nat)), some (.int (p.2 : Nat)), o8']) [A, B, .lst (Tl 213 (uT T n (put T n (T n) p)))] := by
  have hS : ([A, B, .lst (Tl 213 T)] : Store)[2]? = some (.lst (Tl 213 T)) := rfl
  have i2 : ixD (.ref 2) (.int (n : Nat)) [A, B, .lst (Tl 213 T)] = .ok (opD (T n)) [A, B, .lst (Tl 213 T)] := ix_cell hS (by rw [at?_nat, Tl_get hn])
  by_cases h : p.1 ≤ n
  · have i1 : ixD (.ref 2) (.int ((n : Nat) - (p.1 : Nat) : Int)) [A, B, .lst (Tl 213 T)] = .ok (opD (T (n - p.1))) [A, B, .lst (Tl 213 T)] := ix_cell hS (by rw [at?_of _ (n - p.1) (by omega), Tl_get (by omega)])
    have h' : ((p.1 : Nat) : Int) ≤ (n : Nat) := by omega
    cases q : T (n - p.1) with
    | none =>
      refine ⟨o8, ?_⟩
      have e : put T n (T n) p = T n := by unfold put; rw [if_pos h, q]
      rw [e, uT_same]
      simp only [f_in, nat10, nat2, runB, seqS, exS, asgS, retS, retN, dropS, ifS, nxS, nevS, brkS, cntS, setItS, forS, parS, op1, op2, chain, boolT, truT, notT, andT, orT, andE, orE, ifE, nilA, consA, appA, varD, cD, lstE, celE, tupE, slE, itE, itEn, cal_1, cal_2, cal_3, cal_4, cal_5, cal_6, cal_7, yesT, mulOk, List.map_cons, List.map_nil, List.length_cons, List.length_nil, List.getElem?_cons_zero, List.getElem?_cons_succ, List.set_cons_zero, List.set_cons_succ, List.replicate_succ, List.replicate_zero, List.cons_append, List.nil_append, List.append_nil, List.isEmpty_cons, List.isEmpty_nil, Nat.reduceAdd, Nat.reduceSub, Nat.reduceMul, Nat.reduceLeDiff, Nat.reduceEqDiff, Nat.zero_add, Nat.sub_zero, Nat.sub_self, Bool.not_true, Bool.not_false, Bool.true_and, Bool.false_and, Bool.and_true, Bool.and_false, Bool.true_or, Bool.false_or, Bool.or_true, Bool.or_false, Bool.false_eq_true, Bool.not_eq_true, Bool.not_eq_false, Bool.not_not, decide_eq_true_eq, decide_eq_false_iff_not, decide_true, decide_false, if_true, if_false, reduceIte, reduceCtorEq, Nat.zero_le, and_self, and_true, true_and, or_true, true_or, or_false, false_or, not_true_eq_false, not_false_eq_true, Int.reduceLT, Int.reduceLE, Int.reduceNeg, Int.reduceAdd, Int.reduceMul, Int.reduceSub, Int.reducePow, Int.reduceEq, Int.reduceToNat, Nat.reduceLT, Nat.reducePow, Int.cast_ofNat_Int, isi_non_int, isi_non_bool, isi_non_str, isi_non_tuple, isi_non_list, isi_non_dict, isi_non_tuple_list, isi_non_list_tuple, isi_bl_int, isi_bl_bool, isi_bl_str, isi_bl_tuple, isi_bl_list, isi_bl_dict, isi_bl_tuple_list, isi_bl_list_tuple, isi_int_int, isi_int_bool, isi_int_str, isi_int_tuple, isi_int_list, isi_int_dict, isi_int_tuple_list, isi_int_list_tuple, isi_str_int, isi_str_bool, isi_str_str, isi_str_tuple, isi_str_list, isi_str_dict, isi_str_tuple_list, isi_str_list_tuple, isi_tup_int, isi_tup_bool, isi_tup_str, isi_tup_tuple, isi_tup_list, isi_tup_dict, isi_tup_tuple_list, isi_tup_list_tuple, isi_lst_int, isi_lst_bool, isi_lst_str, isi_lst_tuple, isi_lst_list, isi_lst_dict, isi_lst_tuple_list, isi_lst_list_tuple, isi_frz_int, isi_frz_bool, isi_frz_str, isi_frz_tuple, isi_frz_list, isi_frz_dict, isi_frz_tuple_list, isi_frz_list_tuple, tru_bl, tru_int, tru_non, tru_tup, len_tup, ix_tup, tru_lst, len_lst, ix_lst, tru_frz, len_frz, ix_frz, sl_lst, sl_frz, sl_tup, asInt_int, at0, at1, at2, at3, at4, add_int, add_tup, add_str, add_lst, addC_lst, repC_lst, sub_int, mul_int, mul_lst, mul_tup, div_int, mod_int, pow_int, neg_int, not_bl, lt_int, le_int, gt_int, ge_int, eq_int, eq_str, eq_bl, eq_non, eq_int_non, eq_non_int, eq_str_non, eq_non_str, eq_bl_non, eq_non_bl, ne_int, ne_str, ne_bl, ne_non, ne_int_non, ne_non_int, ne_str_non, ne_non_str, ne_bl_non, ne_non_bl, isNone_non, isNone_int, isNone_str, isNone_bl, isNone_tup, isNone_lst, isNone_frz, max2_int, min2_int, abs_int, int_int, int_bl, still_tup, list_tup, tuple_tup, listC_tup, sv_tup, still_lst, list_lst, tuple_lst, listC_lst, sv_lst, still_frz, list_frz, tuple_frz, listC_frz, sv_frz, r1_int, r2_int, r3_int, tg_name, tg_tup, setAll_cons, setAll_nil, mtE, g1_one, g2_two, mkL_0, mkT_0, mkC_0, mkL_1, mkT_1, mkC_1, mkL_2, mkT_2, mkC_2, mkL_3, mkT_3, mkC_3, mkL_4, mkT_4, mkC_4, bnd_S, ret_S, lineN_eq2, wipe_nil, wipe_cons, h', i1, q, none_op, Option.isSome_none]
    | some v =>
      have hp2 : pos? (Tl 213 T).length (n : Nat) = some n := pos?_nat _ _ (by rw [Tl_len]; exact hn)
      cases q2 : T n with
      | none =>
        refine ⟨some (.int ((v : Nat) + (p.2 : Nat) : Int)), ?_⟩
        have e : put T n none p = some (v + p.2) := by unfold put; rw [if_pos h, q]
        have e2 : D.int ((v : Nat) + (p.2 : Nat) : Int) = opD (some (v + p.2)) := by simp [opD]
        simp only [f_in, nat10, nat2, runB, seqS, exS, asgS, retS, retN, dropS, ifS, nxS, nevS, brkS, cntS, setItS, forS, parS, op1, op2, chain, boolT, truT, notT, andT, orT, andE, orE, ifE, nilA, consA, appA, varD, cD, lstE, celE, tupE, slE, itE, itEn, cal_1, cal_2, cal_3, cal_4, cal_5, cal_6, cal_7, yesT, mulOk, List.map_cons, List.map_nil, List.length_cons, List.length_nil, List.getElem?_cons_zero, List.getElem?_cons_succ, List.set_cons_zero, List.set_cons_succ, List.replicate_succ, List.replicate_zero, List.cons_append, List.nil_append, List.append_nil, List.isEmpty_cons, List.isEmpty_nil, Nat.reduceAdd, Nat.reduceSub, Nat.reduceMul, Nat.reduceLeDiff, Nat.reduceEqDiff, Nat.zero_add, Nat.sub_zero, Nat.sub_self, Bool.not_true, Bool.not_false, Bool.true_and, Bool.false_and, Bool.and_true, Bool.and_false, Bool.true_or, Bool.false_or, Bool.or_true, Bool.or_false, Bool.false_eq_true, Bool.not_eq_true, Bool.not_eq_false, Bool.not_not, decide_eq_true_eq, decide_eq_false_iff_not, decide_true, decide_false, if_true, if_false, reduceIte, reduceCtorEq, Nat.zero_le, and_self, and_true, true_and, or_true, true_or, or_false, false_or, not_true_eq_false, not_false_eq_true, Int.reduceLT, Int.reduceLE, Int.reduceNeg, Int.reduceAdd, Int.reduceMul, Int.reduceSub, Int.reducePow, Int.reduceEq, Int.reduceToNat, Nat.reduceLT, Nat.reducePow, Int.cast_ofNat_Int, isi_non_int, isi_non_bool, isi_non_str, isi_non_tuple, isi_non_list, isi_non_dict, isi_non_tuple_list, isi_non_list_tuple, isi_bl_int, isi_bl_bool, isi_bl_str, isi_bl_tuple, isi_bl_list, isi_bl_dict, isi_bl_tuple_list, isi_bl_list_tuple, isi_int_int, isi_int_bool, isi_int_str, isi_int_tuple, isi_int_list, isi_int_dict, isi_int_tuple_list, isi_int_list_tuple, isi_str_int, isi_str_bool, isi_str_str, isi_str_tuple, isi_str_list, isi_str_dict, isi_str_tuple_list, isi_str_list_tuple, isi_tup_int, isi_tup_bool, isi_tup_str, isi_tup_tuple, isi_tup_list, isi_tup_dict, isi_tup_tuple_list, isi_tup_list_tuple, isi_lst_int, isi_lst_bool, isi_lst_str, isi_lst_tuple, isi_lst_list, isi_lst_dict, isi_lst_tuple_list, isi_lst_list_tuple, isi_frz_int, isi_frz_bool, isi_frz_str, isi_frz_tuple, isi_frz_list, isi_frz_dict, isi_frz_tuple_list, isi_frz_list_tuple, tru_bl, tru_int, tru_non, tru_tup, len_tup, ix_tup, tru_lst, len_lst, ix_lst, tru_frz, len_frz, ix_frz, sl_lst, sl_frz, sl_tup, asInt_int, at0, at1, at2, at3, at4, add_int, add_tup, add_str, add_lst, addC_lst, repC_lst, sub_int, mul_int, mul_lst, mul_tup, div_int, mod_int, pow_int, neg_int, not_bl, lt_int, le_int, gt_int, ge_int, eq_int, eq_str, eq_bl, eq_non, eq_int_non, eq_non_int, eq_str_non, eq_non_str, eq_bl_non, eq_non_bl, ne_int, ne_str, ne_bl, ne_non, ne_int_non, ne_non_int, ne_str_non, ne_non_str, ne_bl_non, ne_non_bl, isNone_non, isNone_int, isNone_str, isNone_bl, isNone_tup, isNone_lst, isNone_frz, max2_int, min2_int, abs_int, int_int, int_bl, still_tup, list_tup, tuple_tup, listC_tup, sv_tup, still_lst, list_lst, tuple_lst, listC_lst, sv_lst, still_frz, list_frz, tuple_frz, listC_frz, sv_frz, r1_int, r2_int, r3_int, tg_name, tg_tup, setAll_cons, setAll_nil, mtE, g1_one, g2_two, mkL_0, mkT_0, mkC_0, mkL_1, mkT_1, mkC_1, mkL_2, mkT_2, mkC_2, mkL_3, mkT_3, mkC_3, mkL_4, mkT_4, mkC_4, bnd_S, ret_S, lineN_eq2, wipe_nil, wipe_cons, h', i1, i2, q, q2, none_op, Option.isSome_some, Option.isNone_none, hp2, e, opD]
        rw [show D.int ((v : Nat) + (p.2 : Nat) : Int) = opD (some (v + p.2)) from e2, Tl_set]
      | some u =>
        refine ⟨some (.int ((v : Nat) + (p.2 : Nat) : Int)), ?_⟩
        have e : put T n (some u) p = some (if u < v + p.2 then u else v + p.2) := by unfold put; rw [if_pos h, q]
        have e2 : D.int (if ((u : Nat) : Int) < (v : Nat) + (p.2 : Nat) then ((u : Nat) : Int) else (v : Nat) + (p.2 : Nat)) = opD (some (if u < v + p.2 then u else v + p.2)) := by
          unfold opD
          congr 1
          split <;> split <;> omega
        simp only [f_in, nat10, nat2, runB, seqS, exS, asgS, retS, retN, dropS, ifS, nxS, nevS, brkS, cntS, setItS, forS, parS, op1, op2, chain, boolT, truT, notT, andT, orT, andE, orE, ifE, nilA, consA, appA, varD, cD, lstE, celE, tupE, slE, itE, itEn, cal_1, cal_2, cal_3, cal_4, cal_5, cal_6, cal_7, yesT, mulOk, List.map_cons, List.map_nil, List.length_cons, List.length_nil, List.getElem?_cons_zero, List.getElem?_cons_succ, List.set_cons_zero, List.set_cons_succ, List.replicate_succ, List.replicate_zero, List.cons_append, List.nil_append, List.append_nil, List.isEmpty_cons, List.isEmpty_nil, Nat.reduceAdd, Nat.reduceSub, Nat.reduceMul, Nat.reduceLeDiff, Nat.reduceEqDiff, Nat.zero_add, Nat.sub_zero, Nat.sub_self, Bool.not_true, Bool.not_false, Bool.true_and, Bool.false_and, Bool.and_true, Bool.and_false, Bool.true_or, Bool.false_or, Bool.or_true, Bool.or_false, Bool.false_eq_true, Bool.not_eq_true, Bool.not_eq_false, Bool.not_not, decide_eq_true_eq, decide_eq_false_iff_not, decide_true, decide_false, if_true, if_false, reduceIte, reduceCtorEq, Nat.zero_le, and_self, and_true, true_and, or_true, true_or, or_false, false_or, not_true_eq_false, not_false_eq_true, Int.reduceLT, Int.reduceLE, Int.reduceNeg, Int.reduceAdd, Int.reduceMul, Int.reduceSub, Int.reducePow, Int.reduceEq, Int.reduceToNat, Nat.reduceLT, Nat.reducePow, Int.cast_ofNat_Int, isi_non_int, isi_non_bool, isi_non_str, isi_non_tuple, isi_non_list, isi_non_dict, isi_non_tuple_list, isi_non_list_tuple, isi_bl_int, isi_bl_bool, isi_bl_str, isi_bl_tuple, isi_bl_list, isi_bl_dict, isi_bl_tuple_list, isi_bl_list_tuple, isi_int_int, isi_int_bool, isi_int_str, isi_int_tuple, isi_int_list, isi_int_dict, isi_int_tuple_list, isi_int_list_tuple, isi_str_int, isi_str_bool, isi_str_str, isi_str_tuple, isi_str_list, isi_str_dict, isi_str_tuple_list, isi_str_list_tuple, isi_tup_int, isi_tup_bool, isi_tup_str, isi_tup_tuple, isi_tup_list, isi_tup_dict, isi_tup_tuple_list, isi_tup_list_tuple, isi_lst_int, isi_lst_bool, isi_lst_str, isi_lst_tuple, isi_lst_list, isi_lst_dict, isi_lst_tuple_list, isi_lst_list_tuple, isi_frz_int, isi_frz_bool, isi_frz_str, isi_frz_tuple, isi_frz_list, isi_frz_dict, isi_frz_tuple_list, isi_frz_list_tuple, tru_bl, tru_int, tru_non, tru_tup, len_tup, ix_tup, tru_lst, len_lst, ix_lst, tru_frz, len_frz, ix_frz, sl_lst, sl_frz, sl_tup, asInt_int, at0, at1, at2, at3, at4, add_int, add_tup, add_str, add_lst, addC_lst, repC_lst, sub_int, mul_int, mul_lst, mul_tup, div_int, mod_int, pow_int, neg_int, not_bl, lt_int, le_int, gt_int, ge_int, eq_int, eq_str, eq_bl, eq_non, eq_int_non, eq_non_int, eq_str_non, eq_non_str, eq_bl_non, eq_non_bl, ne_int, ne_str, ne_bl, ne_non, ne_int_non, ne_non_int, ne_str_non, ne_non_str, ne_bl_non, ne_non_bl, isNone_non, isNone_int, isNone_str, isNone_bl, isNone_tup, isNone_lst, isNone_frz, max2_int, min2_int, abs_int, int_int, int_bl, still_tup, list_tup, tuple_tup, listC_tup, sv_tup, still_lst, list_lst, tuple_lst, listC_lst, sv_lst, still_frz, list_frz, tuple_frz, listC_frz, sv_frz, r1_int, r2_int, r3_int, tg_name, tg_tup, setAll_cons, setAll_nil, mtE, g1_one, g2_two, mkL_0, mkT_0, mkC_0, mkL_1, mkT_1, mkC_1, mkL_2, mkT_2, mkC_2, mkL_3, mkT_3, mkC_3, mkL_4, mkT_4, mkC_4, bnd_S, ret_S, lineN_eq2, wipe_nil, wipe_cons, h', i1, i2, q, q2, none_op, Option.isSome_some, Option.isNone_some, hp2, e, opD]
        rw [e2, Tl_set]
  · refine ⟨o8, ?_⟩
    have h' : ¬ ((p.1 : Nat) : Int) ≤ (n : Nat) := by omega
    have e : put T n (T n) p = T n := by unfold put; rw [if_neg h]
    rw [e, uT_same]
    simp only [f_in, nat10, nat2, runB, seqS, exS, asgS, retS, retN, dropS, ifS, nxS, nevS, brkS, cntS, setItS, forS, parS, op1, op2, chain, boolT, truT, notT, andT, orT, andE, orE, ifE, nilA, consA, appA, varD, cD, lstE, celE, tupE, slE, itE, itEn, cal_1, cal_2, cal_3, cal_4, cal_5, cal_6, cal_7, yesT, mulOk, List.map_cons, List.map_nil, List.length_cons, List.length_nil, List.getElem?_cons_zero, List.getElem?_cons_succ, List.set_cons_zero, List.set_cons_succ, List.replicate_succ, List.replicate_zero, List.cons_append, List.nil_append, List.append_nil, List.isEmpty_cons, List.isEmpty_nil, Nat.reduceAdd, Nat.reduceSub, Nat.reduceMul, Nat.reduceLeDiff, Nat.reduceEqDiff, Nat.zero_add, Nat.sub_zero, Nat.sub_self, Bool.not_true, Bool.not_false, Bool.true_and, Bool.false_and, Bool.and_true, Bool.and_false, Bool.true_or, Bool.false_or, Bool.or_true, Bool.or_false, Bool.false_eq_true, Bool.not_eq_true, Bool.not_eq_false, Bool.not_not, decide_eq_true_eq, decide_eq_false_iff_not, decide_true, decide_false, if_true, if_false, reduceIte, reduceCtorEq, Nat.zero_le, and_self, and_true, true_and, or_true, true_or, or_false, false_or, not_true_eq_false, not_false_eq_true, Int.reduceLT, Int.reduceLE, Int.reduceNeg, Int.reduceAdd, Int.reduceMul, Int.reduceSub, Int.reducePow, Int.reduceEq, Int.reduceToNat, Nat.reduceLT, Nat.reducePow, Int.cast_ofNat_Int, isi_non_int, isi_non_bool, isi_non_str, isi_non_tuple, isi_non_list, isi_non_dict, isi_non_tuple_list, isi_non_list_tuple, isi_bl_int, isi_bl_bool, isi_bl_str, isi_bl_tuple, isi_bl_list, isi_bl_dict, isi_bl_tuple_list, isi_bl_list_tuple, isi_int_int, isi_int_bool, isi_int_str, isi_int_tuple, isi_int_list, isi_int_dict, isi_int_tuple_list, isi_int_list_tuple, isi_str_int, isi_str_bool, isi_str_str, isi_str_tuple, isi_str_list, isi_str_dict, isi_str_tuple_list, isi_str_list_tuple, isi_tup_int, isi_tup_bool, isi_tup_str, isi_tup_tuple, isi_tup_list, isi_tup_dict, isi_tup_tuple_list, isi_tup_list_tuple, isi_lst_int, isi_lst_bool, isi_lst_str, isi_lst_tuple, isi_lst_list, isi_lst_dict, isi_lst_tuple_list, isi_lst_list_tuple, isi_frz_int, isi_frz_bool, isi_frz_str, isi_frz_tuple, isi_frz_list, isi_frz_dict, isi_frz_tuple_list, isi_frz_list_tuple, tru_bl, tru_int, tru_non, tru_tup, len_tup, ix_tup, tru_lst, len_lst, ix_lst, tru_frz, len_frz, ix_frz, sl_lst, sl_frz, sl_tup, asInt_int, at0, at1, at2, at3, at4, add_int, add_tup, add_str, add_lst, addC_lst, repC_lst, sub_int, mul_int, mul_lst, mul_tup, div_int, mod_int, pow_int, neg_int, not_bl, lt_int, le_int, gt_int, ge_int, eq_int, eq_str, eq_bl, eq_non, eq_int_non, eq_non_int, eq_str_non, eq_non_str, eq_bl_non, eq_non_bl, ne_int, ne_str, ne_bl, ne_non, ne_int_non, ne_non_int, ne_str_non, ne_non_str, ne_bl_non, ne_non_bl, isNone_non, isNone_int, isNone_str, isNone_bl, isNone_tup, isNone_lst, isNone_frz, max2_int, min2_int, abs_int, int_int, int_bl, still_tup, list_tup, tuple_tup, listC_tup, sv_tup, still_lst, list_lst, tuple_lst, listC_lst, sv_lst, still_frz, list_frz, tuple_frz, listC_frz, sv_frz, r1_int, r2_int, r3_int, tg_name, tg_tup, setAll_cons, setAll_nil, mtE, g1_one, g2_two, mkL_0, mkT_0, mkC_0, mkL_1, mkT_1, mkC_1, mkL_2, mkT_2, mkC_2, mkL_3, mkT_3, mkC_3, mkL_4, mkT_4, mkC_4, bnd_S, ret_S, lineN_eq2, wipe_nil, wipe_cons, h']
theorem mid_turn {ps : List Pk} (W : WP ps) {A B : C} {T : Nat → Option Nat} {n : Nat} (hn : n < 213) (h0 : 0 < n) (hT : ∀ i, i < n → EX ps i (T i)) (hN : T n = none) {b o6 o7 o8 : Option D} :
    ∃ o6' o7' o8' T', forGo (.tup [6, 7]) f_in (ps.map pkD) [some (psD ps), b, some (.ref 2), some (.int (n : Nat)), none, none, o6, o7, o8] [A, B, .lst (Tl 213 T)]
      = .fl (.nx [some (psD ps), b, some (.ref 2), some (.int (n : Nat)), none, none, o6', o7', o8']) [A, B, .lst (Tl 213 T')] ∧ (∀ i, i ≠ n → T' i = T i) ∧ EX ps n (T' n) := by
  obtain ⟨ρ2, S2, e, o6', o7', o8', T', e1, e2, e3, e4⟩ := forGo_ind (t := .tup [6, 7]) (f := f_in) (ds := ps.map pkD)
    (fun k ρ S => ∃ o6 o7 o8 T', ρ = [some (psD ps), b, some (.ref 2), some (.int (n : Nat)), none, none, o6, o7, o8] ∧ S = [A, B, .lst (Tl 213 T')] ∧ (∀ i, i ≠ n → T' i = T i) ∧ EK ps (ps.take k) n (T' n))
    (ρ := [some (psD ps), b, some (.ref 2), some (.int (n : Nat)), none, none, o6, o7, o8]) (S := [A, B, .lst (Tl 213 T)])
    ⟨o6, o7, o8, T, rfl, rfl, fun _ _ => rfl, by rw [hN]; exact EK.nil⟩ (fun k hk ρ S ⟨o6, o7, o8, T', e1, e2, e3, e4⟩ => by
      subst e1 e2
      rw [List.length_map] at hk
      have hp : ps[k] ∈ ps := List.getElem_mem hk
      obtain ⟨o8', e⟩ := inner_turn (P := psD ps) (A := A) (B := B) (T := T') hn (p := ps[k]) (W.sz _ hp).1 (b := b) (o8 := o8)
      refine ⟨_, _, _, ?_, .inl e, some (.int (ps[k].1 : Nat)), some (.int (ps[k].2 : Nat)), o8', _, rfl, rfl, fun i hi => ?_, ?_⟩
      · rw [List.getElem_map]; rfl
      · unfold uT; rw [if_neg hi]; exact e3 i hi
      · have : uT T' n (put T' n (T' n) ps[k]) n = put T' n (T' n) ps[k] := by unfold uT; rw [if_pos rfl]
        rw [this, List.take_add_one, List.getElem?_eq_getElem hk]
        exact e4.put hp fun hle => by
          have := (W.sz _ hp).1
          rw [e3 _ (by omega)]
          exact hT _ (by omega))
  subst e1 e2
  refine ⟨o6', o7', o8', T', e, e3, ?_⟩
  rw [List.length_map, List.take_length] at e4
  exact e4.ex h0
def f_out : SS := (seqS (ifS (andT (boolT (op2 (noneOp true) (op2 ixD (varD 2) (varD 3)) (cD .non))) (orT (boolT (op2 (noneOp false) (varD 5) (cD .non))) (boolT (op2 ltD (op2 ixD (varD 2) (varD 3)) (varD 5))))) (asgS (op2 ixD (varD 2) (varD 3)) (.name 5)) nxS)
  (asgS (ifE (boolT (op2 leD (varD 3) (varD 1))) (op2 addD (lstE (consA (varD 5) nilA)) (varD 4)) (varD 4)) (.name 4)))
theorem out_turn {P : D} {A B : C} {T : Nat → Option Nat} {j : Nat} (hj : j < 213) {m : Nat} {fd : List D} (hf : fd.length ≤ 400) {least : Option Nat} {o6 o7 o8 : Option D} :
    f_out [some P, some (.int (m : Nat)), some (.ref 2), some (.int (j : Nat)), some (.lst fd), some (opD least), o6, o7, o8] [A, B, .lst (Tl 213 T)]
      = .fl (.nx [some P, some (.int (m : Nat)), some (.ref 2), some (.int (j : Nat)), some (.lst (if j ≤ m then opD (low (T j) least) :: fd else fd)), some (opD (low (T j) least)), o6, o7, o8]) [A, B, .lst (Tl 213 T)] := by
  have hS : ([A, B, .lst (Tl 213 T)] : Store)[2]? = some (.lst (Tl 213 T)) := rfl
  have i2 : ixD (.ref 2) (.int (j : Nat)) [A, B, .lst (Tl 213 T)] = .ok (opD (T j)) [A, B, .lst (Tl 213 T)] := ix_cell hS (by rw [at?_nat, Tl_get hj])
  have hl : 1 + fd.length ≤ lineN := by rw [lineN_eq2]; omega
  have hjm : (((j : Nat) : Int) ≤ (m : Nat)) = (j ≤ m) := by simp
  have cons1 : ∀ x, addD (.lst [x]) (.lst fd) [A, B, .lst (Tl 213 T)] = .ok (.lst (x :: fd)) [A, B, .lst (Tl 213 T)] := fun x => by
    rw [add_lst, if_pos (by simpa using hl)]; rfl
  have one : ∀ x, mkL [x] [A, B, .lst (Tl 213 T)] = .ok (.lst [x]) [A, B, .lst (Tl 213 T)] := fun x => by
    rw [mkL_S, if_pos (by rw [lineN_eq2]; simp)]
  cases q : T j with
  | none =>
    by_cases h : j ≤ m <;> simp only [f_out, low, one, cons1, nat10, nat2, runB, seqS, exS, asgS, retS, retN, dropS, ifS, nxS, nevS, brkS, cntS, setItS, forS, parS, op1, op2, chain, boolT, truT, notT, andT, orT, andE, orE, ifE, nilA, consA, appA, varD, cD, lstE, celE, tupE, slE, itE, itEn, cal_1, cal_2, cal_3, cal_4, cal_5, cal_6, cal_7, yesT, mulOk, List.map_cons, List.map_nil, List.length_cons, List.length_nil, List.getElem?_cons_zero, List.getElem?_cons_succ, List.set_cons_zero, List.set_cons_succ, List.replicate_succ, List.replicate_zero, List.cons_append, List.nil_append, List.append_nil, List.isEmpty_cons, List.isEmpty_nil, Nat.reduceAdd, Nat.reduceSub, Nat.reduceMul, Nat.reduceLeDiff, Nat.reduceEqDiff, Nat.zero_add, Nat.sub_zero, Nat.sub_self, Bool.not_true, Bool.not_false, Bool.true_and, Bool.false_and, Bool.and_true, Bool.and_false, Bool.true_or, Bool.false_or, Bool.or_true, Bool.or_false, Bool.false_eq_true, Bool.not_eq_true, Bool.not_eq_false, Bool.not_not, decide_eq_true_eq, decide_eq_false_iff_not, decide_true, decide_false, if_true, if_false, reduceIte, reduceCtorEq, Nat.zero_le, and_self, and_true, true_and, or_true, true_or, or_false, false_or, not_true_eq_false, not_false_eq_true, Int.reduceLT, Int.reduceLE, Int.reduceNeg, Int.reduceAdd, Int.reduceMul, Int.reduceSub, Int.reducePow, Int.reduceEq, Int.reduceToNat, Nat.reduceLT, Nat.reducePow, Int.cast_ofNat_Int, isi_non_int, isi_non_bool, isi_non_str, isi_non_tuple, isi_non_list, isi_non_dict, isi_non_tuple_list, isi_non_list_tuple, isi_bl_int, isi_bl_bool, isi_bl_str, isi_bl_tuple, isi_bl_list, isi_bl_dict, isi_bl_tuple_list, isi_bl_list_tuple, isi_int_int, isi_int_bool, isi_int_str, isi_int_tuple, isi_int_list, isi_int_dict, isi_int_tuple_list, isi_int_list_tuple, isi_str_int, isi_str_bool, isi_str_str, isi_str_tuple, isi_str_list, isi_str_dict, isi_str_tuple_list, isi_str_list_tuple, isi_tup_int, isi_tup_bool, isi_tup_str, isi_tup_tuple, isi_tup_list, isi_tup_dict, isi_tup_tuple_list, isi_tup_list_tuple, isi_lst_int, isi_lst_bool, isi_lst_str, isi_lst_tuple, isi_lst_list, isi_lst_dict, isi_lst_tuple_list, isi_lst_list_tuple, isi_frz_int, isi_frz_bool, isi_frz_str, isi_frz_tuple, isi_frz_list, isi_frz_dict, isi_frz_tuple_list, isi_frz_list_tuple, tru_bl, tru_int, tru_non, tru_tup, len_tup, ix_tup, tru_lst, len_lst, ix_lst, tru_frz, len_frz, ix_frz, sl_lst, sl_frz, sl_tup, asInt_int, at0, at1, at2, at3, at4, add_int, add_tup, add_str, add_lst, addC_lst, repC_lst, sub_int, mul_int, mul_lst, mul_tup, div_int, mod_int, pow_int, neg_int, not_bl, lt_int, le_int, gt_int, ge_int, eq_int, eq_str, eq_bl, eq_non, eq_int_non, eq_non_int, eq_str_non, eq_non_str, eq_bl_non, eq_non_bl, ne_int, ne_str, ne_bl, ne_non, ne_int_non, ne_non_int, ne_str_non, ne_non_str, ne_bl_non, ne_non_bl, isNone_non, isNone_int, isNone_str, isNone_bl, isNone_tup, isNone_lst, isNone_frz, max2_int, min2_int, abs_int, int_int, int_bl, still_tup, list_tup, tuple_tup, listC_tup, sv_tup, still_lst, list_lst, tuple_lst, listC_lst, sv_lst, still_frz, list_frz, tuple_frz, listC_frz, sv_frz, r1_int, r2_int, r3_int, tg_name, tg_tup, setAll_cons, setAll_nil, mtE, g1_one, g2_two, mkL_0, mkT_0, mkC_0, mkL_1, mkT_1, mkC_1, mkL_2, mkT_2, mkC_2, mkL_3, mkT_3, mkC_3, mkL_4, mkT_4, mkC_4, bnd_S, ret_S, lineN_eq2, wipe_nil, wipe_cons, i2, q, none_op, Option.isSome_none, hjm, h]
  | some v =>
    cases least with
    | none =>
      by_cases h : j ≤ m <;> simp only [f_out, low, one, cons1, nat10, nat2, runB, seqS, exS, asgS, retS, retN, dropS, ifS, nxS, nevS, brkS, cntS, setItS, forS, parS, op1, op2, chain, boolT, truT, notT, andT, orT, andE, orE, ifE, nilA, consA, appA, varD, cD, lstE, celE, tupE, slE, itE, itEn, cal_1, cal_2, cal_3, cal_4, cal_5, cal_6, cal_7, yesT, mulOk, List.map_cons, List.map_nil, List.length_cons, List.length_nil, List.getElem?_cons_zero, List.getElem?_cons_succ, List.set_cons_zero, List.set_cons_succ, List.replicate_succ, List.replicate_zero, List.cons_append, List.nil_append, List.append_nil, List.isEmpty_cons, List.isEmpty_nil, Nat.reduceAdd, Nat.reduceSub, Nat.reduceMul, Nat.reduceLeDiff, Nat.reduceEqDiff, Nat.zero_add, Nat.sub_zero, Nat.sub_self, Bool.not_true, Bool.not_false, Bool.true_and, Bool.false_and, Bool.and_true, Bool.and_false, Bool.true_or, Bool.false_or, Bool.or_true, Bool.or_false, Bool.false_eq_true, Bool.not_eq_true, Bool.not_eq_false, Bool.not_not, decide_eq_true_eq, decide_eq_false_iff_not, decide_true, decide_false, if_true, if_false, reduceIte, reduceCtorEq, Nat.zero_le, and_self, and_true, true_and, or_true, true_or, or_false, false_or, not_true_eq_false, not_false_eq_true, Int.reduceLT, Int.reduceLE, Int.reduceNeg, Int.reduceAdd, Int.reduceMul, Int.reduceSub, Int.reducePow, Int.reduceEq, Int.reduceToNat, Nat.reduceLT, Nat.reducePow, Int.cast_ofNat_Int, isi_non_int, isi_non_bool, isi_non_str, isi_non_tuple, isi_non_list, isi_non_dict, isi_non_tuple_list, isi_non_list_tuple, isi_bl_int, isi_bl_bool, isi_bl_str, isi_bl_tuple, isi_bl_list, isi_bl_dict, isi_bl_tuple_list, isi_bl_list_tuple, isi_int_int, isi_int_bool, isi_int_str, isi_int_tuple, isi_int_list, isi_int_dict, isi_int_tuple_list, isi_int_list_tuple, isi_str_int, isi_str_bool, isi_str_str, isi_str_tuple, isi_str_list, isi_str_dict, isi_str_tuple_list, isi_str_list_tuple, isi_tup_int, isi_tup_bool, isi_tup_str, isi_tup_tuple, isi_tup_list, isi_tup_dict, isi_tup_tuple_list, isi_tup_list_tuple, isi_lst_int, isi_lst_bool, isi_lst_str, isi_lst_tuple, isi_lst_list, isi_lst_dict, isi_lst_tuple_list, isi_lst_list_tuple, isi_frz_int, isi_frz_bool, isi_frz_str, isi_frz_tuple, isi_frz_list, isi_frz_dict, isi_frz_tuple_list, isi_frz_list_tuple, tru_bl, tru_int, tru_non, tru_tup, len_tup, ix_tup, tru_lst, len_lst, ix_lst, tru_frz, len_frz, ix_frz, sl_lst, sl_frz, sl_tup, asInt_int, at0, at1, at2, at3, at4, add_int, add_tup, add_str, add_lst, addC_lst, repC_lst, sub_int, mul_int, mul_lst, mul_tup, div_int, mod_int, pow_int, neg_int, not_bl, lt_int, le_int, gt_int, ge_int, eq_int, eq_str, eq_bl, eq_non, eq_int_non, eq_non_int, eq_str_non, eq_non_str, eq_bl_non, eq_non_bl, ne_int, ne_str, ne_bl, ne_non, ne_int_non, ne_non_int, ne_str_non, ne_non_str, ne_bl_non, ne_non_bl, isNone_non, isNone_int, isNone_str, isNone_bl, isNone_tup, isNone_lst, isNone_frz, max2_int, min2_int, abs_int, int_int, int_bl, still_tup, list_tup, tuple_tup, listC_tup, sv_tup, still_lst, list_lst, tuple_lst, listC_lst, sv_lst, still_frz, list_frz, tuple_frz, listC_frz, sv_frz, r1_int, r2_int, r3_int, tg_name, tg_tup, setAll_cons, setAll_nil, mtE, g1_one, g2_two, mkL_0, mkT_0, mkC_0, mkL_1, mkT_1, mkC_1, mkL_2, mkT_2, mkC_2, mkL_3, mkT_3, mkC_3, mkL_4, mkT_4, mkC_4, bnd_S, ret_S, lineN_eq2, wipe_nil, wipe_cons, i2, q, none_op, Option.isSome_some, Option.isNone_none, hjm, h]
    | some u =>
      have e : ((v : Nat) : Int) < (u : Nat) ↔ v < u := by omega
      by_cases h2 : v < u <;> by_cases h : j ≤ m <;> simp only [f_out, low, one, cons1, nat10, nat2, runB, seqS, exS, asgS, retS, retN, dropS, ifS, nxS, nevS, brkS, cntS, setItS, forS, parS, op1, op2, chain, boolT, truT, notT, andT, orT, andE, orE, ifE, nilA, consA, appA, varD, cD, lstE, celE, tupE, slE, itE, itEn, cal_1, cal_2, cal_3, cal_4, cal_5, cal_6, cal_7, yesT, mulOk, List.map_cons, List.map_nil, List.length_cons, List.length_nil, List.getElem?_cons_zero, List.getElem?_cons_succ, List.set_cons_zero, List.set_cons_succ, List.replicate_succ, List.replicate_zero, List.cons_append, List.nil_append, List.append_nil, List.isEmpty_cons, List.isEmpty_nil, Nat.reduceAdd, Nat.reduceSub, Nat.reduceMul, Nat.reduceLeDiff, Nat.reduceEqDiff, Nat.zero_add, Nat.sub_zero, Nat.sub_self, Bool.not_true, Bool.not_false, Bool.true_and, Bool.false_and, Bool.and_true, Bool.and_false, Bool.true_or, Bool.false_or, Bool.or_true, Bool.or_false, Bool.false_eq_true, Bool.not_eq_true, Bool.not_eq_false, Bool.not_not, decide_eq_true_eq, decide_eq_false_iff_not, decide_true, decide_false, if_true, if_false, reduceIte, reduceCtorEq, Nat.zero_le, and_self, and_true, true_and, or_true, true_or, or_false, false_or, not_true_eq_false, not_false_eq_true, Int.reduceLT, Int.reduceLE, Int.reduceNeg, Int.reduceAdd, Int.reduceMul, Int.reduceSub, Int.reducePow, Int.reduceEq, Int.reduceToNat, Nat.reduceLT, Nat.reducePow, Int.cast_ofNat_Int, isi_non_int, isi_non_bool, isi_non_str, isi_non_tuple, isi_non_list, isi_non_dict, isi_non_tuple_list, isi_non_list_tuple, isi_bl_int, isi_bl_bool, isi_bl_str, isi_bl_tuple, isi_bl_list, isi_bl_dict, isi_bl_tuple_list, isi_bl_list_tuple, isi_int_int, isi_int_bool, isi_int_str, isi_int_tuple, isi_int_list, isi_int_dict, isi_int_tuple_list, isi_int_list_tuple, isi_str_int, isi_str_bool, isi_str_str, isi_str_tuple, isi_str_list, isi_str_dict, isi_str_tuple_list, isi_str_list_tuple, isi_tup_int, isi_tup_bool, isi_tup_str, isi_tup_tuple, isi_tup_list, isi_tup_dict, isi_tup_tuple_list, isi_tup_list_tuple, isi_lst_int, isi_lst_bool, isi_lst_str, isi_lst_tuple, isi_lst_list, isi_lst_dict, isi_lst_tuple_list, isi_lst_list_tuple, isi_frz_int, isi_frz_bool, isi_frz_str, isi_frz_tuple, isi_frz_list, isi_frz_dict, isi_frz_tuple_list, isi_frz_list_tuple, tru_bl, tru_int, tru_non, tru_tup, len_tup, ix_tup, tru_lst, len_lst, ix_lst, tru_frz, len_frz, ix_frz, sl_lst, sl_frz, sl_tup, asInt_int, at0, at1, at2, at3, at4, add_int, add_tup, add_str, add_lst, addC_lst, repC_lst, sub_int, mul_int, mul_lst, mul_tup, div_int, mod_int, pow_int, neg_int, not_bl, lt_int, le_int, gt_int, ge_int, eq_int, eq_str, eq_bl, eq_non, eq_int_non, eq_non_int, eq_str_non, eq_non_str, eq_bl_non, eq_non_bl, ne_int, ne_str, ne_bl, ne_non, ne_int_non, ne_non_int, ne_str_non, ne_non_str, ne_bl_non, ne_non_bl, isNone_non, isNone_int, isNone_str, isNone_bl, isNone_tup, isNone_lst, isNone_frz, max2_int, min2_int, abs_int, int_int, int_bl, still_tup, list_tup, tuple_tup, listC_tup, sv_tup, still_lst, list_lst, tuple_lst, listC_lst, sv_lst, still_frz, list_frz, tuple_frz, listC_frz, sv_frz, r1_int, r2_int, r3_int, tg_name, tg_tup, setAll_cons, setAll_nil, mtE, g1_one, g2_two, mkL_0, mkT_0, mkC_0, mkL_1, mkT_1, mkC_1, mkL_2, mkT_2, mkC_2, mkL_3, mkT_3, mkC_3, mkL_4, mkT_4, mkC_4, bnd_S, ret_S, lineN_eq2, wipe_nil, wipe_cons, i2, q, none_op, Option.isSome_some, Option.isNone_some, hjm, h, opD, e, h2]
theorem law_prices_eq : b__law_prices = (seqS (asgS (op2 addC (lstE (consA (cD (.int 0)) nilA)) (op2 mulD (lstE (consA (cD .non) nilA)) (op2 addD (varD 1) (cD (.int 12))))) (.name 2))
  (seqS (forS (.name 3) (appA (consA (cD (.int 1)) (consA (appA (consA (varD 2) nilA) (g1 lenD)) nilA)) itR2) (forS (.tup [6, 7]) (itE (varD 0)) f_in))
  (seqS (parS (consA (lstE nilA) (consA (cD .non) nilA)) [4, 5])
  (seqS (forS (.name 3) (appA (consA (op2 subD (appA (consA (varD 2) nilA) (g1 lenD)) (cD (.int 1))) (consA (op1 negD (cD (.int 1))) (consA (op1 negD (cD (.int 1))) nilA))) itR3) f_out)
  (retS (varD 4)))))) := rfl
theorem tab0 : D.int 0 :: (List.replicate 212 [D.non]).flatten = Tl 213 (fun i => if i = 0 then some 0 else none) := by
  have e : (List.replicate 212 [D.non]).flatten = List.replicate 212 D.non := List.flatten_replicate_singleton
  rw [e]
  apply List.ext_getElem?
  intro i
  cases i with
  | zero => rfl
  | succ i =>
    rw [List.getElem?_cons_succ, List.getElem?_replicate]
    unfold Tl
    rw [List.getElem?_map, show (List.range 213)[i + 1]? = if i + 1 < 213 then some (i + 1) else none from by
      by_cases h : i + 1 < 213
      · rw [if_pos h, List.getElem?_range h]
      · rw [if_neg h, List.getElem?_eq_none (by rw [List.length_range]; omega)]]
    by_cases h : i < 212
    · rw [if_pos h, if_pos (by omega)]; rfl
    · rw [if_neg h, if_neg (by omega)]; rfl
theorem len212 : (List.replicate 212 [D.non]).flatten.length = 212 := by
  have e : (List.replicate 212 [D.non]).flatten = List.replicate 212 D.non := List.flatten_replicate_singleton
  rw [e, List.length_replicate]
theorem law_prices {ps : List Pk} (W : WP ps) {S : Store} (hS : HI S) : g__law_prices [psD ps, .int 200] S = .ok (.lst ((List.range 201).map fun a => .int (Co ps a : Nat))) S := by
  obtain ⟨A, B, rfl, hA, hB⟩ := hS.two
  have go : ∃ T, runB b__law_prices 9 [psD ps, .int 200] [A, B] = .ok (.lst ((List.range 201).map fun a => .int (Co ps a : Nat))) ([A, B] ++ [.lst (Tl 213 T)]) := by
    -- the table
    obtain ⟨ρ2, S2, e, o3, o6, o7, o8, T, e1, e2, hT, hN⟩ := forGo_ind (t := .name 3) (f := forS (.tup [6, 7]) (itE (varD 0)) f_in) (ds := (List.range 212).map fun (k : Nat) => D.int (1 + (k : Nat) : Int))
      (fun k ρ S => ∃ o3 o6 o7 o8 T, ρ = [some (psD ps), some (.int 200), some (.ref 2), o3, none, none, o6, o7, o8] ∧ S = [A, B, .lst (Tl 213 T)] ∧ (∀ i, i ≤ k → EX ps i (T i)) ∧ ∀ i, k < i → T i = none)
      (ρ := [some (psD ps), some (.int 200), some (.ref 2), none, none, none, none, none, none]) (S := [A, B, .lst (Tl 213 fun i => if i = 0 then some 0 else none)])
      ⟨none, none, none, none, _, rfl, rfl, fun i hi => by
        have : i = 0 := by omega
        subst this
        exact EX.zero W, fun i hi => by
        rw [if_neg (by omega)]⟩ (fun k hk ρ S ⟨o3, o6, o7, o8, T, e1, e2, e3, e4⟩ => by
        subst e1 e2
        rw [List.length_map, List.length_range] at hk
        obtain ⟨o6', o7', o8', T', f1, f2, f3⟩ := mid_turn W (A := A) (B := B) (T := T) (n := k + 1) (by omega) (by omega) (fun i hi => e3 i (by omega)) (e4 (k + 1) (by omega)) (b := some (.int 200)) (o6 := o6) (o7 := o7) (o8 := o8)
        refine ⟨[some (psD ps), some (.int 200), some (.ref 2), some (.int ((k + 1 : Nat) : Int)), none, none, o6, o7, o8], _, _, ?_, .inl f1, _, o6', o7', o8', T', rfl, rfl, fun i hi => ?_, fun i hi => ?_⟩
        · rw [List.getElem_map, List.getElem_range, show (1 + (k : Nat) : Int) = ((k + 1 : Nat) : Int) by omega]; rfl
        · by_cases hx : i = k + 1
          · rw [hx]; exact f3
          · rw [f2 i hx]; exact e3 i (by omega)
        · rw [f2 i (by omega)]; exact e4 i (by omega))
    subst e1 e2
    rw [List.length_map, List.length_range] at hT hN
    refine ⟨T, ?_⟩
    -- downwards
    obtain ⟨ρ3, S3, e', o3', least, e1', e2', hL⟩ := forGo_ind (t := .name 3) (f := f_out) (ds := (List.range 213).map fun (k : Nat) => D.int (212 - (k : Nat) : Int))
      (fun k ρ S => ∃ o3 least, ρ = [some (psD ps), some (.int 200), some (.ref 2), o3, some (.lst ((List.range (k - 12)).map fun (i : Nat) => D.int (Co ps (200 - (k - 13) + i) : Nat))), some (opD least), o6, o7, o8] ∧ S = [A, B, .lst (Tl 213 T)] ∧ LE T (213 - k) least)
      (ρ := [some (psD ps), some (.int 200), some (.ref 2), o3, some (.lst []), some (opD none), o6, o7, o8]) (S := [A, B, .lst (Tl 213 T)])
      ⟨o3, none, rfl, rfl, (fun v h => by cases h), (fun i v a b c => by omega)⟩ (fun k hk ρ S ⟨o3, least, e1, e2, e3⟩ => by
        subst e1 e2
        rw [List.length_map, List.length_range] at hk
        have hst : LE T (213 - (k + 1)) (low (T (212 - k)) least) := by
          have e5 : 213 - (k + 1) = 212 - k := by omega
          rw [e5]
          have e6 : 212 - k + 1 = 213 - k := by omega
          exact LE.step (by rw [e6]; exact e3) (by omega)
        refine ⟨_, _, _, ?_, .inl (out_turn (P := psD ps) (A := A) (B := B) (T := T) (j := 212 - k) (by omega) (m := 200) (fd := (List.range (k - 12)).map fun (i : Nat) => D.int (Co ps (200 - (k - 13) + i) : Nat)) (by simp; omega) (least := least) (o6 := o6) (o7 := o7) (o8 := o8)), some (.int ((212 - k : Nat) : Int)), low (T (212 - k)) least, ?_, rfl, hst⟩
        · rw [List.getElem_map, List.getElem_range, show (212 - (k : Nat) : Int) = ((212 - k : Nat) : Int) by omega]; rfl
        · congr 5
          by_cases hk2 : 212 - k ≤ 200
          · rw [if_pos hk2]
            have hco := LE.co W (fun i hi => hT i (by omega)) (j := 212 - k) hk2 (by
              have e5 : 213 - (k + 1) = 212 - k := by omega
              rw [e5] at hst; exact hst)
            rw [hco]
            have e7 : k + 1 - 12 = (k - 12) + 1 := by omega
            rw [e7, List.range_succ_eq_map, List.map_cons, List.map_map]
            have e9 : opD (some (Co ps (212 - k))) = D.int (Co ps (200 - (k + 1 - 13) + 0) : Nat) := by
              show D.int _ = D.int _
              congr 3; omega
            rw [e9]
            congr 2
            refine congrArg _ ?_
            apply List.map_congr_left
            intro i hi
            have hi := List.mem_range.mp hi
            show D.int _ = D.int (Co ps (200 - (k + 1 - 13) + (i + 1)) : Nat)
            congr 3; omega
          · rw [if_neg hk2]
            have e7 : k + 1 - 12 = k - 12 := by omega
            have e8 : k - 12 = 0 := by omega
            rw [e7, e8]; rfl)
    subst e1' e2'
    have hl : ([A, B, C.lst (Tl 213 T)] : Store)[2]? = some (.lst (Tl 213 T)) := rfl
    have hl0 : ([A, B, C.lst (Tl 213 fun i => if i = 0 then some 0 else none)] : Store)[2]? = some (.lst (Tl 213 fun i => if i = 0 then some 0 else none)) := rfl
    have l0 := len_cell hl0
    have l1 := len_cell hl
    rw [Tl_len] at l0 l1
    have c0 : addC (.lst [.int 0]) (.lst (List.replicate 212 [D.non]).flatten) [A, B] = .ok (.ref 2) [A, B, C.lst (Tl 213 fun i => if i = 0 then some 0 else none)] := by
      rw [addC_lst, len212, if_pos (by rw [lineN_eq2]; simp), ← tab0]
      rfl
    have hm : mulD (.lst [D.non]) (.int 212) [A, B] = .ok (.lst (List.replicate 212 [D.non]).flatten) [A, B] := by
      rw [mul_lst, if_pos (by rw [lineN_eq2]; simp)]; rfl
    have a0 : op2 addC (lstE (consA (cD (.int 0)) nilA)) (op2 mulD (lstE (consA (cD .non) nilA)) (op2 addD (varD 1) (cD (.int 12)))) [some (psD ps), some (.int 200), none, none, none, none, none, none, none] [A, B] = .ok (.ref 2) [A, B, C.lst (Tl 213 fun i => if i = 0 then some 0 else none)] := by
      simp only [nat10, nat2, runB, seqS, exS, asgS, retS, retN, dropS, ifS, nxS, nevS, brkS, cntS, setItS, forS, parS, op1, op2, chain, boolT, truT, notT, andT, orT, andE, orE, ifE, nilA, consA, appA, varD, cD, lstE, celE, tupE, slE, itE, itEn, cal_1, cal_2, cal_3, cal_4, cal_5, cal_6, cal_7, yesT, mulOk, List.map_cons, List.map_nil, List.length_cons, List.length_nil, List.getElem?_cons_zero, List.getElem?_cons_succ, List.set_cons_zero, List.set_cons_succ, List.replicate_succ, List.replicate_zero, List.cons_append, List.nil_append, List.append_nil, List.isEmpty_cons, List.isEmpty_nil, Nat.reduceAdd, Nat.reduceSub, Nat.reduceMul, Nat.reduceLeDiff, Nat.reduceEqDiff, Nat.zero_add, Nat.sub_zero, Nat.sub_self, Bool.not_true, Bool.not_false, Bool.true_and, Bool.false_and, Bool.and_true, Bool.and_false, Bool.true_or, Bool.false_or, Bool.or_true, Bool.or_false, Bool.false_eq_true, Bool.not_eq_true, Bool.not_eq_false, Bool.not_not, decide_eq_true_eq, decide_eq_false_iff_not, decide_true, decide_false, if_true, if_false, reduceIte, reduceCtorEq, Nat.zero_le, and_self, and_true, true_and, or_true, true_or, or_false, false_or, not_true_eq_false, not_false_eq_true, Int.reduceLT, Int.reduceLE, Int.reduceNeg, Int.reduceAdd, Int.reduceMul, Int.reduceSub, Int.reducePow, Int.reduceEq, Int.reduceToNat, Nat.reduceLT, Nat.reducePow, Int.cast_ofNat_Int, isi_non_int, isi_non_bool, isi_non_str, isi_non_tuple, isi_non_list, isi_non_dict, isi_non_tuple_list, isi_non_list_tuple, isi_bl_int, isi_bl_bool, isi_bl_str, isi_bl_tuple, isi_bl_list, isi_bl_dict, isi_bl_tuple_list, isi_bl_list_tuple, isi_int_int, isi_int_bool, isi_int_str, isi_int_tuple, isi_int_list, isi_int_dict, isi_int_tuple_list, isi_int_list_tuple, isi_str_int, isi_str_bool, isi_str_str, isi_str_tuple, isi_str_list, isi_str_dict, isi_str_tuple_list, isi_str_list_tuple, isi_tup_int, isi_tup_bool, isi_tup_str, isi_tup_tuple, isi_tup_list, isi_tup_dict, isi_tup_tuple_list, isi_tup_list_tuple, isi_lst_int, isi_lst_bool, isi_lst_str, isi_lst_tuple, isi_lst_list, isi_lst_dict, isi_lst_tuple_list, isi_lst_list_tuple, isi_frz_int, isi_frz_bool, isi_frz_str, isi_frz_tuple, isi_frz_list, isi_frz_dict, isi_frz_tuple_list, isi_frz_list_tuple, tru_bl, tru_int, tru_non, tru_tup, len_tup, ix_tup, tru_lst, len_lst, ix_lst, tru_frz, len_frz, ix_frz, sl_lst, sl_frz, sl_tup, asInt_int, at0, at1, at2, at3, at4, add_int, add_tup, add_str, add_lst, addC_lst, repC_lst, sub_int, mul_int, mul_lst, mul_tup, div_int, mod_int, pow_int, neg_int, not_bl, lt_int, le_int, gt_int, ge_int, eq_int, eq_str, eq_bl, eq_non, eq_int_non, eq_non_int, eq_str_non, eq_non_str, eq_bl_non, eq_non_bl, ne_int, ne_str, ne_bl, ne_non, ne_int_non, ne_non_int, ne_str_non, ne_non_str, ne_bl_non, ne_non_bl, isNone_non, isNone_int, isNone_str, isNone_bl, isNone_tup, isNone_lst, isNone_frz, max2_int, min2_int, abs_int, int_int, int_bl, still_tup, list_tup, tuple_tup, listC_tup, sv_tup, still_lst, list_lst, tuple_lst, listC_lst, sv_lst, still_frz, list_frz, tuple_frz, listC_frz, sv_frz, r1_int, r2_int, r3_int, tg_name, tg_tup, setAll_cons, setAll_nil, mtE, g1_one, g2_two, mkL_0, mkT_0, mkC_0, mkL_1, mkT_1, mkC_1, mkL_2, mkT_2, mkC_2, mkL_3, mkT_3, mkC_3, mkL_4, mkT_4, mkC_4, bnd_S, ret_S, lineN_eq2, wipe_nil, wipe_cons, -mul_lst, -addC_lst, -List.replicate_succ, hm, c0]
    have a1 : (appA (consA (cD (.int 1)) (consA (appA (consA (varD 2) nilA) (g1 lenD)) nilA)) itR2) [some (psD ps), some (.int 200), some (.ref 2), none, none, none, none, none, none] [A, B, C.lst (Tl 213 fun i => if i = 0 then some 0 else none)] = .ok ((List.range 212).map fun (k : Nat) => D.int (1 + (k : Nat) : Int)) [A, B, C.lst (Tl 213 fun i => if i = 0 then some 0 else none)] := by
      simp only [nat10, nat2, runB, seqS, exS, asgS, retS, retN, dropS, ifS, nxS, nevS, brkS, cntS, setItS, forS, parS, op1, op2, chain, boolT, truT, notT, andT, orT, andE, orE, ifE, nilA, consA, appA, varD, cD, lstE, celE, tupE, slE, itE, itEn, cal_1, cal_2, cal_3, cal_4, cal_5, cal_6, cal_7, yesT, mulOk, List.map_cons, List.map_nil, List.length_cons, List.length_nil, List.getElem?_cons_zero, List.getElem?_cons_succ, List.set_cons_zero, List.set_cons_succ, List.replicate_succ, List.replicate_zero, List.cons_append, List.nil_append, List.append_nil, List.isEmpty_cons, List.isEmpty_nil, Nat.reduceAdd, Nat.reduceSub, Nat.reduceMul, Nat.reduceLeDiff, Nat.reduceEqDiff, Nat.zero_add, Nat.sub_zero, Nat.sub_self, Bool.not_true, Bool.not_false, Bool.true_and, Bool.false_and, Bool.and_true, Bool.and_false, Bool.true_or, Bool.false_or, Bool.or_true, Bool.or_false, Bool.false_eq_true, Bool.not_eq_true, Bool.not_eq_false, Bool.not_not, decide_eq_true_eq, decide_eq_false_iff_not, decide_true, decide_false, if_true, if_false, reduceIte, reduceCtorEq, Nat.zero_le, and_self, and_true, true_and, or_true, true_or, or_false, false_or, not_true_eq_false, not_false_eq_true, Int.reduceLT, Int.reduceLE, Int.reduceNeg, Int.reduceAdd, Int.reduceMul, Int.reduceSub, Int.reducePow, Int.reduceEq, Int.reduceToNat, Nat.reduceLT, Nat.reducePow, Int.cast_ofNat_Int, isi_non_int, isi_non_bool, isi_non_str, isi_non_tuple, isi_non_list, isi_non_dict, isi_non_tuple_list, isi_non_list_tuple, isi_bl_int, isi_bl_bool, isi_bl_str, isi_bl_tuple, isi_bl_list, isi_bl_dict, isi_bl_tuple_list, isi_bl_list_tuple, isi_int_int, isi_int_bool, isi_int_str, isi_int_tuple, isi_int_list, isi_int_dict, isi_int_tuple_list, isi_int_list_tuple, isi_str_int, isi_str_bool, isi_str_str, isi_str_tuple, isi_str_list, isi_str_dict, isi_str_tuple_list, isi_str_list_tuple, isi_tup_int, isi_tup_bool, isi_tup_str, isi_tup_tuple, isi_tup_list, isi_tup_dict, isi_tup_tuple_list, isi_tup_list_tuple, isi_lst_int, isi_lst_bool, isi_lst_str, isi_lst_tuple, isi_lst_list, isi_lst_dict, isi_lst_tuple_list, isi_lst_list_tuple, isi_frz_int, isi_frz_bool, isi_frz_str, isi_frz_tuple, isi_frz_list, isi_frz_dict, isi_frz_tuple_list, isi_frz_list_tuple, tru_bl, tru_int, tru_non, tru_tup, len_tup, ix_tup, tru_lst, len_lst, ix_lst, tru_frz, len_frz, ix_frz, sl_lst, sl_frz, sl_tup, asInt_int, at0, at1, at2, at3, at4, add_int, add_tup, add_str, add_lst, addC_lst, repC_lst, sub_int, mul_int, mul_lst, mul_tup, div_int, mod_int, pow_int, neg_int, not_bl, lt_int, le_int, gt_int, ge_int, eq_int, eq_str, eq_bl, eq_non, eq_int_non, eq_non_int, eq_str_non, eq_non_str, eq_bl_non, eq_non_bl, ne_int, ne_str, ne_bl, ne_non, ne_int_non, ne_non_int, ne_str_non, ne_non_str, ne_bl_non, ne_non_bl, isNone_non, isNone_int, isNone_str, isNone_bl, isNone_tup, isNone_lst, isNone_frz, max2_int, min2_int, abs_int, int_int, int_bl, still_tup, list_tup, tuple_tup, listC_tup, sv_tup, still_lst, list_lst, tuple_lst, listC_lst, sv_lst, still_frz, list_frz, tuple_frz, listC_frz, sv_frz, r1_int, r2_int, r3_int, tg_name, tg_tup, setAll_cons, setAll_nil, mtE, g1_one, g2_two, mkL_0, mkT_0, mkC_0, mkL_1, mkT_1, mkC_1, mkL_2, mkT_2, mkC_2, mkL_3, mkT_3, mkC_3, mkL_4, mkT_4, mkC_4, bnd_S, ret_S, lineN_eq2, wipe_nil, wipe_cons, l0, -r2_int]
      rfl
    have a3 : (appA (consA (op2 subD (appA (consA (varD 2) nilA) (g1 lenD)) (cD (.int 1))) (consA (op1 negD (cD (.int 1))) (consA (op1 negD (cD (.int 1))) nilA))) itR3) [some (psD ps), some (.int 200), some (.ref 2), o3, some (.lst []), some .non, o6, o7, o8] [A, B, C.lst (Tl 213 T)] = .ok ((List.range 213).map fun (k : Nat) => D.int (212 - (k : Nat) : Int)) [A, B, C.lst (Tl 213 T)] := by
      simp only [nat10, nat2, runB, seqS, exS, asgS, retS, retN, dropS, ifS, nxS, nevS, brkS, cntS, setItS, forS, parS, op1, op2, chain, boolT, truT, notT, andT, orT, andE, orE, ifE, nilA, consA, appA, varD, cD, lstE, celE, tupE, slE, itE, itEn, cal_1, cal_2, cal_3, cal_4, cal_5, cal_6, cal_7, yesT, mulOk, List.map_cons, List.map_nil, List.length_cons, List.length_nil, List.getElem?_cons_zero, List.getElem?_cons_succ, List.set_cons_zero, List.set_cons_succ, List.replicate_succ, List.replicate_zero, List.cons_append, List.nil_append, List.append_nil, List.isEmpty_cons, List.isEmpty_nil, Nat.reduceAdd, Nat.reduceSub, Nat.reduceMul, Nat.reduceLeDiff, Nat.reduceEqDiff, Nat.zero_add, Nat.sub_zero, Nat.sub_self, Bool.not_true, Bool.not_false, Bool.true_and, Bool.false_and, Bool.and_true, Bool.and_false, Bool.true_or, Bool.false_or, Bool.or_true, Bool.or_false, Bool.false_eq_true, Bool.not_eq_true, Bool.not_eq_false, Bool.not_not, decide_eq_true_eq, decide_eq_false_iff_not, decide_true, decide_false, if_true, if_false, reduceIte, reduceCtorEq, Nat.zero_le, and_self, and_true, true_and, or_true, true_or, or_false, false_or, not_true_eq_false, not_false_eq_true, Int.reduceLT, Int.reduceLE, Int.reduceNeg, Int.reduceAdd, Int.reduceMul, Int.reduceSub, Int.reducePow, Int.reduceEq, Int.reduceToNat, Nat.reduceLT, Nat.reducePow, Int.cast_ofNat_Int, isi_non_int, isi_non_bool, isi_non_str, isi_non_tuple, isi_non_list, isi_non_dict, isi_non_tuple_list, isi_non_list_tuple, isi_bl_int, isi_bl_bool, isi_bl_str, isi_bl_tuple, isi_bl_list, isi_bl_dict, isi_bl_tuple_list, isi_bl_list_tuple, isi_int_int, isi_int_bool, isi_int_str, isi_int_tuple, isi_int_list, isi_int_dict, isi_int_tuple_list, isi_int_list_tuple, isi_str_int, isi_str_bool, isi_str_str, isi_str_tuple, isi_str_list, isi_str_dict, isi_str_tuple_list, isi_str_list_tuple, isi_tup_int, isi_tup_bool, isi_tup_str, isi_tup_tuple, isi_tup_list, isi_tup_dict, isi_tup_tuple_list, isi_tup_list_tuple, isi_lst_int, isi_lst_bool, isi_lst_str, isi_lst_tuple, isi_lst_list, isi_lst_dict, isi_lst_tuple_list, isi_lst_list_tuple, isi_frz_int, isi_frz_bool, isi_frz_str, isi_frz_tuple, isi_frz_list, isi_frz_dict, isi_frz_tuple_list, isi_frz_list_tuple, tru_bl, tru_int, tru_non, tru_tup, len_tup, ix_tup, tru_lst, len_lst, ix_lst, tru_frz, len_frz, ix_frz, sl_lst, sl_frz, sl_tup, asInt_int, at0, at1, at2, at3, at4, add_int, add_tup, add_str, add_lst, addC_lst, repC_lst, sub_int, mul_int, mul_lst, mul_tup, div_int, mod_int, pow_int, neg_int, not_bl, lt_int, le_int, gt_int, ge_int, eq_int, eq_str, eq_bl, eq_non, eq_int_non, eq_non_int, eq_str_non, eq_non_str, eq_bl_non, eq_non_bl, ne_int, ne_str, ne_bl, ne_non, ne_int_non, ne_non_int, ne_str_non, ne_non_str, ne_bl_non, ne_non_bl, isNone_non, isNone_int, isNone_str, isNone_bl, isNone_tup, isNone_lst, isNone_frz, max2_int, min2_int, abs_int, int_int, int_bl, still_tup, list_tup, tuple_tup, listC_tup, sv_tup, still_lst, list_lst, tuple_lst, listC_lst, sv_lst, still_frz, list_frz, tuple_frz, listC_frz, sv_frz, r1_int, r2_int, r3_int, tg_name, tg_tup, setAll_cons, setAll_nil, mtE, g1_one, g2_two, mkL_0, mkT_0, mkC_0, mkL_1, mkT_1, mkC_1, mkL_2, mkT_2, mkC_2, mkL_3, mkT_3, mkC_3, mkL_4, mkT_4, mkC_4, bnd_S, ret_S, lineN_eq2, wipe_nil, wipe_cons, l1, -r3_int]
      rfl
    rw [law_prices_eq]
    refine run_rt (ρ0 := [some (psD ps), some (.int 200), none, none, none, none, none, none, none]) rfl ?_
    rw [List.length_map, List.length_range] at e'
    show _ = OS.fl (.rt (.lst ((List.range 201).map fun a => .int (Co ps a : Nat)))) [A, B, .lst (Tl 213 T)]
    refine Eq.trans (seq_nx (asg_ok a0 rfl)) ?_
    refine Eq.trans (seq_nx ((for_ok a1).trans e)) ?_
    refine Eq.trans (seq_nx (par_ok (ds := [.lst [], .non]) rfl rfl)) ?_
    refine Eq.trans (seq_nx ((for_ok a3).trans e')) ?_
    refine ret_ok ?_
    have hfin : (D.lst ((List.range (213 - 12)).map fun (i : Nat) => D.int (Co ps (200 - (213 - 13) + i) : Nat))) = .lst ((List.range 201).map fun a => .int (Co ps a : Nat)) := by
      congr 1
    rw [← hfin]
    rfl
  obtain ⟨T, go⟩ := go
  show closeOut 2 (runB b__law_prices 9 [psD ps, .int 200] [A, B]) = _
  rw [go]
  exact close_HI hS (by
    have : belL 2 ((List.range 201).map fun a => D.int (Co ps a : Nat)) = true := belL_ints 2 _ _
    unfold D.res
    rw [if_pos (by simpa [D.bel] using this)])
end F

set_option linter.all false
set_option autoImplicit false
set_option maxRecDepth 100000
/-! What every law of this row begins with: mix, next, pick. -/
namespace F
open PySem
theorem law_next {S : Store} (hS : HI S) {cap : Int} (h0 : 0 < cap) (h1 : cap < 18446744073709551616) : ∃ (r : Int) (S' : Store), g__law_next [.ref 1, .int cap] S = .ok (.int r) S' ∧ 0 ≤ r ∧ r < cap ∧ HI S' := by
  obtain ⟨zs, st, k, hz, rfl⟩ := hS
  -- the place
  have hpos : (0 : Int) < (if (zs.length : Int) > 1 then (zs.length : Int) else 1) := by split <;> omega
  obtain ⟨j, hj⟩ : ∃ j : Nat, k % (if (zs.length : Int) > 1 then (zs.length : Int) else 1) = j := ⟨_, (Int.toNat_of_nonneg (Int.emod_nonneg _ (by omega))).symm⟩
  have hj2 : j < zs.length + 1 := by
    have := Int.emod_lt_of_pos k hpos
    rw [hj] at this
    split at this <;> omega
  obtain ⟨x, hx⟩ : ∃ x : Int, (zs ++ [0])[j]? = some x := ⟨_, List.getElem?_eq_getElem (by simpa using hj2)⟩
  have hxD : at? (zs.map D.int ++ [.int 0]) (k % (if (zs.length : Int) > 1 then (zs.length : Int) else 1)) = some (.int x) := by
    rw [hj, at?_nat]
    have : zs.map D.int ++ [D.int 0] = (zs ++ [0]).map D.int := by simp
    rw [this, List.getElem?_map, hx]; rfl
  have hxz : x ≥ 1000000000000000000 → j < zs.length := fun hge => by
    by_cases hl : j < zs.length
    · exact hl
    · have : j = zs.length := by omega
      subst this
      rw [List.getElem?_append_right (Nat.le_refl _)] at hx
      simp at hx
      omega
  have c1 : ∀ s, ixD (.ref 1) (.int 1) [C.lst (zs.map D.int), .lst [.int s, .ref 0, .int k]] = .ok (.ref 0) [C.lst (zs.map D.int), .lst [.int s, .ref 0, .int k]] := fun s => ix_cell rfl (at1 _ _ _)
  have c2 : ∀ s, ixD (.ref 1) (.int 2) [C.lst (zs.map D.int), .lst [.int s, .ref 0, .int k]] = .ok (.int k) [C.lst (zs.map D.int), .lst [.int s, .ref 0, .int k]] := fun s => ix_cell rfl (at2 _ _ _ _)
  have c0 : ∀ s m, ixD (.ref 1) (.int 0) [C.lst (zs.map D.int), .lst [.int s, .ref 0, .int m]] = .ok (.int s) [C.lst (zs.map D.int), .lst [.int s, .ref 0, .int m]] := fun s m => ix_cell rfl (at0 _ _)
  have l0 : lenD (.ref 0) [C.lst (zs.map D.int), .lst [.int st, .ref 0, .int k]] = .ok (.int zs.length) [C.lst (zs.map D.int), .lst [.int st, .ref 0, .int k]] := by
    rw [len_cell (ds := zs.map D.int) rfl, List.length_map]
  have aL : addD (.ref 0) (.lst [.int 0]) [C.lst (zs.map D.int), .lst [.int st, .ref 0, .int k]] = .ok (.lst (zs.map D.int ++ [.int 0])) [C.lst (zs.map D.int), .lst [.int st, .ref 0, .int k]] :=
    (add_ref _ _ _).trans (addL_cell (ds := zs.map D.int) (es := [.int 0]) rfl (by rw [List.length_map, lineN_eq2]; simp; omega))
  have m0 : mkL [.int 0] [C.lst (zs.map D.int), .lst [.int st, .ref 0, .int k]] = .ok (.lst [.int 0]) [C.lst (zs.map D.int), .lst [.int st, .ref 0, .int k]] := rfl
  have hp1 : ∀ n : Int, n = (if (zs.length : Int) > 1 then (zs.length : Int) else 1) → 0 < n := fun n e => by rw [e]; exact hpos
  by_cases hge : x ≥ 1000000000000000000
  · have hjz := hxz hge
    have hl : (0 : Int) < zs.length := by omega
    have hjk : k % (zs.length : Int) = j := by
      by_cases h2 : (zs.length : Int) > 1
      · rw [if_pos h2] at hj; exact hj
      · rw [if_neg h2] at hj
        have : (zs.length : Int) = 1 := by omega
        rw [this]; exact hj
    have hp : pos? (zs.map D.int).length (k % (zs.length : Int)) = some j := by
      rw [hjk]; exact pos?_nat _ _ (by rw [List.length_map]; exact hjz)
    refine ⟨x % cap, [.lst ((zs.set j (x / cap)).map D.int), .lst [.int st, .ref 0, .int k]], ?_, Int.emod_nonneg _ (by omega), Int.emod_lt_of_pos _ h0, ⟨_, _, _, by simpa using hz, rfl⟩⟩
    simp only [g__law_next, b__law_next, m0, nat10, nat2, runB, seqS, exS, asgS, retS, retN, dropS, ifS, nxS, nevS, brkS, cntS, setItS, forS, parS, op1, op2, chain, boolT, truT, notT, andT, orT, andE, orE, ifE, nilA, consA, appA, varD, cD, lstE, celE, tupE, slE, itE, itEn, cal_1, cal_2, cal_3, cal_4, cal_5, cal_6, cal_7, yesT, mulOk, List.map_cons, List.map_nil, List.length_cons, List.length_nil, List.getElem?_cons_zero, List.getElem?_cons_succ, List.set_cons_zero, List.set_cons_succ, List.replicate_succ, List.replicate_zero, List.cons_append, List.nil_append, List.append_nil, List.isEmpty_cons, List.isEmpty_nil, Nat.reduceAdd, Nat.reduceSub, Nat.reduceMul, Nat.reduceLeDiff, Nat.reduceEqDiff, Nat.zero_add, Nat.sub_zero, Nat.sub_self, Bool.not_true, Bool.not_false, Bool.true_and, Bool.false_and, Bool.and_true, Bool.and_false, Bool.true_or, Bool.false_or, Bool.or_true, Bool.or_false, Bool.false_eq_true, Bool.not_eq_true, Bool.not_eq_false, Bool.not_not, decide_eq_true_eq, decide_eq_false_iff_not, decide_true, decide_false, if_true, if_false, reduceIte, reduceCtorEq, Nat.zero_le, and_self, and_true, true_and, or_true, true_or, or_false, false_or, not_true_eq_false, not_false_eq_true, Int.reduceLT, Int.reduceLE, Int.reduceNeg, Int.reduceAdd, Int.reduceMul, Int.reduceSub, Int.reducePow, Int.reduceEq, Int.reduceToNat, Nat.reduceLT, Nat.reducePow, Int.cast_ofNat_Int, isi_non_int, isi_non_bool, isi_non_str, isi_non_tuple, isi_non_list, isi_non_dict, isi_non_tuple_list, isi_non_list_tuple, isi_bl_int, isi_bl_bool, isi_bl_str, isi_bl_tuple, isi_bl_list, isi_bl_dict, isi_bl_tuple_list, isi_bl_list_tuple, isi_int_int, isi_int_bool, isi_int_str, isi_int_tuple, isi_int_list, isi_int_dict, isi_int_tuple_list, isi_int_list_tuple, isi_str_int, isi_str_bool, isi_str_str, isi_str_tuple, isi_str_list, isi_str_dict, isi_str_tuple_list, isi_str_list_tuple, isi_tup_int, isi_tup_bool, isi_tup_str, isi_tup_tuple, isi_tup_list, isi_tup_dict, isi_tup_tuple_list, isi_tup_list_tuple, isi_lst_int, isi_lst_bool, isi_lst_str, isi_lst_tuple, isi_lst_list, isi_lst_dict, isi_lst_tuple_list, isi_lst_list_tuple, isi_frz_int, isi_frz_bool, isi_frz_str, isi_frz_tuple, isi_frz_list, isi_frz_dict, isi_frz_tuple_list, isi_frz_list_tuple, tru_bl, tru_int, tru_non, tru_tup, len_tup, ix_tup, tru_lst, len_lst, ix_lst, tru_frz, len_frz, ix_frz, sl_lst, sl_frz, sl_tup, asInt_int, at0, at1, at2, at3, at4, add_int, add_tup, add_str, add_lst, addC_lst, repC_lst, sub_int, mul_int, mul_lst, mul_tup, div_int, mod_int, pow_int, neg_int, not_bl, lt_int, le_int, gt_int, ge_int, eq_int, eq_str, eq_bl, eq_non, eq_int_non, eq_non_int, eq_str_non, eq_non_str, eq_bl_non, eq_non_bl, ne_int, ne_str, ne_bl, ne_non, ne_int_non, ne_non_int, ne_str_non, ne_non_str, ne_bl_non, ne_non_bl, isNone_non, isNone_int, isNone_str, isNone_bl, isNone_tup, isNone_lst, isNone_frz, max2_int, min2_int, abs_int, int_int, int_bl, still_tup, list_tup, tuple_tup, listC_tup, sv_tup, still_lst, list_lst, tuple_lst, listC_lst, sv_lst, still_frz, list_frz, tuple_frz, listC_frz, sv_frz, r1_int, r2_int, r3_int, tg_name, tg_tup, setAll_cons, setAll_nil, mtE, g1_one, g2_two, mkL_0, mkT_0, mkC_0, mkL_1, mkT_1, mkC_1, mkL_2, mkT_2, mkC_2, mkL_3, mkT_3, mkC_3, mkL_4, mkT_4, mkC_4, bnd_S, ret_S, lineN_eq2, wipe_nil, wipe_cons, c1, c2, aL, l0, hpos, ix_lst, hxD, hge, h0, h1, hl, hp, Int.reducePow]
    rw [List.map_set]
  · refine ⟨((st * 48271 + x * 69621 + 11) % 2147483647) / 7 % cap, [.lst (zs.map D.int), .lst [.int ((st * 48271 + x * 69621 + 11) % 2147483647), .ref 0, .int (k + 1)]], ?_, Int.emod_nonneg _ (by omega), Int.emod_lt_of_pos _ h0, ⟨_, _, _, hz, rfl⟩⟩
    have hp0 : ∀ a b : D, pos? [a, .ref 0, b].length 0 = some 0 := fun _ _ => rfl
    have hp2 : ∀ a b : D, pos? [a, .ref 0, b].length 2 = some 2 := fun _ _ => rfl
    have hp0' : pos? 3 0 = some 0 := rfl
    have hp2' : pos? 3 2 = some 2 := rfl
    simp only [g__law_next, b__law_next, m0, nat10, nat2, runB, seqS, exS, asgS, retS, retN, dropS, ifS, nxS, nevS, brkS, cntS, setItS, forS, parS, op1, op2, chain, boolT, truT, notT, andT, orT, andE, orE, ifE, nilA, consA, appA, varD, cD, lstE, celE, tupE, slE, itE, itEn, cal_1, cal_2, cal_3, cal_4, cal_5, cal_6, cal_7, yesT, mulOk, List.map_cons, List.map_nil, List.length_cons, List.length_nil, List.getElem?_cons_zero, List.getElem?_cons_succ, List.set_cons_zero, List.set_cons_succ, List.replicate_succ, List.replicate_zero, List.cons_append, List.nil_append, List.append_nil, List.isEmpty_cons, List.isEmpty_nil, Nat.reduceAdd, Nat.reduceSub, Nat.reduceMul, Nat.reduceLeDiff, Nat.reduceEqDiff, Nat.zero_add, Nat.sub_zero, Nat.sub_self, Bool.not_true, Bool.not_false, Bool.true_and, Bool.false_and, Bool.and_true, Bool.and_false, Bool.true_or, Bool.false_or, Bool.or_true, Bool.or_false, Bool.false_eq_true, Bool.not_eq_true, Bool.not_eq_false, Bool.not_not, decide_eq_true_eq, decide_eq_false_iff_not, decide_true, decide_false, if_true, if_false, reduceIte, reduceCtorEq, Nat.zero_le, and_self, and_true, true_and, or_true, true_or, or_false, false_or, not_true_eq_false, not_false_eq_true, Int.reduceLT, Int.reduceLE, Int.reduceNeg, Int.reduceAdd, Int.reduceMul, Int.reduceSub, Int.reducePow, Int.reduceEq, Int.reduceToNat, Nat.reduceLT, Nat.reducePow, Int.cast_ofNat_Int, isi_non_int, isi_non_bool, isi_non_str, isi_non_tuple, isi_non_list, isi_non_dict, isi_non_tuple_list, isi_non_list_tuple, isi_bl_int, isi_bl_bool, isi_bl_str, isi_bl_tuple, isi_bl_list, isi_bl_dict, isi_bl_tuple_list, isi_bl_list_tuple, isi_int_int, isi_int_bool, isi_int_str, isi_int_tuple, isi_int_list, isi_int_dict, isi_int_tuple_list, isi_int_list_tuple, isi_str_int, isi_str_bool, isi_str_str, isi_str_tuple, isi_str_list, isi_str_dict, isi_str_tuple_list, isi_str_list_tuple, isi_tup_int, isi_tup_bool, isi_tup_str, isi_tup_tuple, isi_tup_list, isi_tup_dict, isi_tup_tuple_list, isi_tup_list_tuple, isi_lst_int, isi_lst_bool, isi_lst_str, isi_lst_tuple, isi_lst_list, isi_lst_dict, isi_lst_tuple_list, isi_lst_list_tuple, isi_frz_int, isi_frz_bool, isi_frz_str, isi_frz_tuple, isi_frz_list, isi_frz_dict, isi_frz_tuple_list, isi_frz_list_tuple, tru_bl, tru_int, tru_non, tru_tup, len_tup, ix_tup, tru_lst, len_lst, ix_lst, tru_frz, len_frz, ix_frz, sl_lst, sl_frz, sl_tup, asInt_int, at0, at1, at2, at3, at4, add_int, add_tup, add_str, add_lst, addC_lst, repC_lst, sub_int, mul_int, mul_lst, mul_tup, div_int, mod_int, pow_int, neg_int, not_bl, lt_int, le_int, gt_int, ge_int, eq_int, eq_str, eq_bl, eq_non, eq_int_non, eq_non_int, eq_str_non, eq_non_str, eq_bl_non, eq_non_bl, ne_int, ne_str, ne_bl, ne_non, ne_int_non, ne_non_int, ne_str_non, ne_non_str, ne_bl_non, ne_non_bl, isNone_non, isNone_int, isNone_str, isNone_bl, isNone_tup, isNone_lst, isNone_frz, max2_int, min2_int, abs_int, int_int, int_bl, still_tup, list_tup, tuple_tup, listC_tup, sv_tup, still_lst, list_lst, tuple_lst, listC_lst, sv_lst, still_frz, list_frz, tuple_frz, listC_frz, sv_frz, r1_int, r2_int, r3_int, tg_name, tg_tup, setAll_cons, setAll_nil, mtE, g1_one, g2_two, mkL_0, mkT_0, mkC_0, mkL_1, mkT_1, mkC_1, mkL_2, mkT_2, mkC_2, mkL_3, mkT_3, mkC_3, mkL_4, mkT_4, mkC_4, bnd_S, ret_S, lineN_eq2, wipe_nil, wipe_cons, c0, c1, c2, aL, l0, hpos, ix_lst, hxD, hge, h0, h1, hp0, hp2, hp0', hp2', Int.reducePow]
theorem law_mix (ns : List Int) (hn : ns.length ≤ 63) (seed : Int) : ∃ S, g__law_mix [.frz (ns.map .int), .int seed] [] = .ok (.ref 1) S ∧ HI S := by
  obtain ⟨ρ2, S2, e, o3, st, e1, e2⟩ := forGo_ind (t := .name 3) (f := (asgS (op2 modD (appA (consA (op2 addD (op2 addD (op2 mulD (varD 2) (cD (.int 48271))) (op2 modD (appA (consA (varD 3) nilA) (g1 intD)) (cD (.int 2147483629)))) (cD (.int 1))) nilA) (g1 intD)) (cD (.int 2147483647))) (.name 2))) (ds := ns.map D.int)
    (fun k ρ S => ∃ o3 st, ρ = [some (.frz (ns.map .int)), some (.int seed), some (.int st), o3] ∧ S = [])
    (ρ := [some (.frz (ns.map .int)), some (.int seed), some (.int seed), none]) (S := []) ⟨none, seed, rfl, rfl⟩ (fun k hk ρ S ⟨o3, st, e1, e2⟩ => by
      subst e1 e2
      rw [List.length_map] at hk
      refine ⟨[some (.frz (ns.map .int)), some (.int seed), some (.int st), some (.int ns[k])], [some (.frz (ns.map .int)), some (.int seed), some (.int ((st * 48271 + ns[k] % 2147483629 + 1) % 2147483647)), some (.int ns[k])], [], ?_, .inl ?_, _, _, rfl, rfl⟩
      · rw [List.getElem_map]; rfl
      · simp only [nat10, nat2, runB, seqS, exS, asgS, retS, retN, dropS, ifS, nxS, nevS, brkS, cntS, setItS, forS, parS, op1, op2, chain, boolT, truT, notT, andT, orT, andE, orE, ifE, nilA, consA, appA, varD, cD, lstE, celE, tupE, slE, itE, itEn, cal_1, cal_2, cal_3, cal_4, cal_5, cal_6, cal_7, yesT, mulOk, List.map_cons, List.map_nil, List.length_cons, List.length_nil, List.getElem?_cons_zero, List.getElem?_cons_succ, List.set_cons_zero, List.set_cons_succ, List.replicate_succ, List.replicate_zero, List.cons_append, List.nil_append, List.append_nil, List.isEmpty_cons, List.isEmpty_nil, Nat.reduceAdd, Nat.reduceSub, Nat.reduceMul, Nat.reduceLeDiff, Nat.reduceEqDiff, Nat.zero_add, Nat.sub_zero, Nat.sub_self, Bool.not_true, Bool.not_false, Bool.true_and, Bool.false_and, Bool.and_true, Bool.and_false, Bool.true_or, Bool.false_or, Bool.or_true, Bool.or_false, Bool.false_eq_true, Bool.not_eq_true, Bool.not_eq_false, Bool.not_not, decide_eq_true_eq, decide_eq_false_iff_not, decide_true, decide_false, if_true, if_false, reduceIte, reduceCtorEq, Nat.zero_le, and_self, and_true, true_and, or_true, true_or, or_false, false_or, not_true_eq_false, not_false_eq_true, Int.reduceLT, Int.reduceLE, Int.reduceNeg, Int.reduceAdd, Int.reduceMul, Int.reduceSub, Int.reducePow, Int.reduceEq, Int.reduceToNat, Nat.reduceLT, Nat.reducePow, Int.cast_ofNat_Int, isi_non_int, isi_non_bool, isi_non_str, isi_non_tuple, isi_non_list, isi_non_dict, isi_non_tuple_list, isi_non_list_tuple, isi_bl_int, isi_bl_bool, isi_bl_str, isi_bl_tuple, isi_bl_list, isi_bl_dict, isi_bl_tuple_list, isi_bl_list_tuple, isi_int_int, isi_int_bool, isi_int_str, isi_int_tuple, isi_int_list, isi_int_dict, isi_int_tuple_list, isi_int_list_tuple, isi_str_int, isi_str_bool, isi_str_str, isi_str_tuple, isi_str_list, isi_str_dict, isi_str_tuple_list, isi_str_list_tuple, isi_tup_int, isi_tup_bool, isi_tup_str, isi_tup_tuple, isi_tup_list, isi_tup_dict, isi_tup_tuple_list, isi_tup_list_tuple, isi_lst_int, isi_lst_bool, isi_lst_str, isi_lst_tuple, isi_lst_list, isi_lst_dict, isi_lst_tuple_list, isi_lst_list_tuple, isi_frz_int, isi_frz_bool, isi_frz_str, isi_frz_tuple, isi_frz_list, isi_frz_dict, isi_frz_tuple_list, isi_frz_list_tuple, tru_bl, tru_int, tru_non, tru_tup, len_tup, ix_tup, tru_lst, len_lst, ix_lst, tru_frz, len_frz, ix_frz, sl_lst, sl_frz, sl_tup, asInt_int, at0, at1, at2, at3, at4, add_int, add_tup, add_str, add_lst, addC_lst, repC_lst, sub_int, mul_int, mul_lst, mul_tup, div_int, mod_int, pow_int, neg_int, not_bl, lt_int, le_int, gt_int, ge_int, eq_int, eq_str, eq_bl, eq_non, eq_int_non, eq_non_int, eq_str_non, eq_non_str, eq_bl_non, eq_non_bl, ne_int, ne_str, ne_bl, ne_non, ne_int_non, ne_non_int, ne_str_non, ne_non_str, ne_bl_non, ne_non_bl, isNone_non, isNone_int, isNone_str, isNone_bl, isNone_tup, isNone_lst, isNone_frz, max2_int, min2_int, abs_int, int_int, int_bl, still_tup, list_tup, tuple_tup, listC_tup, sv_tup, still_lst, list_lst, tuple_lst, listC_lst, sv_lst, still_frz, list_frz, tuple_frz, listC_frz, sv_frz, r1_int, r2_int, r3_int, tg_name, tg_tup, setAll_cons, setAll_nil, mtE, g1_one, g2_two, mkL_0, mkT_0, mkC_0, mkL_1, mkT_1, mkC_1, mkL_2, mkT_2, mkC_2, mkL_3, mkT_3, mkC_3, mkL_4, mkT_4, mkC_4, bnd_S, ret_S, lineN_eq2, wipe_nil, wipe_cons])
  subst e1 e2
  refine ⟨[.lst (ns.map .int), .lst [.int st, .ref 0, .int 0]], ?_, ⟨ns, st, 0, hn, rfl⟩⟩
  refine run_rt (ρ0 := [some (.frz (ns.map .int)), some (.int seed), none, none]) rfl ?_
  refine Eq.trans (seq_nx (asg_ok (d := .int seed) rfl rfl)) ?_
  refine Eq.trans (seq_nx ((for_ok (ds := ns.map D.int) rfl).trans e)) ?_
  rfl
theorem law_pick {S : Store} (hS : HI S) {xs : List D} (h0 : xs ≠ []) (h1 : xs.length ≤ 1000) : ∃ (d : D) (S' : Store), g__law_pick [.ref 1, .lst xs] S = .ok d S' ∧ d ∈ xs ∧ HI S' := by
  have hl : 0 < xs.length := List.length_pos_iff.mpr h0
  obtain ⟨r, S', e, r0, r1, hI⟩ := law_next hS (cap := xs.length) (by omega) (by omega)
  obtain ⟨j, rfl⟩ : ∃ j : Nat, r = j := ⟨r.toNat, by omega⟩
  have hj : j < xs.length := by omega
  refine ⟨xs[j], S', ?_, List.getElem_mem hj, hI⟩
  simp only [g__law_pick, b__law_pick, nat10, nat2, runB, seqS, exS, asgS, retS, retN, dropS, ifS, nxS, nevS, brkS, cntS, setItS, forS, parS, op1, op2, chain, boolT, truT, notT, andT, orT, andE, orE, ifE, nilA, consA, appA, varD, cD, lstE, celE, tupE, slE, itE, itEn, cal_1, cal_2, cal_3, cal_4, cal_5, cal_6, cal_7, yesT, mulOk, List.map_cons, List.map_nil, List.length_cons, List.length_nil, List.getElem?_cons_zero, List.getElem?_cons_succ, List.set_cons_zero, List.set_cons_succ, List.replicate_succ, List.replicate_zero, List.cons_append, List.nil_append, List.append_nil, List.isEmpty_cons, List.isEmpty_nil, Nat.reduceAdd, Nat.reduceSub, Nat.reduceMul, Nat.reduceLeDiff, Nat.reduceEqDiff, Nat.zero_add, Nat.sub_zero, Nat.sub_self, Bool.not_true, Bool.not_false, Bool.true_and, Bool.false_and, Bool.and_true, Bool.and_false, Bool.true_or, Bool.false_or, Bool.or_true, Bool.or_false, Bool.false_eq_true, Bool.not_eq_true, Bool.not_eq_false, Bool.not_not, decide_eq_true_eq, decide_eq_false_iff_not, decide_true, decide_false, if_true, if_false, reduceIte, reduceCtorEq, Nat.zero_le, and_self, and_true, true_and, or_true, true_or, or_false, false_or, not_true_eq_false, not_false_eq_true, Int.reduceLT, Int.reduceLE, Int.reduceNeg, Int.reduceAdd, Int.reduceMul, Int.reduceSub, Int.reducePow, Int.reduceEq, Int.reduceToNat, Nat.reduceLT, Nat.reducePow, Int.cast_ofNat_Int, isi_non_int, isi_non_bool, isi_non_str, isi_non_tuple, isi_non_list, isi_non_dict, isi_non_tuple_list, isi_non_list_tuple, isi_bl_int, isi_bl_bool, isi_bl_str, isi_bl_tuple, isi_bl_list, isi_bl_dict, isi_bl_tuple_list, isi_bl_list_tuple, isi_int_int, isi_int_bool, isi_int_str, isi_int_tuple, isi_int_list, isi_int_dict, isi_int_tuple_list, isi_int_list_tuple, isi_str_int, isi_str_bool, isi_str_str, isi_str_tuple, isi_str_list, isi_str_dict, isi_str_tuple_list, isi_str_list_tuple, isi_tup_int, isi_tup_bool, isi_tup_str, isi_tup_tuple, isi_tup_list, isi_tup_dict, isi_tup_tuple_list, isi_tup_list_tuple, isi_lst_int, isi_lst_bool, isi_lst_str, isi_lst_tuple, isi_lst_list, isi_lst_dict, isi_lst_tuple_list, isi_lst_list_tuple, isi_frz_int, isi_frz_bool, isi_frz_str, isi_frz_tuple, isi_frz_list, isi_frz_dict, isi_frz_tuple_list, isi_frz_list_tuple, tru_bl, tru_int, tru_non, tru_tup, len_tup, ix_tup, tru_lst, len_lst, ix_lst, tru_frz, len_frz, ix_frz, sl_lst, sl_frz, sl_tup, asInt_int, at0, at1, at2, at3, at4, add_int, add_tup, add_str, add_lst, addC_lst, repC_lst, sub_int, mul_int, mul_lst, mul_tup, div_int, mod_int, pow_int, neg_int, not_bl, lt_int, le_int, gt_int, ge_int, eq_int, eq_str, eq_bl, eq_non, eq_int_non, eq_non_int, eq_str_non, eq_non_str, eq_bl_non, eq_non_bl, ne_int, ne_str, ne_bl, ne_non, ne_int_non, ne_non_int, ne_str_non, ne_non_str, ne_bl_non, ne_non_bl, isNone_non, isNone_int, isNone_str, isNone_bl, isNone_tup, isNone_lst, isNone_frz, max2_int, min2_int, abs_int, int_int, int_bl, still_tup, list_tup, tuple_tup, listC_tup, sv_tup, still_lst, list_lst, tuple_lst, listC_lst, sv_lst, still_frz, list_frz, tuple_frz, listC_frz, sv_frz, r1_int, r2_int, r3_int, tg_name, tg_tup, setAll_cons, setAll_nil, mtE, g1_one, g2_two, mkL_0, mkT_0, mkC_0, mkL_1, mkT_1, mkC_1, mkL_2, mkT_2, mkC_2, mkL_3, mkT_3, mkC_3, mkL_4, mkT_4, mkC_4, bnd_S, ret_S, lineN_eq2, wipe_nil, wipe_cons, e, at?_nat, List.getElem?_eq_getElem hj]
theorem law_pickT {S : Store} (hS : HI S) {xs : List D} (h0 : xs ≠ []) (h1 : xs.length ≤ 1000) : ∃ (d : D) (S' : Store), g__law_pick [.ref 1, .tup xs] S = .ok d S' ∧ d ∈ xs ∧ HI S' := by
  have hl : 0 < xs.length := List.length_pos_iff.mpr h0
  obtain ⟨r, S', e, r0, r1, hI⟩ := law_next hS (cap := xs.length) (by omega) (by omega)
  obtain ⟨j, rfl⟩ : ∃ j : Nat, r = j := ⟨r.toNat, by omega⟩
  have hj : j < xs.length := by omega
  refine ⟨xs[j], S', ?_, List.getElem_mem hj, hI⟩
  simp only [g__law_pick, b__law_pick, nat10, nat2, runB, seqS, exS, asgS, retS, retN, dropS, ifS, nxS, nevS, brkS, cntS, setItS, forS, parS, op1, op2, chain, boolT, truT, notT, andT, orT, andE, orE, ifE, nilA, consA, appA, varD, cD, lstE, celE, tupE, slE, itE, itEn, cal_1, cal_2, cal_3, cal_4, cal_5, cal_6, cal_7, yesT, mulOk, List.map_cons, List.map_nil, List.length_cons, List.length_nil, List.getElem?_cons_zero, List.getElem?_cons_succ, List.set_cons_zero, List.set_cons_succ, List.replicate_succ, List.replicate_zero, List.cons_append, List.nil_append, List.append_nil, List.isEmpty_cons, List.isEmpty_nil, Nat.reduceAdd, Nat.reduceSub, Nat.reduceMul, Nat.reduceLeDiff, Nat.reduceEqDiff, Nat.zero_add, Nat.sub_zero, Nat.sub_self, Bool.not_true, Bool.not_false, Bool.true_and, Bool.false_and, Bool.and_true, Bool.and_false, Bool.true_or, Bool.false_or, Bool.or_true, Bool.or_false, Bool.false_eq_true, Bool.not_eq_true, Bool.not_eq_false, Bool.not_not, decide_eq_true_eq, decide_eq_false_iff_not, decide_true, decide_false, if_true, if_false, reduceIte, reduceCtorEq, Nat.zero_le, and_self, and_true, true_and, or_true, true_or, or_false, false_or, not_true_eq_false, not_false_eq_true, Int.reduceLT, Int.reduceLE, Int.reduceNeg, Int.reduceAdd, Int.reduceMul, Int.reduceSub, Int.reducePow, Int.reduceEq, Int.reduceToNat, Nat.reduceLT, Nat.reducePow, Int.cast_ofNat_Int, isi_non_int, isi_non_bool, isi_non_str, isi_non_tuple, isi_non_list, isi_non_dict, isi_non_tuple_list, isi_non_list_tuple, isi_bl_int, isi_bl_bool, isi_bl_str, isi_bl_tuple, isi_bl_list, isi_bl_dict, isi_bl_tuple_list, isi_bl_list_tuple, isi_int_int, isi_int_bool, isi_int_str, isi_int_tuple, isi_int_list, isi_int_dict, isi_int_tuple_list, isi_int_list_tuple, isi_str_int, isi_str_bool, isi_str_str, isi_str_tuple, isi_str_list, isi_str_dict, isi_str_tuple_list, isi_str_list_tuple, isi_tup_int, isi_tup_bool, isi_tup_str, isi_tup_tuple, isi_tup_list, isi_tup_dict, isi_tup_tuple_list, isi_tup_list_tuple, isi_lst_int, isi_lst_bool, isi_lst_str, isi_lst_tuple, isi_lst_list, isi_lst_dict, isi_lst_tuple_list, isi_lst_list_tuple, isi_frz_int, isi_frz_bool, isi_frz_str, isi_frz_tuple, isi_frz_list, isi_frz_dict, isi_frz_tuple_list, isi_frz_list_tuple, tru_bl, tru_int, tru_non, tru_tup, len_tup, ix_tup, tru_lst, len_lst, ix_lst, tru_frz, len_frz, ix_frz, sl_lst, sl_frz, sl_tup, asInt_int, at0, at1, at2, at3, at4, add_int, add_tup, add_str, add_lst, addC_lst, repC_lst, sub_int, mul_int, mul_lst, mul_tup, div_int, mod_int, pow_int, neg_int, not_bl, lt_int, le_int, gt_int, ge_int, eq_int, eq_str, eq_bl, eq_non, eq_int_non, eq_non_int, eq_str_non, eq_non_str, eq_bl_non, eq_non_bl, ne_int, ne_str, ne_bl, ne_non, ne_int_non, ne_non_int, ne_str_non, ne_non_str, ne_bl_non, ne_non_bl, isNone_non, isNone_int, isNone_str, isNone_bl, isNone_tup, isNone_lst, isNone_frz, max2_int, min2_int, abs_int, int_int, int_bl, still_tup, list_tup, tuple_tup, listC_tup, sv_tup, still_lst, list_lst, tuple_lst, listC_lst, sv_lst, still_frz, list_frz, tuple_frz, listC_frz, sv_frz, r1_int, r2_int, r3_int, tg_name, tg_tup, setAll_cons, setAll_nil, mtE, g1_one, g2_two, mkL_0, mkT_0, mkC_0, mkL_1, mkT_1, mkC_1, mkL_2, mkT_2, mkC_2, mkL_3, mkT_3, mkC_3, mkL_4, mkT_4, mkC_4, bnd_S, ret_S, lineN_eq2, wipe_nil, wipe_cons, e, at?_nat, List.getElem?_eq_getElem hj]
/-! alike of the same -/
def alD : Nat → D → Prop
  | _, .non => True
  | _, .bl _ => True
  | _, .int _ => True
  | _, .str _ => True
  | n + 1, .tup ds => ds.length ≤ 1000000 ∧ ∀ d ∈ ds, alD n d
  | n + 1, .lst ds => ds.length ≤ 1000000 ∧ ∀ d ∈ ds, alD n d
  | _, _ => False
theorem eq_nil (S : Store) : eqM (.lst []) (.lst []) S = .ok (.bl true) S := by
  rw [eqM_ok (okD_lst (n := 0) (ds := []) (by simp)) (okD_lst (n := 0) (ds := []) (by simp)) (by omega) (by omega), dq_self (okD_lst (n := 0) (ds := []) (by simp))]
theorem r_succ (n : Nat) : r__law_alike (n + 1) = runB (b__law_alike (r__law_alike n)) 3 := rfl
theorem alike_self : ∀ (n : Nat) (x : D), alD n x → ∀ S, r__law_alike (n + 1) [x, x] S = .ok (.bl true) S := by
  intro n
  induction n with
  | zero =>
    intro x h S
    cases x <;> first | (simp [alD] at h; done) | skip
    all_goals simp only [r__law_alike, b__law_alike, nat10, nat2, runB, seqS, exS, asgS, retS, retN, dropS, ifS, nxS, nevS, brkS, cntS, setItS, forS, parS, op1, op2, chain, boolT, truT, notT, andT, orT, andE, orE, ifE, nilA, consA, appA, varD, cD, lstE, celE, tupE, slE, itE, itEn, cal_1, cal_2, cal_3, cal_4, cal_5, cal_6, cal_7, yesT, mulOk, List.map_cons, List.map_nil, List.length_cons, List.length_nil, List.getElem?_cons_zero, List.getElem?_cons_succ, List.set_cons_zero, List.set_cons_succ, List.replicate_succ, List.replicate_zero, List.cons_append, List.nil_append, List.append_nil, List.isEmpty_cons, List.isEmpty_nil, Nat.reduceAdd, Nat.reduceSub, Nat.reduceMul, Nat.reduceLeDiff, Nat.reduceEqDiff, Nat.zero_add, Nat.sub_zero, Nat.sub_self, Bool.not_true, Bool.not_false, Bool.true_and, Bool.false_and, Bool.and_true, Bool.and_false, Bool.true_or, Bool.false_or, Bool.or_true, Bool.or_false, Bool.false_eq_true, Bool.not_eq_true, Bool.not_eq_false, Bool.not_not, decide_eq_true_eq, decide_eq_false_iff_not, decide_true, decide_false, if_true, if_false, reduceIte, reduceCtorEq, Nat.zero_le, and_self, and_true, true_and, or_true, true_or, or_false, false_or, not_true_eq_false, not_false_eq_true, Int.reduceLT, Int.reduceLE, Int.reduceNeg, Int.reduceAdd, Int.reduceMul, Int.reduceSub, Int.reducePow, Int.reduceEq, Int.reduceToNat, Nat.reduceLT, Nat.reducePow, Int.cast_ofNat_Int, isi_non_int, isi_non_bool, isi_non_str, isi_non_tuple, isi_non_list, isi_non_dict, isi_non_tuple_list, isi_non_list_tuple, isi_bl_int, isi_bl_bool, isi_bl_str, isi_bl_tuple, isi_bl_list, isi_bl_dict, isi_bl_tuple_list, isi_bl_list_tuple, isi_int_int, isi_int_bool, isi_int_str, isi_int_tuple, isi_int_list, isi_int_dict, isi_int_tuple_list, isi_int_list_tuple, isi_str_int, isi_str_bool, isi_str_str, isi_str_tuple, isi_str_list, isi_str_dict, isi_str_tuple_list, isi_str_list_tuple, isi_tup_int, isi_tup_bool, isi_tup_str, isi_tup_tuple, isi_tup_list, isi_tup_dict, isi_tup_tuple_list, isi_tup_list_tuple, isi_lst_int, isi_lst_bool, isi_lst_str, isi_lst_tuple, isi_lst_list, isi_lst_dict, isi_lst_tuple_list, isi_lst_list_tuple, isi_frz_int, isi_frz_bool, isi_frz_str, isi_frz_tuple, isi_frz_list, isi_frz_dict, isi_frz_tuple_list, isi_frz_list_tuple, tru_bl, tru_int, tru_non, tru_tup, len_tup, ix_tup, tru_lst, len_lst, ix_lst, tru_frz, len_frz, ix_frz, sl_lst, sl_frz, sl_tup, asInt_int, at0, at1, at2, at3, at4, add_int, add_tup, add_str, add_lst, addC_lst, repC_lst, sub_int, mul_int, mul_lst, mul_tup, div_int, mod_int, pow_int, neg_int, not_bl, lt_int, le_int, gt_int, ge_int, eq_int, eq_str, eq_bl, eq_non, eq_int_non, eq_non_int, eq_str_non, eq_non_str, eq_bl_non, eq_non_bl, ne_int, ne_str, ne_bl, ne_non, ne_int_non, ne_non_int, ne_str_non, ne_non_str, ne_bl_non, ne_non_bl, isNone_non, isNone_int, isNone_str, isNone_bl, isNone_tup, isNone_lst, isNone_frz, max2_int, min2_int, abs_int, int_int, int_bl, still_tup, list_tup, tuple_tup, listC_tup, sv_tup, still_lst, list_lst, tuple_lst, listC_lst, sv_lst, still_frz, list_frz, tuple_frz, listC_frz, sv_frz, r1_int, r2_int, r3_int, tg_name, tg_tup, setAll_cons, setAll_nil, mtE, g1_one, g2_two, mkL_0, mkT_0, mkC_0, mkL_1, mkT_1, mkC_1, mkL_2, mkT_2, mkC_2, mkL_3, mkT_3, mkC_3, mkL_4, mkT_4, mkC_4, bnd_S, ret_S, lineN_eq2, wipe_nil, wipe_cons, beq_self_eq_true]
  | succ n ih =>
    intro x h S
    have comp : ∀ (ds : List D) (x : D) (o : Option D), ds.length ≤ 1000000 → (∀ d ∈ ds, alD n d) → (∀ i : Nat, i < ds.length → ∀ S, ixD x (.int (i : Nat)) S = .ok (ds.getD i .non) S) → (∀ S, lenD x S = .ok (.int ds.length) S) → ∀ S,
        lcE [2] (.name 2) (appA (consA (appA (consA (varD 1) nilA) (g1 lenD)) nilA) itR1) (notT (truT (appA (consA (op2 ixD (varD 0) (varD 2)) (consA (op2 ixD (varD 1) (varD 2)) nilA)) (cal 2 (r__law_alike (n + 1)))))) (varD 2) [some x, some x, o] S = .ok (.lst []) S := by
      intro ds x o hl hd hi hln S
      have := lcE_of (own := [2]) (t := .name 2) (fi := appA (consA (appA (consA (varD 1) nilA) (g1 lenD)) nilA) itR1) (ft := notT (truT (appA (consA (op2 ixD (varD 0) (varD 2)) (consA (op2 ixD (varD 1) (varD 2)) nilA)) (cal 2 (r__law_alike (n + 1)))))) (fe := varD 2) (ρ := [some x, some x, o]) (S := S)
        (fun i : Nat => D.int (i : Nat)) (fun _ => false) (fun i => .int (i : Nat)) (List.range ds.length) (by
          have hr := fun S => r1_nat ds.length S (by omega)
          simp only [nat10, nat2, runB, seqS, exS, asgS, retS, retN, dropS, ifS, nxS, nevS, brkS, cntS, setItS, forS, parS, op1, op2, chain, boolT, truT, notT, andT, orT, andE, orE, ifE, nilA, consA, appA, varD, cD, lstE, celE, tupE, slE, itE, itEn, cal_1, cal_2, cal_3, cal_4, cal_5, cal_6, cal_7, yesT, mulOk, List.map_cons, List.map_nil, List.length_cons, List.length_nil, List.getElem?_cons_zero, List.getElem?_cons_succ, List.set_cons_zero, List.set_cons_succ, List.replicate_succ, List.replicate_zero, List.cons_append, List.nil_append, List.append_nil, List.isEmpty_cons, List.isEmpty_nil, Nat.reduceAdd, Nat.reduceSub, Nat.reduceMul, Nat.reduceLeDiff, Nat.reduceEqDiff, Nat.zero_add, Nat.sub_zero, Nat.sub_self, Bool.not_true, Bool.not_false, Bool.true_and, Bool.false_and, Bool.and_true, Bool.and_false, Bool.true_or, Bool.false_or, Bool.or_true, Bool.or_false, Bool.false_eq_true, Bool.not_eq_true, Bool.not_eq_false, Bool.not_not, decide_eq_true_eq, decide_eq_false_iff_not, decide_true, decide_false, if_true, if_false, reduceIte, reduceCtorEq, Nat.zero_le, and_self, and_true, true_and, or_true, true_or, or_false, false_or, not_true_eq_false, not_false_eq_true, Int.reduceLT, Int.reduceLE, Int.reduceNeg, Int.reduceAdd, Int.reduceMul, Int.reduceSub, Int.reducePow, Int.reduceEq, Int.reduceToNat, Nat.reduceLT, Nat.reducePow, Int.cast_ofNat_Int, isi_non_int, isi_non_bool, isi_non_str, isi_non_tuple, isi_non_list, isi_non_dict, isi_non_tuple_list, isi_non_list_tuple, isi_bl_int, isi_bl_bool, isi_bl_str, isi_bl_tuple, isi_bl_list, isi_bl_dict, isi_bl_tuple_list, isi_bl_list_tuple, isi_int_int, isi_int_bool, isi_int_str, isi_int_tuple, isi_int_list, isi_int_dict, isi_int_tuple_list, isi_int_list_tuple, isi_str_int, isi_str_bool, isi_str_str, isi_str_tuple, isi_str_list, isi_str_dict, isi_str_tuple_list, isi_str_list_tuple, isi_tup_int, isi_tup_bool, isi_tup_str, isi_tup_tuple, isi_tup_list, isi_tup_dict, isi_tup_tuple_list, isi_tup_list_tuple, isi_lst_int, isi_lst_bool, isi_lst_str, isi_lst_tuple, isi_lst_list, isi_lst_dict, isi_lst_tuple_list, isi_lst_list_tuple, isi_frz_int, isi_frz_bool, isi_frz_str, isi_frz_tuple, isi_frz_list, isi_frz_dict, isi_frz_tuple_list, isi_frz_list_tuple, tru_bl, tru_int, tru_non, tru_tup, len_tup, ix_tup, tru_lst, len_lst, ix_lst, tru_frz, len_frz, ix_frz, sl_lst, sl_frz, sl_tup, asInt_int, at0, at1, at2, at3, at4, add_int, add_tup, add_str, add_lst, addC_lst, repC_lst, sub_int, mul_int, mul_lst, mul_tup, div_int, mod_int, pow_int, neg_int, not_bl, lt_int, le_int, gt_int, ge_int, eq_int, eq_str, eq_bl, eq_non, eq_int_non, eq_non_int, eq_str_non, eq_non_str, eq_bl_non, eq_non_bl, ne_int, ne_str, ne_bl, ne_non, ne_int_non, ne_non_int, ne_str_non, ne_non_str, ne_bl_non, ne_non_bl, isNone_non, isNone_int, isNone_str, isNone_bl, isNone_tup, isNone_lst, isNone_frz, max2_int, min2_int, abs_int, int_int, int_bl, still_tup, list_tup, tuple_tup, listC_tup, sv_tup, still_lst, list_lst, tuple_lst, listC_lst, sv_lst, still_frz, list_frz, tuple_frz, listC_frz, sv_frz, r1_int, r2_int, r3_int, tg_name, tg_tup, setAll_cons, setAll_nil, mtE, g1_one, g2_two, mkL_0, mkT_0, mkC_0, mkL_1, mkT_1, mkC_1, mkL_2, mkT_2, mkC_2, mkL_3, mkT_3, mkC_3, mkL_4, mkT_4, mkC_4, bnd_S, ret_S, lineN_eq2, wipe_nil, wipe_cons, hln, -r1_int, hr]) (by rw [List.length_range, lineN_eq2]; omega) (fun i hmem => by
          have hi2 : i < ds.length := List.mem_range.mp hmem
          have hg : ds.getD i .non ∈ ds := by rw [List.getD_eq_getElem?_getD, List.getElem?_eq_getElem hi2]; exact List.getElem_mem hi2
          refine ⟨[some x, some x, some (.int (i : Nat))], rfl, ?_, (fun h => by cases h)⟩
          simp only [nat10, nat2, runB, seqS, exS, asgS, retS, retN, dropS, ifS, nxS, nevS, brkS, cntS, setItS, forS, parS, op1, op2, chain, boolT, truT, notT, andT, orT, andE, orE, ifE, nilA, consA, appA, varD, cD, lstE, celE, tupE, slE, itE, itEn, cal_1, cal_2, cal_3, cal_4, cal_5, cal_6, cal_7, yesT, mulOk, List.map_cons, List.map_nil, List.length_cons, List.length_nil, List.getElem?_cons_zero, List.getElem?_cons_succ, List.set_cons_zero, List.set_cons_succ, List.replicate_succ, List.replicate_zero, List.cons_append, List.nil_append, List.append_nil, List.isEmpty_cons, List.isEmpty_nil, Nat.reduceAdd, Nat.reduceSub, Nat.reduceMul, Nat.reduceLeDiff, Nat.reduceEqDiff, Nat.zero_add, Nat.sub_zero, Nat.sub_self, Bool.not_true, Bool.not_false, Bool.true_and, Bool.false_and, Bool.and_true, Bool.and_false, Bool.true_or, Bool.false_or, Bool.or_true, Bool.or_false, Bool.false_eq_true, Bool.not_eq_true, Bool.not_eq_false, Bool.not_not, decide_eq_true_eq, decide_eq_false_iff_not, decide_true, decide_false, if_true, if_false, reduceIte, reduceCtorEq, Nat.zero_le, and_self, and_true, true_and, or_true, true_or, or_false, false_or, not_true_eq_false, not_false_eq_true, Int.reduceLT, Int.reduceLE, Int.reduceNeg, Int.reduceAdd, Int.reduceMul, Int.reduceSub, Int.reducePow, Int.reduceEq, Int.reduceToNat, Nat.reduceLT, Nat.reducePow, Int.cast_ofNat_Int, isi_non_int, isi_non_bool, isi_non_str, isi_non_tuple, isi_non_list, isi_non_dict, isi_non_tuple_list, isi_non_list_tuple, isi_bl_int, isi_bl_bool, isi_bl_str, isi_bl_tuple, isi_bl_list, isi_bl_dict, isi_bl_tuple_list, isi_bl_list_tuple, isi_int_int, isi_int_bool, isi_int_str, isi_int_tuple, isi_int_list, isi_int_dict, isi_int_tuple_list, isi_int_list_tuple, isi_str_int, isi_str_bool, isi_str_str, isi_str_tuple, isi_str_list, isi_str_dict, isi_str_tuple_list, isi_str_list_tuple, isi_tup_int, isi_tup_bool, isi_tup_str, isi_tup_tuple, isi_tup_list, isi_tup_dict, isi_tup_tuple_list, isi_tup_list_tuple, isi_lst_int, isi_lst_bool, isi_lst_str, isi_lst_tuple, isi_lst_list, isi_lst_dict, isi_lst_tuple_list, isi_lst_list_tuple, isi_frz_int, isi_frz_bool, isi_frz_str, isi_frz_tuple, isi_frz_list, isi_frz_dict, isi_frz_tuple_list, isi_frz_list_tuple, tru_bl, tru_int, tru_non, tru_tup, len_tup, ix_tup, tru_lst, len_lst, ix_lst, tru_frz, len_frz, ix_frz, sl_lst, sl_frz, sl_tup, asInt_int, at0, at1, at2, at3, at4, add_int, add_tup, add_str, add_lst, addC_lst, repC_lst, sub_int, mul_int, mul_lst, mul_tup, div_int, mod_int, pow_int, neg_int, not_bl, lt_int, le_int, gt_int, ge_int, eq_int, eq_str, eq_bl, eq_non, eq_int_non, eq_non_int, eq_str_non, eq_non_str, eq_bl_non, eq_non_bl, ne_int, ne_str, ne_bl, ne_non, ne_int_non, ne_non_int, ne_str_non, ne_non_str, ne_bl_non, ne_non_bl, isNone_non, isNone_int, isNone_str, isNone_bl, isNone_tup, isNone_lst, isNone_frz, max2_int, min2_int, abs_int, int_int, int_bl, still_tup, list_tup, tuple_tup, listC_tup, sv_tup, still_lst, list_lst, tuple_lst, listC_lst, sv_lst, still_frz, list_frz, tuple_frz, listC_frz, sv_frz, r1_int, r2_int, r3_int, tg_name, tg_tup, setAll_cons, setAll_nil, mtE, g1_one, g2_two, mkL_0, mkT_0, mkC_0, mkL_1, mkT_1, mkC_1, mkL_2, mkT_2, mkC_2, mkL_3, mkT_3, mkC_3, mkL_4, mkT_4, mkC_4, bnd_S, ret_S, lineN_eq2, wipe_nil, wipe_cons, hi i hi2, ih _ (hd _ hg)])
      rw [this]
      simp
    cases x with
    | tup ds =>
      have h' : ds.length ≤ 1000000 ∧ ∀ d ∈ ds, alD n d := h
      have c := comp ds (.tup ds) none h'.1 h'.2 (fun i hi S => by rw [ix_tup, at?_nat, List.getD_eq_getElem?_getD, List.getElem?_eq_getElem hi]; rfl) (fun S => rfl) S
      rw [r_succ (n + 1)]
      refine run_rt (ρ0 := [some (.tup ds), some (.tup ds), none]) rfl ?_
      unfold b__law_alike
      refine Eq.trans (seq_nx (ρ' := [some (.tup ds), some (.tup ds), none]) (S' := S) (Eq.trans (if_f (S' := S) ?_) rfl)) ?_
      · simp only [nat10, nat2, runB, seqS, exS, asgS, retS, retN, dropS, ifS, nxS, nevS, brkS, cntS, setItS, forS, parS, op1, op2, chain, boolT, truT, notT, andT, orT, andE, orE, ifE, nilA, consA, appA, varD, cD, lstE, celE, tupE, slE, itE, itEn, cal_1, cal_2, cal_3, cal_4, cal_5, cal_6, cal_7, yesT, mulOk, List.map_cons, List.map_nil, List.length_cons, List.length_nil, List.getElem?_cons_zero, List.getElem?_cons_succ, List.set_cons_zero, List.set_cons_succ, List.replicate_succ, List.replicate_zero, List.cons_append, List.nil_append, List.append_nil, List.isEmpty_cons, List.isEmpty_nil, Nat.reduceAdd, Nat.reduceSub, Nat.reduceMul, Nat.reduceLeDiff, Nat.reduceEqDiff, Nat.zero_add, Nat.sub_zero, Nat.sub_self, Bool.not_true, Bool.not_false, Bool.true_and, Bool.false_and, Bool.and_true, Bool.and_false, Bool.true_or, Bool.false_or, Bool.or_true, Bool.or_false, Bool.false_eq_true, Bool.not_eq_true, Bool.not_eq_false, Bool.not_not, decide_eq_true_eq, decide_eq_false_iff_not, decide_true, decide_false, if_true, if_false, reduceIte, reduceCtorEq, Nat.zero_le, and_self, and_true, true_and, or_true, true_or, or_false, false_or, not_true_eq_false, not_false_eq_true, Int.reduceLT, Int.reduceLE, Int.reduceNeg, Int.reduceAdd, Int.reduceMul, Int.reduceSub, Int.reducePow, Int.reduceEq, Int.reduceToNat, Nat.reduceLT, Nat.reducePow, Int.cast_ofNat_Int, isi_non_int, isi_non_bool, isi_non_str, isi_non_tuple, isi_non_list, isi_non_dict, isi_non_tuple_list, isi_non_list_tuple, isi_bl_int, isi_bl_bool, isi_bl_str, isi_bl_tuple, isi_bl_list, isi_bl_dict, isi_bl_tuple_list, isi_bl_list_tuple, isi_int_int, isi_int_bool, isi_int_str, isi_int_tuple, isi_int_list, isi_int_dict, isi_int_tuple_list, isi_int_list_tuple, isi_str_int, isi_str_bool, isi_str_str, isi_str_tuple, isi_str_list, isi_str_dict, isi_str_tuple_list, isi_str_list_tuple, isi_tup_int, isi_tup_bool, isi_tup_str, isi_tup_tuple, isi_tup_list, isi_tup_dict, isi_tup_tuple_list, isi_tup_list_tuple, isi_lst_int, isi_lst_bool, isi_lst_str, isi_lst_tuple, isi_lst_list, isi_lst_dict, isi_lst_tuple_list, isi_lst_list_tuple, isi_frz_int, isi_frz_bool, isi_frz_str, isi_frz_tuple, isi_frz_list, isi_frz_dict, isi_frz_tuple_list, isi_frz_list_tuple, tru_bl, tru_int, tru_non, tru_tup, len_tup, ix_tup, tru_lst, len_lst, ix_lst, tru_frz, len_frz, ix_frz, sl_lst, sl_frz, sl_tup, asInt_int, at0, at1, at2, at3, at4, add_int, add_tup, add_str, add_lst, addC_lst, repC_lst, sub_int, mul_int, mul_lst, mul_tup, div_int, mod_int, pow_int, neg_int, not_bl, lt_int, le_int, gt_int, ge_int, eq_int, eq_str, eq_bl, eq_non, eq_int_non, eq_non_int, eq_str_non, eq_non_str, eq_bl_non, eq_non_bl, ne_int, ne_str, ne_bl, ne_non, ne_int_non, ne_non_int, ne_str_non, ne_non_str, ne_bl_non, ne_non_bl, isNone_non, isNone_int, isNone_str, isNone_bl, isNone_tup, isNone_lst, isNone_frz, max2_int, min2_int, abs_int, int_int, int_bl, still_tup, list_tup, tuple_tup, listC_tup, sv_tup, still_lst, list_lst, tuple_lst, listC_lst, sv_lst, still_frz, list_frz, tuple_frz, listC_frz, sv_frz, r1_int, r2_int, r3_int, tg_name, tg_tup, setAll_cons, setAll_nil, mtE, g1_one, g2_two, mkL_0, mkT_0, mkC_0, mkL_1, mkT_1, mkC_1, mkL_2, mkT_2, mkC_2, mkL_3, mkT_3, mkC_3, mkL_4, mkT_4, mkC_4, bnd_S, ret_S, lineN_eq2, wipe_nil, wipe_cons]
      refine seq_rt (Eq.trans (if_t (S' := S) ?_) ?_)
      · simp only [nat10, nat2, runB, seqS, exS, asgS, retS, retN, dropS, ifS, nxS, nevS, brkS, cntS, setItS, forS, parS, op1, op2, chain, boolT, truT, notT, andT, orT, andE, orE, ifE, nilA, consA, appA, varD, cD, lstE, celE, tupE, slE, itE, itEn, cal_1, cal_2, cal_3, cal_4, cal_5, cal_6, cal_7, yesT, mulOk, List.map_cons, List.map_nil, List.length_cons, List.length_nil, List.getElem?_cons_zero, List.getElem?_cons_succ, List.set_cons_zero, List.set_cons_succ, List.replicate_succ, List.replicate_zero, List.cons_append, List.nil_append, List.append_nil, List.isEmpty_cons, List.isEmpty_nil, Nat.reduceAdd, Nat.reduceSub, Nat.reduceMul, Nat.reduceLeDiff, Nat.reduceEqDiff, Nat.zero_add, Nat.sub_zero, Nat.sub_self, Bool.not_true, Bool.not_false, Bool.true_and, Bool.false_and, Bool.and_true, Bool.and_false, Bool.true_or, Bool.false_or, Bool.or_true, Bool.or_false, Bool.false_eq_true, Bool.not_eq_true, Bool.not_eq_false, Bool.not_not, decide_eq_true_eq, decide_eq_false_iff_not, decide_true, decide_false, if_true, if_false, reduceIte, reduceCtorEq, Nat.zero_le, and_self, and_true, true_and, or_true, true_or, or_false, false_or, not_true_eq_false, not_false_eq_true, Int.reduceLT, Int.reduceLE, Int.reduceNeg, Int.reduceAdd, Int.reduceMul, Int.reduceSub, Int.reducePow, Int.reduceEq, Int.reduceToNat, Nat.reduceLT, Nat.reducePow, Int.cast_ofNat_Int, isi_non_int, isi_non_bool, isi_non_str, isi_non_tuple, isi_non_list, isi_non_dict, isi_non_tuple_list, isi_non_list_tuple, isi_bl_int, isi_bl_bool, isi_bl_str, isi_bl_tuple, isi_bl_list, isi_bl_dict, isi_bl_tuple_list, isi_bl_list_tuple, isi_int_int, isi_int_bool, isi_int_str, isi_int_tuple, isi_int_list, isi_int_dict, isi_int_tuple_list, isi_int_list_tuple, isi_str_int, isi_str_bool, isi_str_str, isi_str_tuple, isi_str_list, isi_str_dict, isi_str_tuple_list, isi_str_list_tuple, isi_tup_int, isi_tup_bool, isi_tup_str, isi_tup_tuple, isi_tup_list, isi_tup_dict, isi_tup_tuple_list, isi_tup_list_tuple, isi_lst_int, isi_lst_bool, isi_lst_str, isi_lst_tuple, isi_lst_list, isi_lst_dict, isi_lst_tuple_list, isi_lst_list_tuple, isi_frz_int, isi_frz_bool, isi_frz_str, isi_frz_tuple, isi_frz_list, isi_frz_dict, isi_frz_tuple_list, isi_frz_list_tuple, tru_bl, tru_int, tru_non, tru_tup, len_tup, ix_tup, tru_lst, len_lst, ix_lst, tru_frz, len_frz, ix_frz, sl_lst, sl_frz, sl_tup, asInt_int, at0, at1, at2, at3, at4, add_int, add_tup, add_str, add_lst, addC_lst, repC_lst, sub_int, mul_int, mul_lst, mul_tup, div_int, mod_int, pow_int, neg_int, not_bl, lt_int, le_int, gt_int, ge_int, eq_int, eq_str, eq_bl, eq_non, eq_int_non, eq_non_int, eq_str_non, eq_non_str, eq_bl_non, eq_non_bl, ne_int, ne_str, ne_bl, ne_non, ne_int_non, ne_non_int, ne_str_non, ne_non_str, ne_bl_non, ne_non_bl, isNone_non, isNone_int, isNone_str, isNone_bl, isNone_tup, isNone_lst, isNone_frz, max2_int, min2_int, abs_int, int_int, int_bl, still_tup, list_tup, tuple_tup, listC_tup, sv_tup, still_lst, list_lst, tuple_lst, listC_lst, sv_lst, still_frz, list_frz, tuple_frz, listC_frz, sv_frz, r1_int, r2_int, r3_int, tg_name, tg_tup, setAll_cons, setAll_nil, mtE, g1_one, g2_two, mkL_0, mkT_0, mkC_0, mkL_1, mkT_1, mkC_1, mkL_2, mkT_2, mkC_2, mkL_3, mkT_3, mkC_3, mkL_4, mkT_4, mkC_4, bnd_S, ret_S, lineN_eq2, wipe_nil, wipe_cons]
      refine Eq.trans (seq_nx (ρ' := [some (.tup ds), some (.tup ds), none]) (S' := S) (Eq.trans (if_f (S' := S) ?_) rfl)) ?_
      · simp only [nat10, nat2, runB, seqS, exS, asgS, retS, retN, dropS, ifS, nxS, nevS, brkS, cntS, setItS, forS, parS, op1, op2, chain, boolT, truT, notT, andT, orT, andE, orE, ifE, nilA, consA, appA, varD, cD, lstE, celE, tupE, slE, itE, itEn, cal_1, cal_2, cal_3, cal_4, cal_5, cal_6, cal_7, yesT, mulOk, List.map_cons, List.map_nil, List.length_cons, List.length_nil, List.getElem?_cons_zero, List.getElem?_cons_succ, List.set_cons_zero, List.set_cons_succ, List.replicate_succ, List.replicate_zero, List.cons_append, List.nil_append, List.append_nil, List.isEmpty_cons, List.isEmpty_nil, Nat.reduceAdd, Nat.reduceSub, Nat.reduceMul, Nat.reduceLeDiff, Nat.reduceEqDiff, Nat.zero_add, Nat.sub_zero, Nat.sub_self, Bool.not_true, Bool.not_false, Bool.true_and, Bool.false_and, Bool.and_true, Bool.and_false, Bool.true_or, Bool.false_or, Bool.or_true, Bool.or_false, Bool.false_eq_true, Bool.not_eq_true, Bool.not_eq_false, Bool.not_not, decide_eq_true_eq, decide_eq_false_iff_not, decide_true, decide_false, if_true, if_false, reduceIte, reduceCtorEq, Nat.zero_le, and_self, and_true, true_and, or_true, true_or, or_false, false_or, not_true_eq_false, not_false_eq_true, Int.reduceLT, Int.reduceLE, Int.reduceNeg, Int.reduceAdd, Int.reduceMul, Int.reduceSub, Int.reducePow, Int.reduceEq, Int.reduceToNat, Nat.reduceLT, Nat.reducePow, Int.cast_ofNat_Int, isi_non_int, isi_non_bool, isi_non_str, isi_non_tuple, isi_non_list, isi_non_dict, isi_non_tuple_list, isi_non_list_tuple, isi_bl_int, isi_bl_bool, isi_bl_str, isi_bl_tuple, isi_bl_list, isi_bl_dict, isi_bl_tuple_list, isi_bl_list_tuple, isi_int_int, isi_int_bool, isi_int_str, isi_int_tuple, isi_int_list, isi_int_dict, isi_int_tuple_list, isi_int_list_tuple, isi_str_int, isi_str_bool, isi_str_str, isi_str_tuple, isi_str_list, isi_str_dict, isi_str_tuple_list, isi_str_list_tuple, isi_tup_int, isi_tup_bool, isi_tup_str, isi_tup_tuple, isi_tup_list, isi_tup_dict, isi_tup_tuple_list, isi_tup_list_tuple, isi_lst_int, isi_lst_bool, isi_lst_str, isi_lst_tuple, isi_lst_list, isi_lst_dict, isi_lst_tuple_list, isi_lst_list_tuple, isi_frz_int, isi_frz_bool, isi_frz_str, isi_frz_tuple, isi_frz_list, isi_frz_dict, isi_frz_tuple_list, isi_frz_list_tuple, tru_bl, tru_int, tru_non, tru_tup, len_tup, ix_tup, tru_lst, len_lst, ix_lst, tru_frz, len_frz, ix_frz, sl_lst, sl_frz, sl_tup, asInt_int, at0, at1, at2, at3, at4, add_int, add_tup, add_str, add_lst, addC_lst, repC_lst, sub_int, mul_int, mul_lst, mul_tup, div_int, mod_int, pow_int, neg_int, not_bl, lt_int, le_int, gt_int, ge_int, eq_int, eq_str, eq_bl, eq_non, eq_int_non, eq_non_int, eq_str_non, eq_non_str, eq_bl_non, eq_non_bl, ne_int, ne_str, ne_bl, ne_non, ne_int_non, ne_non_int, ne_str_non, ne_non_str, ne_bl_non, ne_non_bl, isNone_non, isNone_int, isNone_str, isNone_bl, isNone_tup, isNone_lst, isNone_frz, max2_int, min2_int, abs_int, int_int, int_bl, still_tup, list_tup, tuple_tup, listC_tup, sv_tup, still_lst, list_lst, tuple_lst, listC_lst, sv_lst, still_frz, list_frz, tuple_frz, listC_frz, sv_frz, r1_int, r2_int, r3_int, tg_name, tg_tup, setAll_cons, setAll_nil, mtE, g1_one, g2_two, mkL_0, mkT_0, mkC_0, mkL_1, mkT_1, mkC_1, mkL_2, mkT_2, mkC_2, mkL_3, mkT_3, mkC_3, mkL_4, mkT_4, mkC_4, bnd_S, ret_S, lineN_eq2, wipe_nil, wipe_cons, beq_self_eq_true]
      refine Eq.trans (seq_nx (ρ' := [some (.tup ds), some (.tup ds), none]) (S' := S) (Eq.trans (if_f (S' := S) ?_) rfl)) ?_
      · simp only [nat10, nat2, runB, seqS, exS, asgS, retS, retN, dropS, ifS, nxS, nevS, brkS, cntS, setItS, forS, parS, op1, op2, chain, boolT, truT, notT, andT, orT, andE, orE, ifE, nilA, consA, appA, varD, cD, lstE, celE, tupE, slE, itE, itEn, cal_1, cal_2, cal_3, cal_4, cal_5, cal_6, cal_7, yesT, mulOk, List.map_cons, List.map_nil, List.length_cons, List.length_nil, List.getElem?_cons_zero, List.getElem?_cons_succ, List.set_cons_zero, List.set_cons_succ, List.replicate_succ, List.replicate_zero, List.cons_append, List.nil_append, List.append_nil, List.isEmpty_cons, List.isEmpty_nil, Nat.reduceAdd, Nat.reduceSub, Nat.reduceMul, Nat.reduceLeDiff, Nat.reduceEqDiff, Nat.zero_add, Nat.sub_zero, Nat.sub_self, Bool.not_true, Bool.not_false, Bool.true_and, Bool.false_and, Bool.and_true, Bool.and_false, Bool.true_or, Bool.false_or, Bool.or_true, Bool.or_false, Bool.false_eq_true, Bool.not_eq_true, Bool.not_eq_false, Bool.not_not, decide_eq_true_eq, decide_eq_false_iff_not, decide_true, decide_false, if_true, if_false, reduceIte, reduceCtorEq, Nat.zero_le, and_self, and_true, true_and, or_true, true_or, or_false, false_or, not_true_eq_false, not_false_eq_true, Int.reduceLT, Int.reduceLE, Int.reduceNeg, Int.reduceAdd, Int.reduceMul, Int.reduceSub, Int.reducePow, Int.reduceEq, Int.reduceToNat, Nat.reduceLT, Nat.reducePow, Int.cast_ofNat_Int, isi_non_int, isi_non_bool, isi_non_str, isi_non_tuple, isi_non_list, isi_non_dict, isi_non_tuple_list, isi_non_list_tuple, isi_bl_int, isi_bl_bool, isi_bl_str, isi_bl_tuple, isi_bl_list, isi_bl_dict, isi_bl_tuple_list, isi_bl_list_tuple, isi_int_int, isi_int_bool, isi_int_str, isi_int_tuple, isi_int_list, isi_int_dict, isi_int_tuple_list, isi_int_list_tuple, isi_str_int, isi_str_bool, isi_str_str, isi_str_tuple, isi_str_list, isi_str_dict, isi_str_tuple_list, isi_str_list_tuple, isi_tup_int, isi_tup_bool, isi_tup_str, isi_tup_tuple, isi_tup_list, isi_tup_dict, isi_tup_tuple_list, isi_tup_list_tuple, isi_lst_int, isi_lst_bool, isi_lst_str, isi_lst_tuple, isi_lst_list, isi_lst_dict, isi_lst_tuple_list, isi_lst_list_tuple, isi_frz_int, isi_frz_bool, isi_frz_str, isi_frz_tuple, isi_frz_list, isi_frz_dict, isi_frz_tuple_list, isi_frz_list_tuple, tru_bl, tru_int, tru_non, tru_tup, len_tup, ix_tup, tru_lst, len_lst, ix_lst, tru_frz, len_frz, ix_frz, sl_lst, sl_frz, sl_tup, asInt_int, at0, at1, at2, at3, at4, add_int, add_tup, add_str, add_lst, addC_lst, repC_lst, sub_int, mul_int, mul_lst, mul_tup, div_int, mod_int, pow_int, neg_int, not_bl, lt_int, le_int, gt_int, ge_int, eq_int, eq_str, eq_bl, eq_non, eq_int_non, eq_non_int, eq_str_non, eq_non_str, eq_bl_non, eq_non_bl, ne_int, ne_str, ne_bl, ne_non, ne_int_non, ne_non_int, ne_str_non, ne_non_str, ne_bl_non, ne_non_bl, isNone_non, isNone_int, isNone_str, isNone_bl, isNone_tup, isNone_lst, isNone_frz, max2_int, min2_int, abs_int, int_int, int_bl, still_tup, list_tup, tuple_tup, listC_tup, sv_tup, still_lst, list_lst, tuple_lst, listC_lst, sv_lst, still_frz, list_frz, tuple_frz, listC_frz, sv_frz, r1_int, r2_int, r3_int, tg_name, tg_tup, setAll_cons, setAll_nil, mtE, g1_one, g2_two, mkL_0, mkT_0, mkC_0, mkL_1, mkT_1, mkC_1, mkL_2, mkT_2, mkC_2, mkL_3, mkT_3, mkC_3, mkL_4, mkT_4, mkC_4, bnd_S, ret_S, lineN_eq2, wipe_nil, wipe_cons]
      refine ret_ok ?_
      exact (bnd_ok c).trans (eq_nil S)
    | lst ds =>
      have h' : ds.length ≤ 1000000 ∧ ∀ d ∈ ds, alD n d := h
      have c := comp ds (.lst ds) none h'.1 h'.2 (fun i hi S => by rw [ix_lst, at?_nat, List.getD_eq_getElem?_getD, List.getElem?_eq_getElem hi]; rfl) (fun S => rfl) S
      rw [r_succ (n + 1)]
      refine run_rt (ρ0 := [some (.lst ds), some (.lst ds), none]) rfl ?_
      unfold b__law_alike
      refine Eq.trans (seq_nx (ρ' := [some (.lst ds), some (.lst ds), none]) (S' := S) (Eq.trans (if_f (S' := S) ?_) rfl)) ?_
      · simp only [nat10, nat2, runB, seqS, exS, asgS, retS, retN, dropS, ifS, nxS, nevS, brkS, cntS, setItS, forS, parS, op1, op2, chain, boolT, truT, notT, andT, orT, andE, orE, ifE, nilA, consA, appA, varD, cD, lstE, celE, tupE, slE, itE, itEn, cal_1, cal_2, cal_3, cal_4, cal_5, cal_6, cal_7, yesT, mulOk, List.map_cons, List.map_nil, List.length_cons, List.length_nil, List.getElem?_cons_zero, List.getElem?_cons_succ, List.set_cons_zero, List.set_cons_succ, List.replicate_succ, List.replicate_zero, List.cons_append, List.nil_append, List.append_nil, List.isEmpty_cons, List.isEmpty_nil, Nat.reduceAdd, Nat.reduceSub, Nat.reduceMul, Nat.reduceLeDiff, Nat.reduceEqDiff, Nat.zero_add, Nat.sub_zero, Nat.sub_self, Bool.not_true, Bool.not_false, Bool.true_and, Bool.false_and, Bool.and_true, Bool.and_false, Bool.true_or, Bool.false_or, Bool.or_true, Bool.or_false, Bool.false_eq_true, Bool.not_eq_true, Bool.not_eq_false, Bool.not_not, decide_eq_true_eq, decide_eq_false_iff_not, decide_true, decide_false, if_true, if_false, reduceIte, reduceCtorEq, Nat.zero_le, and_self, and_true, true_and, or_true, true_or, or_false, false_or, not_true_eq_false, not_false_eq_true, Int.reduceLT, Int.reduceLE, Int.reduceNeg, Int.reduceAdd, Int.reduceMul, Int.reduceSub, Int.reducePow, Int.reduceEq, Int.reduceToNat, Nat.reduceLT, Nat.reducePow, Int.cast_ofNat_Int, isi_non_int, isi_non_bool, isi_non_str, isi_non_tuple, isi_non_list, isi_non_dict, isi_non_tuple_list, isi_non_list_tuple, isi_bl_int, isi_bl_bool, isi_bl_str, isi_bl_tuple, isi_bl_list, isi_bl_dict, isi_bl_tuple_list, isi_bl_list_tuple, isi_int_int, isi_int_bool, isi_int_str, isi_int_tuple, isi_int_list, isi_int_dict, isi_int_tuple_list, isi_int_list_tuple, isi_str_int, isi_str_bool, isi_str_str, isi_str_tuple, isi_str_list, isi_str_dict, isi_str_tuple_list, isi_str_list_tuple, isi_tup_int, isi_tup_bool, isi_tup_str, isi_tup_tuple, isi_tup_list, isi_tup_dict, isi_tup_tuple_list, isi_tup_list_tuple, isi_lst_int, isi_lst_bool, isi_lst_str, isi_lst_tuple, isi_lst_list, isi_lst_dict, isi_lst_tuple_list, isi_lst_list_tuple, isi_frz_int, isi_frz_bool, isi_frz_str, isi_frz_tuple, isi_frz_list, isi_frz_dict, isi_frz_tuple_list, isi_frz_list_tuple, tru_bl, tru_int, tru_non, tru_tup, len_tup, ix_tup, tru_lst, len_lst, ix_lst, tru_frz, len_frz, ix_frz, sl_lst, sl_frz, sl_tup, asInt_int, at0, at1, at2, at3, at4, add_int, add_tup, add_str, add_lst, addC_lst, repC_lst, sub_int, mul_int, mul_lst, mul_tup, div_int, mod_int, pow_int, neg_int, not_bl, lt_int, le_int, gt_int, ge_int, eq_int, eq_str, eq_bl, eq_non, eq_int_non, eq_non_int, eq_str_non, eq_non_str, eq_bl_non, eq_non_bl, ne_int, ne_str, ne_bl, ne_non, ne_int_non, ne_non_int, ne_str_non, ne_non_str, ne_bl_non, ne_non_bl, isNone_non, isNone_int, isNone_str, isNone_bl, isNone_tup, isNone_lst, isNone_frz, max2_int, min2_int, abs_int, int_int, int_bl, still_tup, list_tup, tuple_tup, listC_tup, sv_tup, still_lst, list_lst, tuple_lst, listC_lst, sv_lst, still_frz, list_frz, tuple_frz, listC_frz, sv_frz, r1_int, r2_int, r3_int, tg_name, tg_tup, setAll_cons, setAll_nil, mtE, g1_one, g2_two, mkL_0, mkT_0, mkC_0, mkL_1, mkT_1, mkC_1, mkL_2, mkT_2, mkC_2, mkL_3, mkT_3, mkC_3, mkL_4, mkT_4, mkC_4, bnd_S, ret_S, lineN_eq2, wipe_nil, wipe_cons]
      refine seq_rt (Eq.trans (if_t (S' := S) ?_) ?_)
      · simp only [nat10, nat2, runB, seqS, exS, asgS, retS, retN, dropS, ifS, nxS, nevS, brkS, cntS, setItS, forS, parS, op1, op2, chain, boolT, truT, notT, andT, orT, andE, orE, ifE, nilA, consA, appA, varD, cD, lstE, celE, tupE, slE, itE, itEn, cal_1, cal_2, cal_3, cal_4, cal_5, cal_6, cal_7, yesT, mulOk, List.map_cons, List.map_nil, List.length_cons, List.length_nil, List.getElem?_cons_zero, List.getElem?_cons_succ, List.set_cons_zero, List.set_cons_succ, List.replicate_succ, List.replicate_zero, List.cons_append, List.nil_append, List.append_nil, List.isEmpty_cons, List.isEmpty_nil, Nat.reduceAdd, Nat.reduceSub, Nat.reduceMul, Nat.reduceLeDiff, Nat.reduceEqDiff, Nat.zero_add, Nat.sub_zero, Nat.sub_self, Bool.not_true, Bool.not_false, Bool.true_and, Bool.false_and, Bool.and_true, Bool.and_false, Bool.true_or, Bool.false_or, Bool.or_true, Bool.or_false, Bool.false_eq_true, Bool.not_eq_true, Bool.not_eq_false, Bool.not_not, decide_eq_true_eq, decide_eq_false_iff_not, decide_true, decide_false, if_true, if_false, reduceIte, reduceCtorEq, Nat.zero_le, and_self, and_true, true_and, or_true, true_or, or_false, false_or, not_true_eq_false, not_false_eq_true, Int.reduceLT, Int.reduceLE, Int.reduceNeg, Int.reduceAdd, Int.reduceMul, Int.reduceSub, Int.reducePow, Int.reduceEq, Int.reduceToNat, Nat.reduceLT, Nat.reducePow, Int.cast_ofNat_Int, isi_non_int, isi_non_bool, isi_non_str, isi_non_tuple, isi_non_list, isi_non_dict, isi_non_tuple_list, isi_non_list_tuple, isi_bl_int, isi_bl_bool, isi_bl_str, isi_bl_tuple, isi_bl_list, isi_bl_dict, isi_bl_tuple_list, isi_bl_list_tuple, isi_int_int, isi_int_bool, isi_int_str, isi_int_tuple, isi_int_list, isi_int_dict, isi_int_tuple_list, isi_int_list_tuple, isi_str_int, isi_str_bool, isi_str_str, isi_str_tuple, isi_str_list, isi_str_dict, isi_str_tuple_list, isi_str_list_tuple, isi_tup_int, isi_tup_bool, isi_tup_str, isi_tup_tuple, isi_tup_list, isi_tup_dict, isi_tup_tuple_list, isi_tup_list_tuple, isi_lst_int, isi_lst_bool, isi_lst_str, isi_lst_tuple, isi_lst_list, isi_lst_dict, isi_lst_tuple_list, isi_lst_list_tuple, isi_frz_int, isi_frz_bool, isi_frz_str, isi_frz_tuple, isi_frz_list, isi_frz_dict, isi_frz_tuple_list, isi_frz_list_tuple, tru_bl, tru_int, tru_non, tru_tup, len_tup, ix_tup, tru_lst, len_lst, ix_lst, tru_frz, len_frz, ix_frz, sl_lst, sl_frz, sl_tup, asInt_int, at0, at1, at2, at3, at4, add_int, add_tup, add_str, add_lst, addC_lst, repC_lst, sub_int, mul_int, mul_lst, mul_tup, div_int, mod_int, pow_int, neg_int, not_bl, lt_int, le_int, gt_int, ge_int, eq_int, eq_str, eq_bl, eq_non, eq_int_non, eq_non_int, eq_str_non, eq_non_str, eq_bl_non, eq_non_bl, ne_int, ne_str, ne_bl, ne_non, ne_int_non, ne_non_int, ne_str_non, ne_non_str, ne_bl_non, ne_non_bl, isNone_non, isNone_int, isNone_str, isNone_bl, isNone_tup, isNone_lst, isNone_frz, max2_int, min2_int, abs_int, int_int, int_bl, still_tup, list_tup, tuple_tup, listC_tup, sv_tup, still_lst, list_lst, tuple_lst, listC_lst, sv_lst, still_frz, list_frz, tuple_frz, listC_frz, sv_frz, r1_int, r2_int, r3_int, tg_name, tg_tup, setAll_cons, setAll_nil, mtE, g1_one, g2_two, mkL_0, mkT_0, mkC_0, mkL_1, mkT_1, mkC_1, mkL_2, mkT_2, mkC_2, mkL_3, mkT_3, mkC_3, mkL_4, mkT_4, mkC_4, bnd_S, ret_S, lineN_eq2, wipe_nil, wipe_cons]
      refine Eq.trans (seq_nx (ρ' := [some (.lst ds), some (.lst ds), none]) (S' := S) (Eq.trans (if_f (S' := S) ?_) rfl)) ?_
      · simp only [nat10, nat2, runB, seqS, exS, asgS, retS, retN, dropS, ifS, nxS, nevS, brkS, cntS, setItS, forS, parS, op1, op2, chain, boolT, truT, notT, andT, orT, andE, orE, ifE, nilA, consA, appA, varD, cD, lstE, celE, tupE, slE, itE, itEn, cal_1, cal_2, cal_3, cal_4, cal_5, cal_6, cal_7, yesT, mulOk, List.map_cons, List.map_nil, List.length_cons, List.length_nil, List.getElem?_cons_zero, List.getElem?_cons_succ, List.set_cons_zero, List.set_cons_succ, List.replicate_succ, List.replicate_zero, List.cons_append, List.nil_append, List.append_nil, List.isEmpty_cons, List.isEmpty_nil, Nat.reduceAdd, Nat.reduceSub, Nat.reduceMul, Nat.reduceLeDiff, Nat.reduceEqDiff, Nat.zero_add, Nat.sub_zero, Nat.sub_self, Bool.not_true, Bool.not_false, Bool.true_and, Bool.false_and, Bool.and_true, Bool.and_false, Bool.true_or, Bool.false_or, Bool.or_true, Bool.or_false, Bool.false_eq_true, Bool.not_eq_true, Bool.not_eq_false, Bool.not_not, decide_eq_true_eq, decide_eq_false_iff_not, decide_true, decide_false, if_true, if_false, reduceIte, reduceCtorEq, Nat.zero_le, and_self, and_true, true_and, or_true, true_or, or_false, false_or, not_true_eq_false, not_false_eq_true, Int.reduceLT, Int.reduceLE, Int.reduceNeg, Int.reduceAdd, Int.reduceMul, Int.reduceSub, Int.reducePow, Int.reduceEq, Int.reduceToNat, Nat.reduceLT, Nat.reducePow, Int.cast_ofNat_Int, isi_non_int, isi_non_bool, isi_non_str, isi_non_tuple, isi_non_list, isi_non_dict, isi_non_tuple_list, isi_non_list_tuple, isi_bl_int, isi_bl_bool, isi_bl_str, isi_bl_tuple, isi_bl_list, isi_bl_dict, isi_bl_tuple_list, isi_bl_list_tuple, isi_int_int, isi_int_bool, isi_int_str, isi_int_tuple, isi_int_list, isi_int_dict, isi_int_tuple_list, isi_int_list_tuple, isi_str_int, isi_str_bool, isi_str_str, isi_str_tuple, isi_str_list, isi_str_dict, isi_str_tuple_list, isi_str_list_tuple, isi_tup_int, isi_tup_bool, isi_tup_str, isi_tup_tuple, isi_tup_list, isi_tup_dict, isi_tup_tuple_list, isi_tup_list_tuple, isi_lst_int, isi_lst_bool, isi_lst_str, isi_lst_tuple, isi_lst_list, isi_lst_dict, isi_lst_tuple_list, isi_lst_list_tuple, isi_frz_int, isi_frz_bool, isi_frz_str, isi_frz_tuple, isi_frz_list, isi_frz_dict, isi_frz_tuple_list, isi_frz_list_tuple, tru_bl, tru_int, tru_non, tru_tup, len_tup, ix_tup, tru_lst, len_lst, ix_lst, tru_frz, len_frz, ix_frz, sl_lst, sl_frz, sl_tup, asInt_int, at0, at1, at2, at3, at4, add_int, add_tup, add_str, add_lst, addC_lst, repC_lst, sub_int, mul_int, mul_lst, mul_tup, div_int, mod_int, pow_int, neg_int, not_bl, lt_int, le_int, gt_int, ge_int, eq_int, eq_str, eq_bl, eq_non, eq_int_non, eq_non_int, eq_str_non, eq_non_str, eq_bl_non, eq_non_bl, ne_int, ne_str, ne_bl, ne_non, ne_int_non, ne_non_int, ne_str_non, ne_non_str, ne_bl_non, ne_non_bl, isNone_non, isNone_int, isNone_str, isNone_bl, isNone_tup, isNone_lst, isNone_frz, max2_int, min2_int, abs_int, int_int, int_bl, still_tup, list_tup, tuple_tup, listC_tup, sv_tup, still_lst, list_lst, tuple_lst, listC_lst, sv_lst, still_frz, list_frz, tuple_frz, listC_frz, sv_frz, r1_int, r2_int, r3_int, tg_name, tg_tup, setAll_cons, setAll_nil, mtE, g1_one, g2_two, mkL_0, mkT_0, mkC_0, mkL_1, mkT_1, mkC_1, mkL_2, mkT_2, mkC_2, mkL_3, mkT_3, mkC_3, mkL_4, mkT_4, mkC_4, bnd_S, ret_S, lineN_eq2, wipe_nil, wipe_cons, beq_self_eq_true]
      refine Eq.trans (seq_nx (ρ' := [some (.lst ds), some (.lst ds), none]) (S' := S) (Eq.trans (if_f (S' := S) ?_) rfl)) ?_
      · simp only [nat10, nat2, runB, seqS, exS, asgS, retS, retN, dropS, ifS, nxS, nevS, brkS, cntS, setItS, forS, parS, op1, op2, chain, boolT, truT, notT, andT, orT, andE, orE, ifE, nilA, consA, appA, varD, cD, lstE, celE, tupE, slE, itE, itEn, cal_1, cal_2, cal_3, cal_4, cal_5, cal_6, cal_7, yesT, mulOk, List.map_cons, List.map_nil, List.length_cons, List.length_nil, List.getElem?_cons_zero, List.getElem?_cons_succ, List.set_cons_zero, List.set_cons_succ, List.replicate_succ, List.replicate_zero, List.cons_append, List.nil_append, List.append_nil, List.isEmpty_cons, List.isEmpty_nil, Nat.reduceAdd, Nat.reduceSub, Nat.reduceMul, Nat.reduceLeDiff, Nat.reduceEqDiff, Nat.zero_add, Nat.sub_zero, Nat.sub_self, Bool.not_true, Bool.not_false, Bool.true_and, Bool.false_and, Bool.and_true, Bool.and_false, Bool.true_or, Bool.false_or, Bool.or_true, Bool.or_false, Bool.false_eq_true, Bool.not_eq_true, Bool.not_eq_false, Bool.not_not, decide_eq_true_eq, decide_eq_false_iff_not, decide_true, decide_false, if_true, if_false, reduceIte, reduceCtorEq, Nat.zero_le, and_self, and_true, true_and, or_true, true_or, or_false, false_or, not_true_eq_false, not_false_eq_true, Int.reduceLT, Int.reduceLE, Int.reduceNeg, Int.reduceAdd, Int.reduceMul, Int.reduceSub, Int.reducePow, Int.reduceEq, Int.reduceToNat, Nat.reduceLT, Nat.reducePow, Int.cast_ofNat_Int, isi_non_int, isi_non_bool, isi_non_str, isi_non_tuple, isi_non_list, isi_non_dict, isi_non_tuple_list, isi_non_list_tuple, isi_bl_int, isi_bl_bool, isi_bl_str, isi_bl_tuple, isi_bl_list, isi_bl_dict, isi_bl_tuple_list, isi_bl_list_tuple, isi_int_int, isi_int_bool, isi_int_str, isi_int_tuple, isi_int_list, isi_int_dict, isi_int_tuple_list, isi_int_list_tuple, isi_str_int, isi_str_bool, isi_str_str, isi_str_tuple, isi_str_list, isi_str_dict, isi_str_tuple_list, isi_str_list_tuple, isi_tup_int, isi_tup_bool, isi_tup_str, isi_tup_tuple, isi_tup_list, isi_tup_dict, isi_tup_tuple_list, isi_tup_list_tuple, isi_lst_int, isi_lst_bool, isi_lst_str, isi_lst_tuple, isi_lst_list, isi_lst_dict, isi_lst_tuple_list, isi_lst_list_tuple, isi_frz_int, isi_frz_bool, isi_frz_str, isi_frz_tuple, isi_frz_list, isi_frz_dict, isi_frz_tuple_list, isi_frz_list_tuple, tru_bl, tru_int, tru_non, tru_tup, len_tup, ix_tup, tru_lst, len_lst, ix_lst, tru_frz, len_frz, ix_frz, sl_lst, sl_frz, sl_tup, asInt_int, at0, at1, at2, at3, at4, add_int, add_tup, add_str, add_lst, addC_lst, repC_lst, sub_int, mul_int, mul_lst, mul_tup, div_int, mod_int, pow_int, neg_int, not_bl, lt_int, le_int, gt_int, ge_int, eq_int, eq_str, eq_bl, eq_non, eq_int_non, eq_non_int, eq_str_non, eq_non_str, eq_bl_non, eq_non_bl, ne_int, ne_str, ne_bl, ne_non, ne_int_non, ne_non_int, ne_str_non, ne_non_str, ne_bl_non, ne_non_bl, isNone_non, isNone_int, isNone_str, isNone_bl, isNone_tup, isNone_lst, isNone_frz, max2_int, min2_int, abs_int, int_int, int_bl, still_tup, list_tup, tuple_tup, listC_tup, sv_tup, still_lst, list_lst, tuple_lst, listC_lst, sv_lst, still_frz, list_frz, tuple_frz, listC_frz, sv_frz, r1_int, r2_int, r3_int, tg_name, tg_tup, setAll_cons, setAll_nil, mtE, g1_one, g2_two, mkL_0, mkT_0, mkC_0, mkL_1, mkT_1, mkC_1, mkL_2, mkT_2, mkC_2, mkL_3, mkT_3, mkC_3, mkL_4, mkT_4, mkC_4, bnd_S, ret_S, lineN_eq2, wipe_nil, wipe_cons]
      refine ret_ok ?_
      exact (bnd_ok c).trans (eq_nil S)
    | non => simp only [r__law_alike, b__law_alike, nat10, nat2, runB, seqS, exS, asgS, retS, retN, dropS, ifS, nxS, nevS, brkS, cntS, setItS, forS, parS, op1, op2, chain, boolT, truT, notT, andT, orT, andE, orE, ifE, nilA, consA, appA, varD, cD, lstE, celE, tupE, slE, itE, itEn, cal_1, cal_2, cal_3, cal_4, cal_5, cal_6, cal_7, yesT, mulOk, List.map_cons, List.map_nil, List.length_cons, List.length_nil, List.getElem?_cons_zero, List.getElem?_cons_succ, List.set_cons_zero, List.set_cons_succ, List.replicate_succ, List.replicate_zero, List.cons_append, List.nil_append, List.append_nil, List.isEmpty_cons, List.isEmpty_nil, Nat.reduceAdd, Nat.reduceSub, Nat.reduceMul, Nat.reduceLeDiff, Nat.reduceEqDiff, Nat.zero_add, Nat.sub_zero, Nat.sub_self, Bool.not_true, Bool.not_false, Bool.true_and, Bool.false_and, Bool.and_true, Bool.and_false, Bool.true_or, Bool.false_or, Bool.or_true, Bool.or_false, Bool.false_eq_true, Bool.not_eq_true, Bool.not_eq_false, Bool.not_not, decide_eq_true_eq, decide_eq_false_iff_not, decide_true, decide_false, if_true, if_false, reduceIte, reduceCtorEq, Nat.zero_le, and_self, and_true, true_and, or_true, true_or, or_false, false_or, not_true_eq_false, not_false_eq_true, Int.reduceLT, Int.reduceLE, Int.reduceNeg, Int.reduceAdd, Int.reduceMul, Int.reduceSub, Int.reducePow, Int.reduceEq, Int.reduceToNat, Nat.reduceLT, Nat.reducePow, Int.cast_ofNat_Int, isi_non_int, isi_non_bool, isi_non_str, isi_non_tuple, isi_non_list, isi_non_dict, isi_non_tuple_list, isi_non_list_tuple, isi_bl_int, isi_bl_bool, isi_bl_str, isi_bl_tuple, isi_bl_list, isi_bl_dict, isi_bl_tuple_list, isi_bl_list_tuple, isi_int_int, isi_int_bool, isi_int_str, isi_int_tuple, isi_int_list, isi_int_dict, isi_int_tuple_list, isi_int_list_tuple, isi_str_int, isi_str_bool, isi_str_str, isi_str_tuple, isi_str_list, isi_str_dict, isi_str_tuple_list, isi_str_list_tuple, isi_tup_int, isi_tup_bool, isi_tup_str, isi_tup_tuple, isi_tup_list, isi_tup_dict, isi_tup_tuple_list, isi_tup_list_tuple, isi_lst_int, isi_lst_bool, isi_lst_str, isi_lst_tuple, isi_lst_list, isi_lst_dict, isi_lst_tuple_list, isi_lst_list_tuple, isi_frz_int, isi_frz_bool, isi_frz_str, isi_frz_tuple, isi_frz_list, isi_frz_dict, isi_frz_tuple_list, isi_frz_list_tuple, tru_bl, tru_int, tru_non, tru_tup, len_tup, ix_tup, tru_lst, len_lst, ix_lst, tru_frz, len_frz, ix_frz, sl_lst, sl_frz, sl_tup, asInt_int, at0, at1, at2, at3, at4, add_int, add_tup, add_str, add_lst, addC_lst, repC_lst, sub_int, mul_int, mul_lst, mul_tup, div_int, mod_int, pow_int, neg_int, not_bl, lt_int, le_int, gt_int, ge_int, eq_int, eq_str, eq_bl, eq_non, eq_int_non, eq_non_int, eq_str_non, eq_non_str, eq_bl_non, eq_non_bl, ne_int, ne_str, ne_bl, ne_non, ne_int_non, ne_non_int, ne_str_non, ne_non_str, ne_bl_non, ne_non_bl, isNone_non, isNone_int, isNone_str, isNone_bl, isNone_tup, isNone_lst, isNone_frz, max2_int, min2_int, abs_int, int_int, int_bl, still_tup, list_tup, tuple_tup, listC_tup, sv_tup, still_lst, list_lst, tuple_lst, listC_lst, sv_lst, still_frz, list_frz, tuple_frz, listC_frz, sv_frz, r1_int, r2_int, r3_int, tg_name, tg_tup, setAll_cons, setAll_nil, mtE, g1_one, g2_two, mkL_0, mkT_0, mkC_0, mkL_1, mkT_1, mkC_1, mkL_2, mkT_2, mkC_2, mkL_3, mkT_3, mkC_3, mkL_4, mkT_4, mkC_4, bnd_S, ret_S, lineN_eq2, wipe_nil, wipe_cons, beq_self_eq_true]
    | bl b => simp only [r__law_alike, b__law_alike, nat10, nat2, runB, seqS, exS, asgS, retS, retN, dropS, ifS, nxS, nevS, brkS, cntS, setItS, forS, parS, op1, op2, chain, boolT, truT, notT, andT, orT, andE, orE, ifE, nilA, consA, appA, varD, cD, lstE, celE, tupE, slE, itE, itEn, cal_1, cal_2, cal_3, cal_4, cal_5, cal_6, cal_7, yesT, mulOk, List.map_cons, List.map_nil, List.length_cons, List.length_nil, List.getElem?_cons_zero, List.getElem?_cons_succ, List.set_cons_zero, List.set_cons_succ, List.replicate_succ, List.replicate_zero, List.cons_append, List.nil_append, List.append_nil, List.isEmpty_cons, List.isEmpty_nil, Nat.reduceAdd, Nat.reduceSub, Nat.reduceMul, Nat.reduceLeDiff, Nat.reduceEqDiff, Nat.zero_add, Nat.sub_zero, Nat.sub_self, Bool.not_true, Bool.not_false, Bool.true_and, Bool.false_and, Bool.and_true, Bool.and_false, Bool.true_or, Bool.false_or, Bool.or_true, Bool.or_false, Bool.false_eq_true, Bool.not_eq_true, Bool.not_eq_false, Bool.not_not, decide_eq_true_eq, decide_eq_false_iff_not, decide_true, decide_false, if_true, if_false, reduceIte, reduceCtorEq, Nat.zero_le, and_self, and_true, true_and, or_true, true_or, or_false, false_or, not_true_eq_false, not_false_eq_true, Int.reduceLT, Int.reduceLE, Int.reduceNeg, Int.reduceAdd, Int.reduceMul, Int.reduceSub, Int.reducePow, Int.reduceEq, Int.reduceToNat, Nat.reduceLT, Nat.reducePow, Int.cast_ofNat_Int, isi_non_int, isi_non_bool, isi_non_str, isi_non_tuple, isi_non_list, isi_non_dict, isi_non_tuple_list, isi_non_list_tuple, isi_bl_int, isi_bl_bool, isi_bl_str, isi_bl_tuple, isi_bl_list, isi_bl_dict, isi_bl_tuple_list, isi_bl_list_tuple, isi_int_int, isi_int_bool, isi_int_str, isi_int_tuple, isi_int_list, isi_int_dict, isi_int_tuple_list, isi_int_list_tuple, isi_str_int, isi_str_bool, isi_str_str, isi_str_tuple, isi_str_list, isi_str_dict, isi_str_tuple_list, isi_str_list_tuple, isi_tup_int, isi_tup_bool, isi_tup_str, isi_tup_tuple, isi_tup_list, isi_tup_dict, isi_tup_tuple_list, isi_tup_list_tuple, isi_lst_int, isi_lst_bool, isi_lst_str, isi_lst_tuple, isi_lst_list, isi_lst_dict, isi_lst_tuple_list, isi_lst_list_tuple, isi_frz_int, isi_frz_bool, isi_frz_str, isi_frz_tuple, isi_frz_list, isi_frz_dict, isi_frz_tuple_list, isi_frz_list_tuple, tru_bl, tru_int, tru_non, tru_tup, len_tup, ix_tup, tru_lst, len_lst, ix_lst, tru_frz, len_frz, ix_frz, sl_lst, sl_frz, sl_tup, asInt_int, at0, at1, at2, at3, at4, add_int, add_tup, add_str, add_lst, addC_lst, repC_lst, sub_int, mul_int, mul_lst, mul_tup, div_int, mod_int, pow_int, neg_int, not_bl, lt_int, le_int, gt_int, ge_int, eq_int, eq_str, eq_bl, eq_non, eq_int_non, eq_non_int, eq_str_non, eq_non_str, eq_bl_non, eq_non_bl, ne_int, ne_str, ne_bl, ne_non, ne_int_non, ne_non_int, ne_str_non, ne_non_str, ne_bl_non, ne_non_bl, isNone_non, isNone_int, isNone_str, isNone_bl, isNone_tup, isNone_lst, isNone_frz, max2_int, min2_int, abs_int, int_int, int_bl, still_tup, list_tup, tuple_tup, listC_tup, sv_tup, still_lst, list_lst, tuple_lst, listC_lst, sv_lst, still_frz, list_frz, tuple_frz, listC_frz, sv_frz, r1_int, r2_int, r3_int, tg_name, tg_tup, setAll_cons, setAll_nil, mtE, g1_one, g2_two, mkL_0, mkT_0, mkC_0, mkL_1, mkT_1, mkC_1, mkL_2, mkT_2, mkC_2, mkL_3, mkT_3, mkC_3, mkL_4, mkT_4, mkC_4, bnd_S, ret_S, lineN_eq2, wipe_nil, wipe_cons, beq_self_eq_true]
    | int b => simp only [r__law_alike, b__law_alike, nat10, nat2, runB, seqS, exS, asgS, retS, retN, dropS, ifS, nxS, nevS, brkS, cntS, setItS, forS, parS, op1, op2, chain, boolT, truT, notT, andT, orT, andE, orE, ifE, nilA, consA, appA, varD, cD, lstE, celE, tupE, slE, itE, itEn, cal_1, cal_2, cal_3, cal_4, cal_5, cal_6, cal_7, yesT, mulOk, List.map_cons, List.map_nil, List.length_cons, List.length_nil, List.getElem?_cons_zero, List.getElem?_cons_succ, List.set_cons_zero, List.set_cons_succ, List.replicate_succ, List.replicate_zero, List.cons_append, List.nil_append, List.append_nil, List.isEmpty_cons, List.isEmpty_nil, Nat.reduceAdd, Nat.reduceSub, Nat.reduceMul, Nat.reduceLeDiff, Nat.reduceEqDiff, Nat.zero_add, Nat.sub_zero, Nat.sub_self, Bool.not_true, Bool.not_false, Bool.true_and, Bool.false_and, Bool.and_true, Bool.and_false, Bool.true_or, Bool.false_or, Bool.or_true, Bool.or_false, Bool.false_eq_true, Bool.not_eq_true, Bool.not_eq_false, Bool.not_not, decide_eq_true_eq, decide_eq_false_iff_not, decide_true, decide_false, if_true, if_false, reduceIte, reduceCtorEq, Nat.zero_le, and_self, and_true, true_and, or_true, true_or, or_false, false_or, not_true_eq_false, not_false_eq_true, Int.reduceLT, Int.reduceLE, Int.reduceNeg, Int.reduceAdd, Int.reduceMul, Int.reduceSub, Int.reducePow, Int.reduceEq, Int.reduceToNat, Nat.reduceLT, Nat.reducePow, Int.cast_ofNat_Int, isi_non_int, isi_non_bool, isi_non_str, isi_non_tuple, isi_non_list, isi_non_dict, isi_non_tuple_list, isi_non_list_tuple, isi_bl_int, isi_bl_bool, isi_bl_str, isi_bl_tuple, isi_bl_list, isi_bl_dict, isi_bl_tuple_list, isi_bl_list_tuple, isi_int_int, isi_int_bool, isi_int_str, isi_int_tuple, isi_int_list, isi_int_dict, isi_int_tuple_list, isi_int_list_tuple, isi_str_int, isi_str_bool, isi_str_str, isi_str_tuple, isi_str_list, isi_str_dict, isi_str_tuple_list, isi_str_list_tuple, isi_tup_int, isi_tup_bool, isi_tup_str, isi_tup_tuple, isi_tup_list, isi_tup_dict, isi_tup_tuple_list, isi_tup_list_tuple, isi_lst_int, isi_lst_bool, isi_lst_str, isi_lst_tuple, isi_lst_list, isi_lst_dict, isi_lst_tuple_list, isi_lst_list_tuple, isi_frz_int, isi_frz_bool, isi_frz_str, isi_frz_tuple, isi_frz_list, isi_frz_dict, isi_frz_tuple_list, isi_frz_list_tuple, tru_bl, tru_int, tru_non, tru_tup, len_tup, ix_tup, tru_lst, len_lst, ix_lst, tru_frz, len_frz, ix_frz, sl_lst, sl_frz, sl_tup, asInt_int, at0, at1, at2, at3, at4, add_int, add_tup, add_str, add_lst, addC_lst, repC_lst, sub_int, mul_int, mul_lst, mul_tup, div_int, mod_int, pow_int, neg_int, not_bl, lt_int, le_int, gt_int, ge_int, eq_int, eq_str, eq_bl, eq_non, eq_int_non, eq_non_int, eq_str_non, eq_non_str, eq_bl_non, eq_non_bl, ne_int, ne_str, ne_bl, ne_non, ne_int_non, ne_non_int, ne_str_non, ne_non_str, ne_bl_non, ne_non_bl, isNone_non, isNone_int, isNone_str, isNone_bl, isNone_tup, isNone_lst, isNone_frz, max2_int, min2_int, abs_int, int_int, int_bl, still_tup, list_tup, tuple_tup, listC_tup, sv_tup, still_lst, list_lst, tuple_lst, listC_lst, sv_lst, still_frz, list_frz, tuple_frz, listC_frz, sv_frz, r1_int, r2_int, r3_int, tg_name, tg_tup, setAll_cons, setAll_nil, mtE, g1_one, g2_two, mkL_0, mkT_0, mkC_0, mkL_1, mkT_1, mkC_1, mkL_2, mkT_2, mkC_2, mkL_3, mkT_3, mkC_3, mkL_4, mkT_4, mkC_4, bnd_S, ret_S, lineN_eq2, wipe_nil, wipe_cons, beq_self_eq_true]
    | str b => simp only [r__law_alike, b__law_alike, nat10, nat2, runB, seqS, exS, asgS, retS, retN, dropS, ifS, nxS, nevS, brkS, cntS, setItS, forS, parS, op1, op2, chain, boolT, truT, notT, andT, orT, andE, orE, ifE, nilA, consA, appA, varD, cD, lstE, celE, tupE, slE, itE, itEn, cal_1, cal_2, cal_3, cal_4, cal_5, cal_6, cal_7, yesT, mulOk, List.map_cons, List.map_nil, List.length_cons, List.length_nil, List.getElem?_cons_zero, List.getElem?_cons_succ, List.set_cons_zero, List.set_cons_succ, List.replicate_succ, List.replicate_zero, List.cons_append, List.nil_append, List.append_nil, List.isEmpty_cons, List.isEmpty_nil, Nat.reduceAdd, Nat.reduceSub, Nat.reduceMul, Nat.reduceLeDiff, Nat.reduceEqDiff, Nat.zero_add, Nat.sub_zero, Nat.sub_self, Bool.not_true, Bool.not_false, Bool.true_and, Bool.false_and, Bool.and_true, Bool.and_false, Bool.true_or, Bool.false_or, Bool.or_true, Bool.or_false, Bool.false_eq_true, Bool.not_eq_true, Bool.not_eq_false, Bool.not_not, decide_eq_true_eq, decide_eq_false_iff_not, decide_true, decide_false, if_true, if_false, reduceIte, reduceCtorEq, Nat.zero_le, and_self, and_true, true_and, or_true, true_or, or_false, false_or, not_true_eq_false, not_false_eq_true, Int.reduceLT, Int.reduceLE, Int.reduceNeg, Int.reduceAdd, Int.reduceMul, Int.reduceSub, Int.reducePow, Int.reduceEq, Int.reduceToNat, Nat.reduceLT, Nat.reducePow, Int.cast_ofNat_Int, isi_non_int, isi_non_bool, isi_non_str, isi_non_tuple, isi_non_list, isi_non_dict, isi_non_tuple_list, isi_non_list_tuple, isi_bl_int, isi_bl_bool, isi_bl_str, isi_bl_tuple, isi_bl_list, isi_bl_dict, isi_bl_tuple_list, isi_bl_list_tuple, isi_int_int, isi_int_bool, isi_int_str, isi_int_tuple, isi_int_list, isi_int_dict, isi_int_tuple_list, isi_int_list_tuple, isi_str_int, isi_str_bool, isi_str_str, isi_str_tuple, isi_str_list, isi_str_dict, isi_str_tuple_list, isi_str_list_tuple, isi_tup_int, isi_tup_bool, isi_tup_str, isi_tup_tuple, isi_tup_list, isi_tup_dict, isi_tup_tuple_list, isi_tup_list_tuple, isi_lst_int, isi_lst_bool, isi_lst_str, isi_lst_tuple, isi_lst_list, isi_lst_dict, isi_lst_tuple_list, isi_lst_list_tuple, isi_frz_int, isi_frz_bool, isi_frz_str, isi_frz_tuple, isi_frz_list, isi_frz_dict, isi_frz_tuple_list, isi_frz_list_tuple, tru_bl, tru_int, tru_non, tru_tup, len_tup, ix_tup, tru_lst, len_lst, ix_lst, tru_frz, len_frz, ix_frz, sl_lst, sl_frz, sl_tup, asInt_int, at0, at1, at2, at3, at4, add_int, add_tup, add_str, add_lst, addC_lst, repC_lst, sub_int, mul_int, mul_lst, mul_tup, div_int, mod_int, pow_int, neg_int, not_bl, lt_int, le_int, gt_int, ge_int, eq_int, eq_str, eq_bl, eq_non, eq_int_non, eq_non_int, eq_str_non, eq_non_str, eq_bl_non, eq_non_bl, ne_int, ne_str, ne_bl, ne_non, ne_int_non, ne_non_int, ne_str_non, ne_non_str, ne_bl_non, ne_non_bl, isNone_non, isNone_int, isNone_str, isNone_bl, isNone_tup, isNone_lst, isNone_frz, max2_int, min2_int, abs_int, int_int, int_bl, still_tup, list_tup, tuple_tup, listC_tup, sv_tup, still_lst, list_lst, tuple_lst, listC_lst, sv_lst, still_frz, list_frz, tuple_frz, listC_frz, sv_frz, r1_int, r2_int, r3_int, tg_name, tg_tup, setAll_cons, setAll_nil, mtE, g1_one, g2_two, mkL_0, mkT_0, mkC_0, mkL_1, mkT_1, mkC_1, mkL_2, mkT_2, mkC_2, mkL_3, mkT_3, mkC_3, mkL_4, mkT_4, mkC_4, bnd_S, ret_S, lineN_eq2, wipe_nil, wipe_cons, beq_self_eq_true]
    | _ => simp [alD] at h
end F

set_option linter.all false
set_option autoImplicit false
set_option maxRecDepth 100000
namespace F
open PySem
theorem okD_pk (p : Pk) : okD 1 (pkD p) := okD_tup (n := 0) (ds := [.int (p.1 : Nat), .int (p.2 : Nat)]) (fun d hd => by
  rcases List.mem_cons.mp hd with rfl | hd
  · exact okD_int _
  · rcases List.mem_cons.mp hd with rfl | hd
    · exact okD_int _
    · simp at hd)
theorem pkD_inj {p q : Pk} (h : pkD p = pkD q) : p = q := by
  unfold pkD at h
  injection h with h
  injection h with h1 h2
  injection h2 with h2 _
  injection h1 with h1
  injection h2 with h2
  exact Prod.ext (by omega) (by omega)
theorem pk_mem {p : Pk} {ps : List Pk} : pkD p ∈ ps.map pkD ↔ p ∈ ps := by
  constructor
  · intro h
    obtain ⟨q, h1, h2⟩ := List.mem_map.mp h
    rw [← pkD_inj h2]; exact h1
  · exact fun h => List.mem_map.mpr ⟨p, h, rfl⟩
def pk_turn : SS := (seqS (asgS (tupE (consA (op2 addD (cD (.int 1)) (appA (consA (varD 0) (consA (cD (.int 12)) nilA)) (cal 2 g__law_next))) (consA (op2 addD (cD (.int 1)) (appA (consA (varD 0) (consA (lstE (consA (appA (consA (varD 0) (consA (cD (.int 12)) nilA)) (cal 2 g__law_next)) (consA (appA (consA (varD 0) (consA (cD (.int 99)) nilA)) (cal 2 g__law_next)) nilA))) nilA)) (cal 2 g__law_pick))) nilA))) (.name 3))
  (ifS (boolT (op2 notInD (varD 3) (varD 1))) (asgS (op2 addD (varD 1) (tupE (consA (varD 3) nilA))) (.name 1)) nxS))
theorem law_packs {S : Store} (hS : HI S) : ∃ ps S', g__law_packs [.ref 1] S = .ok (psD ps) S' ∧ WP ps ∧ HI S' := by
  obtain ⟨r, S1, e0, r0, r1, hS1⟩ := law_next hS (cap := 4) (by omega) (by omega)
  obtain ⟨m, rfl⟩ : ∃ m : Nat, r = m := ⟨r.toNat, by omega⟩
  obtain ⟨ρ2, S2, e, o2, o3, ps, e1, hS2, h1, h2, h3, h4, h5⟩ := forGo_ind (t := .name 2) (f := pk_turn) (ds := (List.range (1 + m)).map fun (i : Nat) => D.int (i : Nat))
    (fun k ρ S => ∃ o2 o3 ps, ρ = [some (.ref 1), some (psD ps), o2, o3] ∧ HI S ∧ ps.length ≤ k ∧ (0 < k → ps ≠ []) ∧ (∀ p ∈ ps, 1 ≤ p.1 ∧ p.1 ≤ 12) ∧ (∀ p ∈ ps, 1 ≤ p.2 ∧ p.2 ≤ 99) ∧ ps.Nodup)
    (ρ := [some (.ref 1), some (psD []), none, none]) (S := S1) ⟨none, none, [], rfl, hS1, by simp, by simp, by simp, by simp, by simp⟩
    (fun k hk ρ S ⟨o2, o3, ps, e1, hS, h1, h2, h3, h4, h5⟩ => by
      subst e1
      rw [List.length_map, List.length_range] at hk
      obtain ⟨a, S1, a1, a2, a3, a4⟩ := law_next hS (cap := 12) (by omega) (by omega)
      obtain ⟨b, S2, b1, b2, b3, b4⟩ := law_next a4 (cap := 12) (by omega) (by omega)
      obtain ⟨c, S3, c1, c2, c3, c4⟩ := law_next b4 (cap := 99) (by omega) (by omega)
      obtain ⟨d, S4, d1, d2, d3⟩ := law_pick c4 (xs := [.int b, .int c]) (by simp) (by simp)
      obtain ⟨q, rfl, q1, q2⟩ : ∃ q : Nat, d = .int (q : Nat) ∧ 0 ≤ q ∧ q < 99 := by
        rcases List.mem_cons.mp d2 with rfl | d2
        · exact ⟨b.toNat, by rw [Int.toNat_of_nonneg b2], by omega, by omega⟩
        · rcases List.mem_cons.mp d2 with rfl | d2
          · exact ⟨c.toNat, by rw [Int.toNat_of_nonneg c2], by omega, by omega⟩
          · simp at d2
      obtain ⟨a', rfl⟩ : ∃ a' : Nat, a = a' := ⟨a.toNat, by omega⟩
      have hp : D.tup [.int (1 + (a' : Nat) : Int), .int (1 + (q : Nat) : Int)] = pkD (1 + a', 1 + q) := by
        unfold pkD; simp
      have m2 : ∀ x y (S : Store), mkL [x, y] S = .ok (.lst [x, y]) S := fun _ _ _ => rfl
      have t2 : ∀ x y (S : Store), mkT [x, y] S = .ok (.tup [x, y]) S := fun _ _ _ => rfl
      have t1 : ∀ x (S : Store), mkT [x] S = .ok (.tup [x]) S := fun _ _ => rfl
      have hn : notInD (pkD (1 + a', 1 + q)) (psD ps) S4 = .ok (.bl (!(ps.map pkD).any fun z => dq z (pkD (1 + a', 1 + q)))) S4 := notInD_ok (n := 1) (m := 1) rfl (okD_pk _) (fun d hd => by
        obtain ⟨p, _, rfl⟩ := List.mem_map.mp hd
        exact okD_pk p) (by omega) (by omega)
      have hany : ((ps.map pkD).any fun z => dq z (pkD (1 + a', 1 + q))) = true ↔ (1 + a', 1 + q) ∈ ps := by
        rw [any_dq (n := 1) (m := 1) (okD_pk _) (fun d hd => by
          obtain ⟨p, _, rfl⟩ := List.mem_map.mp hd
          exact okD_pk p), pk_mem]
      by_cases hin : (1 + a', 1 + q) ∈ ps
      · refine ⟨[some (.ref 1), some (psD ps), some (.int (k : Nat)), o3], [some (.ref 1), some (psD ps), some (.int (k : Nat)), some (pkD (1 + a', 1 + q))], S4, ?_, .inl ?_, _, _, ps, rfl, d3, by omega, (fun _ h => by rw [h] at hin; simp at hin), h3, h4, h5⟩
        · rw [List.getElem_map, List.getElem_range]; rfl
        · have := hany.mpr hin
          simp only [pk_turn, m2, t2, nat10, nat2, runB, seqS, exS, asgS, retS, retN, dropS, ifS, nxS, nevS, brkS, cntS, setItS, forS, parS, op1, op2, chain, boolT, truT, notT, andT, orT, andE, orE, ifE, nilA, consA, appA, varD, cD, lstE, celE, tupE, slE, itE, itEn, cal_1, cal_2, cal_3, cal_4, cal_5, cal_6, cal_7, yesT, mulOk, List.map_cons, List.map_nil, List.length_cons, List.length_nil, List.getElem?_cons_zero, List.getElem?_cons_succ, List.set_cons_zero, List.set_cons_succ, List.replicate_succ, List.replicate_zero, List.cons_append, List.nil_append, List.append_nil, List.isEmpty_cons, List.isEmpty_nil, Nat.reduceAdd, Nat.reduceSub, Nat.reduceMul, Nat.reduceLeDiff, Nat.reduceEqDiff, Nat.zero_add, Nat.sub_zero, Nat.sub_self, Bool.not_true, Bool.not_false, Bool.true_and, Bool.false_and, Bool.and_true, Bool.and_false, Bool.true_or, Bool.false_or, Bool.or_true, Bool.or_false, Bool.false_eq_true, Bool.not_eq_true, Bool.not_eq_false, Bool.not_not, decide_eq_true_eq, decide_eq_false_iff_not, decide_true, decide_false, if_true, if_false, reduceIte, reduceCtorEq, Nat.zero_le, and_self, and_true, true_and, or_true, true_or, or_false, false_or, not_true_eq_false, not_false_eq_true, Int.reduceLT, Int.reduceLE, Int.reduceNeg, Int.reduceAdd, Int.reduceMul, Int.reduceSub, Int.reducePow, Int.reduceEq, Int.reduceToNat, Nat.reduceLT, Nat.reducePow, Int.cast_ofNat_Int, isi_non_int, isi_non_bool, isi_non_str, isi_non_tuple, isi_non_list, isi_non_dict, isi_non_tuple_list, isi_non_list_tuple, isi_bl_int, isi_bl_bool, isi_bl_str, isi_bl_tuple, isi_bl_list, isi_bl_dict, isi_bl_tuple_list, isi_bl_list_tuple, isi_int_int, isi_int_bool, isi_int_str, isi_int_tuple, isi_int_list, isi_int_dict, isi_int_tuple_list, isi_int_list_tuple, isi_str_int, isi_str_bool, isi_str_str, isi_str_tuple, isi_str_list, isi_str_dict, isi_str_tuple_list, isi_str_list_tuple, isi_tup_int, isi_tup_bool, isi_tup_str, isi_tup_tuple, isi_tup_list, isi_tup_dict, isi_tup_tuple_list, isi_tup_list_tuple, isi_lst_int, isi_lst_bool, isi_lst_str, isi_lst_tuple, isi_lst_list, isi_lst_dict, isi_lst_tuple_list, isi_lst_list_tuple, isi_frz_int, isi_frz_bool, isi_frz_str, isi_frz_tuple, isi_frz_list, isi_frz_dict, isi_frz_tuple_list, isi_frz_list_tuple, tru_bl, tru_int, tru_non, tru_tup, len_tup, ix_tup, tru_lst, len_lst, ix_lst, tru_frz, len_frz, ix_frz, sl_lst, sl_frz, sl_tup, asInt_int, at0, at1, at2, at3, at4, add_int, add_tup, add_str, add_lst, addC_lst, repC_lst, sub_int, mul_int, mul_lst, mul_tup, div_int, mod_int, pow_int, neg_int, not_bl, lt_int, le_int, gt_int, ge_int, eq_int, eq_str, eq_bl, eq_non, eq_int_non, eq_non_int, eq_str_non, eq_non_str, eq_bl_non, eq_non_bl, ne_int, ne_str, ne_bl, ne_non, ne_int_non, ne_non_int, ne_str_non, ne_non_str, ne_bl_non, ne_non_bl, isNone_non, isNone_int, isNone_str, isNone_bl, isNone_tup, isNone_lst, isNone_frz, max2_int, min2_int, abs_int, int_int, int_bl, still_tup, list_tup, tuple_tup, listC_tup, sv_tup, still_lst, list_lst, tuple_lst, listC_lst, sv_lst, still_frz, list_frz, tuple_frz, listC_frz, sv_frz, r1_int, r2_int, r3_int, tg_name, tg_tup, setAll_cons, setAll_nil, mtE, g1_one, g2_two, mkL_0, mkT_0, mkC_0, mkL_1, mkT_1, mkC_1, mkL_2, mkT_2, mkC_2, mkL_3, mkT_3, mkC_3, mkL_4, mkT_4, mkC_4, bnd_S, ret_S, lineN_eq2, wipe_nil, wipe_cons, a1, b1, c1, d1, hp, hn, this]
      · refine ⟨[some (.ref 1), some (psD ps), some (.int (k : Nat)), o3], [some (.ref 1), some (psD (ps ++ [(1 + a', 1 + q)])), some (.int (k : Nat)), some (pkD (1 + a', 1 + q))], S4, ?_, .inl ?_, _, _, ps ++ [(1 + a', 1 + q)], rfl, d3, by simp; omega, by simp, ?_, ?_, ?_⟩
        · rw [List.getElem_map, List.getElem_range]; rfl
        · have hf : ((ps.map pkD).any fun z => dq z (pkD (1 + a', 1 + q))) = false := by
            rw [← Bool.not_eq_true, hany]; exact hin
          have ha : addD (psD ps) (.tup [pkD (1 + a', 1 + q)]) S4 = .ok (psD (ps ++ [(1 + a', 1 + q)])) S4 := by
            unfold psD
            rw [add_tup, if_pos (by rw [List.length_map, lineN_eq2]; simp; omega), List.map_append]; rfl
          simp only [pk_turn, m2, t2, t1, nat10, nat2, runB, seqS, exS, asgS, retS, retN, dropS, ifS, nxS, nevS, brkS, cntS, setItS, forS, parS, op1, op2, chain, boolT, truT, notT, andT, orT, andE, orE, ifE, nilA, consA, appA, varD, cD, lstE, celE, tupE, slE, itE, itEn, cal_1, cal_2, cal_3, cal_4, cal_5, cal_6, cal_7, yesT, mulOk, List.map_cons, List.map_nil, List.length_cons, List.length_nil, List.getElem?_cons_zero, List.getElem?_cons_succ, List.set_cons_zero, List.set_cons_succ, List.replicate_succ, List.replicate_zero, List.cons_append, List.nil_append, List.append_nil, List.isEmpty_cons, List.isEmpty_nil, Nat.reduceAdd, Nat.reduceSub, Nat.reduceMul, Nat.reduceLeDiff, Nat.reduceEqDiff, Nat.zero_add, Nat.sub_zero, Nat.sub_self, Bool.not_true, Bool.not_false, Bool.true_and, Bool.false_and, Bool.and_true, Bool.and_false, Bool.true_or, Bool.false_or, Bool.or_true, Bool.or_false, Bool.false_eq_true, Bool.not_eq_true, Bool.not_eq_false, Bool.not_not, decide_eq_true_eq, decide_eq_false_iff_not, decide_true, decide_false, if_true, if_false, reduceIte, reduceCtorEq, Nat.zero_le, and_self, and_true, true_and, or_true, true_or, or_false, false_or, not_true_eq_false, not_false_eq_true, Int.reduceLT, Int.reduceLE, Int.reduceNeg, Int.reduceAdd, Int.reduceMul, Int.reduceSub, Int.reducePow, Int.reduceEq, Int.reduceToNat, Nat.reduceLT, Nat.reducePow, Int.cast_ofNat_Int, isi_non_int, isi_non_bool, isi_non_str, isi_non_tuple, isi_non_list, isi_non_dict, isi_non_tuple_list, isi_non_list_tuple, isi_bl_int, isi_bl_bool, isi_bl_str, isi_bl_tuple, isi_bl_list, isi_bl_dict, isi_bl_tuple_list, isi_bl_list_tuple, isi_int_int, isi_int_bool, isi_int_str, isi_int_tuple, isi_int_list, isi_int_dict, isi_int_tuple_list, isi_int_list_tuple, isi_str_int, isi_str_bool, isi_str_str, isi_str_tuple, isi_str_list, isi_str_dict, isi_str_tuple_list, isi_str_list_tuple, isi_tup_int, isi_tup_bool, isi_tup_str, isi_tup_tuple, isi_tup_list, isi_tup_dict, isi_tup_tuple_list, isi_tup_list_tuple, isi_lst_int, isi_lst_bool, isi_lst_str, isi_lst_tuple, isi_lst_list, isi_lst_dict, isi_lst_tuple_list, isi_lst_list_tuple, isi_frz_int, isi_frz_bool, isi_frz_str, isi_frz_tuple, isi_frz_list, isi_frz_dict, isi_frz_tuple_list, isi_frz_list_tuple, tru_bl, tru_int, tru_non, tru_tup, len_tup, ix_tup, tru_lst, len_lst, ix_lst, tru_frz, len_frz, ix_frz, sl_lst, sl_frz, sl_tup, asInt_int, at0, at1, at2, at3, at4, add_int, add_tup, add_str, add_lst, addC_lst, repC_lst, sub_int, mul_int, mul_lst, mul_tup, div_int, mod_int, pow_int, neg_int, not_bl, lt_int, le_int, gt_int, ge_int, eq_int, eq_str, eq_bl, eq_non, eq_int_non, eq_non_int, eq_str_non, eq_non_str, eq_bl_non, eq_non_bl, ne_int, ne_str, ne_bl, ne_non, ne_int_non, ne_non_int, ne_str_non, ne_non_str, ne_bl_non, ne_non_bl, isNone_non, isNone_int, isNone_str, isNone_bl, isNone_tup, isNone_lst, isNone_frz, max2_int, min2_int, abs_int, int_int, int_bl, still_tup, list_tup, tuple_tup, listC_tup, sv_tup, still_lst, list_lst, tuple_lst, listC_lst, sv_lst, still_frz, list_frz, tuple_frz, listC_frz, sv_frz, r1_int, r2_int, r3_int, tg_name, tg_tup, setAll_cons, setAll_nil, mtE, g1_one, g2_two, mkL_0, mkT_0, mkC_0, mkL_1, mkT_1, mkC_1, mkL_2, mkT_2, mkC_2, mkL_3, mkT_3, mkC_3, mkL_4, mkT_4, mkC_4, bnd_S, ret_S, lineN_eq2, wipe_nil, wipe_cons, a1, b1, c1, d1, hp, hn, hf, ha]
        · intro p hp
          rcases List.mem_append.mp hp with hp | hp
          · exact h3 p hp
          · have : p = (1 + a', 1 + q) := by simpa using hp
            subst this
            show 1 ≤ 1 + a' ∧ 1 + a' ≤ 12
            omega
        · intro p hp
          rcases List.mem_append.mp hp with hp | hp
          · exact h4 p hp
          · have : p = (1 + a', 1 + q) := by simpa using hp
            subst this
            show 1 ≤ 1 + q ∧ 1 + q ≤ 99
            omega
        · rw [List.nodup_append]
          refine ⟨h5, by simp, fun x hx y hy e => ?_⟩
          have : y = (1 + a', 1 + q) := by simpa using hy
          subst this
          rw [e] at hx
          exact hin hx)
  subst e1
  rw [List.length_map, List.length_range] at h1 h2
  refine ⟨ps, S2, ?_, ⟨h2 (by omega), by omega, h3, h4, h5⟩, hS2⟩
  refine run_rt (ρ0 := [some (.ref 1), none, none, none]) rfl ?_
  have t0 : ∀ (S : Store), mkT [] S = .ok (.tup []) S := fun _ => rfl
  refine Eq.trans (seq_nx (asg_ok (d := .tup []) (ρ' := [some (.ref 1), some (.tup []), none, none]) rfl rfl)) ?_
  refine Eq.trans (seq_nx ((for_ok (ds := (List.range (1 + m)).map fun (i : Nat) => D.int (i : Nat)) (S' := S1) ?_).trans e)) ?_
  · have hr : itR1 [.int (1 + (m : Nat) : Int)] S1 = .ok ((List.range (1 + m)).map fun (i : Nat) => D.int (i : Nat)) S1 := by
      rw [r1_int, if_pos (by omega), show (1 + (m : Nat) : Int).toNat = 1 + m by omega]
    simp only [nat10, nat2, runB, seqS, exS, asgS, retS, retN, dropS, ifS, nxS, nevS, brkS, cntS, setItS, forS, parS, op1, op2, chain, boolT, truT, notT, andT, orT, andE, orE, ifE, nilA, consA, appA, varD, cD, lstE, celE, tupE, slE, itE, itEn, cal_1, cal_2, cal_3, cal_4, cal_5, cal_6, cal_7, yesT, mulOk, List.map_cons, List.map_nil, List.length_cons, List.length_nil, List.getElem?_cons_zero, List.getElem?_cons_succ, List.set_cons_zero, List.set_cons_succ, List.replicate_succ, List.replicate_zero, List.cons_append, List.nil_append, List.append_nil, List.isEmpty_cons, List.isEmpty_nil, Nat.reduceAdd, Nat.reduceSub, Nat.reduceMul, Nat.reduceLeDiff, Nat.reduceEqDiff, Nat.zero_add, Nat.sub_zero, Nat.sub_self, Bool.not_true, Bool.not_false, Bool.true_and, Bool.false_and, Bool.and_true, Bool.and_false, Bool.true_or, Bool.false_or, Bool.or_true, Bool.or_false, Bool.false_eq_true, Bool.not_eq_true, Bool.not_eq_false, Bool.not_not, decide_eq_true_eq, decide_eq_false_iff_not, decide_true, decide_false, if_true, if_false, reduceIte, reduceCtorEq, Nat.zero_le, and_self, and_true, true_and, or_true, true_or, or_false, false_or, not_true_eq_false, not_false_eq_true, Int.reduceLT, Int.reduceLE, Int.reduceNeg, Int.reduceAdd, Int.reduceMul, Int.reduceSub, Int.reducePow, Int.reduceEq, Int.reduceToNat, Nat.reduceLT, Nat.reducePow, Int.cast_ofNat_Int, isi_non_int, isi_non_bool, isi_non_str, isi_non_tuple, isi_non_list, isi_non_dict, isi_non_tuple_list, isi_non_list_tuple, isi_bl_int, isi_bl_bool, isi_bl_str, isi_bl_tuple, isi_bl_list, isi_bl_dict, isi_bl_tuple_list, isi_bl_list_tuple, isi_int_int, isi_int_bool, isi_int_str, isi_int_tuple, isi_int_list, isi_int_dict, isi_int_tuple_list, isi_int_list_tuple, isi_str_int, isi_str_bool, isi_str_str, isi_str_tuple, isi_str_list, isi_str_dict, isi_str_tuple_list, isi_str_list_tuple, isi_tup_int, isi_tup_bool, isi_tup_str, isi_tup_tuple, isi_tup_list, isi_tup_dict, isi_tup_tuple_list, isi_tup_list_tuple, isi_lst_int, isi_lst_bool, isi_lst_str, isi_lst_tuple, isi_lst_list, isi_lst_dict, isi_lst_tuple_list, isi_lst_list_tuple, isi_frz_int, isi_frz_bool, isi_frz_str, isi_frz_tuple, isi_frz_list, isi_frz_dict, isi_frz_tuple_list, isi_frz_list_tuple, tru_bl, tru_int, tru_non, tru_tup, len_tup, ix_tup, tru_lst, len_lst, ix_lst, tru_frz, len_frz, ix_frz, sl_lst, sl_frz, sl_tup, asInt_int, at0, at1, at2, at3, at4, add_int, add_tup, add_str, add_lst, addC_lst, repC_lst, sub_int, mul_int, mul_lst, mul_tup, div_int, mod_int, pow_int, neg_int, not_bl, lt_int, le_int, gt_int, ge_int, eq_int, eq_str, eq_bl, eq_non, eq_int_non, eq_non_int, eq_str_non, eq_non_str, eq_bl_non, eq_non_bl, ne_int, ne_str, ne_bl, ne_non, ne_int_non, ne_non_int, ne_str_non, ne_non_str, ne_bl_non, ne_non_bl, isNone_non, isNone_int, isNone_str, isNone_bl, isNone_tup, isNone_lst, isNone_frz, max2_int, min2_int, abs_int, int_int, int_bl, still_tup, list_tup, tuple_tup, listC_tup, sv_tup, still_lst, list_lst, tuple_lst, listC_lst, sv_lst, still_frz, list_frz, tuple_frz, listC_frz, sv_frz, r1_int, r2_int, r3_int, tg_name, tg_tup, setAll_cons, setAll_nil, mtE, g1_one, g2_two, mkL_0, mkT_0, mkC_0, mkL_1, mkT_1, mkC_1, mkL_2, mkT_2, mkC_2, mkL_3, mkT_3, mkC_3, mkL_4, mkT_4, mkC_4, bnd_S, ret_S, lineN_eq2, wipe_nil, wipe_cons, -r1_int, e0, hr]
  · rfl
def nums (c : Nat → Nat) (n : Nat) : List D := (List.range n).map fun a => .int (c a : Nat)
theorem nums_ix (c : Nat → Nat) (n a : Nat) (h : a < n) (S : Store) : ixD (.lst (nums c n)) (.int (a : Nat)) S = .ok (.int (c a : Nat)) S := by
  rw [ix_lst, at?_nat]
  simp [nums, h]
theorem nums_ix' (c : Nat → Nat) (n : Nat) {i : Int} (a : Nat) (e : i = (a : Nat)) (h : a < n) (S : Store) : ixD (.lst (nums c n)) (.int i) S = .ok (.int (c a : Nat)) S := by
  rw [e, nums_ix c n a h]
end F

set_option linter.all false
set_option autoImplicit false
set_option maxRecDepth 100000
namespace F
open PySem
theorem is_integer_int (i lo hi : Int) (S : Store) : g_is_integer [.int i, .int lo, .int hi] S = .ok (.bl (decide (lo ≤ i) && decide (i ≤ hi))) S := by
  by_cases h : lo ≤ i <;> simp only [g_is_integer, b_is_integer, nat10, nat2, runB, seqS, exS, asgS, retS, retN, dropS, ifS, nxS, nevS, brkS, cntS, setItS, forS, parS, op1, op2, chain, boolT, truT, notT, andT, orT, andE, orE, ifE, nilA, consA, appA, varD, cD, lstE, celE, tupE, slE, itE, itEn, cal_1, cal_2, cal_3, cal_4, cal_5, cal_6, cal_7, yesT, mulOk, List.map_cons, List.map_nil, List.length_cons, List.length_nil, List.getElem?_cons_zero, List.getElem?_cons_succ, List.set_cons_zero, List.set_cons_succ, List.replicate_succ, List.replicate_zero, List.cons_append, List.nil_append, List.append_nil, List.isEmpty_cons, List.isEmpty_nil, Nat.reduceAdd, Nat.reduceSub, Nat.reduceMul, Nat.reduceLeDiff, Nat.reduceEqDiff, Nat.zero_add, Nat.sub_zero, Nat.sub_self, Bool.not_true, Bool.not_false, Bool.true_and, Bool.false_and, Bool.and_true, Bool.and_false, Bool.true_or, Bool.false_or, Bool.or_true, Bool.or_false, Bool.false_eq_true, Bool.not_eq_true, Bool.not_eq_false, Bool.not_not, decide_eq_true_eq, decide_eq_false_iff_not, decide_true, decide_false, if_true, if_false, reduceIte, reduceCtorEq, Nat.zero_le, and_self, and_true, true_and, or_true, true_or, or_false, false_or, not_true_eq_false, not_false_eq_true, Int.reduceLT, Int.reduceLE, Int.reduceNeg, Int.reduceAdd, Int.reduceMul, Int.reduceSub, Int.reducePow, Int.reduceEq, Int.reduceToNat, Nat.reduceLT, Nat.reducePow, Int.cast_ofNat_Int, isi_non_int, isi_non_bool, isi_non_str, isi_non_tuple, isi_non_list, isi_non_dict, isi_non_tuple_list, isi_non_list_tuple, isi_bl_int, isi_bl_bool, isi_bl_str, isi_bl_tuple, isi_bl_list, isi_bl_dict, isi_bl_tuple_list, isi_bl_list_tuple, isi_int_int, isi_int_bool, isi_int_str, isi_int_tuple, isi_int_list, isi_int_dict, isi_int_tuple_list, isi_int_list_tuple, isi_str_int, isi_str_bool, isi_str_str, isi_str_tuple, isi_str_list, isi_str_dict, isi_str_tuple_list, isi_str_list_tuple, isi_tup_int, isi_tup_bool, isi_tup_str, isi_tup_tuple, isi_tup_list, isi_tup_dict, isi_tup_tuple_list, isi_tup_list_tuple, isi_lst_int, isi_lst_bool, isi_lst_str, isi_lst_tuple, isi_lst_list, isi_lst_dict, isi_lst_tuple_list, isi_lst_list_tuple, isi_frz_int, isi_frz_bool, isi_frz_str, isi_frz_tuple, isi_frz_list, isi_frz_dict, isi_frz_tuple_list, isi_frz_list_tuple, tru_bl, tru_int, tru_non, tru_tup, len_tup, ix_tup, tru_lst, len_lst, ix_lst, tru_frz, len_frz, ix_frz, sl_lst, sl_frz, sl_tup, asInt_int, at0, at1, at2, at3, at4, add_int, add_tup, add_str, add_lst, addC_lst, repC_lst, sub_int, mul_int, mul_lst, mul_tup, div_int, mod_int, pow_int, neg_int, not_bl, lt_int, le_int, gt_int, ge_int, eq_int, eq_str, eq_bl, eq_non, eq_int_non, eq_non_int, eq_str_non, eq_non_str, eq_bl_non, eq_non_bl, ne_int, ne_str, ne_bl, ne_non, ne_int_non, ne_non_int, ne_str_non, ne_non_str, ne_bl_non, ne_non_bl, isNone_non, isNone_int, isNone_str, isNone_bl, isNone_tup, isNone_lst, isNone_frz, max2_int, min2_int, abs_int, int_int, int_bl, still_tup, list_tup, tuple_tup, listC_tup, sv_tup, still_lst, list_lst, tuple_lst, listC_lst, sv_lst, still_frz, list_frz, tuple_frz, listC_frz, sv_frz, r1_int, r2_int, r3_int, tg_name, tg_tup, setAll_cons, setAll_nil, mtE, g1_one, g2_two, mkL_0, mkT_0, mkC_0, mkL_1, mkT_1, mkC_1, mkL_2, mkT_2, mkC_2, mkL_3, mkT_3, mkC_3, mkL_4, mkT_4, mkC_4, bnd_S, ret_S, lineN_eq2, wipe_nil, wipe_cons, h]
theorem is_pack_ok {p : Pk} (h1 : 1 ≤ p.1 ∧ p.1 ≤ 12) (h2 : 1 ≤ p.2 ∧ p.2 ≤ 99) (S : Store) : g_is_pack [pkD p] S = .ok (.bl true) S := by
  have a1 : (1 : Int) ≤ (p.1 : Nat) := by omega
  have a2 : ((p.1 : Nat) : Int) ≤ 12 := by omega
  have a3 : (1 : Int) ≤ (p.2 : Nat) := by omega
  have a4 : ((p.2 : Nat) : Int) ≤ 99 := by omega
  simp only [g_is_pack, b_is_pack, pkD, nat10, nat2, runB, seqS, exS, asgS, retS, retN, dropS, ifS, nxS, nevS, brkS, cntS, setItS, forS, parS, op1, op2, chain, boolT, truT, notT, andT, orT, andE, orE, ifE, nilA, consA, appA, varD, cD, lstE, celE, tupE, slE, itE, itEn, cal_1, cal_2, cal_3, cal_4, cal_5, cal_6, cal_7, yesT, mulOk, List.map_cons, List.map_nil, List.length_cons, List.length_nil, List.getElem?_cons_zero, List.getElem?_cons_succ, List.set_cons_zero, List.set_cons_succ, List.replicate_succ, List.replicate_zero, List.cons_append, List.nil_append, List.append_nil, List.isEmpty_cons, List.isEmpty_nil, Nat.reduceAdd, Nat.reduceSub, Nat.reduceMul, Nat.reduceLeDiff, Nat.reduceEqDiff, Nat.zero_add, Nat.sub_zero, Nat.sub_self, Bool.not_true, Bool.not_false, Bool.true_and, Bool.false_and, Bool.and_true, Bool.and_false, Bool.true_or, Bool.false_or, Bool.or_true, Bool.or_false, Bool.false_eq_true, Bool.not_eq_true, Bool.not_eq_false, Bool.not_not, decide_eq_true_eq, decide_eq_false_iff_not, decide_true, decide_false, if_true, if_false, reduceIte, reduceCtorEq, Nat.zero_le, and_self, and_true, true_and, or_true, true_or, or_false, false_or, not_true_eq_false, not_false_eq_true, Int.reduceLT, Int.reduceLE, Int.reduceNeg, Int.reduceAdd, Int.reduceMul, Int.reduceSub, Int.reducePow, Int.reduceEq, Int.reduceToNat, Nat.reduceLT, Nat.reducePow, Int.cast_ofNat_Int, isi_non_int, isi_non_bool, isi_non_str, isi_non_tuple, isi_non_list, isi_non_dict, isi_non_tuple_list, isi_non_list_tuple, isi_bl_int, isi_bl_bool, isi_bl_str, isi_bl_tuple, isi_bl_list, isi_bl_dict, isi_bl_tuple_list, isi_bl_list_tuple, isi_int_int, isi_int_bool, isi_int_str, isi_int_tuple, isi_int_list, isi_int_dict, isi_int_tuple_list, isi_int_list_tuple, isi_str_int, isi_str_bool, isi_str_str, isi_str_tuple, isi_str_list, isi_str_dict, isi_str_tuple_list, isi_str_list_tuple, isi_tup_int, isi_tup_bool, isi_tup_str, isi_tup_tuple, isi_tup_list, isi_tup_dict, isi_tup_tuple_list, isi_tup_list_tuple, isi_lst_int, isi_lst_bool, isi_lst_str, isi_lst_tuple, isi_lst_list, isi_lst_dict, isi_lst_tuple_list, isi_lst_list_tuple, isi_frz_int, isi_frz_bool, isi_frz_str, isi_frz_tuple, isi_frz_list, isi_frz_dict, isi_frz_tuple_list, isi_frz_list_tuple, tru_bl, tru_int, tru_non, tru_tup, len_tup, ix_tup, tru_lst, len_lst, ix_lst, tru_frz, len_frz, ix_frz, sl_lst, sl_frz, sl_tup, asInt_int, at0, at1, at2, at3, at4, add_int, add_tup, add_str, add_lst, addC_lst, repC_lst, sub_int, mul_int, mul_lst, mul_tup, div_int, mod_int, pow_int, neg_int, not_bl, lt_int, le_int, gt_int, ge_int, eq_int, eq_str, eq_bl, eq_non, eq_int_non, eq_non_int, eq_str_non, eq_non_str, eq_bl_non, eq_non_bl, ne_int, ne_str, ne_bl, ne_non, ne_int_non, ne_non_int, ne_str_non, ne_non_str, ne_bl_non, ne_non_bl, isNone_non, isNone_int, isNone_str, isNone_bl, isNone_tup, isNone_lst, isNone_frz, max2_int, min2_int, abs_int, int_int, int_bl, still_tup, list_tup, tuple_tup, listC_tup, sv_tup, still_lst, list_lst, tuple_lst, listC_lst, sv_lst, still_frz, list_frz, tuple_frz, listC_frz, sv_frz, r1_int, r2_int, r3_int, tg_name, tg_tup, setAll_cons, setAll_nil, mtE, g1_one, g2_two, mkL_0, mkT_0, mkC_0, mkL_1, mkT_1, mkC_1, mkL_2, mkT_2, mkC_2, mkL_3, mkT_3, mkC_3, mkL_4, mkT_4, mkC_4, bnd_S, ret_S, lineN_eq2, wipe_nil, wipe_cons, is_integer_int, a1, a2, a3, a4]
theorem check_amount_ok {a : Nat} (h : a ≤ 1000000000000000000000000000000) (S : Store) : g_check_amount [.int (a : Nat)] S = .ok .non S := by
  have a1 : (0 : Int) ≤ (a : Nat) := by omega
  have a2 : ((a : Nat) : Int) ≤ 1000000000000000000000000000000 := by omega
  simp only [g_check_amount, b_check_amount, nat10, nat2, runB, seqS, exS, asgS, retS, retN, dropS, ifS, nxS, nevS, brkS, cntS, setItS, forS, parS, op1, op2, chain, boolT, truT, notT, andT, orT, andE, orE, ifE, nilA, consA, appA, varD, cD, lstE, celE, tupE, slE, itE, itEn, cal_1, cal_2, cal_3, cal_4, cal_5, cal_6, cal_7, yesT, mulOk, List.map_cons, List.map_nil, List.length_cons, List.length_nil, List.getElem?_cons_zero, List.getElem?_cons_succ, List.set_cons_zero, List.set_cons_succ, List.replicate_succ, List.replicate_zero, List.cons_append, List.nil_append, List.append_nil, List.isEmpty_cons, List.isEmpty_nil, Nat.reduceAdd, Nat.reduceSub, Nat.reduceMul, Nat.reduceLeDiff, Nat.reduceEqDiff, Nat.zero_add, Nat.sub_zero, Nat.sub_self, Bool.not_true, Bool.not_false, Bool.true_and, Bool.false_and, Bool.and_true, Bool.and_false, Bool.true_or, Bool.false_or, Bool.or_true, Bool.or_false, Bool.false_eq_true, Bool.not_eq_true, Bool.not_eq_false, Bool.not_not, decide_eq_true_eq, decide_eq_false_iff_not, decide_true, decide_false, if_true, if_false, reduceIte, reduceCtorEq, Nat.zero_le, and_self, and_true, true_and, or_true, true_or, or_false, false_or, not_true_eq_false, not_false_eq_true, Int.reduceLT, Int.reduceLE, Int.reduceNeg, Int.reduceAdd, Int.reduceMul, Int.reduceSub, Int.reducePow, Int.reduceEq, Int.reduceToNat, Nat.reduceLT, Nat.reducePow, Int.cast_ofNat_Int, isi_non_int, isi_non_bool, isi_non_str, isi_non_tuple, isi_non_list, isi_non_dict, isi_non_tuple_list, isi_non_list_tuple, isi_bl_int, isi_bl_bool, isi_bl_str, isi_bl_tuple, isi_bl_list, isi_bl_dict, isi_bl_tuple_list, isi_bl_list_tuple, isi_int_int, isi_int_bool, isi_int_str, isi_int_tuple, isi_int_list, isi_int_dict, isi_int_tuple_list, isi_int_list_tuple, isi_str_int, isi_str_bool, isi_str_str, isi_str_tuple, isi_str_list, isi_str_dict, isi_str_tuple_list, isi_str_list_tuple, isi_tup_int, isi_tup_bool, isi_tup_str, isi_tup_tuple, isi_tup_list, isi_tup_dict, isi_tup_tuple_list, isi_tup_list_tuple, isi_lst_int, isi_lst_bool, isi_lst_str, isi_lst_tuple, isi_lst_list, isi_lst_dict, isi_lst_tuple_list, isi_lst_list_tuple, isi_frz_int, isi_frz_bool, isi_frz_str, isi_frz_tuple, isi_frz_list, isi_frz_dict, isi_frz_tuple_list, isi_frz_list_tuple, tru_bl, tru_int, tru_non, tru_tup, len_tup, ix_tup, tru_lst, len_lst, ix_lst, tru_frz, len_frz, ix_frz, sl_lst, sl_frz, sl_tup, asInt_int, at0, at1, at2, at3, at4, add_int, add_tup, add_str, add_lst, addC_lst, repC_lst, sub_int, mul_int, mul_lst, mul_tup, div_int, mod_int, pow_int, neg_int, not_bl, lt_int, le_int, gt_int, ge_int, eq_int, eq_str, eq_bl, eq_non, eq_int_non, eq_non_int, eq_str_non, eq_non_str, eq_bl_non, eq_non_bl, ne_int, ne_str, ne_bl, ne_non, ne_int_non, ne_non_int, ne_str_non, ne_non_str, ne_bl_non, ne_non_bl, isNone_non, isNone_int, isNone_str, isNone_bl, isNone_tup, isNone_lst, isNone_frz, max2_int, min2_int, abs_int, int_int, int_bl, still_tup, list_tup, tuple_tup, listC_tup, sv_tup, still_lst, list_lst, tuple_lst, listC_lst, sv_lst, still_frz, list_frz, tuple_frz, listC_frz, sv_frz, r1_int, r2_int, r3_int, tg_name, tg_tup, setAll_cons, setAll_nil, mtE, g1_one, g2_two, mkL_0, mkT_0, mkC_0, mkL_1, mkT_1, mkC_1, mkL_2, mkT_2, mkC_2, mkL_3, mkT_3, mkC_3, mkL_4, mkT_4, mkC_4, bnd_S, ret_S, lineN_eq2, wipe_nil, wipe_cons, is_integer_int, a1, a2]
theorem enum_ps (ps : List Pk) : enumL (ps.map pkD) = (List.range ps.length).map fun i => D.tup [.int (i : Nat), (ps.map pkD).getD i .non] := by
  rw [enumL_map, List.length_map]
theorem enum_get (ps : List Pk) {k : Nat} (hk : k < ps.length) (h : k < (enumL (ps.map pkD)).length) : (enumL (ps.map pkD))[k] = .tup [.int (k : Nat), pkD ps[k]] := by
  have := enum_ps ps
  simp only [this, List.getElem_map, List.getElem_range]
  congr 3
  rw [List.getD_eq_getElem?_getD, List.getElem?_map, List.getElem?_eq_getElem hk]
  rfl
theorem enum_len (ps : List Pk) : (enumL (ps.map pkD)).length = ps.length := by rw [enum_ps, List.length_map, List.length_range]
theorem check_packs_ok {ps : List Pk} (W : WP ps) (S : Store) : g_check_packs [psD ps] S = .ok .non S := by
  obtain ⟨ρ2, S2, e, o1, o2, e1, e2⟩ := forGo_ind (t := .tup [1, 2]) (f := (ifS (orT (notT (truT (appA (consA (varD 2) nilA) (cal 1 g_is_pack)))) (boolT (op2 inD (varD 2) (slE (varD 0) (fun _ => ret none) (fun ρ => bnd ((varD 1) ρ) asInt))))) nevS nxS)) (ds := enumL (ps.map pkD))
    (fun k ρ S' => ∃ o1 o2, ρ = [some (psD ps), o1, o2] ∧ S' = S) (ρ := [some (psD ps), none, none]) (S := S) ⟨none, none, rfl, rfl⟩ (fun k hk ρ S' ⟨o1, o2, e1, e2⟩ => by
      subst e1 e2
      have hk' : k < ps.length := by rw [enum_len] at hk; exact hk
      refine ⟨[some (psD ps), some (.int (k : Nat)), some (pkD ps[k])], [some (psD ps), some (.int (k : Nat)), some (pkD ps[k])], S', by rw [enum_get ps hk']; rfl, .inl ?_, _, _, rfl, rfl⟩
      have hm : ps[k] ∈ ps := List.getElem_mem hk'
      have h1 := is_pack_ok (W.sz _ hm) (W.pr _ hm) S'
      have hc : slD (psD ps) none (some ((k : Nat) : Int)) = ret (.tup ((ps.take k).map pkD)) := by
        unfold psD
        rw [sl_tup, cutD_upto, List.map_take]
      have h2 : inD (pkD ps[k]) (.tup ((ps.take k).map pkD)) S' = .ok (.bl false) S' := by
        rw [inD_ok (n := 1) (m := 1) (ds := (ps.take k).map pkD) rfl (okD_pk _) (fun d hd => by
          obtain ⟨p, _, rfl⟩ := List.mem_map.mp hd
          exact okD_pk p) (by omega) (by omega)]
        congr 2
        rw [← Bool.not_eq_true, any_dq (n := 1) (m := 1) (okD_pk _) (fun d hd => by
          obtain ⟨p, _, rfl⟩ := List.mem_map.mp hd
          exact okD_pk p), pk_mem]
        intro hin
        obtain ⟨j, hj, he⟩ := List.mem_take_iff_getElem.mp hin
        have hj' : j < ps.length := by omega
        have := (List.getElem_inj (h₀ := hj') (h₁ := hk') W.nd).mp he
        omega
      simp only [nat10, nat2, runB, seqS, exS, asgS, retS, retN, dropS, ifS, nxS, nevS, brkS, cntS, setItS, forS, parS, op1, op2, chain, boolT, truT, notT, andT, orT, andE, orE, ifE, nilA, consA, appA, varD, cD, lstE, celE, tupE, slE, itE, itEn, cal_1, cal_2, cal_3, cal_4, cal_5, cal_6, cal_7, yesT, mulOk, List.map_cons, List.map_nil, List.length_cons, List.length_nil, List.getElem?_cons_zero, List.getElem?_cons_succ, List.set_cons_zero, List.set_cons_succ, List.replicate_succ, List.replicate_zero, List.cons_append, List.nil_append, List.append_nil, List.isEmpty_cons, List.isEmpty_nil, Nat.reduceAdd, Nat.reduceSub, Nat.reduceMul, Nat.reduceLeDiff, Nat.reduceEqDiff, Nat.zero_add, Nat.sub_zero, Nat.sub_self, Bool.not_true, Bool.not_false, Bool.true_and, Bool.false_and, Bool.and_true, Bool.and_false, Bool.true_or, Bool.false_or, Bool.or_true, Bool.or_false, Bool.false_eq_true, Bool.not_eq_true, Bool.not_eq_false, Bool.not_not, decide_eq_true_eq, decide_eq_false_iff_not, decide_true, decide_false, if_true, if_false, reduceIte, reduceCtorEq, Nat.zero_le, and_self, and_true, true_and, or_true, true_or, or_false, false_or, not_true_eq_false, not_false_eq_true, Int.reduceLT, Int.reduceLE, Int.reduceNeg, Int.reduceAdd, Int.reduceMul, Int.reduceSub, Int.reducePow, Int.reduceEq, Int.reduceToNat, Nat.reduceLT, Nat.reducePow, Int.cast_ofNat_Int, isi_non_int, isi_non_bool, isi_non_str, isi_non_tuple, isi_non_list, isi_non_dict, isi_non_tuple_list, isi_non_list_tuple, isi_bl_int, isi_bl_bool, isi_bl_str, isi_bl_tuple, isi_bl_list, isi_bl_dict, isi_bl_tuple_list, isi_bl_list_tuple, isi_int_int, isi_int_bool, isi_int_str, isi_int_tuple, isi_int_list, isi_int_dict, isi_int_tuple_list, isi_int_list_tuple, isi_str_int, isi_str_bool, isi_str_str, isi_str_tuple, isi_str_list, isi_str_dict, isi_str_tuple_list, isi_str_list_tuple, isi_tup_int, isi_tup_bool, isi_tup_str, isi_tup_tuple, isi_tup_list, isi_tup_dict, isi_tup_tuple_list, isi_tup_list_tuple, isi_lst_int, isi_lst_bool, isi_lst_str, isi_lst_tuple, isi_lst_list, isi_lst_dict, isi_lst_tuple_list, isi_lst_list_tuple, isi_frz_int, isi_frz_bool, isi_frz_str, isi_frz_tuple, isi_frz_list, isi_frz_dict, isi_frz_tuple_list, isi_frz_list_tuple, tru_bl, tru_int, tru_non, tru_tup, len_tup, ix_tup, tru_lst, len_lst, ix_lst, tru_frz, len_frz, ix_frz, sl_lst, sl_frz, sl_tup, asInt_int, at0, at1, at2, at3, at4, add_int, add_tup, add_str, add_lst, addC_lst, repC_lst, sub_int, mul_int, mul_lst, mul_tup, div_int, mod_int, pow_int, neg_int, not_bl, lt_int, le_int, gt_int, ge_int, eq_int, eq_str, eq_bl, eq_non, eq_int_non, eq_non_int, eq_str_non, eq_non_str, eq_bl_non, eq_non_bl, ne_int, ne_str, ne_bl, ne_non, ne_int_non, ne_non_int, ne_str_non, ne_non_str, ne_bl_non, ne_non_bl, isNone_non, isNone_int, isNone_str, isNone_bl, isNone_tup, isNone_lst, isNone_frz, max2_int, min2_int, abs_int, int_int, int_bl, still_tup, list_tup, tuple_tup, listC_tup, sv_tup, still_lst, list_lst, tuple_lst, listC_lst, sv_lst, still_frz, list_frz, tuple_frz, listC_frz, sv_frz, r1_int, r2_int, r3_int, tg_name, tg_tup, setAll_cons, setAll_nil, mtE, g1_one, g2_two, mkL_0, mkT_0, mkC_0, mkL_1, mkT_1, mkC_1, mkL_2, mkT_2, mkC_2, mkL_3, mkT_3, mkC_3, mkL_4, mkT_4, mkC_4, bnd_S, ret_S, lineN_eq2, wipe_nil, wipe_cons, -sl_tup, h1, hc, h2])
  subst e1 e2
  have hl : (1 : Int) ≤ (ps.length : Nat) ∧ ((ps.length : Nat) : Int) ≤ 4 := by
    have := W.len
    have := List.length_pos_iff.mpr W.ne
    omega
  have hlen : lenD (psD ps) S2 = .ok (.int (ps.length : Nat)) S2 := by
    unfold psD; rw [len_tup, List.length_map]
  have hty : isiD (psD ps) (.ty "tuple") S2 = .ok (.bl true) S2 := rfl
  refine run_nx (ρ0 := [some (psD ps), none, none]) (ρ' := [some (psD ps), o1, o2]) rfl ?_
  refine Eq.trans (seq_nx (ρ' := [some (psD ps), none, none]) (S' := S2) ?_) (Eq.trans (for_ok (ds := enumL (ps.map pkD)) (S' := S2) rfl) e)
  simp only [nat10, nat2, runB, seqS, exS, asgS, retS, retN, dropS, ifS, nxS, nevS, brkS, cntS, setItS, forS, parS, op1, op2, chain, boolT, truT, notT, andT, orT, andE, orE, ifE, nilA, consA, appA, varD, cD, lstE, celE, tupE, slE, itE, itEn, cal_1, cal_2, cal_3, cal_4, cal_5, cal_6, cal_7, yesT, mulOk, List.map_cons, List.map_nil, List.length_cons, List.length_nil, List.getElem?_cons_zero, List.getElem?_cons_succ, List.set_cons_zero, List.set_cons_succ, List.replicate_succ, List.replicate_zero, List.cons_append, List.nil_append, List.append_nil, List.isEmpty_cons, List.isEmpty_nil, Nat.reduceAdd, Nat.reduceSub, Nat.reduceMul, Nat.reduceLeDiff, Nat.reduceEqDiff, Nat.zero_add, Nat.sub_zero, Nat.sub_self, Bool.not_true, Bool.not_false, Bool.true_and, Bool.false_and, Bool.and_true, Bool.and_false, Bool.true_or, Bool.false_or, Bool.or_true, Bool.or_false, Bool.false_eq_true, Bool.not_eq_true, Bool.not_eq_false, Bool.not_not, decide_eq_true_eq, decide_eq_false_iff_not, decide_true, decide_false, if_true, if_false, reduceIte, reduceCtorEq, Nat.zero_le, and_self, and_true, true_and, or_true, true_or, or_false, false_or, not_true_eq_false, not_false_eq_true, Int.reduceLT, Int.reduceLE, Int.reduceNeg, Int.reduceAdd, Int.reduceMul, Int.reduceSub, Int.reducePow, Int.reduceEq, Int.reduceToNat, Nat.reduceLT, Nat.reducePow, Int.cast_ofNat_Int, isi_non_int, isi_non_bool, isi_non_str, isi_non_tuple, isi_non_list, isi_non_dict, isi_non_tuple_list, isi_non_list_tuple, isi_bl_int, isi_bl_bool, isi_bl_str, isi_bl_tuple, isi_bl_list, isi_bl_dict, isi_bl_tuple_list, isi_bl_list_tuple, isi_int_int, isi_int_bool, isi_int_str, isi_int_tuple, isi_int_list, isi_int_dict, isi_int_tuple_list, isi_int_list_tuple, isi_str_int, isi_str_bool, isi_str_str, isi_str_tuple, isi_str_list, isi_str_dict, isi_str_tuple_list, isi_str_list_tuple, isi_tup_int, isi_tup_bool, isi_tup_str, isi_tup_tuple, isi_tup_list, isi_tup_dict, isi_tup_tuple_list, isi_tup_list_tuple, isi_lst_int, isi_lst_bool, isi_lst_str, isi_lst_tuple, isi_lst_list, isi_lst_dict, isi_lst_tuple_list, isi_lst_list_tuple, isi_frz_int, isi_frz_bool, isi_frz_str, isi_frz_tuple, isi_frz_list, isi_frz_dict, isi_frz_tuple_list, isi_frz_list_tuple, tru_bl, tru_int, tru_non, tru_tup, len_tup, ix_tup, tru_lst, len_lst, ix_lst, tru_frz, len_frz, ix_frz, sl_lst, sl_frz, sl_tup, asInt_int, at0, at1, at2, at3, at4, add_int, add_tup, add_str, add_lst, addC_lst, repC_lst, sub_int, mul_int, mul_lst, mul_tup, div_int, mod_int, pow_int, neg_int, not_bl, lt_int, le_int, gt_int, ge_int, eq_int, eq_str, eq_bl, eq_non, eq_int_non, eq_non_int, eq_str_non, eq_non_str, eq_bl_non, eq_non_bl, ne_int, ne_str, ne_bl, ne_non, ne_int_non, ne_non_int, ne_str_non, ne_non_str, ne_bl_non, ne_non_bl, isNone_non, isNone_int, isNone_str, isNone_bl, isNone_tup, isNone_lst, isNone_frz, max2_int, min2_int, abs_int, int_int, int_bl, still_tup, list_tup, tuple_tup, listC_tup, sv_tup, still_lst, list_lst, tuple_lst, listC_lst, sv_lst, still_frz, list_frz, tuple_frz, listC_frz, sv_frz, r1_int, r2_int, r3_int, tg_name, tg_tup, setAll_cons, setAll_nil, mtE, g1_one, g2_two, mkL_0, mkT_0, mkC_0, mkL_1, mkT_1, mkC_1, mkL_2, mkT_2, mkC_2, mkL_3, mkT_3, mkC_3, mkL_4, mkT_4, mkC_4, bnd_S, ret_S, lineN_eq2, wipe_nil, wipe_cons, hty, hlen, hl.1, hl.2]
end F

set_option linter.all false
set_option autoImplicit false
set_option maxRecDepth 100000
namespace F
open PySem
def pk (ps : List Pk) (i : Nat) : Pk := ps.getD i (1, 1)
def chI (ps : List Pk) : Nat → Nat
  | 0 => 0
  | k + 1 => if (pk ps k).2 * (pk ps (chI ps k)).1 < (pk ps (chI ps k)).2 * (pk ps k).1 then k else chI ps k
theorem pk_eq {ps : List Pk} {i : Nat} (h : i < ps.length) : pk ps i = ps[i] := by
  unfold pk; rw [List.getD_eq_getElem?_getD, List.getElem?_eq_getElem h]; rfl
theorem pk_mem2 {ps : List Pk} {i : Nat} (h : i < ps.length) : pk ps i ∈ ps := by rw [pk_eq h]; exact List.getElem_mem h
theorem chI_lt {ps : List Pk} (W : WP ps) : ∀ k, k ≤ ps.length → chI ps k < ps.length
  | 0, _ => List.length_pos_iff.mpr W.ne
  | k + 1, h => by
    unfold chI
    split
    · omega
    · exact chI_lt W k (by omega)
theorem chI_le {ps : List Pk} (W : WP ps) : ∀ k, k ≤ ps.length → ∀ i, i < k → (pk ps (chI ps k)).2 * (pk ps i).1 ≤ (pk ps i).2 * (pk ps (chI ps k)).1
  | 0, _, i, hi => by omega
  | k + 1, h, i, hi => by
    have hl := chI_lt W k (by omega)
    have s1 := W.sz _ (pk_mem2 hl)
    unfold chI
    split
    · rename_i hb
      by_cases e : i = k
      · subst e; exact Nat.le_refl _
      · have ih := chI_le W k (by omega) i (by omega)
        have a1 : (pk ps k).2 * (pk ps (chI ps k)).1 * (pk ps i).1 ≤ (pk ps (chI ps k)).2 * (pk ps k).1 * (pk ps i).1 := Nat.mul_le_mul_right _ (Nat.le_of_lt hb)
        have a2 : (pk ps (chI ps k)).2 * (pk ps i).1 * (pk ps k).1 ≤ (pk ps i).2 * (pk ps (chI ps k)).1 * (pk ps k).1 := Nat.mul_le_mul_right _ ih
        have a3 : (pk ps k).2 * (pk ps i).1 * (pk ps (chI ps k)).1 ≤ (pk ps i).2 * (pk ps k).1 * (pk ps (chI ps k)).1 := by
          calc (pk ps k).2 * (pk ps i).1 * (pk ps (chI ps k)).1 = (pk ps k).2 * (pk ps (chI ps k)).1 * (pk ps i).1 := by rw [Nat.mul_right_comm]
            _ ≤ (pk ps (chI ps k)).2 * (pk ps k).1 * (pk ps i).1 := a1
            _ = (pk ps (chI ps k)).2 * (pk ps i).1 * (pk ps k).1 := by rw [Nat.mul_right_comm]
            _ ≤ (pk ps i).2 * (pk ps (chI ps k)).1 * (pk ps k).1 := a2
            _ = (pk ps i).2 * (pk ps k).1 * (pk ps (chI ps k)).1 := by rw [Nat.mul_right_comm]
        exact Nat.le_of_mul_le_mul_right a3 (by omega)
    · rename_i hb
      by_cases e : i = k
      · subst e; omega
      · exact chI_le W k (by omega) i (by omega)
def best (ps : List Pk) : Pk := pk ps (chI ps ps.length)
theorem best_ok {ps : List Pk} (W : WP ps) : Best ps (best ps) := by
  refine ⟨pk_mem2 (chI_lt W _ (Nat.le_refl _)), fun p hp => ?_⟩
  obtain ⟨i, hi, e⟩ := List.getElem_of_mem hp
  have := chI_le W ps.length (Nat.le_refl _) i hi
  rw [pk_eq hi, e] at this
  exact this
theorem ps_ix {ps : List Pk} {i : Nat} (h : i < ps.length) (S : Store) : ixD (psD ps) (.int (i : Nat)) S = .ok (pkD (pk ps i)) S := by
  unfold psD
  rw [ix_tup, at?_nat, List.getElem?_map, List.getElem?_eq_getElem h, pk_eq h]
  rfl
theorem pk_ix0 (p : Pk) (S : Store) : ixD (pkD p) (.int 0) S = .ok (.int (p.1 : Nat)) S := rfl
theorem pk_ix1 (p : Pk) (S : Store) : ixD (pkD p) (.int 1) S = .ok (.int (p.2 : Nat)) S := rfl
theorem cheapest_ok {ps : List Pk} (W : WP ps) (S : Store) : g_cheapest [psD ps] S = .ok (.int (chI ps ps.length : Nat)) S := by
  obtain ⟨ρ2, S2, e, o1, o2, e1, e2⟩ := forGo_ind (t := .tup [2, 3]) (f := (ifS (boolT (op2 ltD (op2 mulD (op2 ixD (varD 3) (cD (.int 1))) (op2 ixD (op2 ixD (varD 0) (varD 1)) (cD (.int 0)))) (op2 mulD (op2 ixD (op2 ixD (varD 0) (varD 1)) (cD (.int 1))) (op2 ixD (varD 3) (cD (.int 0)))))) (asgS (varD 2) (.name 1)) nxS)) (ds := enumL (ps.map pkD))
    (fun k ρ S' => ∃ o1 o2, ρ = [some (psD ps), some (.int (chI ps k : Nat)), o1, o2] ∧ S' = S) (ρ := [some (psD ps), some (.int (chI ps 0 : Nat)), none, none]) (S := S) ⟨none, none, rfl, rfl⟩ (fun k hk ρ S' ⟨o1, o2, e1, e2⟩ => by
      subst e1 e2
      have hk' : k < ps.length := by rw [enum_len] at hk; exact hk
      refine ⟨[some (psD ps), some (.int (chI ps k : Nat)), some (.int (k : Nat)), some (pkD ps[k])], [some (psD ps), some (.int (chI ps (k + 1) : Nat)), some (.int (k : Nat)), some (pkD ps[k])], S', by rw [enum_get ps hk']; rfl, .inl ?_, _, _, rfl, rfl⟩
      have hc := ps_ix (chI_lt W k (by omega)) S'
      have m1 := W.sz _ (pk_mem2 (chI_lt W k (by omega)))
      have m2 := W.pr _ (pk_mem2 (chI_lt W k (by omega)))
      have m3 := W.sz _ (List.getElem_mem hk')
      have m4 := W.pr _ (List.getElem_mem hk')
      have q1 : (-18446744073709551616 : Int) < (ps[k].2 : Nat) := by omega
      have q2 : ((ps[k].2 : Nat) : Int) < 18446744073709551616 := by omega
      have q3 : (-18446744073709551616 : Int) < ((pk ps (chI ps k)).2 : Nat) := by omega
      have q4 : (((pk ps (chI ps k)).2 : Nat) : Int) < 18446744073709551616 := by omega
      have hlt : ((ps[k].2 : Nat) : Int) * ((pk ps (chI ps k)).1 : Nat) < ((pk ps (chI ps k)).2 : Nat) * (ps[k].1 : Nat) ↔ ps[k].2 * (pk ps (chI ps k)).1 < (pk ps (chI ps k)).2 * ps[k].1 := by
        rw [← Int.natCast_mul, ← Int.natCast_mul]; omega
      by_cases h : ps[k].2 * (pk ps (chI ps k)).1 < (pk ps (chI ps k)).2 * ps[k].1
      · have e : chI ps (k + 1) = k := by
          show (if (pk ps k).2 * (pk ps (chI ps k)).1 < (pk ps (chI ps k)).2 * (pk ps k).1 then k else chI ps k) = k
          rw [pk_eq hk', if_pos h]
        simp only [nat10, nat2, runB, seqS, exS, asgS, retS, retN, dropS, ifS, nxS, nevS, brkS, cntS, setItS, forS, parS, op1, op2, chain, boolT, truT, notT, andT, orT, andE, orE, ifE, nilA, consA, appA, varD, cD, lstE, celE, tupE, slE, itE, itEn, cal_1, cal_2, cal_3, cal_4, cal_5, cal_6, cal_7, yesT, mulOk, List.map_cons, List.map_nil, List.length_cons, List.length_nil, List.getElem?_cons_zero, List.getElem?_cons_succ, List.set_cons_zero, List.set_cons_succ, List.replicate_succ, List.replicate_zero, List.cons_append, List.nil_append, List.append_nil, List.isEmpty_cons, List.isEmpty_nil, Nat.reduceAdd, Nat.reduceSub, Nat.reduceMul, Nat.reduceLeDiff, Nat.reduceEqDiff, Nat.zero_add, Nat.sub_zero, Nat.sub_self, Bool.not_true, Bool.not_false, Bool.true_and, Bool.false_and, Bool.and_true, Bool.and_false, Bool.true_or, Bool.false_or, Bool.or_true, Bool.or_false, Bool.false_eq_true, Bool.not_eq_true, Bool.not_eq_false, Bool.not_not, decide_eq_true_eq, decide_eq_false_iff_not, decide_true, decide_false, if_true, if_false, reduceIte, reduceCtorEq, Nat.zero_le, and_self, and_true, true_and, or_true, true_or, or_false, false_or, not_true_eq_false, not_false_eq_true, Int.reduceLT, Int.reduceLE, Int.reduceNeg, Int.reduceAdd, Int.reduceMul, Int.reduceSub, Int.reducePow, Int.reduceEq, Int.reduceToNat, Nat.reduceLT, Nat.reducePow, Int.cast_ofNat_Int, isi_non_int, isi_non_bool, isi_non_str, isi_non_tuple, isi_non_list, isi_non_dict, isi_non_tuple_list, isi_non_list_tuple, isi_bl_int, isi_bl_bool, isi_bl_str, isi_bl_tuple, isi_bl_list, isi_bl_dict, isi_bl_tuple_list, isi_bl_list_tuple, isi_int_int, isi_int_bool, isi_int_str, isi_int_tuple, isi_int_list, isi_int_dict, isi_int_tuple_list, isi_int_list_tuple, isi_str_int, isi_str_bool, isi_str_str, isi_str_tuple, isi_str_list, isi_str_dict, isi_str_tuple_list, isi_str_list_tuple, isi_tup_int, isi_tup_bool, isi_tup_str, isi_tup_tuple, isi_tup_list, isi_tup_dict, isi_tup_tuple_list, isi_tup_list_tuple, isi_lst_int, isi_lst_bool, isi_lst_str, isi_lst_tuple, isi_lst_list, isi_lst_dict, isi_lst_tuple_list, isi_lst_list_tuple, isi_frz_int, isi_frz_bool, isi_frz_str, isi_frz_tuple, isi_frz_list, isi_frz_dict, isi_frz_tuple_list, isi_frz_list_tuple, tru_bl, tru_int, tru_non, tru_tup, len_tup, ix_tup, tru_lst, len_lst, ix_lst, tru_frz, len_frz, ix_frz, sl_lst, sl_frz, sl_tup, asInt_int, at0, at1, at2, at3, at4, add_int, add_tup, add_str, add_lst, addC_lst, repC_lst, sub_int, mul_int, mul_lst, mul_tup, div_int, mod_int, pow_int, neg_int, not_bl, lt_int, le_int, gt_int, ge_int, eq_int, eq_str, eq_bl, eq_non, eq_int_non, eq_non_int, eq_str_non, eq_non_str, eq_bl_non, eq_non_bl, ne_int, ne_str, ne_bl, ne_non, ne_int_non, ne_non_int, ne_str_non, ne_non_str, ne_bl_non, ne_non_bl, isNone_non, isNone_int, isNone_str, isNone_bl, isNone_tup, isNone_lst, isNone_frz, max2_int, min2_int, abs_int, int_int, int_bl, still_tup, list_tup, tuple_tup, listC_tup, sv_tup, still_lst, list_lst, tuple_lst, listC_lst, sv_lst, still_frz, list_frz, tuple_frz, listC_frz, sv_frz, r1_int, r2_int, r3_int, tg_name, tg_tup, setAll_cons, setAll_nil, mtE, g1_one, g2_two, mkL_0, mkT_0, mkC_0, mkL_1, mkT_1, mkC_1, mkL_2, mkT_2, mkC_2, mkL_3, mkT_3, mkC_3, mkL_4, mkT_4, mkC_4, bnd_S, ret_S, lineN_eq2, wipe_nil, wipe_cons, hc, pk_ix0, pk_ix1, q1, q2, q3, q4, hlt, h, e]
      · have e : chI ps (k + 1) = chI ps k := by
          show (if (pk ps k).2 * (pk ps (chI ps k)).1 < (pk ps (chI ps k)).2 * (pk ps k).1 then k else chI ps k) = _
          rw [pk_eq hk', if_neg h]
        simp only [nat10, nat2, runB, seqS, exS, asgS, retS, retN, dropS, ifS, nxS, nevS, brkS, cntS, setItS, forS, parS, op1, op2, chain, boolT, truT, notT, andT, orT, andE, orE, ifE, nilA, consA, appA, varD, cD, lstE, celE, tupE, slE, itE, itEn, cal_1, cal_2, cal_3, cal_4, cal_5, cal_6, cal_7, yesT, mulOk, List.map_cons, List.map_nil, List.length_cons, List.length_nil, List.getElem?_cons_zero, List.getElem?_cons_succ, List.set_cons_zero, List.set_cons_succ, List.replicate_succ, List.replicate_zero, List.cons_append, List.nil_append, List.append_nil, List.isEmpty_cons, List.isEmpty_nil, Nat.reduceAdd, Nat.reduceSub, Nat.reduceMul, Nat.reduceLeDiff, Nat.reduceEqDiff, Nat.zero_add, Nat.sub_zero, Nat.sub_self, Bool.not_true, Bool.not_false, Bool.true_and, Bool.false_and, Bool.and_true, Bool.and_false, Bool.true_or, Bool.false_or, Bool.or_true, Bool.or_false, Bool.false_eq_true, Bool.not_eq_true, Bool.not_eq_false, Bool.not_not, decide_eq_true_eq, decide_eq_false_iff_not, decide_true, decide_false, if_true, if_false, reduceIte, reduceCtorEq, Nat.zero_le, and_self, and_true, true_and, or_true, true_or, or_false, false_or, not_true_eq_false, not_false_eq_true, Int.reduceLT, Int.reduceLE, Int.reduceNeg, Int.reduceAdd, Int.reduceMul, Int.reduceSub, Int.reducePow, Int.reduceEq, Int.reduceToNat, Nat.reduceLT, Nat.reducePow, Int.cast_ofNat_Int, isi_non_int, isi_non_bool, isi_non_str, isi_non_tuple, isi_non_list, isi_non_dict, isi_non_tuple_list, isi_non_list_tuple, isi_bl_int, isi_bl_bool, isi_bl_str, isi_bl_tuple, isi_bl_list, isi_bl_dict, isi_bl_tuple_list, isi_bl_list_tuple, isi_int_int, isi_int_bool, isi_int_str, isi_int_tuple, isi_int_list, isi_int_dict, isi_int_tuple_list, isi_int_list_tuple, isi_str_int, isi_str_bool, isi_str_str, isi_str_tuple, isi_str_list, isi_str_dict, isi_str_tuple_list, isi_str_list_tuple, isi_tup_int, isi_tup_bool, isi_tup_str, isi_tup_tuple, isi_tup_list, isi_tup_dict, isi_tup_tuple_list, isi_tup_list_tuple, isi_lst_int, isi_lst_bool, isi_lst_str, isi_lst_tuple, isi_lst_list, isi_lst_dict, isi_lst_tuple_list, isi_lst_list_tuple, isi_frz_int, isi_frz_bool, isi_frz_str, isi_frz_tuple, isi_frz_list, isi_frz_dict, isi_frz_tuple_list, isi_frz_list_tuple, tru_bl, tru_int, tru_non, tru_tup, len_tup, ix_tup, tru_lst, len_lst, ix_lst, tru_frz, len_frz, ix_frz, sl_lst, sl_frz, sl_tup, asInt_int, at0, at1, at2, at3, at4, add_int, add_tup, add_str, add_lst, addC_lst, repC_lst, sub_int, mul_int, mul_lst, mul_tup, div_int, mod_int, pow_int, neg_int, not_bl, lt_int, le_int, gt_int, ge_int, eq_int, eq_str, eq_bl, eq_non, eq_int_non, eq_non_int, eq_str_non, eq_non_str, eq_bl_non, eq_non_bl, ne_int, ne_str, ne_bl, ne_non, ne_int_non, ne_non_int, ne_str_non, ne_non_str, ne_bl_non, ne_non_bl, isNone_non, isNone_int, isNone_str, isNone_bl, isNone_tup, isNone_lst, isNone_frz, max2_int, min2_int, abs_int, int_int, int_bl, still_tup, list_tup, tuple_tup, listC_tup, sv_tup, still_lst, list_lst, tuple_lst, listC_lst, sv_lst, still_frz, list_frz, tuple_frz, listC_frz, sv_frz, r1_int, r2_int, r3_int, tg_name, tg_tup, setAll_cons, setAll_nil, mtE, g1_one, g2_two, mkL_0, mkT_0, mkC_0, mkL_1, mkT_1, mkC_1, mkL_2, mkT_2, mkC_2, mkL_3, mkT_3, mkC_3, mkL_4, mkT_4, mkC_4, bnd_S, ret_S, lineN_eq2, wipe_nil, wipe_cons, hc, pk_ix0, pk_ix1, q1, q2, q3, q4, hlt, h, e])
  subst e1 e2
  refine run_rt (ρ0 := [some (psD ps), none, none, none]) rfl ?_
  refine Eq.trans (seq_nx (asg_ok (d := .int 0) rfl rfl)) ?_
  refine Eq.trans (seq_nx ((for_ok (ds := enumL (ps.map pkD)) (S' := S2) rfl).trans e)) ?_
  rw [enum_len]
  rfl
def mxN : List Nat → Nat
  | [] => 0
  | [a] => a
  | a :: b :: r => max a (mxN (b :: r))
theorem mxN_le : ∀ {l : List Nat} {x : Nat}, x ∈ l → x ≤ mxN l
  | [a], x, h => by simp at h; subst h; exact Nat.le_refl _
  | a :: b :: r, x, h => by
    show x ≤ max a (mxN (b :: r))
    rcases List.mem_cons.mp h with rfl | h
    · omega
    · have := mxN_le h; omega
theorem mxN_of {l : List Nat} {M : Nat} : (∀ x ∈ l, x ≤ M) → mxN l ≤ M := by
  induction l with
  | nil => intro _; exact Nat.zero_le _
  | cons a r ih =>
    intro h
    cases r with
    | nil => exact h a (by simp)
    | cons b r =>
      show max a (mxN (b :: r)) ≤ M
      have := h a (by simp)
      have := ih (fun x hx => h x (by simp [hx]))
      omega
theorem maxI_nat : ∀ l : List Nat, maxI (l.map fun x => ((x : Nat) : Int)) = (mxN l : Nat)
  | [] => rfl
  | [a] => rfl
  | a :: b :: r => by
    have := maxI_nat (b :: r)
    rw [List.map_cons, List.map_cons]
    show max ((a : Nat) : Int) (maxI (((b : Nat) : Int) :: r.map fun x => ((x : Nat) : Int))) = ((max a (mxN (b :: r)) : Nat) : Int)
    rw [List.map_cons] at this
    rw [this]
    omega
def stA (ps : List Pk) : Nat := ((best ps).1 - 1) * mxN (ps.map (·.1))
theorem stA_le {ps : List Pk} (W : WP ps) : stA ps ≤ 132 := by
  have h1 := (W.sz _ (best_ok W).mem).2
  have h2 : mxN (ps.map (·.1)) ≤ 12 := mxN_of fun x hx => by
    obtain ⟨p, hp, rfl⟩ := List.mem_map.mp hx
    exact (W.sz p hp).2
  have : stA ps ≤ 11 * 12 := Nat.mul_le_mul (by omega) h2
  omega
theorem settled_ok {ps : List Pk} (W : WP ps) (S : Store) : g_settled_amount [psD ps] S = .ok (.int (stA ps : Nat)) S := by
  have hc := cheapest_ok W S
  have hi := ps_ix (chI_lt W ps.length (Nat.le_refl _)) S
  have hl := lcE_all (own := [1]) (t := .name 1) (fi := itE (varD 0)) (ft := yesT) (fe := op2 ixD (varD 1) (cD (.int 0))) (ρ := [some (psD ps), none]) (S := S) pkD (fun p => .int (p.1 : Nat)) ps rfl (by have := W.len; rw [lineN_eq2]; omega) (fun p _ => ⟨[some (psD ps), some (pkD p)], rfl, rfl, rfl⟩)
  have hm : maxLD (.lst (ps.map fun p => D.int (p.1 : Nat))) S = .ok (.int (mxN (ps.map (·.1)) : Nat)) S := by
    have e1 := ints?_map (fun p : Pk => ((p.1 : Nat) : Int)) ps
    have e2 := maxI_nat (ps.map (·.1))
    rw [List.map_map] at e2
    cases ps with
    | nil => exact absurd rfl W.ne
    | cons p r =>
      show (match ints? ((p :: r).map fun p : Pk => D.int (p.1 : Nat)) with | some (n :: ns) => Out.ok (D.int (maxI (n :: ns))) S | _ => .stuck) = _
      rw [e1]
      show Out.ok (D.int (maxI ((p :: r).map fun p : Pk => ((p.1 : Nat) : Int)))) S = _
      have e3 : maxI ((p :: r).map fun p : Pk => ((p.1 : Nat) : Int)) = ((mxN ((p :: r).map (·.1)) : Nat) : Int) := e2
      rw [e3]
  have hb := W.sz _ (best_ok W).mem
  have q1 : (-18446744073709551616 : Int) < (((pk ps (chI ps ps.length)).1 : Nat) : Int) - 1 := by unfold best at hb; omega
  have q2 : (((pk ps (chI ps ps.length)).1 : Nat) : Int) - 1 < 18446744073709551616 := by unfold best at hb; omega
  have hmul : ((((pk ps (chI ps ps.length)).1 : Nat) : Int) - 1) * (mxN (ps.map (·.1)) : Nat) = (stA ps : Nat) := by
    unfold stA
    rw [Int.natCast_mul]
    congr 1
    unfold best at hb ⊢
    omega
  simp only [g_settled_amount, b_settled_amount, nat10, nat2, runB, seqS, exS, asgS, retS, retN, dropS, ifS, nxS, nevS, brkS, cntS, setItS, forS, parS, op1, op2, chain, boolT, truT, notT, andT, orT, andE, orE, ifE, nilA, consA, appA, varD, cD, lstE, celE, tupE, slE, itE, itEn, cal_1, cal_2, cal_3, cal_4, cal_5, cal_6, cal_7, yesT, mulOk, List.map_cons, List.map_nil, List.length_cons, List.length_nil, List.getElem?_cons_zero, List.getElem?_cons_succ, List.set_cons_zero, List.set_cons_succ, List.replicate_succ, List.replicate_zero, List.cons_append, List.nil_append, List.append_nil, List.isEmpty_cons, List.isEmpty_nil, Nat.reduceAdd, Nat.reduceSub, Nat.reduceMul, Nat.reduceLeDiff, Nat.reduceEqDiff, Nat.zero_add, Nat.sub_zero, Nat.sub_self, Bool.not_true, Bool.not_false, Bool.true_and, Bool.false_and, Bool.and_true, Bool.and_false, Bool.true_or, Bool.false_or, Bool.or_true, Bool.or_false, Bool.false_eq_true, Bool.not_eq_true, Bool.not_eq_false, Bool.not_not, decide_eq_true_eq, decide_eq_false_iff_not, decide_true, decide_false, if_true, if_false, reduceIte, reduceCtorEq, Nat.zero_le, and_self, and_true, true_and, or_true, true_or, or_false, false_or, not_true_eq_false, not_false_eq_true, Int.reduceLT, Int.reduceLE, Int.reduceNeg, Int.reduceAdd, Int.reduceMul, Int.reduceSub, Int.reducePow, Int.reduceEq, Int.reduceToNat, Nat.reduceLT, Nat.reducePow, Int.cast_ofNat_Int, isi_non_int, isi_non_bool, isi_non_str, isi_non_tuple, isi_non_list, isi_non_dict, isi_non_tuple_list, isi_non_list_tuple, isi_bl_int, isi_bl_bool, isi_bl_str, isi_bl_tuple, isi_bl_list, isi_bl_dict, isi_bl_tuple_list, isi_bl_list_tuple, isi_int_int, isi_int_bool, isi_int_str, isi_int_tuple, isi_int_list, isi_int_dict, isi_int_tuple_list, isi_int_list_tuple, isi_str_int, isi_str_bool, isi_str_str, isi_str_tuple, isi_str_list, isi_str_dict, isi_str_tuple_list, isi_str_list_tuple, isi_tup_int, isi_tup_bool, isi_tup_str, isi_tup_tuple, isi_tup_list, isi_tup_dict, isi_tup_tuple_list, isi_tup_list_tuple, isi_lst_int, isi_lst_bool, isi_lst_str, isi_lst_tuple, isi_lst_list, isi_lst_dict, isi_lst_tuple_list, isi_lst_list_tuple, isi_frz_int, isi_frz_bool, isi_frz_str, isi_frz_tuple, isi_frz_list, isi_frz_dict, isi_frz_tuple_list, isi_frz_list_tuple, tru_bl, tru_int, tru_non, tru_tup, len_tup, ix_tup, tru_lst, len_lst, ix_lst, tru_frz, len_frz, ix_frz, sl_lst, sl_frz, sl_tup, asInt_int, at0, at1, at2, at3, at4, add_int, add_tup, add_str, add_lst, addC_lst, repC_lst, sub_int, mul_int, mul_lst, mul_tup, div_int, mod_int, pow_int, neg_int, not_bl, lt_int, le_int, gt_int, ge_int, eq_int, eq_str, eq_bl, eq_non, eq_int_non, eq_non_int, eq_str_non, eq_non_str, eq_bl_non, eq_non_bl, ne_int, ne_str, ne_bl, ne_non, ne_int_non, ne_non_int, ne_str_non, ne_non_str, ne_bl_non, ne_non_bl, isNone_non, isNone_int, isNone_str, isNone_bl, isNone_tup, isNone_lst, isNone_frz, max2_int, min2_int, abs_int, int_int, int_bl, still_tup, list_tup, tuple_tup, listC_tup, sv_tup, still_lst, list_lst, tuple_lst, listC_lst, sv_lst, still_frz, list_frz, tuple_frz, listC_frz, sv_frz, r1_int, r2_int, r3_int, tg_name, tg_tup, setAll_cons, setAll_nil, mtE, g1_one, g2_two, mkL_0, mkT_0, mkC_0, mkL_1, mkT_1, mkC_1, mkL_2, mkT_2, mkC_2, mkL_3, mkT_3, mkC_3, mkL_4, mkT_4, mkC_4, bnd_S, ret_S, lineN_eq2, wipe_nil, wipe_cons, hc, hi, pk_ix0, hl, hm, q1, q2, hmul]
end F

set_option linter.all false
set_option autoImplicit false
set_option maxRecDepth 100000
namespace F
open PySem
theorem prs?_map {α : Type} (f g : α → Int) : ∀ xs : List α, prs? (xs.map fun x => D.tup [.int (f x), .int (g x)]) = some (xs.map fun x => (f x, g x))
  | [] => rfl
  | x :: xs => by
    rw [List.map_cons]
    unfold prs?
    rw [prs?_map f g xs]
    rfl
theorem minP_in : ∀ (ps : List (Int × Int)) (p : Int × Int), minP p ps ∈ p :: ps
  | [], p => by simp [minP]
  | y :: ps, p => by
    have := minP_in ps (if ltP y p = true then y else p)
    show minP (if ltP y p = true then y else p) ps ∈ _
    split at this <;> rename_i h
    · rw [if_pos h]
      rcases List.mem_cons.mp this with e | e
      · rw [e]; simp
      · simp [e]
    · rw [if_neg h]
      rcases List.mem_cons.mp this with e | e
      · rw [e]; simp
      · simp [e]
theorem minP_least : ∀ (ps : List (Int × Int)) (p : Int × Int), ∀ q ∈ p :: ps, (minP p ps).1 ≤ q.1
  | [], p, q, h => by
    have : q = p := by simpa using h
    subst this; exact Int.le_refl _
  | y :: ps, p, q, h => by
    have ih := minP_least ps (if ltP y p = true then y else p)
    show (minP (if ltP y p = true then y else p) ps).1 ≤ q.1
    have h0 := ih _ (List.mem_cons_self ..)
    have hy : (if ltP y p = true then y else p).1 ≤ y.1 ∧ (if ltP y p = true then y else p).1 ≤ p.1 := by
      unfold ltP
      by_cases e : y.1 = p.1
      · rw [if_pos e]; split <;> omega
      · rw [if_neg e]
        by_cases e2 : y.1 < p.1
        · rw [decide_eq_true e2]; simp; omega
        · rw [decide_eq_false e2]; simp; omega
    rcases List.mem_cons.mp h with e | e
    · subst e; omega
    · rcases List.mem_cons.mp e with e | e
      · subst e; omega
      · exact ih q (List.mem_cons_of_mem _ e)
theorem nums_succ (c : Nat → Nat) (n : Nat) : nums c (n + 1) = nums c n ++ [.int (c n : Nat)] := by
  unfold nums
  rw [List.range_succ, List.map_append]; rfl
theorem nums_len (c : Nat → Nat) (n : Nat) : (nums c n).length = n := by unfold nums; rw [List.length_map, List.length_range]
theorem nums_bel (c : Nat → Nat) (n m : Nat) : belL m (nums c n) = true := belL_ints m _ _
theorem belL_mem (m : Nat) : ∀ ds : List D, belL m ds = true → ∀ d ∈ ds, d.bel m = true
  | [], _, d, h => by simp at h
  | y :: ys, e, d, h => by
    have h2 : y.bel m = true ∧ belL m ys = true := by simpa [belL] using e
    rcases List.mem_cons.mp h with rfl | h
    · exact h2.1
    · exact belL_mem m ys h2.2 d h
def some_turn : SE := (lcE [8, 9] (.tup [8, 9]) (itEn (consA (varD 0) nilA)) yesT (tupE (consA (op2 addD (op2 ixD (varD 9) (cD (.int 1))) (op2 ixD (varD 3) (appA (consA (cD (.int 0)) (consA (op2 subD (varD 2) (op2 ixD (varD 9) (cD (.int 0)))) nilA)) (g2 max2D)))) (consA (varD 8) nilA))))
def pt_turn : SS := (seqS (asgS some_turn (.name 5))
  (seqS (asgS (appA (consA (varD 5) nilA) (g1 minPD)) (.tup [6, 7]))
  (seqS (dropS (mtE (varD 3) (consA (varD 6) nilA) appD))
  (dropS (mtE (varD 4) (consA (varD 7) nilA) appD)))))
theorem prices_eq : b_prices_to = (seqS (asgS (tupE (consA (celE (consA (cD (.int 0)) nilA)) (consA (celE (consA (cD .non) nilA)) nilA))) (.tup [3, 4]))
  (seqS (forS (.name 2) (appA (consA (cD (.int 1)) (consA (op2 addD (varD 1) (cD (.int 1))) nilA)) itR2) pt_turn)
  (retS (tupE (consA (varD 3) (consA (varD 4) nilA)))))) := rfl
theorem pt_turn_ok {ps : List Pk} (W : WP ps) {A B : C} {b o5 o6 o7 : Option D} {k : Nat} (hk : k < 5000) {pi : List D} (hpi : pi.length = k + 1) :
    ∃ o5' o6' o7', ∃ x : Int, (∃ j : Nat, x = ((j : Nat) : Int) ∧ j < ps.length ∧ Co ps (k + 1) = (pk ps j).2 + Co ps (k + 1 - (pk ps j).1)) ∧ pt_turn [some (psD ps), b, some (.int ((k + 1 : Nat) : Int)), some (.ref 2), some (.ref 3), o5, o6, o7, none, none] [A, B, .lst (nums (Co ps) (k + 1)), .lst pi]
      = .fl (.nx [some (psD ps), b, some (.int ((k + 1 : Nat) : Int)), some (.ref 2), some (.ref 3), o5', o6', o7', none, none]) [A, B, .lst (nums (Co ps) (k + 2)), .lst (pi ++ [.int x])] := by
  have hS2 : ([A, B, .lst (nums (Co ps) (k + 1)), .lst pi] : Store)[2]? = some (.lst (nums (Co ps) (k + 1))) := rfl
  have hl : 0 < ps.length := List.length_pos_iff.mpr W.ne
  have hW := W.len
  have hlc := lcE_all (own := [8, 9]) (t := .tup [8, 9]) (fi := itEn (consA (varD 0) nilA)) (ft := yesT) (fe := (tupE (consA (op2 addD (op2 ixD (varD 9) (cD (.int 1))) (op2 ixD (varD 3) (appA (consA (cD (.int 0)) (consA (op2 subD (varD 2) (op2 ixD (varD 9) (cD (.int 0)))) nilA)) (g2 max2D)))) (consA (varD 8) nilA))))
    (ρ := [some (psD ps), b, some (.int ((k + 1 : Nat) : Int)), some (.ref 2), some (.ref 3), o5, o6, o7, none, none]) (S := [A, B, .lst (nums (Co ps) (k + 1)), .lst pi])
    (fun i : Nat => D.tup [.int (i : Nat), (ps.map pkD).getD i .non]) (fun i => D.tup [.int ((((pk ps i).2 : Nat) : Int) + (Co ps (k + 1 - (pk ps i).1) : Nat)), .int (i : Nat)]) (List.range ps.length)
    (by
      have : itEn (consA (varD 0) nilA) [some (psD ps), b, some (.int ((k + 1 : Nat) : Int)), some (.ref 2), some (.ref 3), o5, o6, o7, none, none] [A, B, .lst (nums (Co ps) (k + 1)), .lst pi] = .ok (enumL (ps.map pkD)) [A, B, .lst (nums (Co ps) (k + 1)), .lst pi] := rfl
      rw [this, enum_ps])
    (by rw [List.length_range, lineN_eq2]; omega)
    (fun i hi => by
      have hi' : i < ps.length := List.mem_range.mp hi
      have hg : (ps.map pkD).getD i .non = pkD (pk ps i) := by
        rw [List.getD_eq_getElem?_getD, List.getElem?_map, List.getElem?_eq_getElem hi', pk_eq hi']; rfl
      rw [hg]
      refine ⟨[some (psD ps), b, some (.int ((k + 1 : Nat) : Int)), some (.ref 2), some (.ref 3), o5, o6, o7, some (.int (i : Nat)), some (pkD (pk ps i))], rfl, rfl, ?_⟩
      have hs := W.sz _ (pk_mem2 hi')
      have hmax : (if ((k + 1 : Nat) : Int) - ((pk ps i).1 : Nat) > 0 then ((k + 1 : Nat) : Int) - ((pk ps i).1 : Nat) else 0) = ((k + 1 - (pk ps i).1 : Nat) : Int) := by split <;> omega
      have hix : ixD (.ref 2) (.int ((k + 1 - (pk ps i).1 : Nat) : Int)) [A, B, .lst (nums (Co ps) (k + 1)), .lst pi] = .ok (.int (Co ps (k + 1 - (pk ps i).1) : Nat)) [A, B, .lst (nums (Co ps) (k + 1)), .lst pi] := ix_cell hS2 (by
        rw [at?_nat]
        have : k + 1 - (pk ps i).1 < k + 1 := by omega
        simp [nums, this])
      simp only [nat10, nat2, runB, seqS, exS, asgS, retS, retN, dropS, ifS, nxS, nevS, brkS, cntS, setItS, forS, parS, op1, op2, chain, boolT, truT, notT, andT, orT, andE, orE, ifE, nilA, consA, appA, varD, cD, lstE, celE, tupE, slE, itE, itEn, cal_1, cal_2, cal_3, cal_4, cal_5, cal_6, cal_7, yesT, mulOk, List.map_cons, List.map_nil, List.length_cons, List.length_nil, List.getElem?_cons_zero, List.getElem?_cons_succ, List.set_cons_zero, List.set_cons_succ, List.replicate_succ, List.replicate_zero, List.cons_append, List.nil_append, List.append_nil, List.isEmpty_cons, List.isEmpty_nil, Nat.reduceAdd, Nat.reduceSub, Nat.reduceMul, Nat.reduceLeDiff, Nat.reduceEqDiff, Nat.zero_add, Nat.sub_zero, Nat.sub_self, Bool.not_true, Bool.not_false, Bool.true_and, Bool.false_and, Bool.and_true, Bool.and_false, Bool.true_or, Bool.false_or, Bool.or_true, Bool.or_false, Bool.false_eq_true, Bool.not_eq_true, Bool.not_eq_false, Bool.not_not, decide_eq_true_eq, decide_eq_false_iff_not, decide_true, decide_false, if_true, if_false, reduceIte, reduceCtorEq, Nat.zero_le, and_self, and_true, true_and, or_true, true_or, or_false, false_or, not_true_eq_false, not_false_eq_true, Int.reduceLT, Int.reduceLE, Int.reduceNeg, Int.reduceAdd, Int.reduceMul, Int.reduceSub, Int.reducePow, Int.reduceEq, Int.reduceToNat, Nat.reduceLT, Nat.reducePow, Int.cast_ofNat_Int, isi_non_int, isi_non_bool, isi_non_str, isi_non_tuple, isi_non_list, isi_non_dict, isi_non_tuple_list, isi_non_list_tuple, isi_bl_int, isi_bl_bool, isi_bl_str, isi_bl_tuple, isi_bl_list, isi_bl_dict, isi_bl_tuple_list, isi_bl_list_tuple, isi_int_int, isi_int_bool, isi_int_str, isi_int_tuple, isi_int_list, isi_int_dict, isi_int_tuple_list, isi_int_list_tuple, isi_str_int, isi_str_bool, isi_str_str, isi_str_tuple, isi_str_list, isi_str_dict, isi_str_tuple_list, isi_str_list_tuple, isi_tup_int, isi_tup_bool, isi_tup_str, isi_tup_tuple, isi_tup_list, isi_tup_dict, isi_tup_tuple_list, isi_tup_list_tuple, isi_lst_int, isi_lst_bool, isi_lst_str, isi_lst_tuple, isi_lst_list, isi_lst_dict, isi_lst_tuple_list, isi_lst_list_tuple, isi_frz_int, isi_frz_bool, isi_frz_str, isi_frz_tuple, isi_frz_list, isi_frz_dict, isi_frz_tuple_list, isi_frz_list_tuple, tru_bl, tru_int, tru_non, tru_tup, len_tup, ix_tup, tru_lst, len_lst, ix_lst, tru_frz, len_frz, ix_frz, sl_lst, sl_frz, sl_tup, asInt_int, at0, at1, at2, at3, at4, add_int, add_tup, add_str, add_lst, addC_lst, repC_lst, sub_int, mul_int, mul_lst, mul_tup, div_int, mod_int, pow_int, neg_int, not_bl, lt_int, le_int, gt_int, ge_int, eq_int, eq_str, eq_bl, eq_non, eq_int_non, eq_non_int, eq_str_non, eq_non_str, eq_bl_non, eq_non_bl, ne_int, ne_str, ne_bl, ne_non, ne_int_non, ne_non_int, ne_str_non, ne_non_str, ne_bl_non, ne_non_bl, isNone_non, isNone_int, isNone_str, isNone_bl, isNone_tup, isNone_lst, isNone_frz, max2_int, min2_int, abs_int, int_int, int_bl, still_tup, list_tup, tuple_tup, listC_tup, sv_tup, still_lst, list_lst, tuple_lst, listC_lst, sv_lst, still_frz, list_frz, tuple_frz, listC_frz, sv_frz, r1_int, r2_int, r3_int, tg_name, tg_tup, setAll_cons, setAll_nil, mtE, g1_one, g2_two, mkL_0, mkT_0, mkC_0, mkL_1, mkT_1, mkC_1, mkL_2, mkT_2, mkC_2, mkL_3, mkT_3, mkC_3, mkL_4, mkT_4, mkC_4, bnd_S, ret_S, lineN_eq2, wipe_nil, wipe_cons, pk_ix0, pk_ix1, hmax, hix])
  -- the least
  have hpr := prs?_map (fun i : Nat => (((pk ps i).2 : Nat) : Int) + (Co ps (k + 1 - (pk ps i).1) : Nat)) (fun i => ((i : Nat) : Int)) (List.range ps.length)
  obtain ⟨p0, pr, hpp⟩ : ∃ p0 pr, ((List.range ps.length).map fun i : Nat => ((((pk ps i).2 : Nat) : Int) + (Co ps (k + 1 - (pk ps i).1) : Nat), ((i : Nat) : Int))) = p0 :: pr := by
    cases q : ((List.range ps.length).map fun i : Nat => ((((pk ps i).2 : Nat) : Int) + (Co ps (k + 1 - (pk ps i).1) : Nat), ((i : Nat) : Int))) with
    | nil =>
      have := congrArg List.length q
      rw [List.length_map, List.length_range, List.length_nil] at this
      omega
    | cons a l => exact ⟨a, l, rfl⟩
  rw [hpp] at hpr
  have hmin : ∀ S, minPD (.lst ((List.range ps.length).map fun i : Nat => D.tup [.int ((((pk ps i).2 : Nat) : Int) + (Co ps (k + 1 - (pk ps i).1) : Nat)), .int (i : Nat)])) S = .ok (.tup [.int (minP p0 pr).1, .int (minP p0 pr).2]) S := fun S => by
    show (match prs? ((List.range ps.length).map fun i : Nat => D.tup [.int ((((pk ps i).2 : Nat) : Int) + (Co ps (k + 1 - (pk ps i).1) : Nat)), .int (i : Nat)]) with | some (p :: ps) => Out.ok (D.tup [.int (minP p ps).1, .int (minP p ps).2]) S | _ => .stuck) = _
    rw [hpr]
  have hval : (minP p0 pr).1 = (Co ps (k + 1) : Nat) := by
    apply Int.le_antisymm
    · obtain ⟨p, hp, e⟩ := C_ex W (a := k + 1) (by omega)
      obtain ⟨i, hi, e2⟩ := List.getElem_of_mem hp
      have := minP_least pr p0 ((((pk ps i).2 : Nat) : Int) + (Co ps (k + 1 - (pk ps i).1) : Nat), ((i : Nat) : Int)) (by
        rw [← hpp]; exact List.mem_map.mpr ⟨i, List.mem_range.mpr hi, rfl⟩)
      rw [pk_eq hi, e2] at this
      rw [e]
      simpa using this
    · have := minP_in pr p0
      rw [← hpp] at this
      obtain ⟨i, hi, e2⟩ := List.mem_map.mp this
      have hi' := List.mem_range.mp hi
      have h3 := C_le W (a := k + 1) (pk_mem2 hi') (by omega)
      rw [← e2]
      show ((Co ps (k + 1) : Nat) : Int) ≤ (((pk ps i).2 : Nat) : Int) + (Co ps (k + 1 - (pk ps i).1) : Nat)
      omega
  have hpick : ∃ j : Nat, (minP p0 pr).2 = j ∧ j < ps.length ∧ Co ps (k + 1) = (pk ps j).2 + Co ps (k + 1 - (pk ps j).1) := by
    have := minP_in pr p0
    rw [← hpp] at this
    obtain ⟨i, hi, e2⟩ := List.mem_map.mp this
    refine ⟨i, by rw [← e2], List.mem_range.mp hi, ?_⟩
    rw [← e2] at hval
    have : (((pk ps i).2 : Nat) : Int) + (Co ps (k + 1 - (pk ps i).1) : Nat) = (Co ps (k + 1) : Nat) := hval
    omega
  refine ⟨some (.lst ((List.range ps.length).map fun i : Nat => D.tup [.int ((((pk ps i).2 : Nat) : Int) + (Co ps (k + 1 - (pk ps i).1) : Nat)), .int (i : Nat)])), some (.int (minP p0 pr).1), some (.int (minP p0 pr).2), (minP p0 pr).2, hpick, ?_⟩
  refine Eq.trans (seq_nx (asg_ok hlc rfl)) ?_
  refine Eq.trans (seq_nx (asg_ok (d := .tup [.int (minP p0 pr).1, .int (minP p0 pr).2]) (S' := [A, B, .lst (nums (Co ps) (k + 1)), .lst pi]) (hmin _) rfl)) ?_
  refine Eq.trans (seq_nx (drop_ok (d := .non) (S' := [A, B, .lst (nums (Co ps) (k + 2)), .lst pi]) ?_)) ?_
  · have h1 := app_cell (y := .int (minP p0 pr).1) hS2 (by rw [nums_len, lineN_eq2]; omega)
    have hc := chk_cell hS2
    rw [hval] at h1
    rw [nums_succ (Co ps) (k + 1)]
    refine Eq.trans (bnd_ok (a := .ref 2) (S1 := [A, B, .lst (nums (Co ps) (k + 1)), .lst pi]) rfl) ?_
    refine Eq.trans (bnd_ok hc) ?_
    rw [← hval] at h1 ⊢
    exact h1
  · have hS3 : ([A, B, .lst (nums (Co ps) (k + 2)), .lst pi] : Store)[3]? = some (.lst pi) := rfl
    refine drop_ok (d := .non) ?_
    have h1 := app_cell (y := .int (minP p0 pr).2) hS3 (by rw [hpi, lineN_eq2]; omega)
    have hc := chk_cell hS3
    refine Eq.trans (bnd_ok (a := .ref 3) (S1 := [A, B, .lst (nums (Co ps) (k + 2)), .lst pi]) rfl) ?_
    refine Eq.trans (bnd_ok hc) ?_
    exact h1
def PiOk (ps : List Pk) (n : Nat) (pi : List D) : Prop := ∀ k, k < n → ∃ j : Nat, pi[k + 1]? = some (.int (j : Nat)) ∧ j < ps.length ∧ Co ps (k + 1) = (pk ps j).2 + Co ps (k + 1 - (pk ps j).1)
theorem prices_to_ok {ps : List Pk} (W : WP ps) {n : Nat} (hn : n < 5000) {S : Store} (hS : HI S) : ∃ pi, PiOk ps n pi ∧ g_prices_to [psD ps, .int (n : Nat)] S = .ok (.tup [.lst (nums (Co ps) (n + 1)), .lst pi]) S := by
  obtain ⟨A, B, rfl, hA, hB⟩ := hS.two
  obtain ⟨ρ2, S2, e, o2, o5, o6, o7, pi, e1, e2, e3, e4, eP⟩ := forGo_ind (t := .name 2) (f := pt_turn) (ds := (List.range n).map fun (k : Nat) => D.int (1 + (k : Nat) : Int))
    (fun k ρ S => ∃ o2 o5 o6 o7 pi, ρ = [some (psD ps), some (.int (n : Nat)), o2, some (.ref 2), some (.ref 3), o5, o6, o7, none, none] ∧ S = [A, B, .lst (nums (Co ps) (k + 1)), .lst pi] ∧ pi.length = k + 1 ∧ belL 2 pi = true ∧ PiOk ps k pi)
    (ρ := [some (psD ps), some (.int (n : Nat)), none, some (.ref 2), some (.ref 3), none, none, none, none, none]) (S := [A, B, .lst (nums (Co ps) 1), .lst [.non]])
    ⟨none, none, none, none, [.non], rfl, rfl, rfl, rfl, (fun k hk => by omega)⟩ (fun k hk ρ S ⟨o2, o5, o6, o7, pi, e1, e2, e3, e4, eP⟩ => by
      subst e1 e2
      rw [List.length_map, List.length_range] at hk
      obtain ⟨o5', o6', o7', x, hx, h⟩ := pt_turn_ok W (A := A) (B := B) (b := some (.int (n : Nat))) (o5 := o5) (o6 := o6) (o7 := o7) (k := k) (by omega) e3
      refine ⟨_, _, _, ?_, .inl h, _, o5', o6', o7', _, rfl, rfl, by simp [e3], ?_, fun i hi => ?_⟩
      · rw [List.getElem_map, List.getElem_range, show (1 + (k : Nat) : Int) = ((k + 1 : Nat) : Int) by omega]; rfl
      · refine belL_all 2 _ fun d hd => ?_
        rcases List.mem_append.mp hd with hd | hd
        · exact belL_mem 2 pi e4 d hd
        · have : d = .int x := by simpa using hd
          subst this; rfl
      · by_cases h1 : i < k
        · obtain ⟨j, a1, a2, a3⟩ := eP i h1
          exact ⟨j, by rw [List.getElem?_append_left (by omega)]; exact a1, a2, a3⟩
        · have : i = k := by omega
          subst this
          obtain ⟨j, a1, a2, a3⟩ := hx
          refine ⟨j, ?_, a2, a3⟩
          rw [List.getElem?_append_right (by omega), e3, a1]
          simp)
  subst e1 e2
  rw [List.length_map, List.length_range] at e e3 eP
  have hr : itR2 [.int 1, .int ((n : Nat) + 1 : Int)] [A, B, .lst (nums (Co ps) 1), .lst [.non]] = .ok ((List.range n).map fun (k : Nat) => D.int (1 + (k : Nat) : Int)) [A, B, .lst (nums (Co ps) 1), .lst [.non]] := by
    rw [r2_int, if_pos (by omega), show ((n : Nat) + 1 - 1 : Int).toNat = n by omega]
  have run : runB b_prices_to 10 [psD ps, .int (n : Nat)] [A, B] = .ok (.tup [.ref 2, .ref 3]) ([A, B] ++ [.lst (nums (Co ps) (n + 1)), .lst pi]) := by
    rw [prices_eq]
    refine run_rt (ρ0 := [some (psD ps), some (.int (n : Nat)), none, none, none, none, none, none, none, none]) rfl ?_
    refine Eq.trans (seq_nx (asg_ok (d := .tup [.ref 2, .ref 3]) (S' := [A, B, .lst (nums (Co ps) 1), .lst [.non]]) rfl rfl)) ?_
    refine Eq.trans (seq_nx ((for_ok (ds := (List.range n).map fun (k : Nat) => D.int (1 + (k : Nat) : Int)) (S' := [A, B, .lst (nums (Co ps) 1), .lst [.non]]) (by simp only [nat10, nat2, runB, seqS, exS, asgS, retS, retN, dropS, ifS, nxS, nevS, brkS, cntS, setItS, forS, parS, op1, op2, chain, boolT, truT, notT, andT, orT, andE, orE, ifE, nilA, consA, appA, varD, cD, lstE, celE, tupE, slE, itE, itEn, cal_1, cal_2, cal_3, cal_4, cal_5, cal_6, cal_7, yesT, mulOk, List.map_cons, List.map_nil, List.length_cons, List.length_nil, List.getElem?_cons_zero, List.getElem?_cons_succ, List.set_cons_zero, List.set_cons_succ, List.replicate_succ, List.replicate_zero, List.cons_append, List.nil_append, List.append_nil, List.isEmpty_cons, List.isEmpty_nil, Nat.reduceAdd, Nat.reduceSub, Nat.reduceMul, Nat.reduceLeDiff, Nat.reduceEqDiff, Nat.zero_add, Nat.sub_zero, Nat.sub_self, Bool.not_true, Bool.not_false, Bool.true_and, Bool.false_and, Bool.and_true, Bool.and_false, Bool.true_or, Bool.false_or, Bool.or_true, Bool.or_false, Bool.false_eq_true, Bool.not_eq_true, Bool.not_eq_false, Bool.not_not, decide_eq_true_eq, decide_eq_false_iff_not, decide_true, decide_false, if_true, if_false, reduceIte, reduceCtorEq, Nat.zero_le, and_self, and_true, true_and, or_true, true_or, or_false, false_or, not_true_eq_false, not_false_eq_true, Int.reduceLT, Int.reduceLE, Int.reduceNeg, Int.reduceAdd, Int.reduceMul, Int.reduceSub, Int.reducePow, Int.reduceEq, Int.reduceToNat, Nat.reduceLT, Nat.reducePow, Int.cast_ofNat_Int, isi_non_int, isi_non_bool, isi_non_str, isi_non_tuple, isi_non_list, isi_non_dict, isi_non_tuple_list, isi_non_list_tuple, isi_bl_int, isi_bl_bool, isi_bl_str, isi_bl_tuple, isi_bl_list, isi_bl_dict, isi_bl_tuple_list, isi_bl_list_tuple, isi_int_int, isi_int_bool, isi_int_str, isi_int_tuple, isi_int_list, isi_int_dict, isi_int_tuple_list, isi_int_list_tuple, isi_str_int, isi_str_bool, isi_str_str, isi_str_tuple, isi_str_list, isi_str_dict, isi_str_tuple_list, isi_str_list_tuple, isi_tup_int, isi_tup_bool, isi_tup_str, isi_tup_tuple, isi_tup_list, isi_tup_dict, isi_tup_tuple_list, isi_tup_list_tuple, isi_lst_int, isi_lst_bool, isi_lst_str, isi_lst_tuple, isi_lst_list, isi_lst_dict, isi_lst_tuple_list, isi_lst_list_tuple, isi_frz_int, isi_frz_bool, isi_frz_str, isi_frz_tuple, isi_frz_list, isi_frz_dict, isi_frz_tuple_list, isi_frz_list_tuple, tru_bl, tru_int, tru_non, tru_tup, len_tup, ix_tup, tru_lst, len_lst, ix_lst, tru_frz, len_frz, ix_frz, sl_lst, sl_frz, sl_tup, asInt_int, at0, at1, at2, at3, at4, add_int, add_tup, add_str, add_lst, addC_lst, repC_lst, sub_int, mul_int, mul_lst, mul_tup, div_int, mod_int, pow_int, neg_int, not_bl, lt_int, le_int, gt_int, ge_int, eq_int, eq_str, eq_bl, eq_non, eq_int_non, eq_non_int, eq_str_non, eq_non_str, eq_bl_non, eq_non_bl, ne_int, ne_str, ne_bl, ne_non, ne_int_non, ne_non_int, ne_str_non, ne_non_str, ne_bl_non, ne_non_bl, isNone_non, isNone_int, isNone_str, isNone_bl, isNone_tup, isNone_lst, isNone_frz, max2_int, min2_int, abs_int, int_int, int_bl, still_tup, list_tup, tuple_tup, listC_tup, sv_tup, still_lst, list_lst, tuple_lst, listC_lst, sv_lst, still_frz, list_frz, tuple_frz, listC_frz, sv_frz, r1_int, r2_int, r3_int, tg_name, tg_tup, setAll_cons, setAll_nil, mtE, g1_one, g2_two, mkL_0, mkT_0, mkC_0, mkL_1, mkT_1, mkC_1, mkL_2, mkT_2, mkC_2, mkL_3, mkT_3, mkC_3, mkL_4, mkT_4, mkC_4, bnd_S, ret_S, lineN_eq2, wipe_nil, wipe_cons, -r2_int, hr])).trans e)) ?_
    refine ret_ok ?_
    simp only [nat10, nat2, runB, seqS, exS, asgS, retS, retN, dropS, ifS, nxS, nevS, brkS, cntS, setItS, forS, parS, op1, op2, chain, boolT, truT, notT, andT, orT, andE, orE, ifE, nilA, consA, appA, varD, cD, lstE, celE, tupE, slE, itE, itEn, cal_1, cal_2, cal_3, cal_4, cal_5, cal_6, cal_7, yesT, mulOk, List.map_cons, List.map_nil, List.length_cons, List.length_nil, List.getElem?_cons_zero, List.getElem?_cons_succ, List.set_cons_zero, List.set_cons_succ, List.replicate_succ, List.replicate_zero, List.cons_append, List.nil_append, List.append_nil, List.isEmpty_cons, List.isEmpty_nil, Nat.reduceAdd, Nat.reduceSub, Nat.reduceMul, Nat.reduceLeDiff, Nat.reduceEqDiff, Nat.zero_add, Nat.sub_zero, Nat.sub_self, Bool.not_true, Bool.not_false, Bool.true_and, Bool.false_and, Bool.and_true, Bool.and_false, Bool.true_or, Bool.false_or, Bool.or_true, Bool.or_false, Bool.false_eq_true, Bool.not_eq_true, Bool.not_eq_false, Bool.not_not, decide_eq_true_eq, decide_eq_false_iff_not, decide_true, decide_false, if_true, if_false, reduceIte, reduceCtorEq, Nat.zero_le, and_self, and_true, true_and, or_true, true_or, or_false, false_or, not_true_eq_false, not_false_eq_true, Int.reduceLT, Int.reduceLE, Int.reduceNeg, Int.reduceAdd, Int.reduceMul, Int.reduceSub, Int.reducePow, Int.reduceEq, Int.reduceToNat, Nat.reduceLT, Nat.reducePow, Int.cast_ofNat_Int, isi_non_int, isi_non_bool, isi_non_str, isi_non_tuple, isi_non_list, isi_non_dict, isi_non_tuple_list, isi_non_list_tuple, isi_bl_int, isi_bl_bool, isi_bl_str, isi_bl_tuple, isi_bl_list, isi_bl_dict, isi_bl_tuple_list, isi_bl_list_tuple, isi_int_int, isi_int_bool, isi_int_str, isi_int_tuple, isi_int_list, isi_int_dict, isi_int_tuple_list, isi_int_list_tuple, isi_str_int, isi_str_bool, isi_str_str, isi_str_tuple, isi_str_list, isi_str_dict, isi_str_tuple_list, isi_str_list_tuple, isi_tup_int, isi_tup_bool, isi_tup_str, isi_tup_tuple, isi_tup_list, isi_tup_dict, isi_tup_tuple_list, isi_tup_list_tuple, isi_lst_int, isi_lst_bool, isi_lst_str, isi_lst_tuple, isi_lst_list, isi_lst_dict, isi_lst_tuple_list, isi_lst_list_tuple, isi_frz_int, isi_frz_bool, isi_frz_str, isi_frz_tuple, isi_frz_list, isi_frz_dict, isi_frz_tuple_list, isi_frz_list_tuple, tru_bl, tru_int, tru_non, tru_tup, len_tup, ix_tup, tru_lst, len_lst, ix_lst, tru_frz, len_frz, ix_frz, sl_lst, sl_frz, sl_tup, asInt_int, at0, at1, at2, at3, at4, add_int, add_tup, add_str, add_lst, addC_lst, repC_lst, sub_int, mul_int, mul_lst, mul_tup, div_int, mod_int, pow_int, neg_int, not_bl, lt_int, le_int, gt_int, ge_int, eq_int, eq_str, eq_bl, eq_non, eq_int_non, eq_non_int, eq_str_non, eq_non_str, eq_bl_non, eq_non_bl, ne_int, ne_str, ne_bl, ne_non, ne_int_non, ne_non_int, ne_str_non, ne_non_str, ne_bl_non, ne_non_bl, isNone_non, isNone_int, isNone_str, isNone_bl, isNone_tup, isNone_lst, isNone_frz, max2_int, min2_int, abs_int, int_int, int_bl, still_tup, list_tup, tuple_tup, listC_tup, sv_tup, still_lst, list_lst, tuple_lst, listC_lst, sv_lst, still_frz, list_frz, tuple_frz, listC_frz, sv_frz, r1_int, r2_int, r3_int, tg_name, tg_tup, setAll_cons, setAll_nil, mtE, g1_one, g2_two, mkL_0, mkT_0, mkC_0, mkL_1, mkT_1, mkC_1, mkL_2, mkT_2, mkC_2, mkL_3, mkT_3, mkC_3, mkL_4, mkT_4, mkC_4, bnd_S, ret_S, lineN_eq2, wipe_nil, wipe_cons]
  refine ⟨pi, eP, ?_⟩
  show closeOut 2 (runB b_prices_to 10 [psD ps, .int (n : Nat)] [A, B]) = _
  rw [run]
  refine close_HI hS ?_
  have r2 : (D.ref 2).res 2 ([A, B] ++ [.lst (nums (Co ps) (n + 1)), .lst pi]) = some (.lst (nums (Co ps) (n + 1))) := res_cell (by omega) rfl (nums_bel _ _ _)
  have r3 : (D.ref 3).res 2 ([A, B] ++ [.lst (nums (Co ps) (n + 1)), .lst pi]) = some (.lst pi) := res_cell (by omega) rfl e4
  unfold D.res
  simp only [resL, r2, r3]
end F

set_option linter.all false
set_option autoImplicit false
set_option maxRecDepth 100000
namespace F
open PySem
theorem C_many {ps : List Pk} (W : WP ps) {l : Nat} (hl : stA ps < l + (best ps).1) : ∀ m : Nat, Co ps (l + m * (best ps).1) = Co ps l + m * (best ps).2
  | 0 => by simp
  | m + 1 => by
    have ih := C_many W hl m
    have hM : ∀ p ∈ ps, p.1 ≤ mxN (ps.map (·.1)) := fun p hp => mxN_le (List.mem_map.mpr ⟨p, hp, rfl⟩)
    have h : ((best ps).1 - 1) * mxN (ps.map (·.1)) < (l + m * (best ps).1) + (best ps).1 := by
      have : stA ps = ((best ps).1 - 1) * mxN (ps.map (·.1)) := rfl
      omega
    have := C_shift W (best_ok W) hM h
    rw [Nat.add_mul, Nat.add_mul, Nat.one_mul, Nat.one_mul, ← Nat.add_assoc, this, ih]
    omega
theorem st_ge {ps : List Pk} (W : WP ps) : (best ps).1 ≤ stA ps + 1 := by
  have hb := W.sz _ (best_ok W).mem
  have hM : (best ps).1 ≤ mxN (ps.map (·.1)) := mxN_le (List.mem_map.mpr ⟨_, (best_ok W).mem, rfl⟩)
  have : ((best ps).1 - 1) * 1 ≤ ((best ps).1 - 1) * mxN (ps.map (·.1)) := Nat.mul_le_mul_left _ (by omega)
  have e : stA ps = ((best ps).1 - 1) * mxN (ps.map (·.1)) := rfl
  omega
theorem s_all (gs gc : List D → M D) (P B : D) (a i st z m l : Int) (S : Store) (hc : gc [P] S = .ok (.int i) S) (hi : ixD P (.int i) S = .ok B S) (hB : ixD B (.int 0) S = .ok (.int z) S) (hse : gs [P] S = .ok (.int st) S) (q0 : 0 < z) (q1 : z < 18446744073709551616) (q2 : (-18446744073709551616 : Int) < z)
    (hm : (if (a - st + z - 1) / z > 0 then (a - st + z - 1) / z else 0) = m) (hl : (if a - m * z > 0 then a - m * z else 0) = l) : runB (b_split_amount gs gc) 5 [P, .int a] S = .ok (.tup [.int m, .int l]) S := by
  simp only [b_split_amount, nat10, nat2, runB, seqS, exS, asgS, retS, retN, dropS, ifS, nxS, nevS, brkS, cntS, setItS, forS, parS, op1, op2, chain, boolT, truT, notT, andT, orT, andE, orE, ifE, nilA, consA, appA, varD, cD, lstE, celE, tupE, slE, itE, itEn, cal_1, cal_2, cal_3, cal_4, cal_5, cal_6, cal_7, yesT, mulOk, List.map_cons, List.map_nil, List.length_cons, List.length_nil, List.getElem?_cons_zero, List.getElem?_cons_succ, List.set_cons_zero, List.set_cons_succ, List.replicate_succ, List.replicate_zero, List.cons_append, List.nil_append, List.append_nil, List.isEmpty_cons, List.isEmpty_nil, Nat.reduceAdd, Nat.reduceSub, Nat.reduceMul, Nat.reduceLeDiff, Nat.reduceEqDiff, Nat.zero_add, Nat.sub_zero, Nat.sub_self, Bool.not_true, Bool.not_false, Bool.true_and, Bool.false_and, Bool.and_true, Bool.and_false, Bool.true_or, Bool.false_or, Bool.or_true, Bool.or_false, Bool.false_eq_true, Bool.not_eq_true, Bool.not_eq_false, Bool.not_not, decide_eq_true_eq, decide_eq_false_iff_not, decide_true, decide_false, if_true, if_false, reduceIte, reduceCtorEq, Nat.zero_le, and_self, and_true, true_and, or_true, true_or, or_false, false_or, not_true_eq_false, not_false_eq_true, Int.reduceLT, Int.reduceLE, Int.reduceNeg, Int.reduceAdd, Int.reduceMul, Int.reduceSub, Int.reducePow, Int.reduceEq, Int.reduceToNat, Nat.reduceLT, Nat.reducePow, Int.cast_ofNat_Int, isi_non_int, isi_non_bool, isi_non_str, isi_non_tuple, isi_non_list, isi_non_dict, isi_non_tuple_list, isi_non_list_tuple, isi_bl_int, isi_bl_bool, isi_bl_str, isi_bl_tuple, isi_bl_list, isi_bl_dict, isi_bl_tuple_list, isi_bl_list_tuple, isi_int_int, isi_int_bool, isi_int_str, isi_int_tuple, isi_int_list, isi_int_dict, isi_int_tuple_list, isi_int_list_tuple, isi_str_int, isi_str_bool, isi_str_str, isi_str_tuple, isi_str_list, isi_str_dict, isi_str_tuple_list, isi_str_list_tuple, isi_tup_int, isi_tup_bool, isi_tup_str, isi_tup_tuple, isi_tup_list, isi_tup_dict, isi_tup_tuple_list, isi_tup_list_tuple, isi_lst_int, isi_lst_bool, isi_lst_str, isi_lst_tuple, isi_lst_list, isi_lst_dict, isi_lst_tuple_list, isi_lst_list_tuple, isi_frz_int, isi_frz_bool, isi_frz_str, isi_frz_tuple, isi_frz_list, isi_frz_dict, isi_frz_tuple_list, isi_frz_list_tuple, tru_bl, tru_int, tru_non, tru_tup, len_tup, ix_tup, tru_lst, len_lst, ix_lst, tru_frz, len_frz, ix_frz, sl_lst, sl_frz, sl_tup, asInt_int, at0, at1, at2, at3, at4, add_int, add_tup, add_str, add_lst, addC_lst, repC_lst, sub_int, mul_int, mul_lst, mul_tup, div_int, mod_int, pow_int, neg_int, not_bl, lt_int, le_int, gt_int, ge_int, eq_int, eq_str, eq_bl, eq_non, eq_int_non, eq_non_int, eq_str_non, eq_non_str, eq_bl_non, eq_non_bl, ne_int, ne_str, ne_bl, ne_non, ne_int_non, ne_non_int, ne_str_non, ne_non_str, ne_bl_non, ne_non_bl, isNone_non, isNone_int, isNone_str, isNone_bl, isNone_tup, isNone_lst, isNone_frz, max2_int, min2_int, abs_int, int_int, int_bl, still_tup, list_tup, tuple_tup, listC_tup, sv_tup, still_lst, list_lst, tuple_lst, listC_lst, sv_lst, still_frz, list_frz, tuple_frz, listC_frz, sv_frz, r1_int, r2_int, r3_int, tg_name, tg_tup, setAll_cons, setAll_nil, mtE, g1_one, g2_two, mkL_0, mkT_0, mkC_0, mkL_1, mkT_1, mkC_1, mkL_2, mkT_2, mkC_2, mkL_3, mkT_3, mkC_3, mkL_4, mkT_4, mkC_4, bnd_S, ret_S, lineN_eq2, wipe_nil, wipe_cons, hc, hi, hB, hse, q0, q1, q2, hm, hl]
theorem split_ok {ps : List Pk} (W : WP ps) (a : Nat) (S : Store) : ∃ m l : Nat, g_split_amount [psD ps, .int (a : Nat)] S = .ok (.tup [.int (m : Nat), .int (l : Nat)]) S ∧ Co ps a = m * (best ps).2 + Co ps l ∧ l ≤ 200 ∧ a ≤ m * (best ps).1 + l := by
  have hb := W.sz _ (best_ok W).mem
  have hs := st_ge W
  have hs2 := stA_le W
  have hc := cheapest_ok W S
  have hi := ps_ix (chI_lt W ps.length (Nat.le_refl _)) S
  have hi' : ixD (psD ps) (.int (chI ps ps.length : Nat)) S = .ok (pkD (best ps)) S := hi
  have hse := settled_ok W S
  generalize hz : (best ps).1 = z at *
  have q0 : (0 : Int) < (z : Nat) := by omega
  have q1 : ((z : Nat) : Int) < 18446744073709551616 := by omega
  have q2 : (-18446744073709551616 : Int) < (z : Nat) := by omega
  have hzi : ∀ S, ixD (pkD (best ps)) (.int 0) S = .ok (.int (z : Nat)) S := fun S => by rw [pk_ix0, hz]
  obtain ⟨m, l, hm, hl, hC, hl2, hl3⟩ : ∃ m l : Nat, (if (((a : Nat) : Int) - (stA ps : Nat) + (z : Nat) - 1) / (z : Nat) > 0 then (((a : Nat) : Int) - (stA ps : Nat) + (z : Nat) - 1) / (z : Nat) else 0) = (m : Nat) ∧ (if ((a : Nat) : Int) - (m : Nat) * (z : Nat) > 0 then ((a : Nat) : Int) - (m : Nat) * (z : Nat) else 0) = (l : Nat) ∧ Co ps a = m * (best ps).2 + Co ps l ∧ l ≤ 200 ∧ a ≤ m * z + l := by
    by_cases h : a ≤ stA ps
    · have h1 : ¬ (((a : Nat) : Int) - (stA ps : Nat) + (z : Nat) - 1) / (z : Nat) > 0 := by
        have := Int.ediv_lt_of_lt_mul (a := ((a : Nat) : Int) - (stA ps : Nat) + (z : Nat) - 1) (b := 1) q0 (by omega)
        omega
      refine ⟨0, a, by rw [if_neg h1]; rfl, ?_, by simp, by omega, by omega⟩
      simp only [Int.natCast_zero, Int.zero_mul, Int.sub_zero]
      split <;> omega
    · obtain ⟨d, hd⟩ : ∃ d, a = stA ps + d + 1 := ⟨a - stA ps - 1, by omega⟩
      have hq : (((a : Nat) : Int) - (stA ps : Nat) + (z : Nat) - 1) / (z : Nat) = ((d / z + 1 : Nat) : Int) := by
        have e1 : ((a : Nat) : Int) - (stA ps : Nat) + (z : Nat) - 1 = ((d + z : Nat) : Int) := by omega
        rw [e1, ← Int.natCast_ediv, Nat.add_div_right _ (by omega)]
      have hdm := Nat.div_add_mod d z
      have hmod := Nat.mod_lt d (show z > 0 by omega)
      have hmz : (d / z + 1) * z = z * (d / z) + z := by rw [Nat.add_mul, Nat.one_mul, Nat.mul_comm]
      have hle : (d / z + 1) * z ≤ a := by omega
      refine ⟨d / z + 1, a - (d / z + 1) * z, by rw [hq, if_pos (Int.natCast_pos.mpr (Nat.succ_pos _))], ?_, ?_, by omega, by omega⟩
      · rw [← Int.natCast_mul]
        split <;> omega
      · have := C_many W (l := a - (d / z + 1) * z) (by rw [hz]; omega) (d / z + 1)
        rw [hz, Nat.sub_add_cancel hle] at this
        omega
  refine ⟨m, l, ?_, hC, hl2, hl3⟩
  exact s_all _ _ _ _ _ _ _ _ _ _ S hc hi' (hzi S) hse q0 q1 q2 hm hl
theorem c_A1 (gc : List D → M D) (P B : D) (a m l j : Int) (i : Int) (S : Store) (hc : gc [P] S = .ok (.int i) S) (hi : ixD P (.int i) S = .ok B S) (hB : ixD B (.int 1) S = .ok (.int j) S) (q2 : (-18446744073709551616 : Int) < j) (q1 : j < 18446744073709551616) :
    op2 mulD (varD 2) (op2 ixD (op2 ixD (varD 0) (appA (consA (varD 0) nilA) (cal 1 gc))) (cD (.int 1))) [some P, some (.int a), some (.int m), some (.int l)] S = .ok (.int (m * j)) S := by
  simp only [nat10, nat2, runB, seqS, exS, asgS, retS, retN, dropS, ifS, nxS, nevS, brkS, cntS, setItS, forS, parS, op1, op2, chain, boolT, truT, notT, andT, orT, andE, orE, ifE, nilA, consA, appA, varD, cD, lstE, celE, tupE, slE, itE, itEn, cal_1, cal_2, cal_3, cal_4, cal_5, cal_6, cal_7, yesT, mulOk, List.map_cons, List.map_nil, List.length_cons, List.length_nil, List.getElem?_cons_zero, List.getElem?_cons_succ, List.set_cons_zero, List.set_cons_succ, List.replicate_succ, List.replicate_zero, List.cons_append, List.nil_append, List.append_nil, List.isEmpty_cons, List.isEmpty_nil, Nat.reduceAdd, Nat.reduceSub, Nat.reduceMul, Nat.reduceLeDiff, Nat.reduceEqDiff, Nat.zero_add, Nat.sub_zero, Nat.sub_self, Bool.not_true, Bool.not_false, Bool.true_and, Bool.false_and, Bool.and_true, Bool.and_false, Bool.true_or, Bool.false_or, Bool.or_true, Bool.or_false, Bool.false_eq_true, Bool.not_eq_true, Bool.not_eq_false, Bool.not_not, decide_eq_true_eq, decide_eq_false_iff_not, decide_true, decide_false, if_true, if_false, reduceIte, reduceCtorEq, Nat.zero_le, and_self, and_true, true_and, or_true, true_or, or_false, false_or, not_true_eq_false, not_false_eq_true, Int.reduceLT, Int.reduceLE, Int.reduceNeg, Int.reduceAdd, Int.reduceMul, Int.reduceSub, Int.reducePow, Int.reduceEq, Int.reduceToNat, Nat.reduceLT, Nat.reducePow, Int.cast_ofNat_Int, isi_non_int, isi_non_bool, isi_non_str, isi_non_tuple, isi_non_list, isi_non_dict, isi_non_tuple_list, isi_non_list_tuple, isi_bl_int, isi_bl_bool, isi_bl_str, isi_bl_tuple, isi_bl_list, isi_bl_dict, isi_bl_tuple_list, isi_bl_list_tuple, isi_int_int, isi_int_bool, isi_int_str, isi_int_tuple, isi_int_list, isi_int_dict, isi_int_tuple_list, isi_int_list_tuple, isi_str_int, isi_str_bool, isi_str_str, isi_str_tuple, isi_str_list, isi_str_dict, isi_str_tuple_list, isi_str_list_tuple, isi_tup_int, isi_tup_bool, isi_tup_str, isi_tup_tuple, isi_tup_list, isi_tup_dict, isi_tup_tuple_list, isi_tup_list_tuple, isi_lst_int, isi_lst_bool, isi_lst_str, isi_lst_tuple, isi_lst_list, isi_lst_dict, isi_lst_tuple_list, isi_lst_list_tuple, isi_frz_int, isi_frz_bool, isi_frz_str, isi_frz_tuple, isi_frz_list, isi_frz_dict, isi_frz_tuple_list, isi_frz_list_tuple, tru_bl, tru_int, tru_non, tru_tup, len_tup, ix_tup, tru_lst, len_lst, ix_lst, tru_frz, len_frz, ix_frz, sl_lst, sl_frz, sl_tup, asInt_int, at0, at1, at2, at3, at4, add_int, add_tup, add_str, add_lst, addC_lst, repC_lst, sub_int, mul_int, mul_lst, mul_tup, div_int, mod_int, pow_int, neg_int, not_bl, lt_int, le_int, gt_int, ge_int, eq_int, eq_str, eq_bl, eq_non, eq_int_non, eq_non_int, eq_str_non, eq_non_str, eq_bl_non, eq_non_bl, ne_int, ne_str, ne_bl, ne_non, ne_int_non, ne_non_int, ne_str_non, ne_non_str, ne_bl_non, ne_non_bl, isNone_non, isNone_int, isNone_str, isNone_bl, isNone_tup, isNone_lst, isNone_frz, max2_int, min2_int, abs_int, int_int, int_bl, still_tup, list_tup, tuple_tup, listC_tup, sv_tup, still_lst, list_lst, tuple_lst, listC_lst, sv_lst, still_frz, list_frz, tuple_frz, listC_frz, sv_frz, r1_int, r2_int, r3_int, tg_name, tg_tup, setAll_cons, setAll_nil, mtE, g1_one, g2_two, mkL_0, mkT_0, mkC_0, mkL_1, mkT_1, mkC_1, mkL_2, mkT_2, mkC_2, mkL_3, mkT_3, mkC_3, mkL_4, mkT_4, mkC_4, bnd_S, ret_S, lineN_eq2, wipe_nil, wipe_cons, hc, hi, hB, q1, q2]
theorem c_A2 (gp : List D → M D) (P r : D) (a m l : Int) (S : Store) (L pi : List D) (h4 : gp [P, .int l] S = .ok (.tup [.lst L, .lst pi]) S) (hx : ixD (.lst L) (.int l) S = .ok r S) : (op2 ixD (op2 ixD (appA (consA (varD 0) (consA (varD 3) nilA)) (cal 2 gp)) (cD (.int 0))) (varD 3)) [some P, some (.int a), some (.int m), some (.int l)] S = .ok r S := by
  simp only [nat10, nat2, runB, seqS, exS, asgS, retS, retN, dropS, ifS, nxS, nevS, brkS, cntS, setItS, forS, parS, op1, op2, chain, boolT, truT, notT, andT, orT, andE, orE, ifE, nilA, consA, appA, varD, cD, lstE, celE, tupE, slE, itE, itEn, cal_1, cal_2, cal_3, cal_4, cal_5, cal_6, cal_7, yesT, mulOk, List.map_cons, List.map_nil, List.length_cons, List.length_nil, List.getElem?_cons_zero, List.getElem?_cons_succ, List.set_cons_zero, List.set_cons_succ, List.replicate_succ, List.replicate_zero, List.cons_append, List.nil_append, List.append_nil, List.isEmpty_cons, List.isEmpty_nil, Nat.reduceAdd, Nat.reduceSub, Nat.reduceMul, Nat.reduceLeDiff, Nat.reduceEqDiff, Nat.zero_add, Nat.sub_zero, Nat.sub_self, Bool.not_true, Bool.not_false, Bool.true_and, Bool.false_and, Bool.and_true, Bool.and_false, Bool.true_or, Bool.false_or, Bool.or_true, Bool.or_false, Bool.false_eq_true, Bool.not_eq_true, Bool.not_eq_false, Bool.not_not, decide_eq_true_eq, decide_eq_false_iff_not, decide_true, decide_false, if_true, if_false, reduceIte, reduceCtorEq, Nat.zero_le, and_self, and_true, true_and, or_true, true_or, or_false, false_or, not_true_eq_false, not_false_eq_true, Int.reduceLT, Int.reduceLE, Int.reduceNeg, Int.reduceAdd, Int.reduceMul, Int.reduceSub, Int.reducePow, Int.reduceEq, Int.reduceToNat, Nat.reduceLT, Nat.reducePow, Int.cast_ofNat_Int, isi_non_int, isi_non_bool, isi_non_str, isi_non_tuple, isi_non_list, isi_non_dict, isi_non_tuple_list, isi_non_list_tuple, isi_bl_int, isi_bl_bool, isi_bl_str, isi_bl_tuple, isi_bl_list, isi_bl_dict, isi_bl_tuple_list, isi_bl_list_tuple, isi_int_int, isi_int_bool, isi_int_str, isi_int_tuple, isi_int_list, isi_int_dict, isi_int_tuple_list, isi_int_list_tuple, isi_str_int, isi_str_bool, isi_str_str, isi_str_tuple, isi_str_list, isi_str_dict, isi_str_tuple_list, isi_str_list_tuple, isi_tup_int, isi_tup_bool, isi_tup_str, isi_tup_tuple, isi_tup_list, isi_tup_dict, isi_tup_tuple_list, isi_tup_list_tuple, isi_lst_int, isi_lst_bool, isi_lst_str, isi_lst_tuple, isi_lst_list, isi_lst_dict, isi_lst_tuple_list, isi_lst_list_tuple, isi_frz_int, isi_frz_bool, isi_frz_str, isi_frz_tuple, isi_frz_list, isi_frz_dict, isi_frz_tuple_list, isi_frz_list_tuple, tru_bl, tru_int, tru_non, tru_tup, len_tup, ix_tup, tru_lst, len_lst, ix_lst, tru_frz, len_frz, ix_frz, sl_lst, sl_frz, sl_tup, asInt_int, at0, at1, at2, at3, at4, add_int, add_tup, add_str, add_lst, addC_lst, repC_lst, sub_int, mul_int, mul_lst, mul_tup, div_int, mod_int, pow_int, neg_int, not_bl, lt_int, le_int, gt_int, ge_int, eq_int, eq_str, eq_bl, eq_non, eq_int_non, eq_non_int, eq_str_non, eq_non_str, eq_bl_non, eq_non_bl, ne_int, ne_str, ne_bl, ne_non, ne_int_non, ne_non_int, ne_str_non, ne_non_str, ne_bl_non, ne_non_bl, isNone_non, isNone_int, isNone_str, isNone_bl, isNone_tup, isNone_lst, isNone_frz, max2_int, min2_int, abs_int, int_int, int_bl, still_tup, list_tup, tuple_tup, listC_tup, sv_tup, still_lst, list_lst, tuple_lst, listC_lst, sv_lst, still_frz, list_frz, tuple_frz, listC_frz, sv_frz, r1_int, r2_int, r3_int, tg_name, tg_tup, setAll_cons, setAll_nil, mtE, g1_one, g2_two, mkL_0, mkT_0, mkC_0, mkL_1, mkT_1, mkC_1, mkL_2, mkT_2, mkC_2, mkL_3, mkT_3, mkC_3, mkL_4, mkT_4, mkC_4, bnd_S, ret_S, lineN_eq2, wipe_nil, wipe_cons, h4, hx]
theorem cost_ok {ps : List Pk} (W : WP ps) {a : Nat} (ha : a ≤ 1000000000000000000000000000000) {S : Store} (hS : HI S) : g_cost [psD ps, .int (a : Nat)] S = .ok (.int (Co ps a : Nat)) S := by
  obtain ⟨m, l, h1, h2, h3, _⟩ := split_ok W a S
  obtain ⟨pi, _, h4⟩ := prices_to_ok W (n := l) (by omega) hS
  have hc := cheapest_ok W S
  have hi : ixD (psD ps) (.int (chI ps ps.length : Nat)) S = .ok (pkD (best ps)) S := ps_ix (chI_lt W ps.length (Nat.le_refl _)) S
  have hp := W.pr _ (best_ok W).mem
  have q1 : (((best ps).2 : Nat) : Int) < 18446744073709551616 := by omega
  have q2 : (-18446744073709551616 : Int) < ((best ps).2 : Nat) := by omega
  have hx := nums_ix (Co ps) (l + 1) l (by omega) S
  have hB := pk_ix1 (best ps) S
  have hk := check_packs_ok W S
  have hka := check_amount_ok ha S
  have e : ((m : Nat) : Int) * ((best ps).2 : Nat) + (Co ps l : Nat) = (Co ps a : Nat) := by rw [h2, ← Int.natCast_mul]; omega
  have A1 : op2 mulD (varD 2) (op2 ixD (op2 ixD (varD 0) (appA (consA (varD 0) nilA) (cal 1 g_cheapest))) (cD (.int 1))) [some (psD ps), some (.int (a : Nat)), some (.int (m : Nat)), some (.int (l : Nat))] S = .ok (.int ((m : Nat) * ((best ps).2 : Nat) : Int)) S := c_A1 _ _ _ _ _ _ _ _ S hc hi hB q2 q1
  have A2 : (op2 ixD (op2 ixD (appA (consA (varD 0) (consA (varD 3) nilA)) (cal 2 g_prices_to)) (cD (.int 0))) (varD 3)) [some (psD ps), some (.int (a : Nat)), some (.int (m : Nat)), some (.int (l : Nat))] S = .ok (.int (Co ps l : Nat)) S := c_A2 _ _ _ _ _ _ _ _ _ h4 hx
  refine run_rt (ρ0 := [some (psD ps), some (.int (a : Nat)), none, none]) rfl ?_
  refine Eq.trans (seq_nx (drop_ok (d := .non) (S' := S) hk)) ?_
  refine Eq.trans (seq_nx (drop_ok (d := .non) (S' := S) hka)) ?_
  refine Eq.trans (seq_nx (asg_ok h1 rfl)) ?_
  refine ret_ok ?_
  refine Eq.trans (bnd_ok A1) (Eq.trans (bnd_ok A2) ?_)
  rw [add_int, ret_S, e]
end F

set_option linter.all false
set_option autoImplicit false
set_option maxRecDepth 100000
namespace F
open PySem
/-- turns while something falls -/
theorem whGo_meas {c : ST} {f : SS} (I : Nat → Env → Store → Prop) (Z : Env → Store → Prop)
    (h : ∀ v ρ S, I v ρ S → (c ρ S = .ok false S ∧ Z ρ S) ∨ ∃ S1 ρ2 S2 v', c ρ S = .ok true S1 ∧ f ρ S1 = .fl (.nx ρ2) S2 ∧ v' < v ∧ I v' ρ2 S2) :
    ∀ v n ρ S, v < n → I v ρ S → ∃ ρ2 S2, whGo c f n ρ S = .fl (.nx ρ2) S2 ∧ Z ρ2 S2 := by
  intro v
  induction v using Nat.strongRecOn with
  | ind v ih =>
    intro n ρ S hn hI
    obtain ⟨n, rfl⟩ : ∃ n', n = n' + 1 := ⟨n - 1, by omega⟩
    rcases h v ρ S hI with ⟨h1, h2⟩ | ⟨S1, ρ2, S2, v', h1, h2, h3, h4⟩
    · refine ⟨ρ, S, ?_, h2⟩
      unfold whGo exS
      rw [h1]
      simp
    · obtain ⟨ρ3, S3, h5, h6⟩ := ih v' h3 n ρ2 S2 (by omega) h4
      refine ⟨ρ3, S3, ?_, h6⟩
      unfold whGo exS
      rw [h1]
      dsimp only
      rw [h2]
      simpa using h5
/-- how much the first n of many make -/
def tot (w : Nat → Nat) (fs : Nat → Nat) : Nat → Nat
  | 0 => 0
  | n + 1 => tot w fs n + fs n * w n
def bump (fs : Nat → Nat) (j m : Nat) : Nat → Nat := fun i => if i = j then m else fs i
theorem tot_same {w fs gs : Nat → Nat} : ∀ n, (∀ i, i < n → fs i = gs i) → tot w fs n = tot w gs n
  | 0, _ => rfl
  | n + 1, h => by
    show tot w fs n + fs n * w n = tot w gs n + gs n * w n
    rw [tot_same n (fun i hi => h i (by omega)), h n (by omega)]
theorem tot_bump {w fs : Nat → Nat} {j m : Nat} : ∀ n, j < n → tot w (bump fs j m) n + fs j * w j = tot w fs n + m * w j
  | 0, h => by omega
  | n + 1, h => by
    show tot w (bump fs j m) n + bump fs j m n * w n + fs j * w j = tot w fs n + fs n * w n + m * w j
    by_cases e : j = n
    · subst e
      rw [tot_same (fs := bump fs j m) (gs := fs) j (fun i hi => by unfold bump; rw [if_neg (by omega)])]
      unfold bump
      rw [if_pos rfl]
      omega
    · have := tot_bump (w := w) (fs := fs) (j := j) (m := m) n (by omega)
      have e2 : bump fs j m n = fs n := by unfold bump; rw [if_neg (by omega)]
      rw [e2]
      omega
theorem tot_zero (w : Nat → Nat) : ∀ n, tot w (fun _ => 0) n = 0
  | 0 => rfl
  | n + 1 => by
    show tot w (fun _ => 0) n + 0 * w n = 0
    rw [tot_zero w n]; omega
theorem nums_set (c : Nat → Nat) {n j m : Nat} : (nums c n).set j (.int (m : Nat)) = nums (bump c j m) n := by
  apply List.ext_getElem
  · simp [nums]
  · intro i h1 h2
    simp [nums, List.getElem_set, bump]
    by_cases e : j = i
    · subst e; simp
    · rw [if_neg e, if_neg (Ne.symm e)]
def sz (ps : List Pk) (i : Nat) : Nat := (pk ps i).1
def pr (ps : List Pk) (i : Nat) : Nat := (pk ps i).2
theorem nums_zero (n : Nat) : (List.replicate n [D.int 0]).flatten = nums (fun _ => 0) n := by
  have e : (List.replicate n [D.int 0]).flatten = List.replicate n (D.int 0) := List.flatten_replicate_singleton
  rw [e]
  unfold nums
  apply List.ext_getElem
  · simp
  · intro i h1 h2
    simp
theorem setIt_cell {v o i : SE} {ρ : Env} {S S1 S2 S3 : Store} {x : D} {n : Nat} {j : Nat} {ds : List D} (hv : v ρ S = .ok x S1) (ho : o ρ S1 = .ok (.ref n) S2) (hi : i ρ S2 = .ok (.int (j : Nat)) S3) (hS : S3[n]? = some (.lst ds)) (hj : j < ds.length) :
    setItS v o i ρ S = .fl (.nx ρ) (S3.set n (.lst (ds.set j x))) := by
  unfold setItS exS
  rw [hv]
  dsimp only
  rw [ho]
  dsimp only
  rw [hi]
  dsimp only
  rw [hS]
  dsimp only
  rw [pos?_nat _ _ hj]
theorem bo_turn (P A B pl scr : D) (a m : D) (ca cb : C) (l z st nl : Int) (fs : List D) (x : Int) (j : Nat) (o6 : Option D)
    (hl : 0 < l) (hpi : ixD pl (.int l) [ca, cb, .lst fs] = .ok (.int (j : Nat)) [ca, cb, .lst fs]) (hf : ixD (.ref 2) (.int (j : Nat)) [ca, cb, .lst fs] = .ok (.int x) [ca, cb, .lst fs]) (hj : j < fs.length)
    (hP : ixD P (.int (j : Nat)) [ca, cb, .lst (fs.set j (.int (x + 1)))] = .ok B [ca, cb, .lst (fs.set j (.int (x + 1)))]) (hB : ixD B (.int 0) [ca, cb, .lst (fs.set j (.int (x + 1)))] = .ok (.int z) [ca, cb, .lst (fs.set j (.int (x + 1)))])
    (hn : (if l - z > 0 then l - z else 0) = nl) :
    (seqS (asgS (op2 ixD (varD 4) (varD 3)) (.name 6)) (seqS (setItS (op2 addD (op2 ixD (varD 5) (varD 6)) (cD (.int 1))) (varD 5) (varD 6))
      (asgS (appA (consA (cD (.int 0)) (consA (op2 subD (varD 3) (op2 ixD (op2 ixD (varD 0) (varD 6)) (cD (.int 0)))) nilA)) (g2 max2D)) (.name 3)))) [some P, some a, some m, some (.int l), some pl, some (.ref 2), o6] [ca, cb, .lst fs]
    = .fl (.nx [some P, some a, some m, some (.int nl), some pl, some (.ref 2), some (.int (j : Nat))]) [ca, cb, .lst (fs.set j (.int (x + 1)))] := by
  have hp : pos? fs.length (j : Nat) = some j := pos?_nat _ _ hj
  simp only [nat10, nat2, runB, seqS, exS, asgS, retS, retN, dropS, ifS, nxS, nevS, brkS, cntS, setItS, forS, parS, op1, op2, chain, boolT, truT, notT, andT, orT, andE, orE, ifE, nilA, consA, appA, varD, cD, lstE, celE, tupE, slE, itE, itEn, cal_1, cal_2, cal_3, cal_4, cal_5, cal_6, cal_7, yesT, mulOk, List.map_cons, List.map_nil, List.length_cons, List.length_nil, List.getElem?_cons_zero, List.getElem?_cons_succ, List.set_cons_zero, List.set_cons_succ, List.replicate_succ, List.replicate_zero, List.cons_append, List.nil_append, List.append_nil, List.isEmpty_cons, List.isEmpty_nil, Nat.reduceAdd, Nat.reduceSub, Nat.reduceMul, Nat.reduceLeDiff, Nat.reduceEqDiff, Nat.zero_add, Nat.sub_zero, Nat.sub_self, Bool.not_true, Bool.not_false, Bool.true_and, Bool.false_and, Bool.and_true, Bool.and_false, Bool.true_or, Bool.false_or, Bool.or_true, Bool.or_false, Bool.false_eq_true, Bool.not_eq_true, Bool.not_eq_false, Bool.not_not, decide_eq_true_eq, decide_eq_false_iff_not, decide_true, decide_false, if_true, if_false, reduceIte, reduceCtorEq, Nat.zero_le, and_self, and_true, true_and, or_true, true_or, or_false, false_or, not_true_eq_false, not_false_eq_true, Int.reduceLT, Int.reduceLE, Int.reduceNeg, Int.reduceAdd, Int.reduceMul, Int.reduceSub, Int.reducePow, Int.reduceEq, Int.reduceToNat, Nat.reduceLT, Nat.reducePow, Int.cast_ofNat_Int, isi_non_int, isi_non_bool, isi_non_str, isi_non_tuple, isi_non_list, isi_non_dict, isi_non_tuple_list, isi_non_list_tuple, isi_bl_int, isi_bl_bool, isi_bl_str, isi_bl_tuple, isi_bl_list, isi_bl_dict, isi_bl_tuple_list, isi_bl_list_tuple, isi_int_int, isi_int_bool, isi_int_str, isi_int_tuple, isi_int_list, isi_int_dict, isi_int_tuple_list, isi_int_list_tuple, isi_str_int, isi_str_bool, isi_str_str, isi_str_tuple, isi_str_list, isi_str_dict, isi_str_tuple_list, isi_str_list_tuple, isi_tup_int, isi_tup_bool, isi_tup_str, isi_tup_tuple, isi_tup_list, isi_tup_dict, isi_tup_tuple_list, isi_tup_list_tuple, isi_lst_int, isi_lst_bool, isi_lst_str, isi_lst_tuple, isi_lst_list, isi_lst_dict, isi_lst_tuple_list, isi_lst_list_tuple, isi_frz_int, isi_frz_bool, isi_frz_str, isi_frz_tuple, isi_frz_list, isi_frz_dict, isi_frz_tuple_list, isi_frz_list_tuple, tru_bl, tru_int, tru_non, tru_tup, len_tup, ix_tup, tru_lst, len_lst, ix_lst, tru_frz, len_frz, ix_frz, sl_lst, sl_frz, sl_tup, asInt_int, at0, at1, at2, at3, at4, add_int, add_tup, add_str, add_lst, addC_lst, repC_lst, sub_int, mul_int, mul_lst, mul_tup, div_int, mod_int, pow_int, neg_int, not_bl, lt_int, le_int, gt_int, ge_int, eq_int, eq_str, eq_bl, eq_non, eq_int_non, eq_non_int, eq_str_non, eq_non_str, eq_bl_non, eq_non_bl, ne_int, ne_str, ne_bl, ne_non, ne_int_non, ne_non_int, ne_str_non, ne_non_str, ne_bl_non, ne_non_bl, isNone_non, isNone_int, isNone_str, isNone_bl, isNone_tup, isNone_lst, isNone_frz, max2_int, min2_int, abs_int, int_int, int_bl, still_tup, list_tup, tuple_tup, listC_tup, sv_tup, still_lst, list_lst, tuple_lst, listC_lst, sv_lst, still_frz, list_frz, tuple_frz, listC_frz, sv_frz, r1_int, r2_int, r3_int, tg_name, tg_tup, setAll_cons, setAll_nil, mtE, g1_one, g2_two, mkL_0, mkT_0, mkC_0, mkL_1, mkT_1, mkC_1, mkL_2, mkT_2, mkC_2, mkL_3, mkT_3, mkC_3, mkL_4, mkT_4, mkC_4, bnd_S, ret_S, lineN_eq2, wipe_nil, wipe_cons, hpi, hf, hp, hP, hB, hn]
theorem bo_par (gp : List D → M D) (P L pi : D) (a m l n : Int) (S S1 : Store) (x : D) (h5 : gp [P, .int l] S = .ok (.tup [L, pi]) S) (hl : lenD P S = .ok (.int n) S) (hr : repC (.lst [.int 0]) (.int n) S = .ok x S1) :
    (consA (op2 ixD (appA (consA (varD 0) (consA (varD 3) nilA)) (cal 2 gp)) (cD (.int 1))) (consA (op2 repC (lstE (consA (cD (.int 0)) nilA)) (appA (consA (varD 0) nilA) (g1 lenD))) nilA)) [some P, some (.int a), some (.int m), some (.int l), none, none, none] S = .ok [pi, x] S1 := by
  simp only [nat10, nat2, runB, seqS, exS, asgS, retS, retN, dropS, ifS, nxS, nevS, brkS, cntS, setItS, forS, parS, op1, op2, chain, boolT, truT, notT, andT, orT, andE, orE, ifE, nilA, consA, appA, varD, cD, lstE, celE, tupE, slE, itE, itEn, cal_1, cal_2, cal_3, cal_4, cal_5, cal_6, cal_7, yesT, mulOk, List.map_cons, List.map_nil, List.length_cons, List.length_nil, List.getElem?_cons_zero, List.getElem?_cons_succ, List.set_cons_zero, List.set_cons_succ, List.replicate_succ, List.replicate_zero, List.cons_append, List.nil_append, List.append_nil, List.isEmpty_cons, List.isEmpty_nil, Nat.reduceAdd, Nat.reduceSub, Nat.reduceMul, Nat.reduceLeDiff, Nat.reduceEqDiff, Nat.zero_add, Nat.sub_zero, Nat.sub_self, Bool.not_true, Bool.not_false, Bool.true_and, Bool.false_and, Bool.and_true, Bool.and_false, Bool.true_or, Bool.false_or, Bool.or_true, Bool.or_false, Bool.false_eq_true, Bool.not_eq_true, Bool.not_eq_false, Bool.not_not, decide_eq_true_eq, decide_eq_false_iff_not, decide_true, decide_false, if_true, if_false, reduceIte, reduceCtorEq, Nat.zero_le, and_self, and_true, true_and, or_true, true_or, or_false, false_or, not_true_eq_false, not_false_eq_true, Int.reduceLT, Int.reduceLE, Int.reduceNeg, Int.reduceAdd, Int.reduceMul, Int.reduceSub, Int.reducePow, Int.reduceEq, Int.reduceToNat, Nat.reduceLT, Nat.reducePow, Int.cast_ofNat_Int, isi_non_int, isi_non_bool, isi_non_str, isi_non_tuple, isi_non_list, isi_non_dict, isi_non_tuple_list, isi_non_list_tuple, isi_bl_int, isi_bl_bool, isi_bl_str, isi_bl_tuple, isi_bl_list, isi_bl_dict, isi_bl_tuple_list, isi_bl_list_tuple, isi_int_int, isi_int_bool, isi_int_str, isi_int_tuple, isi_int_list, isi_int_dict, isi_int_tuple_list, isi_int_list_tuple, isi_str_int, isi_str_bool, isi_str_str, isi_str_tuple, isi_str_list, isi_str_dict, isi_str_tuple_list, isi_str_list_tuple, isi_tup_int, isi_tup_bool, isi_tup_str, isi_tup_tuple, isi_tup_list, isi_tup_dict, isi_tup_tuple_list, isi_tup_list_tuple, isi_lst_int, isi_lst_bool, isi_lst_str, isi_lst_tuple, isi_lst_list, isi_lst_dict, isi_lst_tuple_list, isi_lst_list_tuple, isi_frz_int, isi_frz_bool, isi_frz_str, isi_frz_tuple, isi_frz_list, isi_frz_dict, isi_frz_tuple_list, isi_frz_list_tuple, tru_bl, tru_int, tru_non, tru_tup, len_tup, ix_tup, tru_lst, len_lst, ix_lst, tru_frz, len_frz, ix_frz, sl_lst, sl_frz, sl_tup, asInt_int, at0, at1, at2, at3, at4, add_int, add_tup, add_str, add_lst, addC_lst, repC_lst, sub_int, mul_int, mul_lst, mul_tup, div_int, mod_int, pow_int, neg_int, not_bl, lt_int, le_int, gt_int, ge_int, eq_int, eq_str, eq_bl, eq_non, eq_int_non, eq_non_int, eq_str_non, eq_non_str, eq_bl_non, eq_non_bl, ne_int, ne_str, ne_bl, ne_non, ne_int_non, ne_non_int, ne_str_non, ne_non_str, ne_bl_non, ne_non_bl, isNone_non, isNone_int, isNone_str, isNone_bl, isNone_tup, isNone_lst, isNone_frz, max2_int, min2_int, abs_int, int_int, int_bl, still_tup, list_tup, tuple_tup, listC_tup, sv_tup, still_lst, list_lst, tuple_lst, listC_lst, sv_lst, still_frz, list_frz, tuple_frz, listC_frz, sv_frz, r1_int, r2_int, r3_int, tg_name, tg_tup, setAll_cons, setAll_nil, mtE, g1_one, g2_two, mkL_0, mkT_0, mkC_0, mkL_1, mkT_1, mkC_1, mkL_2, mkT_2, mkC_2, mkL_3, mkT_3, mkC_3, mkL_4, mkT_4, mkC_4, bnd_S, ret_S, lineN_eq2, wipe_nil, wipe_cons, -repC_lst, h5, hl, hr]
theorem sz_bd {ps : List Pk} (W : WP ps) {j : Nat} (hj : j < ps.length) : 1 ≤ (pk ps j).1 := (W.sz _ (pk_mem2 hj)).1
theorem bought_ok {ps : List Pk} (W : WP ps) {a : Nat} (ha : a ≤ 1000000000000000000000000000000) {S : Store} (hS : HI S) :
    ∃ fs : Nat → Nat, g_bought [psD ps, .int (a : Nat)] S = .ok (.tup (nums fs ps.length)) S ∧ a ≤ tot (sz ps) fs ps.length ∧ tot (pr ps) fs ps.length = Co ps a := by
  obtain ⟨m, l, h1, h2, h3, h4⟩ := split_ok W a S
  obtain ⟨pi, hpi, h5⟩ := prices_to_ok W (n := l) (by omega) hS
  have hch := chI_lt W ps.length (Nat.le_refl _)
  obtain ⟨A, B, rfl, hA, hB⟩ := hS.two
  have hl4 := W.len
  obtain ⟨ρ2, S2, e, fs, o3, o6, e1, e2, e3, e4⟩ := whGo_meas (c := boolT (op2 gtD (varD 3) (cD (.int 0)))) (f := (seqS (asgS (op2 ixD (varD 4) (varD 3)) (.name 6)) (seqS (setItS (op2 addD (op2 ixD (varD 5) (varD 6)) (cD (.int 1))) (varD 5) (varD 6))
      (asgS (appA (consA (cD (.int 0)) (consA (op2 subD (varD 3) (op2 ixD (op2 ixD (varD 0) (varD 6)) (cD (.int 0)))) nilA)) (g2 max2D)) (.name 3)))))
    (fun v ρ S' => ∃ fs o6, ρ = [some (psD ps), some (.int (a : Nat)), some (.int (m : Nat)), some (.int (v : Nat)), some (.lst pi), some (.ref 2), o6] ∧ S' = [A, B, .lst (nums fs ps.length)] ∧ v ≤ l ∧ a ≤ tot (sz ps) fs ps.length + v ∧ tot (pr ps) fs ps.length + Co ps v = Co ps a)
    (fun ρ S' => ∃ fs o3 o6, ρ = [some (psD ps), some (.int (a : Nat)), some (.int (m : Nat)), o3, some (.lst pi), some (.ref 2), o6] ∧ S' = [A, B, .lst (nums fs ps.length)] ∧ a ≤ tot (sz ps) fs ps.length ∧ tot (pr ps) fs ps.length = Co ps a)
    (fun v ρ S' ⟨fs, o6, e1, e2, e3, e4, e5⟩ => by
      subst e1 e2
      by_cases hv : v = 0
      · subst hv
        exact .inl ⟨rfl, fs, _, o6, rfl, rfl, by omega, by rw [C_zero] at e5; omega⟩
      · obtain ⟨k, rfl⟩ : ∃ k, v = k + 1 := ⟨v - 1, by omega⟩
        obtain ⟨j, j1, j2, j3⟩ := hpi k (by omega)
        have hs1 := sz_bd W j2
        have q : (0 : Int) < ((k + 1 : Nat) : Int) := by omega
        have ht := bo_turn (psD ps) .non (pkD (pk ps j)) (.lst pi) .non (.int (a : Nat)) (.int (m : Nat)) A B ((k + 1 : Nat) : Int) ((pk ps j).1 : Nat) 0 ((k + 1 - (pk ps j).1 : Nat) : Int) (nums fs ps.length) (fs j : Nat) j o6 q
          (by rw [ix_lst, at?_nat, j1]) (ix_cell rfl (by rw [at?_nat]; simp [nums, j2])) (by rw [nums_len]; exact j2) (ps_ix j2 _) (pk_ix0 _ _) (by split <;> omega)
        rw [show D.int (((fs j : Nat) : Int) + 1) = .int ((fs j + 1 : Nat) : Int) by rfl, nums_set] at ht
        refine .inr ⟨[A, B, .lst (nums fs ps.length)], _, _, k + 1 - (pk ps j).1, ?_, ht, by omega, bump fs j (fs j + 1), some (.int (j : Nat)), rfl, rfl, by omega, ?_, ?_⟩
        · have : decide ((0 : Int) < ((k + 1 : Nat) : Int)) = true := decide_eq_true q
          show Out.ok (decide ((0 : Int) < ((k + 1 : Nat) : Int))) _ = _
          rw [this]
        · have hb := tot_bump (w := sz ps) (fs := fs) (j := j) (m := fs j + 1) ps.length j2
          rw [Nat.add_mul, Nat.one_mul] at hb
          have : sz ps j = (pk ps j).1 := rfl
          omega
        · have hb := tot_bump (w := pr ps) (fs := fs) (j := j) (m := fs j + 1) ps.length j2
          rw [Nat.add_mul, Nat.one_mul] at hb
          have : pr ps j = (pk ps j).2 := rfl
          omega) l FUEL
    [some (psD ps), some (.int (a : Nat)), some (.int (m : Nat)), some (.int (l : Nat)), some (.lst pi), some (.ref 2), none] [A, B, .lst (nums (bump (fun _ => 0) (chI ps ps.length) m) ps.length)] (by unfold FUEL; omega)
    ⟨_, none, rfl, rfl, Nat.le_refl _, by
      have hb := tot_bump (w := sz ps) (fs := fun _ => 0) (j := chI ps ps.length) (m := m) ps.length hch
      rw [tot_zero] at hb
      have : sz ps (chI ps ps.length) = (best ps).1 := rfl
      rw [this] at hb
      omega, by
      have hb := tot_bump (w := pr ps) (fs := fun _ => 0) (j := chI ps ps.length) (m := m) ps.length hch
      rw [tot_zero] at hb
      have : pr ps (chI ps ps.length) = (best ps).2 := rfl
      rw [this] at hb
      omega⟩
  subst e1 e2
  refine ⟨fs, ?_, e3, e4⟩
  have hlen : lenD (psD ps) [A, B] = .ok (.int (ps.length : Nat)) [A, B] := by unfold psD; rw [len_tup, List.length_map]
  have hrep : repC (.lst [.int 0]) (.int (ps.length : Nat)) [A, B] = .ok (.ref 2) [A, B, .lst (nums (fun _ => 0) ps.length)] := by
    rw [repC_lst, if_pos (by rw [lineN_eq2]; simp; omega), Int.toNat_natCast, nums_zero]
    rfl
  have run : runB (b_bought g_cheapest g_prices_to g_split_amount g_check_amount g_check_packs FUEL) 7 [psD ps, .int (a : Nat)] [A, B] = .ok (.tup (nums fs ps.length)) ([A, B] ++ [.lst (nums fs ps.length)]) := by
    refine run_rt (ρ0 := [some (psD ps), some (.int (a : Nat)), none, none, none, none, none]) rfl ?_
    refine Eq.trans (seq_nx (drop_ok (d := .non) (S' := [A, B]) (check_packs_ok W _))) ?_
    refine Eq.trans (seq_nx (drop_ok (d := .non) (S' := [A, B]) (check_amount_ok ha _))) ?_
    refine Eq.trans (seq_nx (asg_ok h1 rfl)) ?_
    refine Eq.trans (seq_nx (par_ok (ds := [.lst pi, .ref 2]) (S' := [A, B, .lst (nums (fun _ => 0) ps.length)]) ?_ rfl)) ?_
    · exact bo_par _ _ _ _ _ _ _ _ _ _ _ h5 hlen hrep
    refine Eq.trans (seq_nx (setIt_cell (x := .int (m : Nat)) (n := 2) (j := chI ps ps.length) (S1 := [A, B, .lst (nums (fun _ => 0) ps.length)]) (S2 := [A, B, .lst (nums (fun _ => 0) ps.length)]) (S3 := [A, B, .lst (nums (fun _ => 0) ps.length)]) rfl rfl (cheapest_ok W _) rfl (by rw [nums_len]; exact hch))) ?_
    rw [nums_set]
    refine Eq.trans (seq_nx e) ?_
    exact ret_ok rfl
  show closeOut 2 (runB (b_bought g_cheapest g_prices_to g_split_amount g_check_amount g_check_packs FUEL) 7 [psD ps, .int (a : Nat)] [A, B]) = _
  rw [run]
  refine close_HI hS ?_
  have : resL 2 ([A, B] ++ [.lst (nums fs ps.length)]) (nums fs ps.length) = some (nums fs ps.length) := resL_all 2 _ _ fun d hd => by
    obtain ⟨z, _, rfl⟩ := List.mem_map.mp hd
    rfl
  unfold D.res
  rw [this]
end F

set_option linter.all false
set_option autoImplicit false
set_option maxRecDepth 100000
namespace F
open PySem
theorem ne_nil (S : Store) : neM (.lst []) (.lst []) S = .ok (.bl false) S := by
  rw [neM_ok (okD_lst (n := 0) (ds := []) (by simp)) (okD_lst (n := 0) (ds := []) (by simp)) (by omega) (by omega), dq_self (okD_lst (n := 0) (ds := []) (by simp))]
  rfl
theorem sum_lst (ds : List D) (S : Store) : sumD (.lst ds) S = (match ints? ds with | some ns => Out.ok (D.int ns.sum) S | none => .stuck) := rfl
theorem tot_sum (w fs : Nat → Nat) : ∀ n, (((List.range n).map fun i => ((fs i : Nat) : Int) * (w i : Nat)).sum) = (tot w fs n : Nat)
  | 0 => rfl
  | n + 1 => by
    rw [List.range_succ, List.map_append, List.sum_append, tot_sum w fs n]
    show _ + ((((fs n : Nat) : Int) * (w n : Nat)) + 0) = ((tot w fs n + fs n * w n : Nat) : Int)
    rw [Int.natCast_add, Int.natCast_mul]
    omega
theorem ib_item (pk : D) (P F0 B : D) (x z : Int) (k i : Int) (o1 o2 o4 : Option D) (S : Store) (hf : ixD F0 (.int k) S = .ok (.int x) S) (hp : ixD P (.int k) S = .ok B S) (hb : ixD B (.int i) S = .ok (.int z) S) (q1 : (-18446744073709551616 : Int) < z) (q2 : z < 18446744073709551616) :
    (op2 mulD (op2 ixD (varD 3) (varD 5)) (op2 ixD (op2 ixD (varD 0) (varD 5)) (cD (.int i)))) [some P, o1, o2, some F0, o4, some (.int k)] S = .ok (.int (x * z)) S := by
  simp only [nat10, nat2, runB, seqS, exS, asgS, retS, retN, dropS, ifS, nxS, nevS, brkS, cntS, setItS, forS, parS, op1, op2, chain, boolT, truT, notT, andT, orT, andE, orE, ifE, nilA, consA, appA, varD, cD, lstE, celE, tupE, slE, itE, itEn, cal_1, cal_2, cal_3, cal_4, cal_5, cal_6, cal_7, yesT, mulOk, List.map_cons, List.map_nil, List.length_cons, List.length_nil, List.getElem?_cons_zero, List.getElem?_cons_succ, List.set_cons_zero, List.set_cons_succ, List.replicate_succ, List.replicate_zero, List.cons_append, List.nil_append, List.append_nil, List.isEmpty_cons, List.isEmpty_nil, Nat.reduceAdd, Nat.reduceSub, Nat.reduceMul, Nat.reduceLeDiff, Nat.reduceEqDiff, Nat.zero_add, Nat.sub_zero, Nat.sub_self, Bool.not_true, Bool.not_false, Bool.true_and, Bool.false_and, Bool.and_true, Bool.and_false, Bool.true_or, Bool.false_or, Bool.or_true, Bool.or_false, Bool.false_eq_true, Bool.not_eq_true, Bool.not_eq_false, Bool.not_not, decide_eq_true_eq, decide_eq_false_iff_not, decide_true, decide_false, if_true, if_false, reduceIte, reduceCtorEq, Nat.zero_le, and_self, and_true, true_and, or_true, true_or, or_false, false_or, not_true_eq_false, not_false_eq_true, Int.reduceLT, Int.reduceLE, Int.reduceNeg, Int.reduceAdd, Int.reduceMul, Int.reduceSub, Int.reducePow, Int.reduceEq, Int.reduceToNat, Nat.reduceLT, Nat.reducePow, Int.cast_ofNat_Int, isi_non_int, isi_non_bool, isi_non_str, isi_non_tuple, isi_non_list, isi_non_dict, isi_non_tuple_list, isi_non_list_tuple, isi_bl_int, isi_bl_bool, isi_bl_str, isi_bl_tuple, isi_bl_list, isi_bl_dict, isi_bl_tuple_list, isi_bl_list_tuple, isi_int_int, isi_int_bool, isi_int_str, isi_int_tuple, isi_int_list, isi_int_dict, isi_int_tuple_list, isi_int_list_tuple, isi_str_int, isi_str_bool, isi_str_str, isi_str_tuple, isi_str_list, isi_str_dict, isi_str_tuple_list, isi_str_list_tuple, isi_tup_int, isi_tup_bool, isi_tup_str, isi_tup_tuple, isi_tup_list, isi_tup_dict, isi_tup_tuple_list, isi_tup_list_tuple, isi_lst_int, isi_lst_bool, isi_lst_str, isi_lst_tuple, isi_lst_list, isi_lst_dict, isi_lst_tuple_list, isi_lst_list_tuple, isi_frz_int, isi_frz_bool, isi_frz_str, isi_frz_tuple, isi_frz_list, isi_frz_dict, isi_frz_tuple_list, isi_frz_list_tuple, tru_bl, tru_int, tru_non, tru_tup, len_tup, ix_tup, tru_lst, len_lst, ix_lst, tru_frz, len_frz, ix_frz, sl_lst, sl_frz, sl_tup, asInt_int, at0, at1, at2, at3, at4, add_int, add_tup, add_str, add_lst, addC_lst, repC_lst, sub_int, mul_int, mul_lst, mul_tup, div_int, mod_int, pow_int, neg_int, not_bl, lt_int, le_int, gt_int, ge_int, eq_int, eq_str, eq_bl, eq_non, eq_int_non, eq_non_int, eq_str_non, eq_non_str, eq_bl_non, eq_non_bl, ne_int, ne_str, ne_bl, ne_non, ne_int_non, ne_non_int, ne_str_non, ne_non_str, ne_bl_non, ne_non_bl, isNone_non, isNone_int, isNone_str, isNone_bl, isNone_tup, isNone_lst, isNone_frz, max2_int, min2_int, abs_int, int_int, int_bl, still_tup, list_tup, tuple_tup, listC_tup, sv_tup, still_lst, list_lst, tuple_lst, listC_lst, sv_lst, still_frz, list_frz, tuple_frz, listC_frz, sv_frz, r1_int, r2_int, r3_int, tg_name, tg_tup, setAll_cons, setAll_nil, mtE, g1_one, g2_two, mkL_0, mkT_0, mkC_0, mkL_1, mkT_1, mkC_1, mkL_2, mkT_2, mkC_2, mkL_3, mkT_3, mkC_3, mkL_4, mkT_4, mkC_4, bnd_S, ret_S, lineN_eq2, wipe_nil, wipe_cons, hf, hp, hb, q1, q2]
theorem ib_gen (gb : List D → M D) (P : D) (a price s1 : Int) (fl : List D) (S : Store) (n : Int) (L1 L2 : List D)
    (hb : gb [P, .int a] S = .ok (.tup fl) S) (hn : lenD P S = .ok (.int n) S) (hn2 : ((fl.length : Nat) : Int) = n)
    (hneg : lcE [4] (.name 4) (itE (varD 3)) (boolT (op2 ltD (varD 4) (cD (.int 0)))) (varD 4) [some P, some (.int a), some (.int price), some (.tup fl), none, none] S = .ok (.lst []) S)
    (hbool : lcE [4] (.name 4) (itE (varD 3)) (orT (truT (appA (consA (varD 4) (consA (cD (.ty "bool")) nilA)) (g2 isiD))) (notT (truT (appA (consA (varD 4) (consA (cD (.ty "int")) nilA)) (g2 isiD))))) (varD 4) [some P, some (.int a), some (.int price), some (.tup fl), none, none] S = .ok (.lst []) S)
    (hs1 : lcE [5] (.name 5) (appA (consA (appA (consA (varD 0) nilA) (g1 lenD)) nilA) itR1) yesT (op2 mulD (op2 ixD (varD 3) (varD 5)) (op2 ixD (op2 ixD (varD 0) (varD 5)) (cD (.int 0)))) [some P, some (.int a), some (.int price), some (.tup fl), none, none] S = .ok (.lst L1) S)
    (hs2 : lcE [5] (.name 5) (appA (consA (appA (consA (varD 0) nilA) (g1 lenD)) nilA) itR1) yesT (op2 mulD (op2 ixD (varD 3) (varD 5)) (op2 ixD (op2 ixD (varD 0) (varD 5)) (cD (.int 1)))) [some P, some (.int a), some (.int price), some (.tup fl), none, none] S = .ok (.lst L2) S)
    (e1 : sumD (.lst L1) S = .ok (.int s1) S) (e2 : sumD (.lst L2) S = .ok (.int price) S) (hle : a ≤ s1) : runB (b__law_is_bought gb) 6 [P, .int a, .int price] S = .ok (.bl true) S := by
  have hlt : ¬ s1 < a := by omega
  refine run_rt (ρ0 := [some P, some (.int a), some (.int price), none, none, none]) rfl ?_
  refine Eq.trans (seq_nx (asg_ok (d := .tup fl) (S' := S) (ρ' := [some P, some (.int a), some (.int price), some (.tup fl), none, none]) (by simp only [nat10, nat2, runB, seqS, exS, asgS, retS, retN, dropS, ifS, nxS, nevS, brkS, cntS, setItS, forS, parS, op1, op2, chain, boolT, truT, notT, andT, orT, andE, orE, ifE, nilA, consA, appA, varD, cD, lstE, celE, tupE, slE, itE, itEn, cal_1, cal_2, cal_3, cal_4, cal_5, cal_6, cal_7, yesT, mulOk, List.map_cons, List.map_nil, List.length_cons, List.length_nil, List.getElem?_cons_zero, List.getElem?_cons_succ, List.set_cons_zero, List.set_cons_succ, List.replicate_succ, List.replicate_zero, List.cons_append, List.nil_append, List.append_nil, List.isEmpty_cons, List.isEmpty_nil, Nat.reduceAdd, Nat.reduceSub, Nat.reduceMul, Nat.reduceLeDiff, Nat.reduceEqDiff, Nat.zero_add, Nat.sub_zero, Nat.sub_self, Bool.not_true, Bool.not_false, Bool.true_and, Bool.false_and, Bool.and_true, Bool.and_false, Bool.true_or, Bool.false_or, Bool.or_true, Bool.or_false, Bool.false_eq_true, Bool.not_eq_true, Bool.not_eq_false, Bool.not_not, decide_eq_true_eq, decide_eq_false_iff_not, decide_true, decide_false, if_true, if_false, reduceIte, reduceCtorEq, Nat.zero_le, and_self, and_true, true_and, or_true, true_or, or_false, false_or, not_true_eq_false, not_false_eq_true, Int.reduceLT, Int.reduceLE, Int.reduceNeg, Int.reduceAdd, Int.reduceMul, Int.reduceSub, Int.reducePow, Int.reduceEq, Int.reduceToNat, Nat.reduceLT, Nat.reducePow, Int.cast_ofNat_Int, isi_non_int, isi_non_bool, isi_non_str, isi_non_tuple, isi_non_list, isi_non_dict, isi_non_tuple_list, isi_non_list_tuple, isi_bl_int, isi_bl_bool, isi_bl_str, isi_bl_tuple, isi_bl_list, isi_bl_dict, isi_bl_tuple_list, isi_bl_list_tuple, isi_int_int, isi_int_bool, isi_int_str, isi_int_tuple, isi_int_list, isi_int_dict, isi_int_tuple_list, isi_int_list_tuple, isi_str_int, isi_str_bool, isi_str_str, isi_str_tuple, isi_str_list, isi_str_dict, isi_str_tuple_list, isi_str_list_tuple, isi_tup_int, isi_tup_bool, isi_tup_str, isi_tup_tuple, isi_tup_list, isi_tup_dict, isi_tup_tuple_list, isi_tup_list_tuple, isi_lst_int, isi_lst_bool, isi_lst_str, isi_lst_tuple, isi_lst_list, isi_lst_dict, isi_lst_tuple_list, isi_lst_list_tuple, isi_frz_int, isi_frz_bool, isi_frz_str, isi_frz_tuple, isi_frz_list, isi_frz_dict, isi_frz_tuple_list, isi_frz_list_tuple, tru_bl, tru_int, tru_non, tru_tup, len_tup, ix_tup, tru_lst, len_lst, ix_lst, tru_frz, len_frz, ix_frz, sl_lst, sl_frz, sl_tup, asInt_int, at0, at1, at2, at3, at4, add_int, add_tup, add_str, add_lst, addC_lst, repC_lst, sub_int, mul_int, mul_lst, mul_tup, div_int, mod_int, pow_int, neg_int, not_bl, lt_int, le_int, gt_int, ge_int, eq_int, eq_str, eq_bl, eq_non, eq_int_non, eq_non_int, eq_str_non, eq_non_str, eq_bl_non, eq_non_bl, ne_int, ne_str, ne_bl, ne_non, ne_int_non, ne_non_int, ne_str_non, ne_non_str, ne_bl_non, ne_non_bl, isNone_non, isNone_int, isNone_str, isNone_bl, isNone_tup, isNone_lst, isNone_frz, max2_int, min2_int, abs_int, int_int, int_bl, still_tup, list_tup, tuple_tup, listC_tup, sv_tup, still_lst, list_lst, tuple_lst, listC_lst, sv_lst, still_frz, list_frz, tuple_frz, listC_frz, sv_frz, r1_int, r2_int, r3_int, tg_name, tg_tup, setAll_cons, setAll_nil, mtE, g1_one, g2_two, mkL_0, mkT_0, mkC_0, mkL_1, mkT_1, mkC_1, mkL_2, mkT_2, mkC_2, mkL_3, mkT_3, mkC_3, mkL_4, mkT_4, mkC_4, bnd_S, ret_S, lineN_eq2, wipe_nil, wipe_cons, hb]) rfl)) ?_
  refine Eq.trans (seq_nx (ρ' := [some P, some (.int a), some (.int price), some (.tup fl), none, none]) (S' := S) (Eq.trans (if_f (S' := S) ?_) rfl)) ?_
  · simp only [hneg, nat10, nat2, runB, seqS, exS, asgS, retS, retN, dropS, ifS, nxS, nevS, brkS, cntS, setItS, forS, parS, op1, op2, chain, boolT, truT, notT, andT, orT, andE, orE, ifE, nilA, consA, appA, varD, cD, lstE, celE, tupE, slE, itE, itEn, cal_1, cal_2, cal_3, cal_4, cal_5, cal_6, cal_7, yesT, mulOk, List.map_cons, List.map_nil, List.length_cons, List.length_nil, List.getElem?_cons_zero, List.getElem?_cons_succ, List.set_cons_zero, List.set_cons_succ, List.replicate_succ, List.replicate_zero, List.cons_append, List.nil_append, List.append_nil, List.isEmpty_cons, List.isEmpty_nil, Nat.reduceAdd, Nat.reduceSub, Nat.reduceMul, Nat.reduceLeDiff, Nat.reduceEqDiff, Nat.zero_add, Nat.sub_zero, Nat.sub_self, Bool.not_true, Bool.not_false, Bool.true_and, Bool.false_and, Bool.and_true, Bool.and_false, Bool.true_or, Bool.false_or, Bool.or_true, Bool.or_false, Bool.false_eq_true, Bool.not_eq_true, Bool.not_eq_false, Bool.not_not, decide_eq_true_eq, decide_eq_false_iff_not, decide_true, decide_false, if_true, if_false, reduceIte, reduceCtorEq, Nat.zero_le, and_self, and_true, true_and, or_true, true_or, or_false, false_or, not_true_eq_false, not_false_eq_true, Int.reduceLT, Int.reduceLE, Int.reduceNeg, Int.reduceAdd, Int.reduceMul, Int.reduceSub, Int.reducePow, Int.reduceEq, Int.reduceToNat, Nat.reduceLT, Nat.reducePow, Int.cast_ofNat_Int, isi_non_int, isi_non_bool, isi_non_str, isi_non_tuple, isi_non_list, isi_non_dict, isi_non_tuple_list, isi_non_list_tuple, isi_bl_int, isi_bl_bool, isi_bl_str, isi_bl_tuple, isi_bl_list, isi_bl_dict, isi_bl_tuple_list, isi_bl_list_tuple, isi_int_int, isi_int_bool, isi_int_str, isi_int_tuple, isi_int_list, isi_int_dict, isi_int_tuple_list, isi_int_list_tuple, isi_str_int, isi_str_bool, isi_str_str, isi_str_tuple, isi_str_list, isi_str_dict, isi_str_tuple_list, isi_str_list_tuple, isi_tup_int, isi_tup_bool, isi_tup_str, isi_tup_tuple, isi_tup_list, isi_tup_dict, isi_tup_tuple_list, isi_tup_list_tuple, isi_lst_int, isi_lst_bool, isi_lst_str, isi_lst_tuple, isi_lst_list, isi_lst_dict, isi_lst_tuple_list, isi_lst_list_tuple, isi_frz_int, isi_frz_bool, isi_frz_str, isi_frz_tuple, isi_frz_list, isi_frz_dict, isi_frz_tuple_list, isi_frz_list_tuple, tru_bl, tru_int, tru_non, tru_tup, len_tup, ix_tup, tru_lst, len_lst, ix_lst, tru_frz, len_frz, ix_frz, sl_lst, sl_frz, sl_tup, asInt_int, at0, at1, at2, at3, at4, add_int, add_tup, add_str, add_lst, addC_lst, repC_lst, sub_int, mul_int, mul_lst, mul_tup, div_int, mod_int, pow_int, neg_int, not_bl, lt_int, le_int, gt_int, ge_int, eq_int, eq_str, eq_bl, eq_non, eq_int_non, eq_non_int, eq_str_non, eq_non_str, eq_bl_non, eq_non_bl, ne_int, ne_str, ne_bl, ne_non, ne_int_non, ne_non_int, ne_str_non, ne_non_str, ne_bl_non, ne_non_bl, isNone_non, isNone_int, isNone_str, isNone_bl, isNone_tup, isNone_lst, isNone_frz, max2_int, min2_int, abs_int, int_int, int_bl, still_tup, list_tup, tuple_tup, listC_tup, sv_tup, still_lst, list_lst, tuple_lst, listC_lst, sv_lst, still_frz, list_frz, tuple_frz, listC_frz, sv_frz, r1_int, r2_int, r3_int, tg_name, tg_tup, setAll_cons, setAll_nil, mtE, g1_one, g2_two, mkL_0, mkT_0, mkC_0, mkL_1, mkT_1, mkC_1, mkL_2, mkT_2, mkC_2, mkL_3, mkT_3, mkC_3, mkL_4, mkT_4, mkC_4, bnd_S, ret_S, lineN_eq2, wipe_nil, wipe_cons, hn, hn2, ne_nil]
  refine Eq.trans (seq_nx (ρ' := [some P, some (.int a), some (.int price), some (.tup fl), none, none]) (S' := S) (Eq.trans (if_f (S' := S) ?_) rfl)) ?_
  · simp only [hbool, nat10, nat2, runB, seqS, exS, asgS, retS, retN, dropS, ifS, nxS, nevS, brkS, cntS, setItS, forS, parS, op1, op2, chain, boolT, truT, notT, andT, orT, andE, orE, ifE, nilA, consA, appA, varD, cD, lstE, celE, tupE, slE, itE, itEn, cal_1, cal_2, cal_3, cal_4, cal_5, cal_6, cal_7, yesT, mulOk, List.map_cons, List.map_nil, List.length_cons, List.length_nil, List.getElem?_cons_zero, List.getElem?_cons_succ, List.set_cons_zero, List.set_cons_succ, List.replicate_succ, List.replicate_zero, List.cons_append, List.nil_append, List.append_nil, List.isEmpty_cons, List.isEmpty_nil, Nat.reduceAdd, Nat.reduceSub, Nat.reduceMul, Nat.reduceLeDiff, Nat.reduceEqDiff, Nat.zero_add, Nat.sub_zero, Nat.sub_self, Bool.not_true, Bool.not_false, Bool.true_and, Bool.false_and, Bool.and_true, Bool.and_false, Bool.true_or, Bool.false_or, Bool.or_true, Bool.or_false, Bool.false_eq_true, Bool.not_eq_true, Bool.not_eq_false, Bool.not_not, decide_eq_true_eq, decide_eq_false_iff_not, decide_true, decide_false, if_true, if_false, reduceIte, reduceCtorEq, Nat.zero_le, and_self, and_true, true_and, or_true, true_or, or_false, false_or, not_true_eq_false, not_false_eq_true, Int.reduceLT, Int.reduceLE, Int.reduceNeg, Int.reduceAdd, Int.reduceMul, Int.reduceSub, Int.reducePow, Int.reduceEq, Int.reduceToNat, Nat.reduceLT, Nat.reducePow, Int.cast_ofNat_Int, isi_non_int, isi_non_bool, isi_non_str, isi_non_tuple, isi_non_list, isi_non_dict, isi_non_tuple_list, isi_non_list_tuple, isi_bl_int, isi_bl_bool, isi_bl_str, isi_bl_tuple, isi_bl_list, isi_bl_dict, isi_bl_tuple_list, isi_bl_list_tuple, isi_int_int, isi_int_bool, isi_int_str, isi_int_tuple, isi_int_list, isi_int_dict, isi_int_tuple_list, isi_int_list_tuple, isi_str_int, isi_str_bool, isi_str_str, isi_str_tuple, isi_str_list, isi_str_dict, isi_str_tuple_list, isi_str_list_tuple, isi_tup_int, isi_tup_bool, isi_tup_str, isi_tup_tuple, isi_tup_list, isi_tup_dict, isi_tup_tuple_list, isi_tup_list_tuple, isi_lst_int, isi_lst_bool, isi_lst_str, isi_lst_tuple, isi_lst_list, isi_lst_dict, isi_lst_tuple_list, isi_lst_list_tuple, isi_frz_int, isi_frz_bool, isi_frz_str, isi_frz_tuple, isi_frz_list, isi_frz_dict, isi_frz_tuple_list, isi_frz_list_tuple, tru_bl, tru_int, tru_non, tru_tup, len_tup, ix_tup, tru_lst, len_lst, ix_lst, tru_frz, len_frz, ix_frz, sl_lst, sl_frz, sl_tup, asInt_int, at0, at1, at2, at3, at4, add_int, add_tup, add_str, add_lst, addC_lst, repC_lst, sub_int, mul_int, mul_lst, mul_tup, div_int, mod_int, pow_int, neg_int, not_bl, lt_int, le_int, gt_int, ge_int, eq_int, eq_str, eq_bl, eq_non, eq_int_non, eq_non_int, eq_str_non, eq_non_str, eq_bl_non, eq_non_bl, ne_int, ne_str, ne_bl, ne_non, ne_int_non, ne_non_int, ne_str_non, ne_non_str, ne_bl_non, ne_non_bl, isNone_non, isNone_int, isNone_str, isNone_bl, isNone_tup, isNone_lst, isNone_frz, max2_int, min2_int, abs_int, int_int, int_bl, still_tup, list_tup, tuple_tup, listC_tup, sv_tup, still_lst, list_lst, tuple_lst, listC_lst, sv_lst, still_frz, list_frz, tuple_frz, listC_frz, sv_frz, r1_int, r2_int, r3_int, tg_name, tg_tup, setAll_cons, setAll_nil, mtE, g1_one, g2_two, mkL_0, mkT_0, mkC_0, mkL_1, mkT_1, mkC_1, mkL_2, mkT_2, mkC_2, mkL_3, mkT_3, mkC_3, mkL_4, mkT_4, mkC_4, bnd_S, ret_S, lineN_eq2, wipe_nil, wipe_cons, ne_nil]
  refine Eq.trans (seq_nx (ρ' := [some P, some (.int a), some (.int price), some (.tup fl), none, none]) (S' := S) (Eq.trans (if_f (S' := S) ?_) rfl)) ?_
  · simp only [hs1, nat10, nat2, runB, seqS, exS, asgS, retS, retN, dropS, ifS, nxS, nevS, brkS, cntS, setItS, forS, parS, op1, op2, chain, boolT, truT, notT, andT, orT, andE, orE, ifE, nilA, consA, appA, varD, cD, lstE, celE, tupE, slE, itE, itEn, cal_1, cal_2, cal_3, cal_4, cal_5, cal_6, cal_7, yesT, mulOk, List.map_cons, List.map_nil, List.length_cons, List.length_nil, List.getElem?_cons_zero, List.getElem?_cons_succ, List.set_cons_zero, List.set_cons_succ, List.replicate_succ, List.replicate_zero, List.cons_append, List.nil_append, List.append_nil, List.isEmpty_cons, List.isEmpty_nil, Nat.reduceAdd, Nat.reduceSub, Nat.reduceMul, Nat.reduceLeDiff, Nat.reduceEqDiff, Nat.zero_add, Nat.sub_zero, Nat.sub_self, Bool.not_true, Bool.not_false, Bool.true_and, Bool.false_and, Bool.and_true, Bool.and_false, Bool.true_or, Bool.false_or, Bool.or_true, Bool.or_false, Bool.false_eq_true, Bool.not_eq_true, Bool.not_eq_false, Bool.not_not, decide_eq_true_eq, decide_eq_false_iff_not, decide_true, decide_false, if_true, if_false, reduceIte, reduceCtorEq, Nat.zero_le, and_self, and_true, true_and, or_true, true_or, or_false, false_or, not_true_eq_false, not_false_eq_true, Int.reduceLT, Int.reduceLE, Int.reduceNeg, Int.reduceAdd, Int.reduceMul, Int.reduceSub, Int.reducePow, Int.reduceEq, Int.reduceToNat, Nat.reduceLT, Nat.reducePow, Int.cast_ofNat_Int, isi_non_int, isi_non_bool, isi_non_str, isi_non_tuple, isi_non_list, isi_non_dict, isi_non_tuple_list, isi_non_list_tuple, isi_bl_int, isi_bl_bool, isi_bl_str, isi_bl_tuple, isi_bl_list, isi_bl_dict, isi_bl_tuple_list, isi_bl_list_tuple, isi_int_int, isi_int_bool, isi_int_str, isi_int_tuple, isi_int_list, isi_int_dict, isi_int_tuple_list, isi_int_list_tuple, isi_str_int, isi_str_bool, isi_str_str, isi_str_tuple, isi_str_list, isi_str_dict, isi_str_tuple_list, isi_str_list_tuple, isi_tup_int, isi_tup_bool, isi_tup_str, isi_tup_tuple, isi_tup_list, isi_tup_dict, isi_tup_tuple_list, isi_tup_list_tuple, isi_lst_int, isi_lst_bool, isi_lst_str, isi_lst_tuple, isi_lst_list, isi_lst_dict, isi_lst_tuple_list, isi_lst_list_tuple, isi_frz_int, isi_frz_bool, isi_frz_str, isi_frz_tuple, isi_frz_list, isi_frz_dict, isi_frz_tuple_list, isi_frz_list_tuple, tru_bl, tru_int, tru_non, tru_tup, len_tup, ix_tup, tru_lst, len_lst, ix_lst, tru_frz, len_frz, ix_frz, sl_lst, sl_frz, sl_tup, asInt_int, at0, at1, at2, at3, at4, add_int, add_tup, add_str, add_lst, addC_lst, repC_lst, sub_int, mul_int, mul_lst, mul_tup, div_int, mod_int, pow_int, neg_int, not_bl, lt_int, le_int, gt_int, ge_int, eq_int, eq_str, eq_bl, eq_non, eq_int_non, eq_non_int, eq_str_non, eq_non_str, eq_bl_non, eq_non_bl, ne_int, ne_str, ne_bl, ne_non, ne_int_non, ne_non_int, ne_str_non, ne_non_str, ne_bl_non, ne_non_bl, isNone_non, isNone_int, isNone_str, isNone_bl, isNone_tup, isNone_lst, isNone_frz, max2_int, min2_int, abs_int, int_int, int_bl, still_tup, list_tup, tuple_tup, listC_tup, sv_tup, still_lst, list_lst, tuple_lst, listC_lst, sv_lst, still_frz, list_frz, tuple_frz, listC_frz, sv_frz, r1_int, r2_int, r3_int, tg_name, tg_tup, setAll_cons, setAll_nil, mtE, g1_one, g2_two, mkL_0, mkT_0, mkC_0, mkL_1, mkT_1, mkC_1, mkL_2, mkT_2, mkC_2, mkL_3, mkT_3, mkC_3, mkL_4, mkT_4, mkC_4, bnd_S, ret_S, lineN_eq2, wipe_nil, wipe_cons, e1, hlt]
  refine ret_ok ?_
  simp only [hs2, nat10, nat2, runB, seqS, exS, asgS, retS, retN, dropS, ifS, nxS, nevS, brkS, cntS, setItS, forS, parS, op1, op2, chain, boolT, truT, notT, andT, orT, andE, orE, ifE, nilA, consA, appA, varD, cD, lstE, celE, tupE, slE, itE, itEn, cal_1, cal_2, cal_3, cal_4, cal_5, cal_6, cal_7, yesT, mulOk, List.map_cons, List.map_nil, List.length_cons, List.length_nil, List.getElem?_cons_zero, List.getElem?_cons_succ, List.set_cons_zero, List.set_cons_succ, List.replicate_succ, List.replicate_zero, List.cons_append, List.nil_append, List.append_nil, List.isEmpty_cons, List.isEmpty_nil, Nat.reduceAdd, Nat.reduceSub, Nat.reduceMul, Nat.reduceLeDiff, Nat.reduceEqDiff, Nat.zero_add, Nat.sub_zero, Nat.sub_self, Bool.not_true, Bool.not_false, Bool.true_and, Bool.false_and, Bool.and_true, Bool.and_false, Bool.true_or, Bool.false_or, Bool.or_true, Bool.or_false, Bool.false_eq_true, Bool.not_eq_true, Bool.not_eq_false, Bool.not_not, decide_eq_true_eq, decide_eq_false_iff_not, decide_true, decide_false, if_true, if_false, reduceIte, reduceCtorEq, Nat.zero_le, and_self, and_true, true_and, or_true, true_or, or_false, false_or, not_true_eq_false, not_false_eq_true, Int.reduceLT, Int.reduceLE, Int.reduceNeg, Int.reduceAdd, Int.reduceMul, Int.reduceSub, Int.reducePow, Int.reduceEq, Int.reduceToNat, Nat.reduceLT, Nat.reducePow, Int.cast_ofNat_Int, isi_non_int, isi_non_bool, isi_non_str, isi_non_tuple, isi_non_list, isi_non_dict, isi_non_tuple_list, isi_non_list_tuple, isi_bl_int, isi_bl_bool, isi_bl_str, isi_bl_tuple, isi_bl_list, isi_bl_dict, isi_bl_tuple_list, isi_bl_list_tuple, isi_int_int, isi_int_bool, isi_int_str, isi_int_tuple, isi_int_list, isi_int_dict, isi_int_tuple_list, isi_int_list_tuple, isi_str_int, isi_str_bool, isi_str_str, isi_str_tuple, isi_str_list, isi_str_dict, isi_str_tuple_list, isi_str_list_tuple, isi_tup_int, isi_tup_bool, isi_tup_str, isi_tup_tuple, isi_tup_list, isi_tup_dict, isi_tup_tuple_list, isi_tup_list_tuple, isi_lst_int, isi_lst_bool, isi_lst_str, isi_lst_tuple, isi_lst_list, isi_lst_dict, isi_lst_tuple_list, isi_lst_list_tuple, isi_frz_int, isi_frz_bool, isi_frz_str, isi_frz_tuple, isi_frz_list, isi_frz_dict, isi_frz_tuple_list, isi_frz_list_tuple, tru_bl, tru_int, tru_non, tru_tup, len_tup, ix_tup, tru_lst, len_lst, ix_lst, tru_frz, len_frz, ix_frz, sl_lst, sl_frz, sl_tup, asInt_int, at0, at1, at2, at3, at4, add_int, add_tup, add_str, add_lst, addC_lst, repC_lst, sub_int, mul_int, mul_lst, mul_tup, div_int, mod_int, pow_int, neg_int, not_bl, lt_int, le_int, gt_int, ge_int, eq_int, eq_str, eq_bl, eq_non, eq_int_non, eq_non_int, eq_str_non, eq_non_str, eq_bl_non, eq_non_bl, ne_int, ne_str, ne_bl, ne_non, ne_int_non, ne_non_int, ne_str_non, ne_non_str, ne_bl_non, ne_non_bl, isNone_non, isNone_int, isNone_str, isNone_bl, isNone_tup, isNone_lst, isNone_frz, max2_int, min2_int, abs_int, int_int, int_bl, still_tup, list_tup, tuple_tup, listC_tup, sv_tup, still_lst, list_lst, tuple_lst, listC_lst, sv_lst, still_frz, list_frz, tuple_frz, listC_frz, sv_frz, r1_int, r2_int, r3_int, tg_name, tg_tup, setAll_cons, setAll_nil, mtE, g1_one, g2_two, mkL_0, mkT_0, mkC_0, mkL_1, mkT_1, mkC_1, mkL_2, mkT_2, mkC_2, mkL_3, mkT_3, mkC_3, mkL_4, mkT_4, mkC_4, bnd_S, ret_S, lineN_eq2, wipe_nil, wipe_cons, e2]
theorem is_bought_ok {ps : List Pk} (W : WP ps) {a : Nat} (ha : a ≤ 1000000000000000000000000000000) {S : Store} (hS : HI S) : g__law_is_bought [psD ps, .int (a : Nat), .int (Co ps a : Nat)] S = .ok (.bl true) S := by
  obtain ⟨fs, h1, h2, h3⟩ := bought_ok W ha hS
  have hl4 := W.len
  have hlen : ∀ S, lenD (psD ps) S = .ok (.int (ps.length : Nat)) S := fun S => by unfold psD; rw [len_tup, List.length_map]
  have hr := fun S => r1_nat ps.length S (by omega)
  have hi : ∀ o1 o2 o3 o4 o5, (appA (consA (appA (consA (varD 0) nilA) (g1 lenD)) nilA) itR1) [some (psD ps), o1, o2, o3, o4, o5] S = .ok ((List.range ps.length).map fun i => D.int (i : Nat)) S := fun o1 o2 o3 o4 o5 => by
    simp only [nat10, nat2, runB, seqS, exS, asgS, retS, retN, dropS, ifS, nxS, nevS, brkS, cntS, setItS, forS, parS, op1, op2, chain, boolT, truT, notT, andT, orT, andE, orE, ifE, nilA, consA, appA, varD, cD, lstE, celE, tupE, slE, itE, itEn, cal_1, cal_2, cal_3, cal_4, cal_5, cal_6, cal_7, yesT, mulOk, List.map_cons, List.map_nil, List.length_cons, List.length_nil, List.getElem?_cons_zero, List.getElem?_cons_succ, List.set_cons_zero, List.set_cons_succ, List.replicate_succ, List.replicate_zero, List.cons_append, List.nil_append, List.append_nil, List.isEmpty_cons, List.isEmpty_nil, Nat.reduceAdd, Nat.reduceSub, Nat.reduceMul, Nat.reduceLeDiff, Nat.reduceEqDiff, Nat.zero_add, Nat.sub_zero, Nat.sub_self, Bool.not_true, Bool.not_false, Bool.true_and, Bool.false_and, Bool.and_true, Bool.and_false, Bool.true_or, Bool.false_or, Bool.or_true, Bool.or_false, Bool.false_eq_true, Bool.not_eq_true, Bool.not_eq_false, Bool.not_not, decide_eq_true_eq, decide_eq_false_iff_not, decide_true, decide_false, if_true, if_false, reduceIte, reduceCtorEq, Nat.zero_le, and_self, and_true, true_and, or_true, true_or, or_false, false_or, not_true_eq_false, not_false_eq_true, Int.reduceLT, Int.reduceLE, Int.reduceNeg, Int.reduceAdd, Int.reduceMul, Int.reduceSub, Int.reducePow, Int.reduceEq, Int.reduceToNat, Nat.reduceLT, Nat.reducePow, Int.cast_ofNat_Int, isi_non_int, isi_non_bool, isi_non_str, isi_non_tuple, isi_non_list, isi_non_dict, isi_non_tuple_list, isi_non_list_tuple, isi_bl_int, isi_bl_bool, isi_bl_str, isi_bl_tuple, isi_bl_list, isi_bl_dict, isi_bl_tuple_list, isi_bl_list_tuple, isi_int_int, isi_int_bool, isi_int_str, isi_int_tuple, isi_int_list, isi_int_dict, isi_int_tuple_list, isi_int_list_tuple, isi_str_int, isi_str_bool, isi_str_str, isi_str_tuple, isi_str_list, isi_str_dict, isi_str_tuple_list, isi_str_list_tuple, isi_tup_int, isi_tup_bool, isi_tup_str, isi_tup_tuple, isi_tup_list, isi_tup_dict, isi_tup_tuple_list, isi_tup_list_tuple, isi_lst_int, isi_lst_bool, isi_lst_str, isi_lst_tuple, isi_lst_list, isi_lst_dict, isi_lst_tuple_list, isi_lst_list_tuple, isi_frz_int, isi_frz_bool, isi_frz_str, isi_frz_tuple, isi_frz_list, isi_frz_dict, isi_frz_tuple_list, isi_frz_list_tuple, tru_bl, tru_int, tru_non, tru_tup, len_tup, ix_tup, tru_lst, len_lst, ix_lst, tru_frz, len_frz, ix_frz, sl_lst, sl_frz, sl_tup, asInt_int, at0, at1, at2, at3, at4, add_int, add_tup, add_str, add_lst, addC_lst, repC_lst, sub_int, mul_int, mul_lst, mul_tup, div_int, mod_int, pow_int, neg_int, not_bl, lt_int, le_int, gt_int, ge_int, eq_int, eq_str, eq_bl, eq_non, eq_int_non, eq_non_int, eq_str_non, eq_non_str, eq_bl_non, eq_non_bl, ne_int, ne_str, ne_bl, ne_non, ne_int_non, ne_non_int, ne_str_non, ne_non_str, ne_bl_non, ne_non_bl, isNone_non, isNone_int, isNone_str, isNone_bl, isNone_tup, isNone_lst, isNone_frz, max2_int, min2_int, abs_int, int_int, int_bl, still_tup, list_tup, tuple_tup, listC_tup, sv_tup, still_lst, list_lst, tuple_lst, listC_lst, sv_lst, still_frz, list_frz, tuple_frz, listC_frz, sv_frz, r1_int, r2_int, r3_int, tg_name, tg_tup, setAll_cons, setAll_nil, mtE, g1_one, g2_two, mkL_0, mkT_0, mkC_0, mkL_1, mkT_1, mkC_1, mkL_2, mkT_2, mkC_2, mkL_3, mkT_3, mkC_3, mkL_4, mkT_4, mkC_4, bnd_S, ret_S, lineN_eq2, wipe_nil, wipe_cons, -r1_int, hlen, hr]
  have hsum : ∀ (w : Nat → Nat), sumD (.lst ((List.range ps.length).map fun i : Nat => D.int (((fs i : Nat) : Int) * (w i : Nat)))) S = .ok (.int (tot w fs ps.length : Nat)) S := fun w => by
    rw [sum_lst, ints?_map]
    dsimp only
    rw [tot_sum]
  refine ib_gen g_bought (psD ps) (a : Nat) (Co ps a : Nat) (tot (sz ps) fs ps.length : Nat) (nums fs ps.length) S (ps.length : Nat) ((List.range ps.length).map fun i : Nat => D.int (((fs i : Nat) : Int) * (sz ps i : Nat))) ((List.range ps.length).map fun i : Nat => D.int (((fs i : Nat) : Int) * (pr ps i : Nat))) h1 (hlen S) (by rw [nums_len]) ?_ ?_ ?_ ?_ (hsum _) (by rw [hsum, h3]) (by omega)
  · have := lcE_of (own := [4]) (t := .name 4) (fi := itE (varD 3)) (ft := boolT (op2 ltD (varD 4) (cD (.int 0)))) (fe := varD 4) (ρ := [some (psD ps), some (.int (a : Nat)), some (.int (Co ps a : Nat)), some (.tup (nums fs ps.length)), none, none]) (S := S)
      (fun i : Nat => D.int (fs i : Nat)) (fun _ => false) (fun i => .int (fs i : Nat)) (List.range ps.length) rfl (by rw [List.length_range, lineN_eq2]; omega) (fun i _ => ⟨[some (psD ps), some (.int (a : Nat)), some (.int (Co ps a : Nat)), some (.tup (nums fs ps.length)), some (.int (fs i : Nat)), none], rfl, by
        have : ¬ ((fs i : Nat) : Int) < 0 := by omega
        simp only [nat10, nat2, runB, seqS, exS, asgS, retS, retN, dropS, ifS, nxS, nevS, brkS, cntS, setItS, forS, parS, op1, op2, chain, boolT, truT, notT, andT, orT, andE, orE, ifE, nilA, consA, appA, varD, cD, lstE, celE, tupE, slE, itE, itEn, cal_1, cal_2, cal_3, cal_4, cal_5, cal_6, cal_7, yesT, mulOk, List.map_cons, List.map_nil, List.length_cons, List.length_nil, List.getElem?_cons_zero, List.getElem?_cons_succ, List.set_cons_zero, List.set_cons_succ, List.replicate_succ, List.replicate_zero, List.cons_append, List.nil_append, List.append_nil, List.isEmpty_cons, List.isEmpty_nil, Nat.reduceAdd, Nat.reduceSub, Nat.reduceMul, Nat.reduceLeDiff, Nat.reduceEqDiff, Nat.zero_add, Nat.sub_zero, Nat.sub_self, Bool.not_true, Bool.not_false, Bool.true_and, Bool.false_and, Bool.and_true, Bool.and_false, Bool.true_or, Bool.false_or, Bool.or_true, Bool.or_false, Bool.false_eq_true, Bool.not_eq_true, Bool.not_eq_false, Bool.not_not, decide_eq_true_eq, decide_eq_false_iff_not, decide_true, decide_false, if_true, if_false, reduceIte, reduceCtorEq, Nat.zero_le, and_self, and_true, true_and, or_true, true_or, or_false, false_or, not_true_eq_false, not_false_eq_true, Int.reduceLT, Int.reduceLE, Int.reduceNeg, Int.reduceAdd, Int.reduceMul, Int.reduceSub, Int.reducePow, Int.reduceEq, Int.reduceToNat, Nat.reduceLT, Nat.reducePow, Int.cast_ofNat_Int, isi_non_int, isi_non_bool, isi_non_str, isi_non_tuple, isi_non_list, isi_non_dict, isi_non_tuple_list, isi_non_list_tuple, isi_bl_int, isi_bl_bool, isi_bl_str, isi_bl_tuple, isi_bl_list, isi_bl_dict, isi_bl_tuple_list, isi_bl_list_tuple, isi_int_int, isi_int_bool, isi_int_str, isi_int_tuple, isi_int_list, isi_int_dict, isi_int_tuple_list, isi_int_list_tuple, isi_str_int, isi_str_bool, isi_str_str, isi_str_tuple, isi_str_list, isi_str_dict, isi_str_tuple_list, isi_str_list_tuple, isi_tup_int, isi_tup_bool, isi_tup_str, isi_tup_tuple, isi_tup_list, isi_tup_dict, isi_tup_tuple_list, isi_tup_list_tuple, isi_lst_int, isi_lst_bool, isi_lst_str, isi_lst_tuple, isi_lst_list, isi_lst_dict, isi_lst_tuple_list, isi_lst_list_tuple, isi_frz_int, isi_frz_bool, isi_frz_str, isi_frz_tuple, isi_frz_list, isi_frz_dict, isi_frz_tuple_list, isi_frz_list_tuple, tru_bl, tru_int, tru_non, tru_tup, len_tup, ix_tup, tru_lst, len_lst, ix_lst, tru_frz, len_frz, ix_frz, sl_lst, sl_frz, sl_tup, asInt_int, at0, at1, at2, at3, at4, add_int, add_tup, add_str, add_lst, addC_lst, repC_lst, sub_int, mul_int, mul_lst, mul_tup, div_int, mod_int, pow_int, neg_int, not_bl, lt_int, le_int, gt_int, ge_int, eq_int, eq_str, eq_bl, eq_non, eq_int_non, eq_non_int, eq_str_non, eq_non_str, eq_bl_non, eq_non_bl, ne_int, ne_str, ne_bl, ne_non, ne_int_non, ne_non_int, ne_str_non, ne_non_str, ne_bl_non, ne_non_bl, isNone_non, isNone_int, isNone_str, isNone_bl, isNone_tup, isNone_lst, isNone_frz, max2_int, min2_int, abs_int, int_int, int_bl, still_tup, list_tup, tuple_tup, listC_tup, sv_tup, still_lst, list_lst, tuple_lst, listC_lst, sv_lst, still_frz, list_frz, tuple_frz, listC_frz, sv_frz, r1_int, r2_int, r3_int, tg_name, tg_tup, setAll_cons, setAll_nil, mtE, g1_one, g2_two, mkL_0, mkT_0, mkC_0, mkL_1, mkT_1, mkC_1, mkL_2, mkT_2, mkC_2, mkL_3, mkT_3, mkC_3, mkL_4, mkT_4, mkC_4, bnd_S, ret_S, lineN_eq2, wipe_nil, wipe_cons, this], (fun h => by cases h)⟩)
    rw [this]
    simp
  · have := lcE_of (own := [4]) (t := .name 4) (fi := itE (varD 3)) (ft := (orT (truT (appA (consA (varD 4) (consA (cD (.ty "bool")) nilA)) (g2 isiD))) (notT (truT (appA (consA (varD 4) (consA (cD (.ty "int")) nilA)) (g2 isiD)))))) (fe := varD 4) (ρ := [some (psD ps), some (.int (a : Nat)), some (.int (Co ps a : Nat)), some (.tup (nums fs ps.length)), none, none]) (S := S)
      (fun i : Nat => D.int (fs i : Nat)) (fun _ => false) (fun i => .int (fs i : Nat)) (List.range ps.length) rfl (by rw [List.length_range, lineN_eq2]; omega) (fun i _ => ⟨[some (psD ps), some (.int (a : Nat)), some (.int (Co ps a : Nat)), some (.tup (nums fs ps.length)), some (.int (fs i : Nat)), none], rfl, by
        simp only [nat10, nat2, runB, seqS, exS, asgS, retS, retN, dropS, ifS, nxS, nevS, brkS, cntS, setItS, forS, parS, op1, op2, chain, boolT, truT, notT, andT, orT, andE, orE, ifE, nilA, consA, appA, varD, cD, lstE, celE, tupE, slE, itE, itEn, cal_1, cal_2, cal_3, cal_4, cal_5, cal_6, cal_7, yesT, mulOk, List.map_cons, List.map_nil, List.length_cons, List.length_nil, List.getElem?_cons_zero, List.getElem?_cons_succ, List.set_cons_zero, List.set_cons_succ, List.replicate_succ, List.replicate_zero, List.cons_append, List.nil_append, List.append_nil, List.isEmpty_cons, List.isEmpty_nil, Nat.reduceAdd, Nat.reduceSub, Nat.reduceMul, Nat.reduceLeDiff, Nat.reduceEqDiff, Nat.zero_add, Nat.sub_zero, Nat.sub_self, Bool.not_true, Bool.not_false, Bool.true_and, Bool.false_and, Bool.and_true, Bool.and_false, Bool.true_or, Bool.false_or, Bool.or_true, Bool.or_false, Bool.false_eq_true, Bool.not_eq_true, Bool.not_eq_false, Bool.not_not, decide_eq_true_eq, decide_eq_false_iff_not, decide_true, decide_false, if_true, if_false, reduceIte, reduceCtorEq, Nat.zero_le, and_self, and_true, true_and, or_true, true_or, or_false, false_or, not_true_eq_false, not_false_eq_true, Int.reduceLT, Int.reduceLE, Int.reduceNeg, Int.reduceAdd, Int.reduceMul, Int.reduceSub, Int.reducePow, Int.reduceEq, Int.reduceToNat, Nat.reduceLT, Nat.reducePow, Int.cast_ofNat_Int, isi_non_int, isi_non_bool, isi_non_str, isi_non_tuple, isi_non_list, isi_non_dict, isi_non_tuple_list, isi_non_list_tuple, isi_bl_int, isi_bl_bool, isi_bl_str, isi_bl_tuple, isi_bl_list, isi_bl_dict, isi_bl_tuple_list, isi_bl_list_tuple, isi_int_int, isi_int_bool, isi_int_str, isi_int_tuple, isi_int_list, isi_int_dict, isi_int_tuple_list, isi_int_list_tuple, isi_str_int, isi_str_bool, isi_str_str, isi_str_tuple, isi_str_list, isi_str_dict, isi_str_tuple_list, isi_str_list_tuple, isi_tup_int, isi_tup_bool, isi_tup_str, isi_tup_tuple, isi_tup_list, isi_tup_dict, isi_tup_tuple_list, isi_tup_list_tuple, isi_lst_int, isi_lst_bool, isi_lst_str, isi_lst_tuple, isi_lst_list, isi_lst_dict, isi_lst_tuple_list, isi_lst_list_tuple, isi_frz_int, isi_frz_bool, isi_frz_str, isi_frz_tuple, isi_frz_list, isi_frz_dict, isi_frz_tuple_list, isi_frz_list_tuple, tru_bl, tru_int, tru_non, tru_tup, len_tup, ix_tup, tru_lst, len_lst, ix_lst, tru_frz, len_frz, ix_frz, sl_lst, sl_frz, sl_tup, asInt_int, at0, at1, at2, at3, at4, add_int, add_tup, add_str, add_lst, addC_lst, repC_lst, sub_int, mul_int, mul_lst, mul_tup, div_int, mod_int, pow_int, neg_int, not_bl, lt_int, le_int, gt_int, ge_int, eq_int, eq_str, eq_bl, eq_non, eq_int_non, eq_non_int, eq_str_non, eq_non_str, eq_bl_non, eq_non_bl, ne_int, ne_str, ne_bl, ne_non, ne_int_non, ne_non_int, ne_str_non, ne_non_str, ne_bl_non, ne_non_bl, isNone_non, isNone_int, isNone_str, isNone_bl, isNone_tup, isNone_lst, isNone_frz, max2_int, min2_int, abs_int, int_int, int_bl, still_tup, list_tup, tuple_tup, listC_tup, sv_tup, still_lst, list_lst, tuple_lst, listC_lst, sv_lst, still_frz, list_frz, tuple_frz, listC_frz, sv_frz, r1_int, r2_int, r3_int, tg_name, tg_tup, setAll_cons, setAll_nil, mtE, g1_one, g2_two, mkL_0, mkT_0, mkC_0, mkL_1, mkT_1, mkC_1, mkL_2, mkT_2, mkC_2, mkL_3, mkT_3, mkC_3, mkL_4, mkT_4, mkC_4, bnd_S, ret_S, lineN_eq2, wipe_nil, wipe_cons], (fun h => by cases h)⟩)
    rw [this]
    simp
  · exact lcE_all (own := [5]) (t := .name 5) (fun i : Nat => D.int (i : Nat)) (fun i : Nat => D.int (((fs i : Nat) : Int) * (sz ps i : Nat))) (List.range ps.length) (hi _ _ _ _ _) (by rw [List.length_range, lineN_eq2]; omega) (fun i hm => by
      have hi' := List.mem_range.mp hm
      have hs := W.sz _ (pk_mem2 hi')
      refine ⟨_, rfl, rfl, ib_item .non (psD ps) (.tup (nums fs ps.length)) (pkD (pk ps i)) (fs i : Nat) (sz ps i : Nat) (i : Nat) 0 _ _ _ S (by rw [ix_tup, at?_nat]; simp [nums, hi']) (ps_ix hi' S) (pk_ix0 _ S) (by unfold sz; omega) (by unfold sz; omega)⟩)
  · exact lcE_all (own := [5]) (t := .name 5) (fun i : Nat => D.int (i : Nat)) (fun i : Nat => D.int (((fs i : Nat) : Int) * (pr ps i : Nat))) (List.range ps.length) (hi _ _ _ _ _) (by rw [List.length_range, lineN_eq2]; omega) (fun i hm => by
      have hi' := List.mem_range.mp hm
      have hs := W.pr _ (pk_mem2 hi')
      refine ⟨_, rfl, rfl, ib_item .non (psD ps) (.tup (nums fs ps.length)) (pkD (pk ps i)) (fs i : Nat) (pr ps i : Nat) (i : Nat) 1 _ _ _ S (by rw [ix_tup, at?_nat]; simp [nums, hi']) (ps_ix hi' S) (pk_ix1 _ S) (by unfold pr; omega) (by unfold pr; omega)⟩)
end F

set_option linter.all false
set_option autoImplicit false
set_option maxRecDepth 100000
namespace F
open PySem
def in_body (gib al gco gn : List D → M D) : SS := (seqS (asgS (appA (consA (varD 1) (consA (cD (.int 201)) nilA)) (cal 2 gn)) (.name 11))
  (ifS (orT (notT (truT (appA (consA (appA (consA (varD 3) (consA (varD 11) nilA)) (cal 2 gco)) (consA (op2 ixD (varD 9) (varD 11)) nilA)) (cal 2 al)))) (notT (truT (appA (consA (varD 3) (consA (varD 11) (consA (op2 ixD (varD 9) (varD 11)) nilA))) (cal 3 gib))))) (retS (cD (.bl false))) nxS))
theorem in_gen (gib al gco gn : List D → M D) (scr P L : D) (o2 o4 o5 o6 o7 o8 o10 o11 : Option D) (r v : Int) (S S2 : Store) (hn : gn [.ref 1, .int 201] S = .ok (.int r) S2) (hco : gco [P, .int r] S2 = .ok (.int v) S2) (hix : ixD L (.int r) S2 = .ok (.int v) S2) (hal : al [.int v, .int v] S2 = .ok (.bl true) S2)
    (hib : gib [P, .int r, .int v] S2 = .ok (.bl true) S2) : in_body gib al gco gn [some scr, some (.ref 1), o2, some P, o4, o5, o6, o7, o8, some L, o10, o11] S = .fl (.nx [some scr, some (.ref 1), o2, some P, o4, o5, o6, o7, o8, some L, o10, some (.int r)]) S2 := by
  simp only [in_body, nat10, nat2, runB, seqS, exS, asgS, retS, retN, dropS, ifS, nxS, nevS, brkS, cntS, setItS, forS, parS, op1, op2, chain, boolT, truT, notT, andT, orT, andE, orE, ifE, nilA, consA, appA, varD, cD, lstE, celE, tupE, slE, itE, itEn, cal_1, cal_2, cal_3, cal_4, cal_5, cal_6, cal_7, yesT, mulOk, List.map_cons, List.map_nil, List.length_cons, List.length_nil, List.getElem?_cons_zero, List.getElem?_cons_succ, List.set_cons_zero, List.set_cons_succ, List.replicate_succ, List.replicate_zero, List.cons_append, List.nil_append, List.append_nil, List.isEmpty_cons, List.isEmpty_nil, Nat.reduceAdd, Nat.reduceSub, Nat.reduceMul, Nat.reduceLeDiff, Nat.reduceEqDiff, Nat.zero_add, Nat.sub_zero, Nat.sub_self, Bool.not_true, Bool.not_false, Bool.true_and, Bool.false_and, Bool.and_true, Bool.and_false, Bool.true_or, Bool.false_or, Bool.or_true, Bool.or_false, Bool.false_eq_true, Bool.not_eq_true, Bool.not_eq_false, Bool.not_not, decide_eq_true_eq, decide_eq_false_iff_not, decide_true, decide_false, if_true, if_false, reduceIte, reduceCtorEq, Nat.zero_le, and_self, and_true, true_and, or_true, true_or, or_false, false_or, not_true_eq_false, not_false_eq_true, Int.reduceLT, Int.reduceLE, Int.reduceNeg, Int.reduceAdd, Int.reduceMul, Int.reduceSub, Int.reducePow, Int.reduceEq, Int.reduceToNat, Nat.reduceLT, Nat.reducePow, Int.cast_ofNat_Int, isi_non_int, isi_non_bool, isi_non_str, isi_non_tuple, isi_non_list, isi_non_dict, isi_non_tuple_list, isi_non_list_tuple, isi_bl_int, isi_bl_bool, isi_bl_str, isi_bl_tuple, isi_bl_list, isi_bl_dict, isi_bl_tuple_list, isi_bl_list_tuple, isi_int_int, isi_int_bool, isi_int_str, isi_int_tuple, isi_int_list, isi_int_dict, isi_int_tuple_list, isi_int_list_tuple, isi_str_int, isi_str_bool, isi_str_str, isi_str_tuple, isi_str_list, isi_str_dict, isi_str_tuple_list, isi_str_list_tuple, isi_tup_int, isi_tup_bool, isi_tup_str, isi_tup_tuple, isi_tup_list, isi_tup_dict, isi_tup_tuple_list, isi_tup_list_tuple, isi_lst_int, isi_lst_bool, isi_lst_str, isi_lst_tuple, isi_lst_list, isi_lst_dict, isi_lst_tuple_list, isi_lst_list_tuple, isi_frz_int, isi_frz_bool, isi_frz_str, isi_frz_tuple, isi_frz_list, isi_frz_dict, isi_frz_tuple_list, isi_frz_list_tuple, tru_bl, tru_int, tru_non, tru_tup, len_tup, ix_tup, tru_lst, len_lst, ix_lst, tru_frz, len_frz, ix_frz, sl_lst, sl_frz, sl_tup, asInt_int, at0, at1, at2, at3, at4, add_int, add_tup, add_str, add_lst, addC_lst, repC_lst, sub_int, mul_int, mul_lst, mul_tup, div_int, mod_int, pow_int, neg_int, not_bl, lt_int, le_int, gt_int, ge_int, eq_int, eq_str, eq_bl, eq_non, eq_int_non, eq_non_int, eq_str_non, eq_non_str, eq_bl_non, eq_non_bl, ne_int, ne_str, ne_bl, ne_non, ne_int_non, ne_non_int, ne_str_non, ne_non_str, ne_bl_non, ne_non_bl, isNone_non, isNone_int, isNone_str, isNone_bl, isNone_tup, isNone_lst, isNone_frz, max2_int, min2_int, abs_int, int_int, int_bl, still_tup, list_tup, tuple_tup, listC_tup, sv_tup, still_lst, list_lst, tuple_lst, listC_lst, sv_lst, still_frz, list_frz, tuple_frz, listC_frz, sv_frz, r1_int, r2_int, r3_int, tg_name, tg_tup, setAll_cons, setAll_nil, mtE, g1_one, g2_two, mkL_0, mkT_0, mkC_0, mkL_1, mkT_1, mkC_1, mkL_2, mkT_2, mkC_2, mkL_3, mkT_3, mkC_3, mkL_4, mkT_4, mkC_4, bnd_S, ret_S, lineN_eq2, wipe_nil, wipe_cons, hn, hco, hix, hal, hib]
def ch_body : SS := (ifS (boolT (op2 ltD (op2 mulD (op2 ixD (varD 4) (cD (.int 1))) (op2 ixD (varD 10) (cD (.int 0)))) (op2 mulD (op2 ixD (varD 10) (cD (.int 1))) (op2 ixD (varD 4) (cD (.int 0)))))) (asgS (varD 4) (.name 10)) nxS)
theorem ch_gen (o0 o1 o2 o3 o5 o6 o7 o8 o9 o11 : Option D) (A B : D) (a0 a1 b0 b1 : Int) (S : Store) (h1 : ixD A (.int 0) S = .ok (.int a0) S) (h2 : ixD A (.int 1) S = .ok (.int a1) S) (h3 : ixD B (.int 0) S = .ok (.int b0) S) (h4 : ixD B (.int 1) S = .ok (.int b1) S)
    (q1 : (-18446744073709551616 : Int) < a1) (q2 : a1 < 18446744073709551616) (q3 : (-18446744073709551616 : Int) < b1) (q4 : b1 < 18446744073709551616) :
    ch_body [o0, o1, o2, o3, some A, o5, o6, o7, o8, o9, some B, o11] S = .fl (.nx [o0, o1, o2, o3, some A, o5, o6, o7, o8, o9, some (if a1 * b0 < b1 * a0 then A else B), o11]) S := by
  by_cases h : a1 * b0 < b1 * a0 <;> simp only [ch_body, nat10, nat2, runB, seqS, exS, asgS, retS, retN, dropS, ifS, nxS, nevS, brkS, cntS, setItS, forS, parS, op1, op2, chain, boolT, truT, notT, andT, orT, andE, orE, ifE, nilA, consA, appA, varD, cD, lstE, celE, tupE, slE, itE, itEn, cal_1, cal_2, cal_3, cal_4, cal_5, cal_6, cal_7, yesT, mulOk, List.map_cons, List.map_nil, List.length_cons, List.length_nil, List.getElem?_cons_zero, List.getElem?_cons_succ, List.set_cons_zero, List.set_cons_succ, List.replicate_succ, List.replicate_zero, List.cons_append, List.nil_append, List.append_nil, List.isEmpty_cons, List.isEmpty_nil, Nat.reduceAdd, Nat.reduceSub, Nat.reduceMul, Nat.reduceLeDiff, Nat.reduceEqDiff, Nat.zero_add, Nat.sub_zero, Nat.sub_self, Bool.not_true, Bool.not_false, Bool.true_and, Bool.false_and, Bool.and_true, Bool.and_false, Bool.true_or, Bool.false_or, Bool.or_true, Bool.or_false, Bool.false_eq_true, Bool.not_eq_true, Bool.not_eq_false, Bool.not_not, decide_eq_true_eq, decide_eq_false_iff_not, decide_true, decide_false, if_true, if_false, reduceIte, reduceCtorEq, Nat.zero_le, and_self, and_true, true_and, or_true, true_or, or_false, false_or, not_true_eq_false, not_false_eq_true, Int.reduceLT, Int.reduceLE, Int.reduceNeg, Int.reduceAdd, Int.reduceMul, Int.reduceSub, Int.reducePow, Int.reduceEq, Int.reduceToNat, Nat.reduceLT, Nat.reducePow, Int.cast_ofNat_Int, isi_non_int, isi_non_bool, isi_non_str, isi_non_tuple, isi_non_list, isi_non_dict, isi_non_tuple_list, isi_non_list_tuple, isi_bl_int, isi_bl_bool, isi_bl_str, isi_bl_tuple, isi_bl_list, isi_bl_dict, isi_bl_tuple_list, isi_bl_list_tuple, isi_int_int, isi_int_bool, isi_int_str, isi_int_tuple, isi_int_list, isi_int_dict, isi_int_tuple_list, isi_int_list_tuple, isi_str_int, isi_str_bool, isi_str_str, isi_str_tuple, isi_str_list, isi_str_dict, isi_str_tuple_list, isi_str_list_tuple, isi_tup_int, isi_tup_bool, isi_tup_str, isi_tup_tuple, isi_tup_list, isi_tup_dict, isi_tup_tuple_list, isi_tup_list_tuple, isi_lst_int, isi_lst_bool, isi_lst_str, isi_lst_tuple, isi_lst_list, isi_lst_dict, isi_lst_tuple_list, isi_lst_list_tuple, isi_frz_int, isi_frz_bool, isi_frz_str, isi_frz_tuple, isi_frz_list, isi_frz_dict, isi_frz_tuple_list, isi_frz_list_tuple, tru_bl, tru_int, tru_non, tru_tup, len_tup, ix_tup, tru_lst, len_lst, ix_lst, tru_frz, len_frz, ix_frz, sl_lst, sl_frz, sl_tup, asInt_int, at0, at1, at2, at3, at4, add_int, add_tup, add_str, add_lst, addC_lst, repC_lst, sub_int, mul_int, mul_lst, mul_tup, div_int, mod_int, pow_int, neg_int, not_bl, lt_int, le_int, gt_int, ge_int, eq_int, eq_str, eq_bl, eq_non, eq_int_non, eq_non_int, eq_str_non, eq_non_str, eq_bl_non, eq_non_bl, ne_int, ne_str, ne_bl, ne_non, ne_int_non, ne_non_int, ne_str_non, ne_non_str, ne_bl_non, ne_non_bl, isNone_non, isNone_int, isNone_str, isNone_bl, isNone_tup, isNone_lst, isNone_frz, max2_int, min2_int, abs_int, int_int, int_bl, still_tup, list_tup, tuple_tup, listC_tup, sv_tup, still_lst, list_lst, tuple_lst, listC_lst, sv_lst, still_frz, list_frz, tuple_frz, listC_frz, sv_frz, r1_int, r2_int, r3_int, tg_name, tg_tup, setAll_cons, setAll_nil, mtE, g1_one, g2_two, mkL_0, mkT_0, mkC_0, mkL_1, mkT_1, mkC_1, mkL_2, mkT_2, mkC_2, mkL_3, mkT_3, mkC_3, mkL_4, mkT_4, mkC_4, bnd_S, ret_S, lineN_eq2, wipe_nil, wipe_cons, h1, h2, h3, h4, q1, q2, q3, q4, h]
def great_e (gpick gn : List D → M D) : SE := (appA (consA (varD 1) (consA (lstE (consA (op2 powD (cD (.int 10)) (cD (.int 30))) (consA (op2 subD (op2 powD (cD (.int 10)) (cD (.int 30))) (appA (consA (varD 1) (consA (op2 powD (cD (.int 10)) (cD (.int 17))) nilA)) (cal 2 gn))) (consA (op2 addD (cD (.int 201)) (appA (consA (varD 1) (consA (op2 powD (cD (.int 10)) (cD (.int 6))) nilA)) (cal 2 gn))) nilA)))) nilA)) (cal 2 gpick))
theorem great_gen (gpick gn : List D → M D) (o0 o2 o3 o4 o5 o6 o7 o8 o9 o10 o11 : Option D) (r1 r2 : Int) (d : D) (S S1 S2 S3 : Store) (h1 : gn [.ref 1, .int 100000000000000000] S = .ok (.int r1) S1) (h2 : gn [.ref 1, .int 1000000] S1 = .ok (.int r2) S2)
    (h3 : gpick [.ref 1, .lst [.int 1000000000000000000000000000000, .int (1000000000000000000000000000000 - r1), .int (201 + r2)]] S2 = .ok d S3) : great_e gpick gn [o0, some (.ref 1), o2, o3, o4, o5, o6, o7, o8, o9, o10, o11] S = .ok d S3 := by
  simp only [great_e, nat10, nat2, runB, seqS, exS, asgS, retS, retN, dropS, ifS, nxS, nevS, brkS, cntS, setItS, forS, parS, op1, op2, chain, boolT, truT, notT, andT, orT, andE, orE, ifE, nilA, consA, appA, varD, cD, lstE, celE, tupE, slE, itE, itEn, cal_1, cal_2, cal_3, cal_4, cal_5, cal_6, cal_7, yesT, mulOk, List.map_cons, List.map_nil, List.length_cons, List.length_nil, List.getElem?_cons_zero, List.getElem?_cons_succ, List.set_cons_zero, List.set_cons_succ, List.replicate_succ, List.replicate_zero, List.cons_append, List.nil_append, List.append_nil, List.isEmpty_cons, List.isEmpty_nil, Nat.reduceAdd, Nat.reduceSub, Nat.reduceMul, Nat.reduceLeDiff, Nat.reduceEqDiff, Nat.zero_add, Nat.sub_zero, Nat.sub_self, Bool.not_true, Bool.not_false, Bool.true_and, Bool.false_and, Bool.and_true, Bool.and_false, Bool.true_or, Bool.false_or, Bool.or_true, Bool.or_false, Bool.false_eq_true, Bool.not_eq_true, Bool.not_eq_false, Bool.not_not, decide_eq_true_eq, decide_eq_false_iff_not, decide_true, decide_false, if_true, if_false, reduceIte, reduceCtorEq, Nat.zero_le, and_self, and_true, true_and, or_true, true_or, or_false, false_or, not_true_eq_false, not_false_eq_true, Int.reduceLT, Int.reduceLE, Int.reduceNeg, Int.reduceAdd, Int.reduceMul, Int.reduceSub, Int.reducePow, Int.reduceEq, Int.reduceToNat, Nat.reduceLT, Nat.reducePow, Int.cast_ofNat_Int, isi_non_int, isi_non_bool, isi_non_str, isi_non_tuple, isi_non_list, isi_non_dict, isi_non_tuple_list, isi_non_list_tuple, isi_bl_int, isi_bl_bool, isi_bl_str, isi_bl_tuple, isi_bl_list, isi_bl_dict, isi_bl_tuple_list, isi_bl_list_tuple, isi_int_int, isi_int_bool, isi_int_str, isi_int_tuple, isi_int_list, isi_int_dict, isi_int_tuple_list, isi_int_list_tuple, isi_str_int, isi_str_bool, isi_str_str, isi_str_tuple, isi_str_list, isi_str_dict, isi_str_tuple_list, isi_str_list_tuple, isi_tup_int, isi_tup_bool, isi_tup_str, isi_tup_tuple, isi_tup_list, isi_tup_dict, isi_tup_tuple_list, isi_tup_list_tuple, isi_lst_int, isi_lst_bool, isi_lst_str, isi_lst_tuple, isi_lst_list, isi_lst_dict, isi_lst_tuple_list, isi_lst_list_tuple, isi_frz_int, isi_frz_bool, isi_frz_str, isi_frz_tuple, isi_frz_list, isi_frz_dict, isi_frz_tuple_list, isi_frz_list_tuple, tru_bl, tru_int, tru_non, tru_tup, len_tup, ix_tup, tru_lst, len_lst, ix_lst, tru_frz, len_frz, ix_frz, sl_lst, sl_frz, sl_tup, asInt_int, at0, at1, at2, at3, at4, add_int, add_tup, add_str, add_lst, addC_lst, repC_lst, sub_int, mul_int, mul_lst, mul_tup, div_int, mod_int, pow_int, neg_int, not_bl, lt_int, le_int, gt_int, ge_int, eq_int, eq_str, eq_bl, eq_non, eq_int_non, eq_non_int, eq_str_non, eq_non_str, eq_bl_non, eq_non_bl, ne_int, ne_str, ne_bl, ne_non, ne_int_non, ne_non_int, ne_str_non, ne_non_str, ne_bl_non, ne_non_bl, isNone_non, isNone_int, isNone_str, isNone_bl, isNone_tup, isNone_lst, isNone_frz, max2_int, min2_int, abs_int, int_int, int_bl, still_tup, list_tup, tuple_tup, listC_tup, sv_tup, still_lst, list_lst, tuple_lst, listC_lst, sv_lst, still_frz, list_frz, tuple_frz, listC_frz, sv_frz, r1_int, r2_int, r3_int, tg_name, tg_tup, setAll_cons, setAll_nil, mtE, g1_one, g2_two, mkL_0, mkT_0, mkC_0, mkL_1, mkT_1, mkC_1, mkL_2, mkT_2, mkC_2, mkL_3, mkT_3, mkC_3, mkL_4, mkT_4, mkC_4, bnd_S, ret_S, lineN_eq2, wipe_nil, wipe_cons, Int.reducePow, h1, h2, h3]
theorem end_gen (gib al gco : List D → M D) (scr P L B : D) (o2 o4 o5 o7 o8 o11 : Option D) (g z c m i v : Int) (S : Store) (h0 : ixD B (.int 0) S = .ok (.int z) S) (h1 : ixD B (.int 1) S = .ok (.int c) S) (z0 : 0 < z) (z1 : z < 18446744073709551616) (z2 : (-18446744073709551616 : Int) < z) (c1 : c < 18446744073709551616) (c2 : (-18446744073709551616 : Int) < c)
    (hm : (g - 188) / z = m) (hi : ixD L (.int (g - m * z)) S = .ok (.int i) S) (hv : m * c + i = v) (hco : gco [P, .int g] S = .ok (.int v) S) (hal : al [.int v, .int v] S = .ok (.bl true) S) (hib : gib [P, .int g, .int v] S = .ok (.bl true) S) :
    (seqS (asgS (op2 divD (op2 subD (varD 6) (cD (.int 188))) (op2 ixD (varD 10) (cD (.int 0)))) (.name 7))
  (seqS (asgS (op2 addD (op2 mulD (varD 7) (op2 ixD (varD 10) (cD (.int 1)))) (op2 ixD (varD 9) (op2 subD (varD 6) (op2 mulD (varD 7) (op2 ixD (varD 10) (cD (.int 0))))))) (.name 8))
  (ifS (orT (notT (truT (appA (consA (appA (consA (varD 3) (consA (varD 6) nilA)) (cal 2 gco)) (consA (varD 8) nilA)) (cal 2 al)))) (notT (truT (appA (consA (varD 3) (consA (varD 6) (consA (varD 8) nilA))) (cal 3 gib))))) (retS (cD (.bl false))) nxS))) [some scr, some (.ref 1), o2, some P, o4, o5, some (.int g), o7, o8, some L, some B, o11] S
    = .fl (.nx [some scr, some (.ref 1), o2, some P, o4, o5, some (.int g), some (.int m), some (.int v), some L, some B, o11]) S := by
  simp only [nat10, nat2, runB, seqS, exS, asgS, retS, retN, dropS, ifS, nxS, nevS, brkS, cntS, setItS, forS, parS, op1, op2, chain, boolT, truT, notT, andT, orT, andE, orE, ifE, nilA, consA, appA, varD, cD, lstE, celE, tupE, slE, itE, itEn, cal_1, cal_2, cal_3, cal_4, cal_5, cal_6, cal_7, yesT, mulOk, List.map_cons, List.map_nil, List.length_cons, List.length_nil, List.getElem?_cons_zero, List.getElem?_cons_succ, List.set_cons_zero, List.set_cons_succ, List.replicate_succ, List.replicate_zero, List.cons_append, List.nil_append, List.append_nil, List.isEmpty_cons, List.isEmpty_nil, Nat.reduceAdd, Nat.reduceSub, Nat.reduceMul, Nat.reduceLeDiff, Nat.reduceEqDiff, Nat.zero_add, Nat.sub_zero, Nat.sub_self, Bool.not_true, Bool.not_false, Bool.true_and, Bool.false_and, Bool.and_true, Bool.and_false, Bool.true_or, Bool.false_or, Bool.or_true, Bool.or_false, Bool.false_eq_true, Bool.not_eq_true, Bool.not_eq_false, Bool.not_not, decide_eq_true_eq, decide_eq_false_iff_not, decide_true, decide_false, if_true, if_false, reduceIte, reduceCtorEq, Nat.zero_le, and_self, and_true, true_and, or_true, true_or, or_false, false_or, not_true_eq_false, not_false_eq_true, Int.reduceLT, Int.reduceLE, Int.reduceNeg, Int.reduceAdd, Int.reduceMul, Int.reduceSub, Int.reducePow, Int.reduceEq, Int.reduceToNat, Nat.reduceLT, Nat.reducePow, Int.cast_ofNat_Int, isi_non_int, isi_non_bool, isi_non_str, isi_non_tuple, isi_non_list, isi_non_dict, isi_non_tuple_list, isi_non_list_tuple, isi_bl_int, isi_bl_bool, isi_bl_str, isi_bl_tuple, isi_bl_list, isi_bl_dict, isi_bl_tuple_list, isi_bl_list_tuple, isi_int_int, isi_int_bool, isi_int_str, isi_int_tuple, isi_int_list, isi_int_dict, isi_int_tuple_list, isi_int_list_tuple, isi_str_int, isi_str_bool, isi_str_str, isi_str_tuple, isi_str_list, isi_str_dict, isi_str_tuple_list, isi_str_list_tuple, isi_tup_int, isi_tup_bool, isi_tup_str, isi_tup_tuple, isi_tup_list, isi_tup_dict, isi_tup_tuple_list, isi_tup_list_tuple, isi_lst_int, isi_lst_bool, isi_lst_str, isi_lst_tuple, isi_lst_list, isi_lst_dict, isi_lst_tuple_list, isi_lst_list_tuple, isi_frz_int, isi_frz_bool, isi_frz_str, isi_frz_tuple, isi_frz_list, isi_frz_dict, isi_frz_tuple_list, isi_frz_list_tuple, tru_bl, tru_int, tru_non, tru_tup, len_tup, ix_tup, tru_lst, len_lst, ix_lst, tru_frz, len_frz, ix_frz, sl_lst, sl_frz, sl_tup, asInt_int, at0, at1, at2, at3, at4, add_int, add_tup, add_str, add_lst, addC_lst, repC_lst, sub_int, mul_int, mul_lst, mul_tup, div_int, mod_int, pow_int, neg_int, not_bl, lt_int, le_int, gt_int, ge_int, eq_int, eq_str, eq_bl, eq_non, eq_int_non, eq_non_int, eq_str_non, eq_non_str, eq_bl_non, eq_non_bl, ne_int, ne_str, ne_bl, ne_non, ne_int_non, ne_non_int, ne_str_non, ne_non_str, ne_bl_non, ne_non_bl, isNone_non, isNone_int, isNone_str, isNone_bl, isNone_tup, isNone_lst, isNone_frz, max2_int, min2_int, abs_int, int_int, int_bl, still_tup, list_tup, tuple_tup, listC_tup, sv_tup, still_lst, list_lst, tuple_lst, listC_lst, sv_lst, still_frz, list_frz, tuple_frz, listC_frz, sv_frz, r1_int, r2_int, r3_int, tg_name, tg_tup, setAll_cons, setAll_nil, mtE, g1_one, g2_two, mkL_0, mkT_0, mkC_0, mkL_1, mkT_1, mkC_1, mkL_2, mkT_2, mkC_2, mkL_3, mkT_3, mkC_3, mkL_4, mkT_4, mkC_4, bnd_S, ret_S, lineN_eq2, wipe_nil, wipe_cons, h0, h1, z0, z1, z2, c1, c2, hm, hi, hv, hco, hal, hib]
def law_turn (gib al gco gpick gn gp gpk : List D → M D) : SS := (seqS (asgS (appA (consA (varD 1) nilA) (cal 1 gpk)) (.name 3))
  (seqS (parS (consA (appA (consA (varD 3) (consA (cD (.int 200)) nilA)) (cal 2 gp)) (consA (op2 ixD (varD 3) (cD (.int 0))) nilA)) [9, 10])
  (seqS (forS (.name 4) (itE (varD 3)) ch_body)
  (seqS (forS (.name 5) (appA (consA (cD (.int 5)) nilA) itR1) (in_body gib al gco gn))
  (seqS (asgS (great_e gpick gn) (.name 6))
  (seqS (asgS (op2 divD (op2 subD (varD 6) (cD (.int 188))) (op2 ixD (varD 10) (cD (.int 0)))) (.name 7))
  (seqS (asgS (op2 addD (op2 mulD (varD 7) (op2 ixD (varD 10) (cD (.int 1)))) (op2 ixD (varD 9) (op2 subD (varD 6) (op2 mulD (varD 7) (op2 ixD (varD 10) (cD (.int 0))))))) (.name 8))
  (ifS (orT (notT (truT (appA (consA (appA (consA (varD 3) (consA (varD 6) nilA)) (cal 2 gco)) (consA (varD 8) nilA)) (cal 2 al)))) (notT (truT (appA (consA (varD 3) (consA (varD 6) (consA (varD 8) nilA))) (cal 3 gib))))) (retS (cD (.bl false))) nxS))))))))
theorem par_gen (gp : List D → M D) (P L B : D) (o0 o1 o2 o4 o5 o6 o7 o8 o9 o10 o11 : Option D) (S : Store) (h : gp [P, .int 200] S = .ok L S) (hi : ixD P (.int 0) S = .ok B S) : (consA (appA (consA (varD 3) (consA (cD (.int 200)) nilA)) (cal 2 gp)) (consA (op2 ixD (varD 3) (cD (.int 0))) nilA)) [o0, o1, o2, some P, o4, o5, o6, o7, o8, o9, o10, o11] S = .ok [L, B] S := by
  simp only [nat10, nat2, runB, seqS, exS, asgS, retS, retN, dropS, ifS, nxS, nevS, brkS, cntS, setItS, forS, parS, op1, op2, chain, boolT, truT, notT, andT, orT, andE, orE, ifE, nilA, consA, appA, varD, cD, lstE, celE, tupE, slE, itE, itEn, cal_1, cal_2, cal_3, cal_4, cal_5, cal_6, cal_7, yesT, mulOk, List.map_cons, List.map_nil, List.length_cons, List.length_nil, List.getElem?_cons_zero, List.getElem?_cons_succ, List.set_cons_zero, List.set_cons_succ, List.replicate_succ, List.replicate_zero, List.cons_append, List.nil_append, List.append_nil, List.isEmpty_cons, List.isEmpty_nil, Nat.reduceAdd, Nat.reduceSub, Nat.reduceMul, Nat.reduceLeDiff, Nat.reduceEqDiff, Nat.zero_add, Nat.sub_zero, Nat.sub_self, Bool.not_true, Bool.not_false, Bool.true_and, Bool.false_and, Bool.and_true, Bool.and_false, Bool.true_or, Bool.false_or, Bool.or_true, Bool.or_false, Bool.false_eq_true, Bool.not_eq_true, Bool.not_eq_false, Bool.not_not, decide_eq_true_eq, decide_eq_false_iff_not, decide_true, decide_false, if_true, if_false, reduceIte, reduceCtorEq, Nat.zero_le, and_self, and_true, true_and, or_true, true_or, or_false, false_or, not_true_eq_false, not_false_eq_true, Int.reduceLT, Int.reduceLE, Int.reduceNeg, Int.reduceAdd, Int.reduceMul, Int.reduceSub, Int.reducePow, Int.reduceEq, Int.reduceToNat, Nat.reduceLT, Nat.reducePow, Int.cast_ofNat_Int, isi_non_int, isi_non_bool, isi_non_str, isi_non_tuple, isi_non_list, isi_non_dict, isi_non_tuple_list, isi_non_list_tuple, isi_bl_int, isi_bl_bool, isi_bl_str, isi_bl_tuple, isi_bl_list, isi_bl_dict, isi_bl_tuple_list, isi_bl_list_tuple, isi_int_int, isi_int_bool, isi_int_str, isi_int_tuple, isi_int_list, isi_int_dict, isi_int_tuple_list, isi_int_list_tuple, isi_str_int, isi_str_bool, isi_str_str, isi_str_tuple, isi_str_list, isi_str_dict, isi_str_tuple_list, isi_str_list_tuple, isi_tup_int, isi_tup_bool, isi_tup_str, isi_tup_tuple, isi_tup_list, isi_tup_dict, isi_tup_tuple_list, isi_tup_list_tuple, isi_lst_int, isi_lst_bool, isi_lst_str, isi_lst_tuple, isi_lst_list, isi_lst_dict, isi_lst_tuple_list, isi_lst_list_tuple, isi_frz_int, isi_frz_bool, isi_frz_str, isi_frz_tuple, isi_frz_list, isi_frz_dict, isi_frz_tuple_list, isi_frz_list_tuple, tru_bl, tru_int, tru_non, tru_tup, len_tup, ix_tup, tru_lst, len_lst, ix_lst, tru_frz, len_frz, ix_frz, sl_lst, sl_frz, sl_tup, asInt_int, at0, at1, at2, at3, at4, add_int, add_tup, add_str, add_lst, addC_lst, repC_lst, sub_int, mul_int, mul_lst, mul_tup, div_int, mod_int, pow_int, neg_int, not_bl, lt_int, le_int, gt_int, ge_int, eq_int, eq_str, eq_bl, eq_non, eq_int_non, eq_non_int, eq_str_non, eq_non_str, eq_bl_non, eq_non_bl, ne_int, ne_str, ne_bl, ne_non, ne_int_non, ne_non_int, ne_str_non, ne_non_str, ne_bl_non, ne_non_bl, isNone_non, isNone_int, isNone_str, isNone_bl, isNone_tup, isNone_lst, isNone_frz, max2_int, min2_int, abs_int, int_int, int_bl, still_tup, list_tup, tuple_tup, listC_tup, sv_tup, still_lst, list_lst, tuple_lst, listC_lst, sv_lst, still_frz, list_frz, tuple_frz, listC_frz, sv_frz, r1_int, r2_int, r3_int, tg_name, tg_tup, setAll_cons, setAll_nil, mtE, g1_one, g2_two, mkL_0, mkT_0, mkC_0, mkL_1, mkT_1, mkC_1, mkL_2, mkT_2, mkC_2, mkL_3, mkT_3, mkC_3, mkL_4, mkT_4, mkC_4, bnd_S, ret_S, lineN_eq2, wipe_nil, wipe_cons, h, hi]
theorem pk_gen (gpk : List D → M D) (P : D) (o0 o2 o3 o4 o5 o6 o7 o8 o9 o10 o11 : Option D) (S S1 : Store) (h : gpk [.ref 1] S = .ok P S1) : (appA (consA (varD 1) nilA) (cal 1 gpk)) [o0, some (.ref 1), o2, o3, o4, o5, o6, o7, o8, o9, o10, o11] S = .ok P S1 := by
  simp only [nat10, nat2, runB, seqS, exS, asgS, retS, retN, dropS, ifS, nxS, nevS, brkS, cntS, setItS, forS, parS, op1, op2, chain, boolT, truT, notT, andT, orT, andE, orE, ifE, nilA, consA, appA, varD, cD, lstE, celE, tupE, slE, itE, itEn, cal_1, cal_2, cal_3, cal_4, cal_5, cal_6, cal_7, yesT, mulOk, List.map_cons, List.map_nil, List.length_cons, List.length_nil, List.getElem?_cons_zero, List.getElem?_cons_succ, List.set_cons_zero, List.set_cons_succ, List.replicate_succ, List.replicate_zero, List.cons_append, List.nil_append, List.append_nil, List.isEmpty_cons, List.isEmpty_nil, Nat.reduceAdd, Nat.reduceSub, Nat.reduceMul, Nat.reduceLeDiff, Nat.reduceEqDiff, Nat.zero_add, Nat.sub_zero, Nat.sub_self, Bool.not_true, Bool.not_false, Bool.true_and, Bool.false_and, Bool.and_true, Bool.and_false, Bool.true_or, Bool.false_or, Bool.or_true, Bool.or_false, Bool.false_eq_true, Bool.not_eq_true, Bool.not_eq_false, Bool.not_not, decide_eq_true_eq, decide_eq_false_iff_not, decide_true, decide_false, if_true, if_false, reduceIte, reduceCtorEq, Nat.zero_le, and_self, and_true, true_and, or_true, true_or, or_false, false_or, not_true_eq_false, not_false_eq_true, Int.reduceLT, Int.reduceLE, Int.reduceNeg, Int.reduceAdd, Int.reduceMul, Int.reduceSub, Int.reducePow, Int.reduceEq, Int.reduceToNat, Nat.reduceLT, Nat.reducePow, Int.cast_ofNat_Int, isi_non_int, isi_non_bool, isi_non_str, isi_non_tuple, isi_non_list, isi_non_dict, isi_non_tuple_list, isi_non_list_tuple, isi_bl_int, isi_bl_bool, isi_bl_str, isi_bl_tuple, isi_bl_list, isi_bl_dict, isi_bl_tuple_list, isi_bl_list_tuple, isi_int_int, isi_int_bool, isi_int_str, isi_int_tuple, isi_int_list, isi_int_dict, isi_int_tuple_list, isi_int_list_tuple, isi_str_int, isi_str_bool, isi_str_str, isi_str_tuple, isi_str_list, isi_str_dict, isi_str_tuple_list, isi_str_list_tuple, isi_tup_int, isi_tup_bool, isi_tup_str, isi_tup_tuple, isi_tup_list, isi_tup_dict, isi_tup_tuple_list, isi_tup_list_tuple, isi_lst_int, isi_lst_bool, isi_lst_str, isi_lst_tuple, isi_lst_list, isi_lst_dict, isi_lst_tuple_list, isi_lst_list_tuple, isi_frz_int, isi_frz_bool, isi_frz_str, isi_frz_tuple, isi_frz_list, isi_frz_dict, isi_frz_tuple_list, isi_frz_list_tuple, tru_bl, tru_int, tru_non, tru_tup, len_tup, ix_tup, tru_lst, len_lst, ix_lst, tru_frz, len_frz, ix_frz, sl_lst, sl_frz, sl_tup, asInt_int, at0, at1, at2, at3, at4, add_int, add_tup, add_str, add_lst, addC_lst, repC_lst, sub_int, mul_int, mul_lst, mul_tup, div_int, mod_int, pow_int, neg_int, not_bl, lt_int, le_int, gt_int, ge_int, eq_int, eq_str, eq_bl, eq_non, eq_int_non, eq_non_int, eq_str_non, eq_non_str, eq_bl_non, eq_non_bl, ne_int, ne_str, ne_bl, ne_non, ne_int_non, ne_non_int, ne_str_non, ne_non_str, ne_bl_non, ne_non_bl, isNone_non, isNone_int, isNone_str, isNone_bl, isNone_tup, isNone_lst, isNone_frz, max2_int, min2_int, abs_int, int_int, int_bl, still_tup, list_tup, tuple_tup, listC_tup, sv_tup, still_lst, list_lst, tuple_lst, listC_lst, sv_lst, still_frz, list_frz, tuple_frz, listC_frz, sv_frz, r1_int, r2_int, r3_int, tg_name, tg_tup, setAll_cons, setAll_nil, mtE, g1_one, g2_two, mkL_0, mkT_0, mkC_0, mkL_1, mkT_1, mkC_1, mkL_2, mkT_2, mkC_2, mkL_3, mkT_3, mkC_3, mkL_4, mkT_4, mkC_4, bnd_S, ret_S, lineN_eq2, wipe_nil, wipe_cons, h]
theorem ch_loop {ps : List Pk} (W : WP ps) (S : Store) (o0 o1 o2 o3 o4 o5 o6 o7 o8 o9 o11 : Option D) : ∃ o4', forGo (.name 4) ch_body (ps.map pkD) [o0, o1, o2, o3, o4, o5, o6, o7, o8, o9, some (pkD (pk ps 0)), o11] S = .fl (.nx [o0, o1, o2, o3, o4', o5, o6, o7, o8, o9, some (pkD (best ps)), o11]) S := by
  obtain ⟨ρ2, S2, e, o4', e1, e2⟩ := forGo_ind (t := .name 4) (f := ch_body) (ds := ps.map pkD) (fun k ρ S' => ∃ o4, ρ = [o0, o1, o2, o3, o4, o5, o6, o7, o8, o9, some (pkD (pk ps (chI ps k))), o11] ∧ S' = S)
    (ρ := [o0, o1, o2, o3, o4, o5, o6, o7, o8, o9, some (pkD (pk ps 0)), o11]) (S := S) ⟨o4, rfl, rfl⟩ (fun k hk ρ S' ⟨o4, e1, e2⟩ => by
      subst e1 e2
      rw [List.length_map] at hk
      have m1 := W.sz _ (pk_mem2 (chI_lt W k (by omega)))
      have m2 := W.pr _ (pk_mem2 (chI_lt W k (by omega)))
      have m3 := W.sz _ (pk_mem2 hk)
      have m4 := W.pr _ (pk_mem2 hk)
      have := ch_gen o0 o1 o2 o3 o5 o6 o7 o8 o9 o11 (pkD (pk ps k)) (pkD (pk ps (chI ps k))) ((pk ps k).1 : Nat) ((pk ps k).2 : Nat) ((pk ps (chI ps k)).1 : Nat) ((pk ps (chI ps k)).2 : Nat) S' (pk_ix0 _ _) (pk_ix1 _ _) (pk_ix0 _ _) (pk_ix1 _ _) (by omega) (by omega) (by omega) (by omega)
      refine ⟨[o0, o1, o2, o3, some (pkD (pk ps k)), o5, o6, o7, o8, o9, some (pkD (pk ps (chI ps k))), o11], [o0, o1, o2, o3, some (pkD (pk ps k)), o5, o6, o7, o8, o9, some (pkD (pk ps (chI ps (k + 1)))), o11], S', ?_, .inl ?_, some (pkD (pk ps k)), rfl, rfl⟩
      · rw [List.getElem_map, pk_eq hk]; rfl
      · rw [this]
        have hlt : ((pk ps k).2 : Int) * ((pk ps (chI ps k)).1 : Nat) < ((pk ps (chI ps k)).2 : Nat) * ((pk ps k).1 : Nat) ↔ (pk ps k).2 * (pk ps (chI ps k)).1 < (pk ps (chI ps k)).2 * (pk ps k).1 := by
          rw [← Int.natCast_mul, ← Int.natCast_mul]; omega
        have e : (if ((pk ps k).2 : Int) * ((pk ps (chI ps k)).1 : Nat) < ((pk ps (chI ps k)).2 : Nat) * ((pk ps k).1 : Nat) then pkD (pk ps k) else pkD (pk ps (chI ps k))) = pkD (pk ps (chI ps (k + 1))) := by
          show _ = pkD (pk ps (if (pk ps k).2 * (pk ps (chI ps k)).1 < (pk ps (chI ps k)).2 * (pk ps k).1 then k else chI ps k))
          by_cases h : (pk ps k).2 * (pk ps (chI ps k)).1 < (pk ps (chI ps k)).2 * (pk ps k).1
          · rw [if_pos h, if_pos (hlt.mpr h)]
          · rw [if_neg h, if_neg (fun z => h (hlt.mp z))]
        rw [e])
  subst e1 e2
  rw [List.length_map] at e
  exact ⟨o4', e⟩
theorem law_turn_ok {S : Store} (hS : HI S) (scr : D) (o2 o3 o4 o5 o6 o7 o8 o9 o10 o11 : Option D) : ∃ p3 p4 p5 p6 p7 p8 p9 p10 p11 S', law_turn g__law_is_bought g__law_alike g_cost g__law_pick g__law_next g__law_prices g__law_packs [some scr, some (.ref 1), o2, o3, o4, o5, o6, o7, o8, o9, o10, o11] S = .fl (.nx [some scr, some (.ref 1), o2, p3, p4, p5, p6, p7, p8, p9, p10, p11]) S' ∧ HI S' := by
  obtain ⟨ps, S1, a1, W, hI1⟩ := law_packs hS
  have hl0 : 0 < ps.length := List.length_pos_iff.mpr W.ne
  obtain ⟨q4, hch⟩ := ch_loop W S1 (some scr) (some (.ref 1)) o2 (some (psD ps)) o4 o5 o6 o7 o8 (some (.lst (nums (Co ps) 201))) o11
  have hal : ∀ v : Int, ∀ S, g__law_alike [.int v, .int v] S = .ok (.bl true) S := fun v S => alike_self 7 (.int v) (by trivial) S
  obtain ⟨ρ2, S2, e, q5, q11, e1, hI2⟩ := forGo_ind (t := .name 5) (f := in_body g__law_is_bought g__law_alike g_cost g__law_next) (ds := (List.range 5).map fun (i : Nat) => D.int (i : Nat))
    (fun k ρ S => ∃ o5 o11, ρ = [some scr, some (.ref 1), o2, some (psD ps), q4, o5, o6, o7, o8, some (.lst (nums (Co ps) 201)), some (pkD (best ps)), o11] ∧ HI S)
    (ρ := [some scr, some (.ref 1), o2, some (psD ps), q4, o5, o6, o7, o8, some (.lst (nums (Co ps) 201)), some (pkD (best ps)), o11]) (S := S1) ⟨_, _, rfl, hI1⟩ (fun k hk ρ S ⟨o5, o11, e1, hI⟩ => by
      subst e1
      rw [List.length_map, List.length_range] at hk
      obtain ⟨r, S2, n1, n2, n3, hI2⟩ := law_next hI (cap := 201) (by omega) (by omega)
      obtain ⟨a, rfl⟩ : ∃ a : Nat, r = a := ⟨r.toNat, by omega⟩
      refine ⟨[some scr, some (.ref 1), o2, some (psD ps), q4, some (.int (k : Nat)), o6, o7, o8, some (.lst (nums (Co ps) 201)), some (pkD (best ps)), o11], _, S2, by rw [List.getElem_map, List.getElem_range]; rfl, .inl (in_gen _ _ _ _ scr (psD ps) (.lst (nums (Co ps) 201)) o2 q4 (some (.int (k : Nat))) o6 o7 o8 _ o11 (a : Nat) (Co ps a : Nat) S S2 n1 (cost_ok W (by omega) hI2) (nums_ix _ _ _ (by omega) _) (hal _ _) (is_bought_ok W (by omega) hI2)), _, _, rfl, hI2⟩)
  subst e1
  obtain ⟨r1, S3, m1, m2, m3, hI3⟩ := law_next hI2 (cap := 100000000000000000) (by omega) (by omega)
  obtain ⟨r2, S4, k1, k2, k3, hI4⟩ := law_next hI3 (cap := 1000000) (by omega) (by omega)
  obtain ⟨d, S5, d1, d2, hI5⟩ := law_pick hI4 (xs := [.int 1000000000000000000000000000000, .int (1000000000000000000000000000000 - r1), .int (201 + r2)]) (by simp) (by simp)
  obtain ⟨G, rfl, hG1, hG2⟩ : ∃ G : Nat, d = .int (G : Nat) ∧ 201 ≤ G ∧ G ≤ 1000000000000000000000000000000 := by
    rcases List.mem_cons.mp d2 with rfl | d2
    · exact ⟨1000000000000000000000000000000, rfl, by omega, by omega⟩
    · rcases List.mem_cons.mp d2 with rfl | d2
      · exact ⟨(1000000000000000000000000000000 - r1).toNat, by rw [Int.toNat_of_nonneg (by omega)], by omega, by omega⟩
      · rcases List.mem_cons.mp d2 with rfl | d2
        · exact ⟨(201 + r2).toNat, by rw [Int.toNat_of_nonneg (by omega)], by omega, by omega⟩
        · simp at d2
  have hb := W.sz _ (best_ok W).mem
  have hbp := W.pr _ (best_ok W).mem
  have hst := stA_le W
  have hdm := Nat.mod_add_div (G - 188) (best ps).1
  have hml := Nat.mod_lt (G - 188) (show (best ps).1 > 0 by omega)
  have hmul : (G - 188) / (best ps).1 * (best ps).1 = (best ps).1 * ((G - 188) / (best ps).1) := Nat.mul_comm _ _
  have hC := C_many W (l := G - (G - 188) / (best ps).1 * (best ps).1) (by omega) ((G - 188) / (best ps).1)
  rw [Nat.sub_add_cancel (by omega)] at hC
  have hend := end_gen g__law_is_bought g__law_alike g_cost scr (psD ps) (.lst (nums (Co ps) 201)) (pkD (best ps)) o2 q4 q5 o7 o8 q11 (G : Nat) ((best ps).1 : Nat) ((best ps).2 : Nat) ((G - 188) / (best ps).1 : Nat) (Co ps (G - (G - 188) / (best ps).1 * (best ps).1) : Nat) (Co ps G : Nat) S5 (pk_ix0 _ _) (pk_ix1 _ _) (by omega) (by omega) (by omega) (by omega) (by omega)
    (by rw [show (((G : Nat) : Int) - 188) = ((G - 188 : Nat) : Int) by omega, ← Int.natCast_ediv]) (nums_ix' _ _ _ (by rw [← Int.natCast_mul]; omega) (by omega) _) (by rw [hC, ← Int.natCast_mul]; omega) (cost_ok W hG2 hI5) (hal _ _) (is_bought_ok W hG2 hI5)
  refine ⟨some (psD ps), q4, q5, some (.int (G : Nat)), some (.int ((G - 188) / (best ps).1 : Nat)), some (.int (Co ps G : Nat)), some (.lst (nums (Co ps) 201)), some (pkD (best ps)), q11, S5, ?_, hI5⟩
  unfold law_turn
  refine Eq.trans (seq_nx (asg_ok (pk_gen _ _ _ _ _ _ _ _ _ _ _ _ _ _ _ a1) rfl)) ?_
  refine Eq.trans (seq_nx (par_ok (par_gen _ _ _ _ _ _ _ _ _ _ _ _ _ _ _ S1 (law_prices W hI1) (by
    have := ps_ix (ps := ps) (i := 0) hl0 S1
    exact this)) rfl)) ?_
  refine Eq.trans (seq_nx ((for_ok (ds := ps.map pkD) (S' := S1) rfl).trans hch)) ?_
  refine Eq.trans (seq_nx ((for_ok (ds := (List.range 5).map fun (i : Nat) => D.int (i : Nat)) (S' := S1) rfl).trans e)) ?_
  refine Eq.trans (seq_nx (asg_ok (great_gen _ _ _ _ _ _ _ _ _ _ _ _ _ r1 r2 _ _ S3 S4 S5 m1 k1 d1) rfl)) ?_
  exact hend
theorem pure_law : ∀ ns : List Int, ns.length ≤ 63 → ∃ S, g_law [.frz (ns.map .int)] [] = .ok (.bl true) S := by
  intro ns hn
  obtain ⟨S0, h0, hI0⟩ := law_mix ns hn 12
  obtain ⟨ρ2, S2, e, o2, o3, o4, o5, o6, o7, o8, o9, o10, o11, e1, hI⟩ := forGo_ind (t := .name 2) (f := law_turn g__law_is_bought g__law_alike g_cost g__law_pick g__law_next g__law_prices g__law_packs) (ds := (List.range 4).map fun (i : Nat) => D.int (i : Nat))
    (fun k ρ S => ∃ o2 o3 o4 o5 o6 o7 o8 o9 o10 o11, ρ = [some (.frz (ns.map .int)), some (.ref 1), o2, o3, o4, o5, o6, o7, o8, o9, o10, o11] ∧ HI S)
    (ρ := [some (.frz (ns.map .int)), some (.ref 1), none, none, none, none, none, none, none, none, none, none]) (S := S0) ⟨_, _, _, _, _, _, _, _, _, _, rfl, hI0⟩
    (fun k hk ρ S ⟨o2, o3, o4, o5, o6, o7, o8, o9, o10, o11, e1, hI⟩ => by
      subst e1
      rw [List.length_map, List.length_range] at hk
      obtain ⟨p3, p4, p5, p6, p7, p8, p9, p10, p11, S', ht, hI'⟩ := law_turn_ok hI (.frz (ns.map .int)) (some (.int (k : Nat))) o3 o4 o5 o6 o7 o8 o9 o10 o11
      refine ⟨[some (.frz (ns.map .int)), some (.ref 1), some (.int (k : Nat)), o3, o4, o5, o6, o7, o8, o9, o10, o11], _, _, ?_, .inl ht, _, _, _, _, _, _, _, _, _, _, rfl, hI'⟩
      rw [List.getElem_map, List.getElem_range]; rfl)
  subst e1
  refine ⟨S2, ?_⟩
  refine run_rt (ρ0 := [some (.frz (ns.map .int)), none, none, none, none, none, none, none, none, none, none, none]) rfl ?_
  have hm : appA (consA (varD 0) (consA (cD (.int 12)) nilA)) (cal 2 g__law_mix) [some (.frz (ns.map .int)), none, none, none, none, none, none, none, none, none, none, none] [] = .ok (.ref 1) S0 := by
    simp only [nat10, nat2, runB, seqS, exS, asgS, retS, retN, dropS, ifS, nxS, nevS, brkS, cntS, setItS, forS, parS, op1, op2, chain, boolT, truT, notT, andT, orT, andE, orE, ifE, nilA, consA, appA, varD, cD, lstE, celE, tupE, slE, itE, itEn, cal_1, cal_2, cal_3, cal_4, cal_5, cal_6, cal_7, yesT, mulOk, List.map_cons, List.map_nil, List.length_cons, List.length_nil, List.getElem?_cons_zero, List.getElem?_cons_succ, List.set_cons_zero, List.set_cons_succ, List.replicate_succ, List.replicate_zero, List.cons_append, List.nil_append, List.append_nil, List.isEmpty_cons, List.isEmpty_nil, Nat.reduceAdd, Nat.reduceSub, Nat.reduceMul, Nat.reduceLeDiff, Nat.reduceEqDiff, Nat.zero_add, Nat.sub_zero, Nat.sub_self, Bool.not_true, Bool.not_false, Bool.true_and, Bool.false_and, Bool.and_true, Bool.and_false, Bool.true_or, Bool.false_or, Bool.or_true, Bool.or_false, Bool.false_eq_true, Bool.not_eq_true, Bool.not_eq_false, Bool.not_not, decide_eq_true_eq, decide_eq_false_iff_not, decide_true, decide_false, if_true, if_false, reduceIte, reduceCtorEq, Nat.zero_le, and_self, and_true, true_and, or_true, true_or, or_false, false_or, not_true_eq_false, not_false_eq_true, Int.reduceLT, Int.reduceLE, Int.reduceNeg, Int.reduceAdd, Int.reduceMul, Int.reduceSub, Int.reducePow, Int.reduceEq, Int.reduceToNat, Nat.reduceLT, Nat.reducePow, Int.cast_ofNat_Int, isi_non_int, isi_non_bool, isi_non_str, isi_non_tuple, isi_non_list, isi_non_dict, isi_non_tuple_list, isi_non_list_tuple, isi_bl_int, isi_bl_bool, isi_bl_str, isi_bl_tuple, isi_bl_list, isi_bl_dict, isi_bl_tuple_list, isi_bl_list_tuple, isi_int_int, isi_int_bool, isi_int_str, isi_int_tuple, isi_int_list, isi_int_dict, isi_int_tuple_list, isi_int_list_tuple, isi_str_int, isi_str_bool, isi_str_str, isi_str_tuple, isi_str_list, isi_str_dict, isi_str_tuple_list, isi_str_list_tuple, isi_tup_int, isi_tup_bool, isi_tup_str, isi_tup_tuple, isi_tup_list, isi_tup_dict, isi_tup_tuple_list, isi_tup_list_tuple, isi_lst_int, isi_lst_bool, isi_lst_str, isi_lst_tuple, isi_lst_list, isi_lst_dict, isi_lst_tuple_list, isi_lst_list_tuple, isi_frz_int, isi_frz_bool, isi_frz_str, isi_frz_tuple, isi_frz_list, isi_frz_dict, isi_frz_tuple_list, isi_frz_list_tuple, tru_bl, tru_int, tru_non, tru_tup, len_tup, ix_tup, tru_lst, len_lst, ix_lst, tru_frz, len_frz, ix_frz, sl_lst, sl_frz, sl_tup, asInt_int, at0, at1, at2, at3, at4, add_int, add_tup, add_str, add_lst, addC_lst, repC_lst, sub_int, mul_int, mul_lst, mul_tup, div_int, mod_int, pow_int, neg_int, not_bl, lt_int, le_int, gt_int, ge_int, eq_int, eq_str, eq_bl, eq_non, eq_int_non, eq_non_int, eq_str_non, eq_non_str, eq_bl_non, eq_non_bl, ne_int, ne_str, ne_bl, ne_non, ne_int_non, ne_non_int, ne_str_non, ne_non_str, ne_bl_non, ne_non_bl, isNone_non, isNone_int, isNone_str, isNone_bl, isNone_tup, isNone_lst, isNone_frz, max2_int, min2_int, abs_int, int_int, int_bl, still_tup, list_tup, tuple_tup, listC_tup, sv_tup, still_lst, list_lst, tuple_lst, listC_lst, sv_lst, still_frz, list_frz, tuple_frz, listC_frz, sv_frz, r1_int, r2_int, r3_int, tg_name, tg_tup, setAll_cons, setAll_nil, mtE, g1_one, g2_two, mkL_0, mkT_0, mkC_0, mkL_1, mkT_1, mkC_1, mkL_2, mkT_2, mkC_2, mkL_3, mkT_3, mkC_3, mkL_4, mkT_4, mkC_4, bnd_S, ret_S, lineN_eq2, wipe_nil, wipe_cons, h0]
  refine Eq.trans (seq_nx (asg_ok hm rfl)) ?_
  refine Eq.trans (seq_nx ((for_ok (ds := (List.range 4).map fun (i : Nat) => D.int (i : Nat)) (S' := S0) rfl).trans e)) ?_
  exact ret_ok rfl
end F

set_option linter.all false
set_option maxRecDepth 100000
set_option maxHeartbeats 4000000
set_option Elab.async false
namespace F
open PySem PySem.Spec PyProof.Rows L2
def top (i : Nat) : Stmt := PySem.Challenge.pw_eatersheet_k12_whole_costs.main.body.getD i (.Pass ⟨0, 0, 0, 0⟩)
abbrev FnP (K : PySem.W.Frag) (x : Str) (st : Stmt) (f : Addr) (fd : FuncData) : Prop := FunD K x x (defArgs st) (defBody st) (defScope st) [] [] f fd
structure Gs (K : PySem.W.Frag) (mg : Str → Option Value) : Prop where
  f_bool : mg "bool" = none
  f_dict : mg "dict" = none
  f_enumerate : mg "enumerate" = none
  f_int : mg "int" = none
  f_isinstance : mg "isinstance" = none
  f_len : mg "len" = none
  f_list : mg "list" = none
  f_max : mg "max" = none
  f_min : mg "min" = none
  f_range : mg "range" = none
  f_str : mg "str" = none
  f_sum : mg "sum" = none
  f_tuple : mg "tuple" = none
  c_MOST_AMOUNT : ∃ t, mg "MOST_AMOUNT" = some (.int 1000000000000000000000000000000 t)
  c_MOST_PACKS : ∃ t, mg "MOST_PACKS" = some (.int 4 t)
  c_MOST_PRICE : ∃ t, mg "MOST_PRICE" = some (.int 99 t)
  c_MOST_SIZE : ∃ t, mg "MOST_SIZE" = some (.int 12 t)
section
variable {P : Program} {w : World} {K : PySem.W.Frag} {mg : Str → Option Value} {base : Heap}
abbrev s__law_mix : Stmt := top 21
abbrev N__law_mix : List Str := ["_law_script", "_law_seed", "_law_state", "_law_cell"]
theorem sc__law_mix : FnScope N__law_mix ["_law_script", "_law_seed"] (defScope s__law_mix) := ⟨rfl, rfl, rfl, by decide +kernel, rfl, by decide +kernel, by decide +kernel⟩
theorem ok__law_mix (G : Gs K mg) {f : Addr} {fd : FuncData} (F : FnP K "_law_mix" s__law_mix f fd) (hm : mg "_law_mix" = some (.ref f)) : DefOk P w K mg base "_law_mix" 1 2 (runB (b__law_mix) 4) := by
  refine def_ok2 F sc__law_mix hm (F.bindsN fun _ _ _ _ _ _ us hl => match us, hl with | [_, _], _ => rfl) fun cdv A outer s H E hr tk hp => ?_
  exact (fss_cons (fs_set 2 sc__law_mix.nd (fe_var 1))
  (fss_cons (fs_for hp rfl (fi_seq (fe_var 0)) (fg_name 3 sc__law_mix.nd) (fss_one (fs_set 2 sc__law_mix.nd (fe_mod (fe_callT call_int1 ca_int G.f_int (fa_cons (fe_add (fe_add (fe_mul (fe_var 2) fe_int) (fe_mod (fe_callT call_int1 ca_int G.f_int (fa_cons (fe_var 3) fa_nil)) fe_int)) fe_int) fa_nil)) fe_int))))
  (fss_one (fs_ret (fe_cel (fa_cons (fe_var 2) (fa_cons (fe_callT call_list_of ca_listC G.f_list (fa_cons (fe_var 0) fa_nil)) (fa_cons fe_int fa_nil))))))))

abbrev s__law_next : Stmt := top 22
abbrev N__law_next : List Str := ["_law_h", "_law_cap", "_law_cell"]
theorem sc__law_next : FnScope N__law_next ["_law_h", "_law_cap"] (defScope s__law_next) := ⟨rfl, rfl, rfl, by decide +kernel, rfl, by decide +kernel, by decide +kernel⟩
theorem ok__law_next (G : Gs K mg) {f : Addr} {fd : FuncData} (F : FnP K "_law_next" s__law_next f fd) (hm : mg "_law_next" = some (.ref f)) : DefOk P w K mg base "_law_next" 1 2 (runB (b__law_next) 3) := by
  refine def_ok2 F sc__law_next hm (F.bindsN fun _ _ _ _ _ _ us hl => match us, hl with | [_, _], _ => rfl) fun cdv A outer s H E hr tk hp => ?_
  exact (fss_cons (fs_set 2 sc__law_next.nd (fe_ix (fe_add (fe_ix (fe_var 0) fe_int) (fe_lst (fa_cons fe_int fa_nil))) (fe_mod (fe_callT call_int1 ca_int G.f_int (fa_cons (fe_ix (fe_var 0) fe_int) fa_nil)) (fe_callB (call_max2 rfl) ca_max2 G.f_max (fa_cons fe_int (fa_cons (fe_len (fa_cons (fe_ix (fe_var 0) fe_int) fa_nil) G.f_len) fa_nil))))))
  (fss_cons (fs_if (ft_cm cm_ge (fe_var 2) (fe_pow fe_int fe_int)) (fss_cons (fs_setit (fe_div (fe_var 2) (fe_var 1)) (fe_ix (fe_var 0) fe_int) (fe_mod (fe_callT call_int1 ca_int G.f_int (fa_cons (fe_ix (fe_var 0) fe_int) fa_nil)) (fe_len (fa_cons (fe_ix (fe_var 0) fe_int) fa_nil) G.f_len)))
  (fss_one (fs_ret (fe_mod (fe_callT call_int1 ca_int G.f_int (fa_cons (fe_var 2) fa_nil)) (fe_var 1))))) fss_nil)
  (fss_cons (fs_setit (fe_mod (fe_callT call_int1 ca_int G.f_int (fa_cons (fe_add (fe_add (fe_mul (fe_ix (fe_var 0) fe_int) fe_int) (fe_mul (fe_var 2) fe_int)) fe_int) fa_nil)) fe_int) (fe_var 0) fe_int)
  (fss_cons (fs_setit (fe_add (fe_ix (fe_var 0) fe_int) fe_int) (fe_var 0) fe_int)
  (fss_one (fs_ret (fe_mod (fe_callT call_int1 ca_int G.f_int (fa_cons (fe_div (fe_ix (fe_var 0) fe_int) fe_int) fa_nil)) (fe_var 1))))))))

abbrev s__law_pick : Stmt := top 24
abbrev N__law_pick : List Str := ["_law_h", "_law_things"]
theorem sc__law_pick : FnScope N__law_pick ["_law_h", "_law_things"] (defScope s__law_pick) := ⟨rfl, rfl, rfl, by decide +kernel, rfl, by decide +kernel, by decide +kernel⟩
theorem ok__law_pick (G : Gs K mg) {f : Addr} {fd : FuncData} (F : FnP K "_law_pick" s__law_pick f fd) (hm : mg "_law_pick" = some (.ref f)) {g__law_next : List D → M D} (C__law_next : DefOk P w K mg base "_law_next" 1 2 g__law_next) : DefOk P w K mg base "_law_pick" 2 2 (runB (b__law_pick g__law_next) 2) := by
  refine def_ok2 F sc__law_pick hm (F.bindsN fun _ _ _ _ _ _ us hl => match us, hl with | [_, _], _ => rfl) fun cdv A outer s H E hr tk hp => ?_
  exact (fss_one (fs_ret (fe_ix (fe_var 1) (fe_cal C__law_next (hr.mono (by decide)) tk (fa_cons (fe_var 0) (fa_cons (fe_len (fa_cons (fe_var 1) fa_nil) G.f_len) fa_nil))))))

abbrev s__law_packs : Stmt := top 25
abbrev N__law_packs : List Str := ["_law_h", "_law_found", "_law_k", "_law_pack"]
theorem sc__law_packs : FnScope N__law_packs ["_law_h"] (defScope s__law_packs) := ⟨rfl, rfl, rfl, by decide +kernel, rfl, by decide +kernel, by decide +kernel⟩
theorem ok__law_packs (G : Gs K mg) {f : Addr} {fd : FuncData} (F : FnP K "_law_packs" s__law_packs f fd) (hm : mg "_law_packs" = some (.ref f)) {g__law_next g__law_pick : List D → M D} (C__law_next : DefOk P w K mg base "_law_next" 1 2 g__law_next) (C__law_pick : DefOk P w K mg base "_law_pick" 2 2 g__law_pick) : DefOk P w K mg base "_law_packs" 3 1 (runB (b__law_packs g__law_next g__law_pick) 4) := by
  refine def_ok2 F sc__law_packs hm (F.bindsN fun _ _ _ _ _ _ us hl => match us, hl with | [_], _ => rfl) fun cdv A outer s H E hr tk hp => ?_
  exact (fss_cons (fs_set 1 sc__law_packs.nd (fe_tup fa_nil))
  (fss_cons (fs_for hp rfl (fi_range1 G.f_range (fa_cons (fe_add fe_int (fe_cal C__law_next (hr.mono (by decide)) tk (fa_cons (fe_var 0) (fa_cons fe_int fa_nil)))) fa_nil)) (fg_name 2 sc__law_packs.nd) (fss_cons (fs_set 3 sc__law_packs.nd (fe_tup (fa_cons (fe_add fe_int (fe_cal C__law_next (hr.mono (by decide)) tk (fa_cons (fe_var 0) (fa_cons fe_int fa_nil)))) (fa_cons (fe_add fe_int (fe_cal C__law_pick (hr.mono (by decide)) tk (fa_cons (fe_var 0) (fa_cons (fe_lst (fa_cons (fe_cal C__law_next (hr.mono (by decide)) tk (fa_cons (fe_var 0) (fa_cons fe_int fa_nil))) (fa_cons (fe_cal C__law_next (hr.mono (by decide)) tk (fa_cons (fe_var 0) (fa_cons fe_int fa_nil))) fa_nil))) fa_nil)))) fa_nil))))
  (fss_one (fs_if (ft_cm (cm_notIn (u65 hr)) (fe_var 3) (fe_var 1)) (fss_one (fs_set 1 sc__law_packs.nd (fe_add (fe_var 1) (fe_tup (fa_cons (fe_var 3) fa_nil))))) fss_nil))))
  (fss_one (fs_ret (fe_var 1)))))

abbrev s__law_prices : Stmt := top 26
abbrev N__law_prices : List Str := ["_law_packs_here", "_law_bound", "_law_just", "_law_size", "_law_found", "_law_least", "_law_wide", "_law_price", "_law_here"]
theorem sc__law_prices : FnScope N__law_prices ["_law_packs_here", "_law_bound"] (defScope s__law_prices) := ⟨rfl, rfl, rfl, by decide +kernel, rfl, by decide +kernel, by decide +kernel⟩
theorem ok__law_prices (G : Gs K mg) {f : Addr} {fd : FuncData} (F : FnP K "_law_prices" s__law_prices f fd) (hm : mg "_law_prices" = some (.ref f)) : DefOk P w K mg base "_law_prices" 1 2 (runB (b__law_prices) 9) := by
  refine def_ok2 F sc__law_prices hm (F.bindsN fun _ _ _ _ _ _ us hl => match us, hl with | [_, _], _ => rfl) fun cdv A outer s H E hr tk hp => ?_
  exact (fss_cons (fs_set 2 sc__law_prices.nd (fe_addC (fe_lst (fa_cons fe_int fa_nil)) (fe_mul (fe_lst (fa_cons fe_non fa_nil)) (fe_add (fe_var 1) fe_int))))
  (fss_cons (fs_for hp rfl (fi_range2 G.f_range (fa_cons fe_int (fa_cons (fe_len (fa_cons (fe_var 2) fa_nil) G.f_len) fa_nil))) (fg_name 3 sc__law_prices.nd) (fss_one (fs_for hp rfl (fi_seq (fe_var 0)) (fg_tup rfl (fgs_cons 6 sc__law_prices.nd (fgs_cons 7 sc__law_prices.nd fgs_nil))) (fss_one (fs_if (ft_w (fw_and (ft_cm cm_le (fe_var 6) (fe_var 3)) (fw_and1 (ft_cm cm_isNot (fe_ix (fe_var 2) (fe_sub (fe_var 3) (fe_var 6))) fe_non)))) (fss_cons (fs_set 8 sc__law_prices.nd (fe_add (fe_ix (fe_var 2) (fe_sub (fe_var 3) (fe_var 6))) (fe_var 7)))
  (fss_one (fs_setit (fe_if (ft_cm cm_is (fe_ix (fe_var 2) (fe_var 3)) fe_non) (fe_var 8) (fe_callB (call_min2 rfl) ca_min2 G.f_min (fa_cons (fe_var 8) (fa_cons (fe_ix (fe_var 2) (fe_var 3)) fa_nil)))) (fe_var 2) (fe_var 3)))) fss_nil)))))
  (fss_cons (fs_par (i := 4) (j := 5) sc__law_prices.nd (fa_cons (fe_lst fa_nil) (fa_cons fe_non fa_nil)))
  (fss_cons (fs_for hp rfl (fi_range3 G.f_range (fa_cons (fe_sub (fe_len (fa_cons (fe_var 2) fa_nil) G.f_len) fe_int) (fa_cons (fe_neg fe_int) (fa_cons (fe_neg fe_int) fa_nil)))) (fg_name 3 sc__law_prices.nd) (fss_cons (fs_if (ft_w (fw_and (ft_cm cm_isNot (fe_ix (fe_var 2) (fe_var 3)) fe_non) (fw_and1 (ft_w (fw_or (ft_cm cm_is (fe_var 5) fe_non) (fw_or1 (ft_cm cm_lt (fe_ix (fe_var 2) (fe_var 3)) (fe_var 5)))))))) (fss_one (fs_set 5 sc__law_prices.nd (fe_ix (fe_var 2) (fe_var 3)))) fss_nil)
  (fss_one (fs_set 4 sc__law_prices.nd (fe_if (ft_cm cm_le (fe_var 3) (fe_var 1)) (fe_add (fe_lst (fa_cons (fe_var 5) fa_nil)) (fe_var 4)) (fe_var 4))))))
  (fss_one (fs_ret (fe_var 4)))))))

abbrev s__law_alike : Stmt := top 23
abbrev N__law_alike : List Str := ["_law_found", "_law_due", "_law_k"]
theorem sc__law_alike : FnScope N__law_alike ["_law_found", "_law_due"] (defScope s__law_alike) := ⟨rfl, rfl, rfl, by decide +kernel, rfl, by decide +kernel, by decide +kernel⟩
theorem ok__law_alike (G : Gs K mg) {f : Addr} {fd : FuncData} (F : FnP K "_law_alike" s__law_alike f fd) (hm : mg "_law_alike" = some (.ref f)) {g__law_alike : List D → M D} {k : Nat} (hk : 0 ≤ k) (C__law_alike : DefOk P w K mg base "_law_alike" k 2 g__law_alike) : DefOk P w K mg base "_law_alike" (k + 1) 2 (runB (b__law_alike g__law_alike) 3) := by
  refine def_ok2 F sc__law_alike hm (F.bindsN fun _ _ _ _ _ _ us hl => match us, hl with | [_, _], _ => rfl) fun cdv A outer s H E hr tk hp => ?_
  exact (fss_cons (fs_if (ft_tru (fe_callB callR_isi ca_isi G.f_isinstance (fa_cons (fe_var 1) (fa_cons (fe_con (pe_bltn (v := .ty "dict") (by rfl) G.f_dict (by decide +kernel) rfl) (fun _ => rfl)) fa_nil)))) (fss_one (fs_ret (fe_and (fe_callB callR_isi ca_isi G.f_isinstance (fa_cons (fe_var 0) (fa_cons (fe_con (pe_bltn (v := .ty "dict") (by rfl) G.f_dict (by decide +kernel) rfl) (fun _ => rfl)) fa_nil))) (fe_and (fe_cal C__law_alike hr tk (fa_cons (fe_callT call_list_of ca_list G.f_list (fa_cons (fe_var 0) fa_nil)) (fa_cons (fe_callT call_list_of ca_list G.f_list (fa_cons (fe_var 1) fa_nil)) fa_nil))) (fe_one (fe_cm (cm_eq hr.units) (fe_var 0) (fe_var 1))))))) fss_nil)
  (fss_cons (fs_if (ft_tru (fe_callB callR_isi ca_isi G.f_isinstance (fa_cons (fe_var 1) (fa_cons (fe_tup (fa_cons (fe_con (pe_bltn (v := .ty "tuple") (by rfl) G.f_tuple (by decide +kernel) rfl) (fun _ => rfl)) (fa_cons (fe_con (pe_bltn (v := .ty "list") (by rfl) G.f_list (by decide +kernel) rfl) (fun _ => rfl)) fa_nil))) fa_nil)))) (fss_cons (fs_if (ft_w (fw_or (ft_not (ft_tru (fe_callB callR_isi ca_isi G.f_isinstance (fa_cons (fe_var 0) (fa_cons (fe_tup (fa_cons (fe_con (pe_bltn (v := .ty "tuple") (by rfl) G.f_tuple (by decide +kernel) rfl) (fun _ => rfl)) (fa_cons (fe_con (pe_bltn (v := .ty "list") (by rfl) G.f_list (by decide +kernel) rfl) (fun _ => rfl)) fa_nil))) fa_nil))))) (fw_or1 (ft_cm (cm_ne hr.units) (fe_callB callR_isi ca_isi G.f_isinstance (fa_cons (fe_var 0) (fa_cons (fe_con (pe_bltn (v := .ty "list") (by rfl) G.f_list (by decide +kernel) rfl) (fun _ => rfl)) fa_nil))) (fe_callB callR_isi ca_isi G.f_isinstance (fa_cons (fe_var 1) (fa_cons (fe_con (pe_bltn (v := .ty "list") (by rfl) G.f_list (by decide +kernel) rfl) (fun _ => rfl)) fa_nil))))))) (fss_one (fs_ret fe_bl)) fss_nil)
  (fss_cons (fs_if (ft_cm (cm_ne hr.units) (fe_len (fa_cons (fe_var 0) fa_nil) G.f_len) (fe_len (fa_cons (fe_var 1) fa_nil) G.f_len)) (fss_one (fs_ret fe_bl)) fss_nil)
  (fss_one (fs_ret (fe_cm (cm_eq hr.units) (fe_lc (own := [("_law_k", 2)]) rfl sc__law_alike.nd (fi_range1 G.f_range (fa_cons (fe_len (fa_cons (fe_var 1) fa_nil) G.f_len) fa_nil)) (by exact (show BlkOk N__law_alike (defScope s__law_alike) _ [("_law_k", 2)] from blkOk_by (by decide +kernel))) (by decide) (fun _ _ _ _ _ => (fg_name 2 sc__law_alike.nd)) (fun _ _ _ _ _ => (fts_one (ft_not (ft_tru (fe_cal C__law_alike hr takes0 (fa_cons (fe_ix (fe_var 0) (fe_var 2)) (fa_cons (fe_ix (fe_var 1) (fe_var 2)) fa_nil))))))) (fun _ _ _ _ _ => (fe_var 2))) (fe_lst fa_nil)))))) fss_nil)
  (fss_cons (fs_if (ft_w (fw_or (ft_cm cm_is (fe_var 1) fe_non) (fw_or1 (ft_tru (fe_callB callR_isi ca_isi G.f_isinstance (fa_cons (fe_var 1) (fa_cons (fe_con (pe_bltn (v := .ty "str") (by rfl) G.f_str (by decide +kernel) rfl) (fun _ => rfl)) fa_nil))))))) (fss_one (fs_ret (fe_and (fe_cm (cm_eq hr.units) (fe_var 0) (fe_var 1)) (fe_one (fe_cm (cm_eq hr.units) (fe_callB callR_isi ca_isi G.f_isinstance (fa_cons (fe_var 0) (fa_cons (fe_con (pe_bltn (v := .ty "str") (by rfl) G.f_str (by decide +kernel) rfl) (fun _ => rfl)) fa_nil))) (fe_callB callR_isi ca_isi G.f_isinstance (fa_cons (fe_var 1) (fa_cons (fe_con (pe_bltn (v := .ty "str") (by rfl) G.f_str (by decide +kernel) rfl) (fun _ => rfl)) fa_nil)))))))) fss_nil)
  (fss_one (fs_ret (fe_and (fe_callB callR_isi ca_isi G.f_isinstance (fa_cons (fe_var 0) (fa_cons (fe_con (pe_bltn (v := .ty "int") (by rfl) G.f_int (by decide +kernel) rfl) (fun _ => rfl)) fa_nil))) (fe_and (fe_cm (cm_eq hr.units) (fe_callB callR_isi ca_isi G.f_isinstance (fa_cons (fe_var 0) (fa_cons (fe_con (pe_bltn (v := .ty "bool") (by rfl) G.f_bool (by decide +kernel) rfl) (fun _ => rfl)) fa_nil))) (fe_callB callR_isi ca_isi G.f_isinstance (fa_cons (fe_var 1) (fa_cons (fe_con (pe_bltn (v := .ty "bool") (by rfl) G.f_bool (by decide +kernel) rfl) (fun _ => rfl)) fa_nil)))) (fe_one (fe_cm (cm_eq hr.units) (fe_var 0) (fe_var 1))))))))))

abbrev s_is_integer : Stmt := top 5
abbrev N_is_integer : List Str := ["thing", "low", "high"]
theorem sc_is_integer : FnScope N_is_integer ["thing", "low", "high"] (defScope s_is_integer) := ⟨rfl, rfl, rfl, by decide +kernel, rfl, by decide +kernel, by decide +kernel⟩
theorem ok_is_integer (G : Gs K mg) {f : Addr} {fd : FuncData} (F : FnP K "is_integer" s_is_integer f fd) (hm : mg "is_integer" = some (.ref f)) : DefOk P w K mg base "is_integer" 1 3 (runB (b_is_integer) 3) := by
  refine def_ok2 F sc_is_integer hm (F.bindsN fun _ _ _ _ _ _ us hl => match us, hl with | [_, _, _], _ => rfl) fun cdv A outer s H E hr tk hp => ?_
  exact (fss_one (fs_ret (fe_and (fe_callB callR_isi ca_isi G.f_isinstance (fa_cons (fe_var 0) (fa_cons (fe_con (pe_bltn (v := .ty "int") (by rfl) G.f_int (by decide +kernel) rfl) (fun _ => rfl)) fa_nil))) (fe_and (fe_not (fe_callB callR_isi ca_isi G.f_isinstance (fa_cons (fe_var 0) (fa_cons (fe_con (pe_bltn (v := .ty "bool") (by rfl) G.f_bool (by decide +kernel) rfl) (fun _ => rfl)) fa_nil)))) (fe_one (fe_chain cm_le cm_le (fe_var 1) (fe_var 0) (fe_var 2)))))))

abbrev s_is_pack : Stmt := top 11
abbrev N_is_pack : List Str := ["thing"]
theorem sc_is_pack : FnScope N_is_pack ["thing"] (defScope s_is_pack) := ⟨rfl, rfl, rfl, by decide +kernel, rfl, by decide +kernel, by decide +kernel⟩
theorem ok_is_pack (G : Gs K mg) {f : Addr} {fd : FuncData} (F : FnP K "is_pack" s_is_pack f fd) (hm : mg "is_pack" = some (.ref f)) {g_is_integer : List D → M D} (C_is_integer : DefOk P w K mg base "is_integer" 1 3 g_is_integer) : DefOk P w K mg base "is_pack" 2 1 (runB (b_is_pack g_is_integer) 1) := by
  refine def_ok2 F sc_is_pack hm (F.bindsN fun _ _ _ _ _ _ us hl => match us, hl with | [_], _ => rfl) fun cdv A outer s H E hr tk hp => ?_
  exact (fss_cons (fs_if (ft_w (fw_or (ft_not (ft_tru (fe_callB callR_isi ca_isi G.f_isinstance (fa_cons (fe_var 0) (fa_cons (fe_con (pe_bltn (v := .ty "tuple") (by rfl) G.f_tuple (by decide +kernel) rfl) (fun _ => rfl)) fa_nil))))) (fw_or1 (ft_cm (cm_ne hr.units) (fe_len (fa_cons (fe_var 0) fa_nil) G.f_len) fe_int)))) (fss_one (fs_ret fe_bl)) fss_nil)
  (fss_one (fs_ret (fe_and (fe_cal C_is_integer (hr.mono (by decide)) tk (fa_cons (fe_ix (fe_var 0) fe_int) (fa_cons fe_int (fa_cons (fe_gint G.c_MOST_SIZE) fa_nil)))) (fe_one (fe_cal C_is_integer (hr.mono (by decide)) tk (fa_cons (fe_ix (fe_var 0) fe_int) (fa_cons fe_int (fa_cons (fe_gint G.c_MOST_PRICE) fa_nil)))))))))

abbrev s_check_packs : Stmt := top 12
abbrev N_check_packs : List Str := ["packs", "index", "pack"]
theorem sc_check_packs : FnScope N_check_packs ["packs"] (defScope s_check_packs) := ⟨rfl, rfl, rfl, by decide +kernel, rfl, by decide +kernel, by decide +kernel⟩
theorem ok_check_packs (G : Gs K mg) {f : Addr} {fd : FuncData} (F : FnP K "check_packs" s_check_packs f fd) (hm : mg "check_packs" = some (.ref f)) {g_is_pack : List D → M D} (C_is_pack : DefOk P w K mg base "is_pack" 2 1 g_is_pack) : DefOk P w K mg base "check_packs" 3 1 (runB (b_check_packs g_is_pack) 3) := by
  refine def_ok2 F sc_check_packs hm (F.bindsN fun _ _ _ _ _ _ us hl => match us, hl with | [_], _ => rfl) fun cdv A outer s H E hr tk hp => ?_
  exact (fss_cons (fs_if (ft_w (fw_or (ft_not (ft_tru (fe_callB callR_isi ca_isi G.f_isinstance (fa_cons (fe_var 0) (fa_cons (fe_con (pe_bltn (v := .ty "tuple") (by rfl) G.f_tuple (by decide +kernel) rfl) (fun _ => rfl)) fa_nil))))) (fw_or1 (ft_not (ft_chain cm_le cm_le fe_int (fe_len (fa_cons (fe_var 0) fa_nil) G.f_len) (fe_gint G.c_MOST_PACKS)))))) (fss_one fs_never) fss_nil)
  (fss_one (fs_for hp rfl (fi_enum G.f_enumerate (fa_cons (fe_var 0) fa_nil)) (fg_tup rfl (fgs_cons 1 sc_check_packs.nd (fgs_cons 2 sc_check_packs.nd fgs_nil))) (fss_one (fs_if (ft_w (fw_or (ft_not (ft_tru (fe_cal C_is_pack (hr.mono (by decide)) tk (fa_cons (fe_var 2) fa_nil)))) (fw_or1 (ft_cm (cm_in (u65 hr)) (fe_var 2) (fe_slice (fe_var 0) FO.none (FO.some (fe_var 1))))))) (fss_one fs_never) fss_nil)))))

abbrev s_check_amount : Stmt := top 13
abbrev N_check_amount : List Str := ["amount"]
theorem sc_check_amount : FnScope N_check_amount ["amount"] (defScope s_check_amount) := ⟨rfl, rfl, rfl, by decide +kernel, rfl, by decide +kernel, by decide +kernel⟩
theorem ok_check_amount (G : Gs K mg) {f : Addr} {fd : FuncData} (F : FnP K "check_amount" s_check_amount f fd) (hm : mg "check_amount" = some (.ref f)) {g_is_integer : List D → M D} (C_is_integer : DefOk P w K mg base "is_integer" 1 3 g_is_integer) : DefOk P w K mg base "check_amount" 2 1 (runB (b_check_amount g_is_integer) 1) := by
  refine def_ok2 F sc_check_amount hm (F.bindsN fun _ _ _ _ _ _ us hl => match us, hl with | [_], _ => rfl) fun cdv A outer s H E hr tk hp => ?_
  exact (fss_one (fs_if (ft_not (ft_tru (fe_cal C_is_integer (hr.mono (by decide)) tk (fa_cons (fe_var 0) (fa_cons fe_int (fa_cons (fe_gint G.c_MOST_AMOUNT) fa_nil)))))) (fss_one fs_never) fss_nil))

abbrev s_cheapest : Stmt := top 14
abbrev N_cheapest : List Str := ["packs", "found", "index", "pack"]
theorem sc_cheapest : FnScope N_cheapest ["packs"] (defScope s_cheapest) := ⟨rfl, rfl, rfl, by decide +kernel, rfl, by decide +kernel, by decide +kernel⟩
theorem ok_cheapest (G : Gs K mg) {f : Addr} {fd : FuncData} (F : FnP K "cheapest" s_cheapest f fd) (hm : mg "cheapest" = some (.ref f)) : DefOk P w K mg base "cheapest" 1 1 (runB (b_cheapest) 4) := by
  refine def_ok2 F sc_cheapest hm (F.bindsN fun _ _ _ _ _ _ us hl => match us, hl with | [_], _ => rfl) fun cdv A outer s H E hr tk hp => ?_
  exact (fss_cons (fs_set 1 sc_cheapest.nd fe_int)
  (fss_cons (fs_for hp rfl (fi_enum G.f_enumerate (fa_cons (fe_var 0) fa_nil)) (fg_tup rfl (fgs_cons 2 sc_cheapest.nd (fgs_cons 3 sc_cheapest.nd fgs_nil))) (fss_one (fs_if (ft_cm cm_lt (fe_mul (fe_ix (fe_var 3) fe_int) (fe_ix (fe_ix (fe_var 0) (fe_var 1)) fe_int)) (fe_mul (fe_ix (fe_ix (fe_var 0) (fe_var 1)) fe_int) (fe_ix (fe_var 3) fe_int))) (fss_one (fs_set 1 sc_cheapest.nd (fe_var 2))) fss_nil)))
  (fss_one (fs_ret (fe_var 1)))))

abbrev s_settled_amount : Stmt := top 15
abbrev N_settled_amount : List Str := ["packs", "pack"]
theorem sc_settled_amount : FnScope N_settled_amount ["packs"] (defScope s_settled_amount) := ⟨rfl, rfl, rfl, by decide +kernel, rfl, by decide +kernel, by decide +kernel⟩
theorem ok_settled_amount (G : Gs K mg) {f : Addr} {fd : FuncData} (F : FnP K "settled_amount" s_settled_amount f fd) (hm : mg "settled_amount" = some (.ref f)) {g_cheapest : List D → M D} (C_cheapest : DefOk P w K mg base "cheapest" 1 1 g_cheapest) : DefOk P w K mg base "settled_amount" 2 1 (runB (b_settled_amount g_cheapest) 2) := by
  refine def_ok2 F sc_settled_amount hm (F.bindsN fun _ _ _ _ _ _ us hl => match us, hl with | [_], _ => rfl) fun cdv A outer s H E hr tk hp => ?_
  exact (fss_one (fs_ret (fe_mul (fe_sub (fe_ix (fe_ix (fe_var 0) (fe_cal C_cheapest (hr.mono (by decide)) tk (fa_cons (fe_var 0) fa_nil))) fe_int) fe_int) (fe_callB (cr_max rfl) ca_maxL G.f_max (fa_cons (fe_lc (own := [("pack", 1)]) rfl sc_settled_amount.nd (fi_seq (fe_var 0)) (by exact (show BlkOk N_settled_amount (defScope s_settled_amount) _ [("pack", 1)] from blkOk_by (by decide +kernel))) (by decide) (fun _ _ _ _ _ => (fg_name 1 sc_settled_amount.nd)) (fun _ _ _ _ _ => fts_nil) (fun _ _ _ _ _ => (fe_ix (fe_var 1) fe_int))) fa_nil)))))

abbrev s_split_amount : Stmt := top 17
abbrev N_split_amount : List Str := ["packs", "amount", "many", "size", "bound"]
theorem sc_split_amount : FnScope N_split_amount ["packs", "amount"] (defScope s_split_amount) := ⟨rfl, rfl, rfl, by decide +kernel, rfl, by decide +kernel, by decide +kernel⟩
theorem ok_split_amount (G : Gs K mg) {f : Addr} {fd : FuncData} (F : FnP K "split_amount" s_split_amount f fd) (hm : mg "split_amount" = some (.ref f)) {g_settled_amount g_cheapest : List D → M D} (C_settled_amount : DefOk P w K mg base "settled_amount" 2 1 g_settled_amount) (C_cheapest : DefOk P w K mg base "cheapest" 1 1 g_cheapest) : DefOk P w K mg base "split_amount" 3 2 (runB (b_split_amount g_settled_amount g_cheapest) 5) := by
  refine def_ok2 F sc_split_amount hm (F.bindsN fun _ _ _ _ _ _ us hl => match us, hl with | [_, _], _ => rfl) fun cdv A outer s H E hr tk hp => ?_
  exact (fss_cons (fs_par (i := 3) (j := 4) sc_split_amount.nd (fa_cons (fe_ix (fe_ix (fe_var 0) (fe_cal C_cheapest (hr.mono (by decide)) tk (fa_cons (fe_var 0) fa_nil))) fe_int) (fa_cons (fe_cal C_settled_amount (hr.mono (by decide)) tk (fa_cons (fe_var 0) fa_nil)) fa_nil)))
  (fss_cons (fs_set 2 sc_split_amount.nd (fe_callB (call_max2 rfl) ca_max2 G.f_max (fa_cons fe_int (fa_cons (fe_div (fe_sub (fe_add (fe_sub (fe_var 1) (fe_var 4)) (fe_var 3)) fe_int) (fe_var 3)) fa_nil))))
  (fss_one (fs_ret (fe_tup (fa_cons (fe_var 2) (fa_cons (fe_callB (call_max2 rfl) ca_max2 G.f_max (fa_cons fe_int (fa_cons (fe_sub (fe_var 1) (fe_mul (fe_var 2) (fe_var 3))) fa_nil))) fa_nil)))))))

abbrev s_prices_to : Stmt := top 16
abbrev N_prices_to : List Str := ["packs", "bound", "amount", "prices", "picks", "some", "price", "pick", "index", "pack"]
theorem sc_prices_to : FnScope N_prices_to ["packs", "bound"] (defScope s_prices_to) := ⟨rfl, rfl, rfl, by decide +kernel, rfl, by decide +kernel, by decide +kernel⟩
theorem ok_prices_to (G : Gs K mg) {f : Addr} {fd : FuncData} (F : FnP K "prices_to" s_prices_to f fd) (hm : mg "prices_to" = some (.ref f)) : DefOk P w K mg base "prices_to" 1 2 (runB (b_prices_to) 10) := by
  refine def_ok2 F sc_prices_to hm (F.bindsN fun _ _ _ _ _ _ us hl => match us, hl with | [_, _], _ => rfl) fun cdv A outer s H E hr tk hp => ?_
  exact (fss_cons (fs_asg (fe_tup (fa_cons (fe_cel (fa_cons fe_int fa_nil)) (fa_cons (fe_cel (fa_cons fe_non fa_nil)) fa_nil))) (fg_tup rfl (fgs_cons 3 sc_prices_to.nd (fgs_cons 4 sc_prices_to.nd fgs_nil))))
  (fss_cons (fs_for hp rfl (fi_range2 G.f_range (fa_cons fe_int (fa_cons (fe_add (fe_var 1) fe_int) fa_nil))) (fg_name 2 sc_prices_to.nd) (fss_cons (fs_setLc (i := 5) (own := [("index", 8), ("pack", 9)]) rfl sc_prices_to.nd (fi_enum G.f_enumerate (fa_cons (fe_var 0) fa_nil)) (by exact (show BlkOk N_prices_to (defScope s_prices_to) _ [("index", 8), ("pack", 9)] from blkOk_by (by decide +kernel))) (by decide) (fun _ _ _ _ _ => (fg_tup rfl (fgs_cons 8 sc_prices_to.nd (fgs_cons 9 sc_prices_to.nd fgs_nil)))) (fun _ _ _ _ _ => fts_nil) (fun _ _ _ _ _ => (fe_tup (fa_cons (fe_add (fe_ix (fe_var 9) fe_int) (fe_ix (fe_var 3) (fe_callB (call_max2 rfl) ca_max2 G.f_max (fa_cons fe_int (fa_cons (fe_sub (fe_var 2) (fe_ix (fe_var 9) fe_int)) fa_nil))))) (fa_cons (fe_var 8) fa_nil)))))
  (fss_cons (fs_asg (fe_callB (callR_minP (u65 hr) rfl) ca_minP G.f_min (fa_cons (fe_var 5) fa_nil)) (fg_tup rfl (fgs_cons 6 sc_prices_to.nd (fgs_cons 7 sc_prices_to.nd fgs_nil))))
  (fss_cons (fs_expr (fe_append (fe_var 3) (fa_cons (fe_var 6) fa_nil)))
  (fss_one (fs_expr (fe_append (fe_var 4) (fa_cons (fe_var 7) fa_nil))))))))
  (fss_one (fs_ret (fe_tup (fa_cons (fe_var 3) (fa_cons (fe_var 4) fa_nil)))))))

abbrev s_bought : Stmt := top 19
abbrev N_bought : List Str := ["packs", "amount", "many", "left", "picks", "found", "pick"]
theorem sc_bought : FnScope N_bought ["packs", "amount"] (defScope s_bought) := ⟨rfl, rfl, rfl, by decide +kernel, rfl, by decide +kernel, by decide +kernel⟩
theorem ok_bought (G : Gs K mg) {f : Addr} {fd : FuncData} (F : FnP K "bought" s_bought f fd) (hm : mg "bought" = some (.ref f)) {g_cheapest g_prices_to g_split_amount g_check_amount g_check_packs : List D → M D} (fuel : Nat) (C_cheapest : DefOk P w K mg base "cheapest" 1 1 g_cheapest) (C_prices_to : DefOk P w K mg base "prices_to" 1 2 g_prices_to) (C_split_amount : DefOk P w K mg base "split_amount" 3 2 g_split_amount) (C_check_amount : DefOk P w K mg base "check_amount" 2 1 g_check_amount) (C_check_packs : DefOk P w K mg base "check_packs" 3 1 g_check_packs) : DefOk P w K mg base "bought" 4 2 (runB (b_bought g_cheapest g_prices_to g_split_amount g_check_amount g_check_packs fuel) 7) := by
  refine def_ok2 F sc_bought hm (F.bindsN fun _ _ _ _ _ _ us hl => match us, hl with | [_, _], _ => rfl) fun cdv A outer s H E hr tk hp => ?_
  exact (fss_cons (fs_expr (fe_cal C_check_packs (hr.mono (by decide)) tk (fa_cons (fe_var 0) fa_nil)))
  (fss_cons (fs_expr (fe_cal C_check_amount (hr.mono (by decide)) tk (fa_cons (fe_var 1) fa_nil)))
  (fss_cons (fs_asg (fe_cal C_split_amount (hr.mono (by decide)) tk (fa_cons (fe_var 0) (fa_cons (fe_var 1) fa_nil))) (fg_tup rfl (fgs_cons 2 sc_bought.nd (fgs_cons 3 sc_bought.nd fgs_nil))))
  (fss_cons (fs_par (i := 4) (j := 5) sc_bought.nd (fa_cons (fe_ix (fe_cal C_prices_to (hr.mono (by decide)) tk (fa_cons (fe_var 0) (fa_cons (fe_var 3) fa_nil))) fe_int) (fa_cons (fe_repC (fe_lst (fa_cons fe_int fa_nil)) (fe_len (fa_cons (fe_var 0) fa_nil) G.f_len)) fa_nil)))
  (fss_cons (fs_setit (fe_var 2) (fe_var 5) (fe_cal C_cheapest (hr.mono (by decide)) tk (fa_cons (fe_var 0) fa_nil)))
  (fss_cons (fs_while fuel hp (ft_cm cm_gt (fe_var 3) fe_int) (fss_cons (fs_set 6 sc_bought.nd (fe_ix (fe_var 4) (fe_var 3)))
  (fss_cons (fs_setit (fe_add (fe_ix (fe_var 5) (fe_var 6)) fe_int) (fe_var 5) (fe_var 6))
  (fss_one (fs_set 3 sc_bought.nd (fe_callB (call_max2 rfl) ca_max2 G.f_max (fa_cons fe_int (fa_cons (fe_sub (fe_var 3) (fe_ix (fe_ix (fe_var 0) (fe_var 6)) fe_int)) fa_nil))))))))
  (fss_one (fs_ret (fe_callT call_tuple_of ca_tuple G.f_tuple (fa_cons (fe_var 5) fa_nil))))))))))

abbrev s__law_is_bought : Stmt := top 27
abbrev N__law_is_bought : List Str := ["_law_packs_here", "_law_size", "_law_price", "_law_found", "_law_many", "_law_k"]
theorem sc__law_is_bought : FnScope N__law_is_bought ["_law_packs_here", "_law_size", "_law_price"] (defScope s__law_is_bought) := ⟨rfl, rfl, rfl, by decide +kernel, rfl, by decide +kernel, by decide +kernel⟩
theorem ok__law_is_bought (G : Gs K mg) {f : Addr} {fd : FuncData} (F : FnP K "_law_is_bought" s__law_is_bought f fd) (hm : mg "_law_is_bought" = some (.ref f)) {g_bought : List D → M D} (C_bought : DefOk P w K mg base "bought" 4 2 g_bought) : DefOk P w K mg base "_law_is_bought" 5 3 (runB (b__law_is_bought g_bought) 6) := by
  refine def_ok2 F sc__law_is_bought hm (F.bindsN fun _ _ _ _ _ _ us hl => match us, hl with | [_, _, _], _ => rfl) fun cdv A outer s H E hr tk hp => ?_
  exact (fss_cons (fs_set 3 sc__law_is_bought.nd (fe_cal C_bought (hr.mono (by decide)) tk (fa_cons (fe_var 0) (fa_cons (fe_var 1) fa_nil))))
  (fss_cons (fs_if (ft_w (fw_or (ft_not (ft_tru (fe_callB callR_isi ca_isi G.f_isinstance (fa_cons (fe_var 3) (fa_cons (fe_con (pe_bltn (v := .ty "tuple") (by rfl) G.f_tuple (by decide +kernel) rfl) (fun _ => rfl)) fa_nil))))) (fw_or (ft_cm (cm_ne hr.units) (fe_len (fa_cons (fe_var 3) fa_nil) G.f_len) (fe_len (fa_cons (fe_var 0) fa_nil) G.f_len)) (fw_or1 (ft_cm (cm_ne hr.units) (fe_lc (own := [("_law_many", 4)]) rfl sc__law_is_bought.nd (fi_seq (fe_var 3)) (by exact (show BlkOk N__law_is_bought (defScope s__law_is_bought) _ [("_law_many", 4)] from blkOk_by (by decide +kernel))) (by decide) (fun _ _ _ _ _ => (fg_name 4 sc__law_is_bought.nd)) (fun _ _ _ _ _ => (fts_one (ft_cm cm_lt (fe_var 4) fe_int))) (fun _ _ _ _ _ => (fe_var 4))) (fe_lst fa_nil)))))) (fss_one (fs_ret fe_bl)) fss_nil)
  (fss_cons (fs_if (ft_cm (cm_ne hr.units) (fe_lc (own := [("_law_many", 4)]) rfl sc__law_is_bought.nd (fi_seq (fe_var 3)) (by exact (show BlkOk N__law_is_bought (defScope s__law_is_bought) _ [("_law_many", 4)] from blkOk_by (by decide +kernel))) (by decide) (fun _ _ _ _ _ => (fg_name 4 sc__law_is_bought.nd)) (fun _ _ _ _ _ => (fts_one (ft_w (fw_or (ft_tru (fe_callB callR_isi ca_isi G.f_isinstance (fa_cons (fe_var 4) (fa_cons (fe_con (pe_bltn (v := .ty "bool") (by rfl) G.f_bool (by decide +kernel) rfl) (fun _ => rfl)) fa_nil)))) (fw_or1 (ft_not (ft_tru (fe_callB callR_isi ca_isi G.f_isinstance (fa_cons (fe_var 4) (fa_cons (fe_con (pe_bltn (v := .ty "int") (by rfl) G.f_int (by decide +kernel) rfl) (fun _ => rfl)) fa_nil)))))))))) (fun _ _ _ _ _ => (fe_var 4))) (fe_lst fa_nil)) (fss_one (fs_ret fe_bl)) fss_nil)
  (fss_cons (fs_if (ft_cm cm_lt (fe_callB (cr_sum rfl) ca_sum G.f_sum (fa_cons (fe_lc (own := [("_law_k", 5)]) rfl sc__law_is_bought.nd (fi_range1 G.f_range (fa_cons (fe_len (fa_cons (fe_var 0) fa_nil) G.f_len) fa_nil)) (by exact (show BlkOk N__law_is_bought (defScope s__law_is_bought) _ [("_law_k", 5)] from blkOk_by (by decide +kernel))) (by decide) (fun _ _ _ _ _ => (fg_name 5 sc__law_is_bought.nd)) (fun _ _ _ _ _ => fts_nil) (fun _ _ _ _ _ => (fe_mul (fe_ix (fe_var 3) (fe_var 5)) (fe_ix (fe_ix (fe_var 0) (fe_var 5)) fe_int)))) fa_nil)) (fe_var 1)) (fss_one (fs_ret fe_bl)) fss_nil)
  (fss_one (fs_ret (fe_cm (cm_eq hr.units) (fe_callB (cr_sum rfl) ca_sum G.f_sum (fa_cons (fe_lc (own := [("_law_k", 5)]) rfl sc__law_is_bought.nd (fi_range1 G.f_range (fa_cons (fe_len (fa_cons (fe_var 0) fa_nil) G.f_len) fa_nil)) (by exact (show BlkOk N__law_is_bought (defScope s__law_is_bought) _ [("_law_k", 5)] from blkOk_by (by decide +kernel))) (by decide) (fun _ _ _ _ _ => (fg_name 5 sc__law_is_bought.nd)) (fun _ _ _ _ _ => fts_nil) (fun _ _ _ _ _ => (fe_mul (fe_ix (fe_var 3) (fe_var 5)) (fe_ix (fe_ix (fe_var 0) (fe_var 5)) fe_int)))) fa_nil)) (fe_var 2))))))))

abbrev s_cost : Stmt := top 18
abbrev N_cost : List Str := ["packs", "amount", "many", "left"]
theorem sc_cost : FnScope N_cost ["packs", "amount"] (defScope s_cost) := ⟨rfl, rfl, rfl, by decide +kernel, rfl, by decide +kernel, by decide +kernel⟩
theorem ok_cost (G : Gs K mg) {f : Addr} {fd : FuncData} (F : FnP K "cost" s_cost f fd) (hm : mg "cost" = some (.ref f)) {g_cheapest g_prices_to g_split_amount g_check_amount g_check_packs : List D → M D} (C_cheapest : DefOk P w K mg base "cheapest" 1 1 g_cheapest) (C_prices_to : DefOk P w K mg base "prices_to" 1 2 g_prices_to) (C_split_amount : DefOk P w K mg base "split_amount" 3 2 g_split_amount) (C_check_amount : DefOk P w K mg base "check_amount" 2 1 g_check_amount) (C_check_packs : DefOk P w K mg base "check_packs" 3 1 g_check_packs) : DefOk P w K mg base "cost" 4 2 (runB (b_cost g_cheapest g_prices_to g_split_amount g_check_amount g_check_packs) 4) := by
  refine def_ok2 F sc_cost hm (F.bindsN fun _ _ _ _ _ _ us hl => match us, hl with | [_, _], _ => rfl) fun cdv A outer s H E hr tk hp => ?_
  exact (fss_cons (fs_expr (fe_cal C_check_packs (hr.mono (by decide)) tk (fa_cons (fe_var 0) fa_nil)))
  (fss_cons (fs_expr (fe_cal C_check_amount (hr.mono (by decide)) tk (fa_cons (fe_var 1) fa_nil)))
  (fss_cons (fs_asg (fe_cal C_split_amount (hr.mono (by decide)) tk (fa_cons (fe_var 0) (fa_cons (fe_var 1) fa_nil))) (fg_tup rfl (fgs_cons 2 sc_cost.nd (fgs_cons 3 sc_cost.nd fgs_nil))))
  (fss_one (fs_ret (fe_add (fe_mul (fe_var 2) (fe_ix (fe_ix (fe_var 0) (fe_cal C_cheapest (hr.mono (by decide)) tk (fa_cons (fe_var 0) fa_nil))) fe_int)) (fe_ix (fe_ix (fe_cal C_prices_to (hr.mono (by decide)) tk (fa_cons (fe_var 0) (fa_cons (fe_var 3) fa_nil))) fe_int) (fe_var 3))))))))

abbrev s_law : Stmt := top 28
abbrev N_law : List Str := ["_law_script", "_law_h", "_law_turn", "_law_packs_here", "_law_pack", "_law_k", "_law_great", "_law_many", "_law_due", "_law_prices_here", "_law_cheap", "_law_size"]
theorem sc_law : FnScope N_law ["_law_script"] (defScope s_law) := ⟨rfl, rfl, rfl, by decide +kernel, rfl, by decide +kernel, by decide +kernel⟩
theorem fn_law (G : Gs K mg) {f : Addr} {fd : FuncData} (F : FnP K "law" s_law f fd) {g__law_is_bought g__law_alike g_cost g__law_pick g__law_next g__law_prices g__law_packs g__law_mix : List D → M D} (C__law_is_bought : DefOk P w K mg base "_law_is_bought" 5 3 g__law_is_bought) (C__law_alike : DefOk P w K mg base "_law_alike" 8 2 g__law_alike) (C_cost : DefOk P w K mg base "cost" 4 2 g_cost) (C__law_pick : DefOk P w K mg base "_law_pick" 2 2 g__law_pick) (C__law_next : DefOk P w K mg base "_law_next" 1 2 g__law_next) (C__law_prices : DefOk P w K mg base "_law_prices" 1 2 g__law_prices) (C__law_packs : DefOk P w K mg base "_law_packs" 3 1 g__law_packs) (C__law_mix : DefOk P w K mg base "_law_mix" 1 2 g__law_mix) : FnOk P w K mg base (L2.CX P w) 9 f fd ["_law_script"] (spOf ⟨K, mg⟩ 1 (runB (b_law g__law_is_bought g__law_alike g_cost g__law_pick g__law_next g__law_prices g__law_packs g__law_mix) 12)) := by
  refine def_fn F sc_law fun cdv A outer s H E hr tk hp => ?_
  exact (fss_cons (fs_set 1 sc_law.nd (fe_cal C__law_mix (hr.mono (by decide)) tk (fa_cons (fe_var 0) (fa_cons fe_int fa_nil))))
  (fss_cons (fs_for hp rfl (fi_range1 G.f_range (fa_cons fe_int fa_nil)) (fg_name 2 sc_law.nd) (fss_cons (fs_set 3 sc_law.nd (fe_cal C__law_packs (hr.mono (by decide)) tk (fa_cons (fe_var 1) fa_nil)))
  (fss_cons (fs_par (i := 9) (j := 10) sc_law.nd (fa_cons (fe_cal C__law_prices (hr.mono (by decide)) tk (fa_cons (fe_var 3) (fa_cons fe_int fa_nil))) (fa_cons (fe_ix (fe_var 3) fe_int) fa_nil)))
  (fss_cons (fs_for hp rfl (fi_seq (fe_var 3)) (fg_name 4 sc_law.nd) (fss_one (fs_if (ft_cm cm_lt (fe_mul (fe_ix (fe_var 4) fe_int) (fe_ix (fe_var 10) fe_int)) (fe_mul (fe_ix (fe_var 10) fe_int) (fe_ix (fe_var 4) fe_int))) (fss_one (fs_set 10 sc_law.nd (fe_var 4))) fss_nil)))
  (fss_cons (fs_for hp rfl (fi_range1 G.f_range (fa_cons fe_int fa_nil)) (fg_name 5 sc_law.nd) (fss_cons (fs_set 11 sc_law.nd (fe_cal C__law_next (hr.mono (by decide)) tk (fa_cons (fe_var 1) (fa_cons fe_int fa_nil))))
  (fss_one (fs_if (ft_w (fw_or (ft_not (ft_tru (fe_cal C__law_alike (hr.mono (by decide)) tk (fa_cons (fe_cal C_cost (hr.mono (by decide)) tk (fa_cons (fe_var 3) (fa_cons (fe_var 11) fa_nil))) (fa_cons (fe_ix (fe_var 9) (fe_var 11)) fa_nil))))) (fw_or1 (ft_not (ft_tru (fe_cal C__law_is_bought (hr.mono (by decide)) tk (fa_cons (fe_var 3) (fa_cons (fe_var 11) (fa_cons (fe_ix (fe_var 9) (fe_var 11)) fa_nil))))))))) (fss_one (fs_ret fe_bl)) fss_nil))))
  (fss_cons (fs_set 6 sc_law.nd (fe_cal C__law_pick (hr.mono (by decide)) tk (fa_cons (fe_var 1) (fa_cons (fe_lst (fa_cons (fe_pow fe_int fe_int) (fa_cons (fe_sub (fe_pow fe_int fe_int) (fe_cal C__law_next (hr.mono (by decide)) tk (fa_cons (fe_var 1) (fa_cons (fe_pow fe_int fe_int) fa_nil)))) (fa_cons (fe_add fe_int (fe_cal C__law_next (hr.mono (by decide)) tk (fa_cons (fe_var 1) (fa_cons (fe_pow fe_int fe_int) fa_nil)))) fa_nil)))) fa_nil))))
  (fss_cons (fs_set 7 sc_law.nd (fe_div (fe_sub (fe_var 6) fe_int) (fe_ix (fe_var 10) fe_int)))
  (fss_cons (fs_set 8 sc_law.nd (fe_add (fe_mul (fe_var 7) (fe_ix (fe_var 10) fe_int)) (fe_ix (fe_var 9) (fe_sub (fe_var 6) (fe_mul (fe_var 7) (fe_ix (fe_var 10) fe_int))))))
  (fss_one (fs_if (ft_w (fw_or (ft_not (ft_tru (fe_cal C__law_alike (hr.mono (by decide)) tk (fa_cons (fe_cal C_cost (hr.mono (by decide)) tk (fa_cons (fe_var 3) (fa_cons (fe_var 6) fa_nil))) (fa_cons (fe_var 8) fa_nil))))) (fw_or1 (ft_not (ft_tru (fe_cal C__law_is_bought (hr.mono (by decide)) tk (fa_cons (fe_var 3) (fa_cons (fe_var 6) (fa_cons (fe_var 8) fa_nil))))))))) (fss_one (fs_ret fe_bl)) fss_nil))))))))))
  (fss_one (fs_ret fe_bl))))
end
end F

set_option linter.all false
set_option maxRecDepth 100000
set_option maxHeartbeats 4000000
set_option Elab.async false
namespace F
open PySem PySem.Spec PyProof.Rows L2
section
def d__law_mix : He.DefD := ⟨("_law_mix", none), "_law_mix", "_law_mix", defArgs s__law_mix, defBody s__law_mix, defScope s__law_mix, [], []⟩
def d__law_next : He.DefD := ⟨("_law_next", none), "_law_next", "_law_next", defArgs s__law_next, defBody s__law_next, defScope s__law_next, [], []⟩
def d__law_pick : He.DefD := ⟨("_law_pick", none), "_law_pick", "_law_pick", defArgs s__law_pick, defBody s__law_pick, defScope s__law_pick, [], []⟩
def d__law_packs : He.DefD := ⟨("_law_packs", none), "_law_packs", "_law_packs", defArgs s__law_packs, defBody s__law_packs, defScope s__law_packs, [], []⟩
def d__law_prices : He.DefD := ⟨("_law_prices", none), "_law_prices", "_law_prices", defArgs s__law_prices, defBody s__law_prices, defScope s__law_prices, [], []⟩
def d__law_alike : He.DefD := ⟨("_law_alike", none), "_law_alike", "_law_alike", defArgs s__law_alike, defBody s__law_alike, defScope s__law_alike, [], []⟩
def d_is_integer : He.DefD := ⟨("is_integer", none), "is_integer", "is_integer", defArgs s_is_integer, defBody s_is_integer, defScope s_is_integer, [], []⟩
def d_is_pack : He.DefD := ⟨("is_pack", none), "is_pack", "is_pack", defArgs s_is_pack, defBody s_is_pack, defScope s_is_pack, [], []⟩
def d_check_packs : He.DefD := ⟨("check_packs", none), "check_packs", "check_packs", defArgs s_check_packs, defBody s_check_packs, defScope s_check_packs, [], []⟩
def d_check_amount : He.DefD := ⟨("check_amount", none), "check_amount", "check_amount", defArgs s_check_amount, defBody s_check_amount, defScope s_check_amount, [], []⟩
def d_cheapest : He.DefD := ⟨("cheapest", none), "cheapest", "cheapest", defArgs s_cheapest, defBody s_cheapest, defScope s_cheapest, [], []⟩
def d_settled_amount : He.DefD := ⟨("settled_amount", none), "settled_amount", "settled_amount", defArgs s_settled_amount, defBody s_settled_amount, defScope s_settled_amount, [], []⟩
def d_split_amount : He.DefD := ⟨("split_amount", none), "split_amount", "split_amount", defArgs s_split_amount, defBody s_split_amount, defScope s_split_amount, [], []⟩
def d_prices_to : He.DefD := ⟨("prices_to", none), "prices_to", "prices_to", defArgs s_prices_to, defBody s_prices_to, defScope s_prices_to, [], []⟩
def d_bought : He.DefD := ⟨("bought", none), "bought", "bought", defArgs s_bought, defBody s_bought, defScope s_bought, [], []⟩
def d__law_is_bought : He.DefD := ⟨("_law_is_bought", none), "_law_is_bought", "_law_is_bought", defArgs s__law_is_bought, defBody s__law_is_bought, defScope s__law_is_bought, [], []⟩
def d_cost : He.DefD := ⟨("cost", none), "cost", "cost", defArgs s_cost, defBody s_cost, defScope s_cost, [], []⟩
def d_law : He.DefD := ⟨("law", none), "law", "law", defArgs s_law, defBody s_law, defScope s_law, [], []⟩
def fn : List He.DefD := [d__law_mix, d__law_next, d__law_pick, d__law_packs, d__law_prices, d__law_alike, d_is_integer, d_is_pack, d_check_packs, d_check_amount, d_cheapest, d_settled_amount, d_split_amount, d_prices_to, d_bought, d__law_is_bought, d_cost, d_law]
def fa : List He.Fa := [.free "bool", .free "dict", .free "enumerate", .free "int", .free "isinstance", .free "len", .free "list", .free "max", .free "min", .free "range", .free "str", .free "sum", .free "tuple", .int "MOST_AMOUNT" 1000000000000000000000000000000, .int "MOST_PACKS" 4, .int "MOST_PRICE" 99, .int "MOST_SIZE" 12, .glo "_law_mix", .glo "_law_next", .glo "_law_pick", .glo "_law_packs", .glo "_law_prices", .glo "_law_alike", .glo "is_integer", .glo "is_pack", .glo "check_packs", .glo "check_amount", .glo "cheapest", .glo "settled_amount", .glo "split_amount", .glo "prices_to", .glo "bought", .glo "_law_is_bought", .glo "cost", .glo "law"]
theorem facts {P : Program} {w : World} {K : PySem.W.Frag} {h : Heap} {mg : Str → Option Value} {f : Addr} (X : K.In h) (N : h.Ns mainGlobals mg) (hfa : mg ("law" : Str) = some (.ref f)) (c : He.SaysD fa fn K) :
    ∃ fd : FuncData, (∀ (s : Shared) (v : Value), BindsTo s fd ⟨[v], []⟩ [("_law_script", v)]) ∧ ∀ base : Heap, K.In base → base.Ns mainGlobals mg → FnOk P w K mg base (L2.CX P w) 9 f fd ["_law_script"] (spOf ⟨K, mg⟩ 1 g_law) := by
  have G : Gs K mg := ⟨He.free_ok X N (c.fact 0 (f := .free "bool") rfl), He.free_ok X N (c.fact 1 (f := .free "dict") rfl), He.free_ok X N (c.fact 2 (f := .free "enumerate") rfl), He.free_ok X N (c.fact 3 (f := .free "int") rfl), He.free_ok X N (c.fact 4 (f := .free "isinstance") rfl), He.free_ok X N (c.fact 5 (f := .free "len") rfl), He.free_ok X N (c.fact 6 (f := .free "list") rfl), He.free_ok X N (c.fact 7 (f := .free "max") rfl), He.free_ok X N (c.fact 8 (f := .free "min") rfl), He.free_ok X N (c.fact 9 (f := .free "range") rfl), He.free_ok X N (c.fact 10 (f := .free "str") rfl), He.free_ok X N (c.fact 11 (f := .free "sum") rfl), He.free_ok X N (c.fact 12 (f := .free "tuple") rfl), He.int_ok X N (c.fact 13 (f := .int "MOST_AMOUNT" 1000000000000000000000000000000) rfl), He.int_ok X N (c.fact 14 (f := .int "MOST_PACKS" 4) rfl), He.int_ok X N (c.fact 15 (f := .int "MOST_PRICE" 99) rfl), He.int_ok X N (c.fact 16 (f := .int "MOST_SIZE" 12) rfl)⟩
  obtain ⟨fd__law_mix, F__law_mix⟩ := c.def_ 0 (d := d__law_mix) rfl
  have m__law_mix := He.glo_ok X N (c.fact 17 (f := .glo "_law_mix") rfl)
  obtain ⟨fd__law_next, F__law_next⟩ := c.def_ 1 (d := d__law_next) rfl
  have m__law_next := He.glo_ok X N (c.fact 18 (f := .glo "_law_next") rfl)
  obtain ⟨fd__law_pick, F__law_pick⟩ := c.def_ 2 (d := d__law_pick) rfl
  have m__law_pick := He.glo_ok X N (c.fact 19 (f := .glo "_law_pick") rfl)
  obtain ⟨fd__law_packs, F__law_packs⟩ := c.def_ 3 (d := d__law_packs) rfl
  have m__law_packs := He.glo_ok X N (c.fact 20 (f := .glo "_law_packs") rfl)
  obtain ⟨fd__law_prices, F__law_prices⟩ := c.def_ 4 (d := d__law_prices) rfl
  have m__law_prices := He.glo_ok X N (c.fact 21 (f := .glo "_law_prices") rfl)
  obtain ⟨fd__law_alike, F__law_alike⟩ := c.def_ 5 (d := d__law_alike) rfl
  have m__law_alike := He.glo_ok X N (c.fact 22 (f := .glo "_law_alike") rfl)
  obtain ⟨fd_is_integer, F_is_integer⟩ := c.def_ 6 (d := d_is_integer) rfl
  have m_is_integer := He.glo_ok X N (c.fact 23 (f := .glo "is_integer") rfl)
  obtain ⟨fd_is_pack, F_is_pack⟩ := c.def_ 7 (d := d_is_pack) rfl
  have m_is_pack := He.glo_ok X N (c.fact 24 (f := .glo "is_pack") rfl)
  obtain ⟨fd_check_packs, F_check_packs⟩ := c.def_ 8 (d := d_check_packs) rfl
  have m_check_packs := He.glo_ok X N (c.fact 25 (f := .glo "check_packs") rfl)
  obtain ⟨fd_check_amount, F_check_amount⟩ := c.def_ 9 (d := d_check_amount) rfl
  have m_check_amount := He.glo_ok X N (c.fact 26 (f := .glo "check_amount") rfl)
  obtain ⟨fd_cheapest, F_cheapest⟩ := c.def_ 10 (d := d_cheapest) rfl
  have m_cheapest := He.glo_ok X N (c.fact 27 (f := .glo "cheapest") rfl)
  obtain ⟨fd_settled_amount, F_settled_amount⟩ := c.def_ 11 (d := d_settled_amount) rfl
  have m_settled_amount := He.glo_ok X N (c.fact 28 (f := .glo "settled_amount") rfl)
  obtain ⟨fd_split_amount, F_split_amount⟩ := c.def_ 12 (d := d_split_amount) rfl
  have m_split_amount := He.glo_ok X N (c.fact 29 (f := .glo "split_amount") rfl)
  obtain ⟨fd_prices_to, F_prices_to⟩ := c.def_ 13 (d := d_prices_to) rfl
  have m_prices_to := He.glo_ok X N (c.fact 30 (f := .glo "prices_to") rfl)
  obtain ⟨fd_bought, F_bought⟩ := c.def_ 14 (d := d_bought) rfl
  have m_bought := He.glo_ok X N (c.fact 31 (f := .glo "bought") rfl)
  obtain ⟨fd__law_is_bought, F__law_is_bought⟩ := c.def_ 15 (d := d__law_is_bought) rfl
  have m__law_is_bought := He.glo_ok X N (c.fact 32 (f := .glo "_law_is_bought") rfl)
  obtain ⟨fd_cost, F_cost⟩ := c.def_ 16 (d := d_cost) rfl
  have m_cost := He.glo_ok X N (c.fact 33 (f := .glo "cost") rfl)
  obtain ⟨fd_law, F_law⟩ := c.def_ 17 (d := d_law) rfl
  have m_law := He.glo_ok X N (c.fact 34 (f := .glo "law") rfl)
  have e := hfa.symm.trans m_law
  cases e
  have b := FunD.bindsA (ps := ["_law_script"]) F_law fun _ _ _ _ _ _ us hl => match us, hl with | [_], _ => rfl
  refine ⟨fd_law, fun s v => b s [v] rfl, fun base _ _ => ?_⟩
  have C__law_mix := (ok__law_mix (P := P) (w := w) (base := base) G F__law_mix m__law_mix )
  have C__law_next := (ok__law_next (P := P) (w := w) (base := base) G F__law_next m__law_next )
  have C__law_pick := (ok__law_pick (P := P) (w := w) (base := base) G F__law_pick m__law_pick C__law_next)
  have C__law_packs := (ok__law_packs (P := P) (w := w) (base := base) G F__law_packs m__law_packs C__law_next C__law_pick)
  have C__law_prices := (ok__law_prices (P := P) (w := w) (base := base) G F__law_prices m__law_prices ).close
  have R__law_alike : ∀ n, DefOk P w K mg base "_law_alike" (n + 0) 2 (r__law_alike n) := by
    intro n
    induction n with
    | zero => exact def_stuck (ps := ["_law_found", "_law_due"]) m__law_alike F__law_alike.kp (F__law_alike.bindsN fun _ _ _ _ _ _ us hl => match us, hl with | [_, _], _ => rfl)
    | succ n ih => exact (ok__law_alike (P := P) (w := w) (base := base) (k := n + 0) G F__law_alike m__law_alike (Nat.le_add_left _ _) ih).mono (by omega)
  have C__law_alike := R__law_alike RECN
  have C_is_integer := (ok_is_integer (P := P) (w := w) (base := base) G F_is_integer m_is_integer )
  have C_is_pack := (ok_is_pack (P := P) (w := w) (base := base) G F_is_pack m_is_pack C_is_integer)
  have C_check_packs := (ok_check_packs (P := P) (w := w) (base := base) G F_check_packs m_check_packs C_is_pack)
  have C_check_amount := (ok_check_amount (P := P) (w := w) (base := base) G F_check_amount m_check_amount C_is_integer)
  have C_cheapest := (ok_cheapest (P := P) (w := w) (base := base) G F_cheapest m_cheapest )
  have C_settled_amount := (ok_settled_amount (P := P) (w := w) (base := base) G F_settled_amount m_settled_amount C_cheapest)
  have C_split_amount := (ok_split_amount (P := P) (w := w) (base := base) G F_split_amount m_split_amount C_settled_amount C_cheapest)
  have C_prices_to := (ok_prices_to (P := P) (w := w) (base := base) G F_prices_to m_prices_to ).close
  have C_bought := (ok_bought (P := P) (w := w) (base := base) G F_bought m_bought FUEL C_cheapest C_prices_to C_split_amount C_check_amount C_check_packs).close
  have C__law_is_bought := (ok__law_is_bought (P := P) (w := w) (base := base) G F__law_is_bought m__law_is_bought C_bought)
  have C_cost := (ok_cost (P := P) (w := w) (base := base) G F_cost m_cost C_cheapest C_prices_to C_split_amount C_check_amount C_check_packs)
  exact fn_law (P := P) (w := w) (base := base) G F_law C__law_is_bought C__law_alike C_cost C__law_pick C__law_next C__law_prices C__law_packs C__law_mix
def loose0 : List Str := ["SheetError", "InvalidNumber", "InvalidPack", "is_integer", "MOST_PACKS", "MOST_SIZE", "MOST_PRICE", "MOST_AMOUNT", "is_pack", "check_packs", "check_amount", "cheapest", "settled_amount", "prices_to", "split_amount", "cost", "bought", "_law_mix", "_law_next", "_law_alike", "_law_pick", "_law_packs", "_law_prices", "_law_is_bought"]
def looseN : List Str := loose0
abbrev R : PySem.W.OpenRow := PySem.W.OpenLaw.row PySem.Challenge.rw_eatersheet_k12_whole_costs
abbrev hk : PySem.W.Hook := He.hookD 4 fa fn
def ob (s : PySem.W.SharedT) : He.AlD := He.obsDG 4 fa fn (HandSHeadRun.getT s)
theorem ob_eq (s : PySem.W.SharedT) : ob s = hk.obs s.abs := He.obsDG_eq (HandSHeadRun.getT_eq s)
set_option maxHeartbeats 0 in
theorem run (w : World) : HandSHeadRun.RunEq R (PySem.W.view R.prog [28]) hk ob 4000 looseN w := by
  intro os
  kernel_rfl
end
end F
open PySem PySem.W PySem.Calls PyProof.Rows
set_option maxHeartbeats 0 in
theorem PySem.Challenge.cw_eatersheet_k12_whole_costs_holds : PySem.Challenge.rw_eatersheet_k12_whole_costs.Holds := by
  w_on; o_law
  refine HandSHeadRun.head_any (r := OpenLaw.row PySem.Challenge.rw_eatersheet_k12_whole_costs) (q := view (OpenLaw.row PySem.Challenge.rw_eatersheet_k12_whole_costs).prog [28]) (H := F.hk) (ob := F.ob) (M := 4000) (loose := F.looseN) (d := HandSHeadRun.topDef (OpenLaw.row PySem.Challenge.rw_eatersheet_k12_whole_costs).prog 28) (kwd := []) F.ob_eq
    (by kernel_rfl) (fun s => by kernel_rfl) F.run (by kernel_rfl) (by kernel_rfl) (by kernel_rfl) (by rfl) (by first | assumption | decide +kernel) (by decide +kernel) ⟨rfl, rfl, rfl, rfl, rfl, by decide +kernel⟩ ?hw ?hc
  case hw => w_witness2
  case hc =>
    refine F.walk_ofF (l := PySem.Challenge.rw_eatersheet_k12_whole_costs) (n := 63) (k := 9) (x := "_law_script") (g := F.g_law) rfl (by decide) (by kernel_rfl) ⟨rfl, by decide, by decide⟩ ?F F.pure_law
    intro w mg fa h Y G hmg0
    obtain ⟨K, KX, c⟩ := Y
    have hmg : mg ("law" : PySem.Str) = some (.ref fa) := by
      have e : (HandSHeadRun.topDef (OpenLaw.row PySem.Challenge.rw_eatersheet_k12_whole_costs).prog 28).name = ("law" : PySem.Str) := by kernel_rfl
      rw [← e]
      exact hmg0
    obtain ⟨fd, hb, hF⟩ := F.facts (P := (PySem.Challenge.rw_eatersheet_k12_whole_costs).prog) (w := w) KX G hmg c
    exact ⟨K, fd, KX, hb, hF⟩
