import PyProof.Rows.All
import PySem.PyData
import PyProof.P3Eq
import PyProof.EqLayable
import HandS.ForMost
import HandS.ForExc
import HandS.Deep
import HandS.Wide
import HandS.Star
import HandS.Defaults
import HandS.TupMul
import HandS.TupAny
import HandS.Text
import HandS.SortInts
import HandS.IsInst
import HandS.Conv
import HandS.Iter
import HandS.Comp
import KE.DataMinMax
import KE.GoesMore
import KE.GoesEnum
import HandS.Style
import KE.DatumOrd
import HandS.Flow
import HandS.Property
import HandS.HeadHook2
import HandS.Strs
import HandS.Head0
import HandS.Head1
import HandS.Head2
import HandS.HeadEnd
import HandS.HeadHook1
import PySem.Challenge.RW_eatersheet_k11_whole_least_waste
set_option linter.all false
/-! The pure side: data, cells, outcomes. -/
namespace F
open PySem

/-- data: tuples, frozen lists, frozen instances by value; ref n: the n-th cell -/
inductive D where
  | non | bl (b : Bool) | int (i : Int) | str (s : Str) | ty (n : String)
  | tup (ds : List D) | lst (ds : List D) | frz (ds : List D)
  | ins (c : Str) (fs : List (Str × D))
  | ref (n : Nat)
  deriving Inhabited

/-- what stands in a cell -/
inductive C where
  | lst (ds : List D)
  | ins (c : Str) (fs : List (Str × D))

abbrev Store := List C
structure Xn where
  cls : Str
  fld : Option (Str × D)

inductive Out (α : Type) where
  | ok (a : α) (S : Store)
  | exn (x : Xn) (S : Store)
  | stuck

abbrev M (α : Type) := Store → Out α
def ret {α : Type} (a : α) : M α := fun S => .ok a S
def stuck {α : Type} : M α := fun _ => .stuck
def bnd {α β : Type} (m : M α) (f : α → M β) : M β := fun S => match m S with
  | .ok a S' => f a S'
  | .exn x S' => .exn x S'
  | .stuck => .stuck

abbrev Env := List (Option D)
abbrev SE := Env → M D
abbrev SA := Env → M (List D)
abbrev ST := Env → M Bool

inductive Fl where
  | nx (ρ : Env) | rt (d : D) | bk (ρ : Env) | ct (ρ : Env) | xn (x : Xn) (ρ : Env)
inductive OS where
  | fl (f : Fl) (S : Store)
  | stuck
abbrev SS := Env → Store → OS
/-- an expression ahead of the rest of a statement -/
def exS {α : Type} (e : Env → M α) (k : α → Env → Store → OS) : SS := fun ρ S => match e ρ S with
  | .ok d S' => k d ρ S'
  | .exn x S' => .fl (.xn x ρ) S'
  | .stuck => .stuck

/-! ### reading -/
def lineN : Nat := 16777216
/-- the items of a list, frozen or a cell -/
def lv (S : Store) : D → Option (List D)
  | .lst ds => some ds
  | .ref n => (match S[n]? with
    | some (.lst ds) => some ds
    | _ => none)
  | _ => none
/-- .. or the script -/
def lvf (S : Store) : D → Option (List D)
  | .frz ds => some ds
  | d => lv S d
/-- the items of a list or a tuple -/
def sv (S : Store) : D → Option (List D)
  | .tup ds => some ds
  | d => lvf S d

/-! ### data for == -/
mutual
def D.toP : D → PyData
  | .non => .none
  | .bl b => .bool b
  | .int i => .int i
  | .str s => .str s
  | .tup ds => .tuple (toPs ds)
  | .lst ds => .list (toPs ds)
  | .frz ds => .list (toPs ds)
  | .ty _ => .dict []
  | .ins _ _ => .dict []
  | .ref _ => .dict []
def toPs : List D → List PyData
  | [] => []
  | d :: ds => d.toP :: toPs ds
end
/-- one cell's list is read -/
def vw (S : Store) (d : D) : D := match lv S d with
  | some ds => .lst ds
  | none => d
/-- a plain one: its kind (0 None, 1 bool, 2 int, 3 text), 9 else -/
def kind : D → Nat
  | .non => 0
  | .bl _ => 1
  | .int _ => 2
  | .str _ => 3
  | _ => 9
def scalD (x y : D) : Bool := decide (kind x < 9) && decide (kind y < 9) && !(decide (kind x = 1 ∧ kind y = 2) || decide (kind x = 2 ∧ kind y = 1))
def scalEq : D → D → Bool
  | .non, .non => true
  | .int i, .int j => decide (i = j)
  | .bl a, .bl b => a == b
  | .str a, .str b => decide (a = b)
  | _, _ => false
def eqV (S : Store) (x y : D) : Option Bool :=
  if scalD x y then some (scalEq x y)
  else if SeqAt.shaped (vw S x).toP && SeqAt.shaped (vw S y).toP then some (PyData.eqv (vw S x).toP (vw S y).toP) else none
def eqM (x y : D) : M D := fun S => match eqV S x y with
  | some b => .ok (.bl b) S
  | none => .stuck
def neM (x y : D) : M D := fun S => match eqV S x y with
  | some b => .ok (.bl (!b)) S
  | none => .stuck

/-! ### operators -/
def mkL (ds : List D) : M D := fun S => if ds.length ≤ lineN then .ok (.lst ds) S else .stuck
def mkT (ds : List D) : M D := fun S => if ds.length ≤ lineN then .ok (.tup ds) S else .stuck
/-- a new cell -/
def mkC (ds : List D) : M D := fun S => if ds.length ≤ lineN then .ok (.ref S.length) (S ++ [.lst ds]) else .stuck
def addL (x y : D) : M D := fun S => match lv S x, lv S y with
  | some a, some b => if a.length + b.length ≤ lineN then .ok (.lst (a ++ b)) S else .stuck
  | _, _ => .stuck
def addD (x y : D) : M D := match x with
  | .int i => (match y with
    | .int j => ret (.int (i + j))
    | _ => stuck)
  | .str a => (match y with
    | .str b => fun S => if a.length + b.length ≤ lineN then .ok (.str (a ++ b)) S else .stuck
    | _ => stuck)
  | .tup a => (match y with
    | .tup b => fun S => if a.length + b.length ≤ lineN then .ok (.tup (a ++ b)) S else .stuck
    | _ => stuck)
  | x => addL x y
def subD : D → D → M D
  | .int i, .int j => ret (.int (i - j))
  | _, _ => stuck
def mulOk (i j : Int) : Prop := (-18446744073709551616 < i ∧ i < 18446744073709551616) ∨ (-18446744073709551616 < j ∧ j < 18446744073709551616)
instance (i j : Int) : Decidable (mulOk i j) := by unfold mulOk; infer_instance
def repL (x : D) (k : Int) : M D := fun S => match lv S x with
  | some a => if -(2 ^ 63) ≤ k ∧ k < 2 ^ 63 ∧ a.length * k.toNat ≤ lineN then .ok (.lst (List.replicate k.toNat a).flatten) S else .stuck
  | none => .stuck
def mulD (x y : D) : M D := match y with
  | .int k => (match x with
    | .int i => fun S => if mulOk i k then .ok (.int (i * k)) S else .stuck
    | .tup a => fun S => if a ≠ [] ∧ a.length ≤ 1000 ∧ 2 ≤ k ∧ k ≤ 1000 then .ok (.tup (List.replicate k.toNat a).flatten) S else .stuck
    | x => repL x k)
  | _ => stuck
def divD : D → D → M D
  | .int i, .int j => fun S => if 0 < j ∧ j < 18446744073709551616 then .ok (.int (i / j)) S else .stuck
  | _, _ => stuck
def modD : D → D → M D
  | .int i, .int j => fun S => if 0 < j then .ok (.int (i % j)) S else .stuck
  | _, _ => stuck
def powD : D → D → M D
  | .int i, .int j => fun S => if 0 ≤ j ∧ j ≤ 1000000 ∧ i.natAbs < 18446744073709551616 then .ok (.int (i ^ j.toNat)) S else .stuck
  | _, _ => stuck
def negD : D → M D
  | .int i => ret (.int (-i))
  | _ => stuck
def notD : D → M D
  | .bl b => ret (.bl (!b))
  | _ => stuck
def ltD : D → D → M D
  | .int i, .int j => ret (.bl (decide (i < j)))
  | _, _ => stuck
def leD : D → D → M D
  | .int i, .int j => ret (.bl (decide (i ≤ j)))
  | _, _ => stuck
def gtD : D → D → M D
  | .int i, .int j => ret (.bl (decide (j < i)))
  | _, _ => stuck
def geD : D → D → M D
  | .int i, .int j => ret (.bl (decide (j ≤ i)))
  | _, _ => stuck
def isN : D → Bool
  | .non => true
  | _ => false
def isNoneD (x : D) : M D := ret (.bl (isN x))
def notNoneD (x : D) : M D := ret (.bl (!isN x))

/-! ### subscripts -/
/-- the place that an index tells -/
def pos? (n : Nat) (i : Int) : Option Nat := if i < 0 then (if 0 ≤ i + n then some (i + n).toNat else none) else if i < n then some i.toNat else none
def at? {α : Type} (xs : List α) (i : Int) : Option α := match pos? xs.length i with
  | some j => xs[j]?
  | none => none
def ixS (x : D) (i : Int) : M D := fun S => match sv S x with
  | some ds => (match at? ds i with
    | some d => .ok d S
    | none => .stuck)
  | none => .stuck
def ixD (x y : D) : M D := match y with
  | .int i => (match x with
    | .str z => fun S => if z.length ≤ lineN then (match at? z.cps.toList i with
      | some c => .ok (.str ⟨#[c]⟩) S
      | none => .stuck) else .stuck
    | x => ixS x i)
  | _ => stuck
/-- a part of a slice: None where it is left out -/
def part (d : Option D) : Option (Option Int) := match d with
  | none => some none
  | some (.int i) => some (some i)
  | _ => none
def cutN (n d : Nat) : Option Int → Nat
  | some v => if v < 0 then ((n : Int) + v).toNat else min n v.toNat
  | none => d
def cutD {α : Type} (xs : List α) (lo hi : Option Int) : List α := (xs.drop (cutN xs.length 0 lo)).take (cutN xs.length xs.length hi - cutN xs.length 0 lo)
def slL (x : D) (lo hi : Option Int) : M D := fun S => match lvf S x with
  | some ds => .ok (.lst (cutD ds lo hi)) S
  | none => .stuck
def slD (x : D) (lo hi : Option Int) : M D := match x with
  | .tup ds => ret (.tup (cutD ds lo hi))
  | x => slL x lo hi
def asInt : D → M (Option Int)
  | .int i => ret (some i)
  | _ => stuck
/-! ### in, truth, chains -/
def inV (S : Store) (x y : D) : Option Bool := match y with
  | .str z => (match x with
    | .str a => (match a.cps.toList with
      | [c] => some (decide (c ∈ z.cps.toList))
      | _ => none)
    | _ => none)
  | y => (match sv S y with
    | some ds => if SeqAt.shaped x.toP && SeqAt.shaped (.list (toPs ds)) then some ((toPs ds).any fun z => PyData.eqv z x.toP) else none
    | none => none)
def inD (x y : D) : M D := fun S => match inV S x y with
  | some b => .ok (.bl b) S
  | none => .stuck
def notInD (x y : D) : M D := fun S => match inV S x y with
  | some b => .ok (.bl (!b)) S
  | none => .stuck
def truD (d : D) : M Bool := match d with
  | .non => ret false
  | .bl b => ret b
  | .int i => ret (i != 0)
  | .str z => fun S => if z.length ≤ lineN then .ok ((z.length : Int) != 0) S else .stuck
  | d => fun S => match sv S d with
    | some ds => .ok (!ds.isEmpty) S
    | none => .stuck
def op2 (g : D → D → M D) (fa fc : SE) : SE := fun ρ => bnd (fa ρ) fun x => bnd (fc ρ) fun y => g x y
def op1 (g : D → M D) (fa : SE) : SE := fun ρ => bnd (fa ρ) g
def chain (g g' : D → D → M D) (fa fb fc : SE) : SE := fun ρ => bnd (fa ρ) fun x => bnd (fb ρ) fun y => bnd (g x y) fun z => match z with
  | .bl true => bnd (fc ρ) fun u => g' y u
  | .bl false => ret (.bl false)
  | _ => stuck
def boolT (f : SE) : ST := fun ρ => bnd (f ρ) fun d => match d with
  | .bl b => ret b
  | _ => stuck
def truT (f : SE) : ST := fun ρ => bnd (f ρ) truD
def notT (f : ST) : ST := fun ρ => bnd (f ρ) fun c => ret (!c)
def andT (f g : ST) : ST := fun ρ => bnd (f ρ) fun c => if c = true then g ρ else ret false
def orT (f g : ST) : ST := fun ρ => bnd (f ρ) fun c => if c = true then ret true else g ρ
def andE (f g : SE) : SE := fun ρ => bnd (f ρ) fun d => match d with
  | .bl c => if c = true then g ρ else ret (.bl false)
  | _ => stuck
def orE (f g : SE) : SE := fun ρ => bnd (f ρ) fun d => match d with
  | .bl c => if c = true then ret (.bl true) else g ρ
  | _ => stuck
def ifE (c : ST) (f g : SE) : SE := fun ρ => bnd (c ρ) fun d => if d = true then f ρ else g ρ
def nilA : SA := fun _ => ret []
def consA (f : SE) (g : SA) : SA := fun ρ => bnd (f ρ) fun d => bnd (g ρ) fun ds => ret (d :: ds)
def starA (f : SE) (g : SA) : SA := fun ρ => bnd (f ρ) fun d => bnd (fun S => match sv S d with
  | some es => .ok es S
  | none => .stuck) fun es => bnd (g ρ) fun ds => ret (es ++ ds)
def appA {α : Type} (f : SA) (k : List D → M α) : Env → M α := fun ρ => bnd (f ρ) k
def varD (i : Nat) : SE := fun ρ S => match ρ[i]? with
  | some (some d) => .ok d S
  | _ => .stuck
def cD (d : D) : SE := fun _ S => .ok d S
def noneOp (neg : Bool) (x y : D) : M D := match y with
  | .non => ret (.bl (if neg then !isN x else isN x))
  | _ => stuck
def lstE (fs : SA) : SE := appA fs mkL
def celE (fs : SA) : SE := appA fs mkC
def tupE (fs : SA) : SE := appA fs mkT
def slE (fa : SE) (fl fh : Env → M (Option Int)) : SE := fun ρ => bnd (fa ρ) fun x => bnd (fl ρ) fun lo => bnd (fh ρ) fun hi => slD x lo hi
/-- of one value -/
def g1 (f : D → M D) : List D → M D
  | [d] => f d
  | _ => stuck
def g2 (f : D → D → M D) : List D → M D
  | [d, e] => f d e
  | _ => stuck
def lenD (d : D) : M D := match d with
  | .str z => fun S => if z.length ≤ lineN then .ok (.int z.length) S else .stuck
  | d => fun S => match sv S d with
    | some ds => .ok (.int ds.length) S
    | none => .stuck
def typ (S : Store) : D → Option String
  | .non => some "NoneType"
  | .bl _ => some "bool"
  | .int _ => some "int"
  | .str _ => some "str"
  | .tup _ => some "tuple"
  | .lst _ => some "list"
  | .frz _ => some "list"
  | .ref n => (match S[n]? with
    | some (.lst _) => some "list"
    | _ => none)
  | _ => none
def isB (a b : String) : Bool := a == b || (a == "bool" && b == "int")
def known (b : String) : Bool := ["int", "bool", "str", "tuple", "list", "dict"].contains b
def tyN : D → Option String
  | .ty n => if known n then some n else none
  | _ => none
def tyNs : List D → Option (List String)
  | [] => some []
  | d :: ds => (match tyN d, tyNs ds with
    | some n, some ns => some (n :: ns)
    | _, _ => none)
def isiD (d c : D) : M D := fun S => match typ S d with
  | some t => (match c with
    | .tup cs => (match tyNs cs with
      | some ns => .ok (.bl (ns.any fun n => isB t n)) S
      | none => .stuck)
    | c => (match tyN c with
      | some n => .ok (.bl (isB t n)) S
      | none => .stuck))
  | none => .stuck
def ints? : List D → Option (List Int)
  | [] => some []
  | d :: ds => (match d, ints? ds with
    | .int i, some r => some (i :: r)
    | _, _ => none)
def bls? : List D → Option (List Bool)
  | [] => some []
  | d :: ds => (match d, bls? ds with
    | .bl i, some r => some (i :: r)
    | _, _ => none)
def maxI : List Int → Int
  | [] => 0
  | [a] => a
  | a :: r => max a (maxI r)
def minI : List Int → Int
  | [] => 0
  | [a] => a
  | a :: r => min a (minI r)
def ofInts (f : List Int → D) (d : D) : M D := fun S => match lvf S d with
  | some ds => (match ints? ds with
    | some ns => .ok (f ns) S
    | none => .stuck)
  | none => .stuck
def sumD : D → M D := ofInts fun ns => .int ns.sum
def maxLD (d : D) : M D := fun S => match lvf S d with
  | some ds => (match ints? ds with
    | some (n :: ns) => .ok (.int (maxI (n :: ns))) S
    | _ => .stuck)
  | none => .stuck
def minLD (d : D) : M D := fun S => match lvf S d with
  | some ds => (match ints? ds with
    | some (n :: ns) => .ok (.int (minI (n :: ns))) S
    | _ => .stuck)
  | none => .stuck
def max2D : D → D → M D
  | .int i, .int j => ret (.int (if j > i then j else i))
  | _, _ => stuck
def min2D : D → D → M D
  | .int i, .int j => ret (.int (if j < i then j else i))
  | _, _ => stuck
def ofBls (f : List Bool → D) (d : D) : M D := fun S => match lvf S d with
  | some ds => (match bls? ds with
    | some ns => .ok (f ns) S
    | none => .stuck)
  | none => .stuck
def allD : D → M D := ofBls fun bs => .bl (bs.all id)
def anyD : D → M D := ofBls fun bs => .bl (bs.any id)
def absD : D → M D
  | .int i => ret (.int (if i < 0 then -i else i))
  | _ => stuck
def intD : D → M D
  | .int i => ret (.int i)
  | .bl b => ret (.int (if b then 1 else 0))
  | _ => stuck
def listD (d : D) : M D := fun S => match sv S d with
  | some ds => .ok (.lst ds) S
  | none => .stuck
def listC (d : D) : M D := fun S => match sv S d with
  | some ds => .ok (.ref S.length) (S ++ [.lst ds])
  | none => .stuck
def tupleD (d : D) : M D := fun S => match sv S d with
  | some ds => .ok (.tup ds) S
  | none => .stuck
inductive Tg where
  | name (i : Nat)
  | tup (is : List Nat)
def setAll {α : Type} : List Nat → List α → List (Option α) → List (Option α)
  | i :: is, d :: ds, ρ => setAll is ds (ρ.set i (some d))
  | _, _, ρ => ρ
def tgD : Tg → D → Env → Option Env
  | .name i, d, ρ => some (ρ.set i (some d))
  | .tup is, d, ρ => (match d with
    | .tup ds => if ds.length = is.length then some (setAll is ds ρ) else none
    | _ => none)
def Tg.slots : Tg → List Nat
  | .name i => [i]
  | .tup is => is
/-- the items of a list or tuple that stands still -/
def still : D → M (List D)
  | .tup ds => ret ds
  | .lst ds => ret ds
  | .frz ds => ret ds
  | _ => stuck
/-- .. or of a text, letter by letter -/
def stillS : D → M (List D)
  | .str z => ret (z.cps.toList.map fun c => D.str ⟨#[c]⟩)
  | d => still d
def itE (f : SE) : SA := fun ρ => bnd (f ρ) stillS
def itR1 : List D → M (List D)
  | [.int j] => fun S => if -(2 ^ 62) ≤ j ∧ j < 2 ^ 62 then .ok ((List.range j.toNat).map fun i => D.int (i : Nat)) S else .stuck
  | _ => stuck
def itR2 : List D → M (List D)
  | [.int i, .int j] => fun S => if -(2 ^ 62) ≤ i ∧ i < 2 ^ 62 ∧ -(2 ^ 62) ≤ j ∧ j < 2 ^ 62 then .ok ((List.range (j - i).toNat).map fun k => D.int (i + (k : Nat))) S else .stuck
  | _ => stuck
def wipeD (ρ : Env) : List Nat → Env
  | [] => ρ
  | v :: vs => (wipeD ρ vs).set v none
/-- as bnd; an error is not foreseen -/
def bns {α β : Type} (m : M α) (f : α → M β) : M β := fun S => match m S with
  | .ok a S' => f a S'
  | _ => .stuck
def lcGo (t : Tg) (ft : ST) (fe : SE) (ρ : Env) : List D → M (List D)
  | [] => ret []
  | d :: ds => match tgD t d ρ with
    | none => stuck
    | some ρ' => bns (ft ρ') fun c => if c = true then bns (fe ρ') fun y => bns (lcGo t ft fe ρ ds) fun r => ret (y :: r) else lcGo t ft fe ρ ds
def lcE (own : List Nat) (t : Tg) (fi : SA) (ft : ST) (fe : SE) : SE := fun ρ => bnd (fi ρ) fun ds S => if ds.length ≤ lineN then bns (lcGo t ft fe (wipeD ρ own) ds) (fun r => ret (.lst r)) S else .stuck
def yesT : ST := fun _ => ret true
def nxS : SS := fun ρ S => .fl (.nx ρ) S
def seqS (f g : SS) : SS := fun ρ S => match f ρ S with
  | .fl (.nx ρ') S' => g ρ' S'
  | o => o
def retS (e : SE) : SS := exS e fun d _ S => .fl (.rt d) S
def retN : SS := fun _ S => .fl (.rt .non) S
def dropS (e : SE) : SS := exS e fun _ ρ S => .fl (.nx ρ) S
def asgS (e : SE) (t : Tg) : SS := exS e fun d ρ S => match tgD t d ρ with
  | some ρ' => .fl (.nx ρ') S
  | none => .stuck
def ifS (c : ST) (f g : SS) : SS := exS c fun k ρ S => if k = true then f ρ S else g ρ S
def brkS : SS := fun ρ S => .fl (.bk ρ) S
def cntS : SS := fun ρ S => .fl (.ct ρ) S
def nevS : SS := fun _ _ => .stuck
/-- the turns over the items ds -/
def forGo (t : Tg) (f : SS) : List D → SS
  | [] => nxS
  | d :: ds => fun ρ S => match tgD t d ρ with
    | none => .stuck
    | some ρ' => (match f ρ' S with
      | .fl (.nx ρ2) S2 => forGo t f ds ρ2 S2
      | .fl (.ct ρ2) S2 => forGo t f ds ρ2 S2
      | .fl (.bk ρ2) S2 => .fl (.nx ρ2) S2
      | o => o)
def forS (t : Tg) (fi : SA) (f : SS) : SS := exS fi fun ds ρ S => forGo t f ds ρ S
/-- at most n turns -/
def whGo (c : ST) (f : SS) : Nat → SS
  | 0 => nevS
  | n + 1 => exS c fun k ρ S => if k = true then (match f ρ S with
      | .fl (.nx ρ2) S2 => whGo c f n ρ2 S2
      | .fl (.ct ρ2) S2 => whGo c f n ρ2 S2
      | .fl (.bk ρ2) S2 => .fl (.nx ρ2) S2
      | o => o) else .fl (.nx ρ) S
def setItS (v o i : SE) : SS := exS v fun x ρ S => exS o (fun y ρ S => exS i (fun k ρ S => match y, k with
  | .ref n, .int j => (match S[n]? with
    | some (.lst ds) => (match pos? ds.length j with
      | some m => .fl (.nx ρ) (S.set n (.lst (ds.set m x)))
      | none => .stuck)
    | _ => .stuck)
  | _, _ => .stuck) ρ S) ρ S
def runB (f : SS) (N : Nat) (ds : List D) : M D := fun S => match f (ds.map some ++ List.replicate (N - ds.length) none) S with
  | .fl (.rt d) S' => .ok d S'
  | .fl (.nx _) S' => .ok .non S'
  | .fl (.xn x _) S' => .exn x S'
  | _ => .stuck
/-- (0, d0), (1, d1), .. -/
def enumL (ds : List D) : List D := (List.range ds.length).zipWith (fun i d => D.tup [.int (i : Nat), d]) ds
def itEn (f : SA) : SA := fun ρ => bnd (f ρ) fun vs => match vs with
  | [d] => bnd (still d) fun ds => ret (enumL ds)
  | _ => stuck
def appD (x y : D) : M D := fun S => match x with
  | .ref n => (match S[n]? with
    | some (.lst ds) => if ds.length < lineN then .ok .non (S.set n (.lst (ds ++ [y]))) else .stuck
    | _ => .stuck)
  | _ => .stuck
/-- o.m(..), o a cell's list -/
def chkL (x : D) : M D := fun S => match lv S x with
  | some _ => .ok x S
  | none => .stuck
def mtE (fa : SE) (fs : SA) (g : D → D → M D) : SE := fun ρ => bnd (fa ρ) fun x => bnd (chkL x) fun x => bnd (fs ρ) (g1 (g x))
/-- [..] * k as a cell -/
def repC (x y : D) : M D := fun S => match y with
  | .int k => (match lv S x with
    | some a => if -(2 ^ 63) ≤ k ∧ k < 2 ^ 63 ∧ a.length * k.toNat ≤ lineN then .ok (.ref S.length) (S ++ [.lst (List.replicate k.toNat a).flatten]) else .stuck
    | none => .stuck)
  | _ => .stuck
/-- [..] + [..] as a cell -/
def addC (x y : D) : M D := fun S => match lv S x, lv S y with
  | some a, some b => if a.length + b.length ≤ lineN then .ok (.ref S.length) (S ++ [.lst (a ++ b)]) else .stuck
  | _, _ => .stuck
def itR3 : List D → M (List D)
  | [.int i, .int j, .int (-1)] => fun S => if -(2 ^ 62) ≤ i ∧ i < 2 ^ 62 ∧ -(2 ^ 62) ≤ j ∧ j < 2 ^ 62 then .ok ((List.range (i - j).toNat).map fun k => D.int (i - (k : Nat))) S else .stuck
  | _ => stuck
mutual
def D.bel (m : Nat) : D → Bool
  | .tup ds => belL m ds
  | .lst ds => belL m ds
  | .frz ds => belL m ds
  | .ins _ fs => belF m fs
  | .ref n => decide (n < m)
  | _ => true
def belL (m : Nat) : List D → Bool
  | [] => true
  | d :: ds => d.bel m && belL m ds
def belF (m : Nat) : List (Str × D) → Bool
  | [] => true
  | (_, d) :: ds => d.bel m && belF m ds
end
def C.bel (m : Nat) : C → Bool
  | .lst ds => belL m ds
  | .ins _ fs => belF m fs
mutual
/-- cells from m on become lists by value -/
def D.res (m : Nat) (S : Store) : D → Option D
  | .tup ds => (match resL m S ds with
    | some es => some (.tup es)
    | none => none)
  | .ref n => if n < m then some (.ref n) else (match S[n]? with
    | some (.lst ds) => if belL m ds then some (.lst ds) else none
    | some (.ins c fs) => if belF m fs then some (.ins c fs) else none
    | _ => none)
  | d => if d.bel m then some d else none
def resL (m : Nat) (S : Store) : List D → Option (List D)
  | [] => some []
  | d :: ds => (match d.res m S, resL m S ds with
    | some e, some es => some (e :: es)
    | _, _ => none)
end
def Xn.bel (m : Nat) (x : Xn) : Bool := match x.fld with
  | none => true
  | some (_, d) => d.bel m
def closeOut (m : Nat) (o : Out D) : Out D := match o with
  | .exn x S => if (S.take m).all (·.bel m) ∧ m ≤ S.length ∧ x.bel m = true then .exn x (S.take m) else .stuck
  | .ok d S => if (S.take m).all (·.bel m) ∧ m ≤ S.length then (match d.res m S with
    | some e => .ok e (S.take m)
    | none => .stuck) else .stuck
  | _ => .stuck
def cal (n : Nat) (g : List D → M D) : List D → M D := fun ds => if ds.length = n then g ds else stuck
/-- a, b = e, f with plain names: the pair itself does not stand -/
def parS (fs : SA) (is : List Nat) : SS := fun ρ S => match fs ρ S with
  | .ok ds S' => if ds.length = is.length then .fl (.nx (setAll is ds ρ)) S' else .stuck
  | .exn x S' => .fl (.xn x ρ) S'
  | .stuck => .stuck
/-- pairs of ints -/
def prs? : List D → Option (List (Int × Int))
  | [] => some []
  | d :: ds => (match d, prs? ds with
    | .tup [.int a, .int b], some r => some ((a, b) :: r)
    | _, _ => none)
def ltP (a b : Int × Int) : Bool := if a.1 = b.1 then decide (a.2 < b.2) else decide (a.1 < b.1)
def minP (x : Int × Int) (xs : List (Int × Int)) : Int × Int := xs.foldl (fun a y => if ltP y a = true then y else a) x
def minPD (d : D) : M D := fun S => match lvf S d with
  | some ds => (match prs? ds with
    | some (p :: ps) => .ok (.tup [.int (minP p ps).1, .int (minP p ps).2]) S
    | _ => .stuck)
  | none => .stuck
/-! ### own classes -/
/-- o.f of an instance of the class c -/
def getF (c f : Str) (d : D) : M D := fun S => match d with
  | .ins c' fs => if c' = c then (match fs.lookup f with
    | some x => .ok x S
    | none => .stuck) else .stuck
  | .ref n => (match S[n]? with
    | some (.ins c' fs) => if c' = c then (match fs.lookup f with
      | some x => .ok x S
      | none => .stuck) else .stuck
    | _ => .stuck)
  | _ => .stuck
def putG (f : Str) (d : D) : List (Str × D) → List (Str × D)
  | [] => [(f, d)]
  | (g, x) :: r => if g = f then (g, d) :: r else (g, x) :: putG f d r
/-- o.f = v -/
def setFS (c f : Str) (v o : SE) : SS := exS v fun x ρ S => exS o (fun y ρ S => match y with
  | .ref n => (match S[n]? with
    | some (.ins c' fs) => if c' = c ∧ fs.length < 1000 then .fl (.nx ρ) (S.set n (.ins c' (putG f x fs))) else .stuck
    | _ => .stuck)
  | _ => .stuck) ρ S
/-- c(..): a new cell, g the def of __init__ -/
def mkI (c : Str) (g : List D → M D) : List D → M D := fun ds S => match g (.ref S.length :: ds) (S ++ [.ins c []]) with
  | .ok .non S' => .ok (.ref S.length) S'
  | .exn x S' => .exn x S'
  | _ => .stuck
/-- .. that does not change any more -/
def mkF (c : Str) (g : List D → M D) : List D → M D := fun ds S => closeOut S.length (mkI c g ds S)
/-! ### more of lists -/
def idx? (ds : List D) (y : D) : Option Nat := ds.findIdx? fun z => PyData.eqv z.toP y.toP
def idxD (x y : D) : M D := fun S => match lv S x with
  | some ds => if SeqAt.shaped y.toP && SeqAt.shaped (.list (toPs ds)) then (match idx? ds y with
    | some j => .ok (.int (j : Nat)) S
    | none => .stuck) else .stuck
  | none => .stuck
def sortI (ns : List Int) : List Int := ns.mergeSort fun a b => decide (a ≤ b)
def sortedD (d : D) : M D := fun S => match lvf S d with
  | some ds => (match ints? ds with
    | some ns => .ok (.lst ((sortI ns).map .int)) S
    | none => .stuck)
  | none => .stuck
def strs? : List D → Option (List Str)
  | [] => some []
  | d :: ds => (match d, strs? ds with
    | .str z, some r => some (z :: r)
    | _, _ => none)
def addS (acc : List Str) (v : Str) : List Str := if acc.any (· == v) then acc else acc ++ [v]
/-- the unlike ones of the first i, in their order -/
def metS (xs : List Str) (i : Nat) : List Str := (xs.take i).foldl addS []
/-- len(set(d)), d a tuple of texts -/
def lenSetD (d : D) : M D := fun S => match d with
  | .tup ds => (match strs? ds with
    | some ss => if ss.length ≤ 1000 then .ok (.int (metS ss ss.length).length) S else .stuck
    | none => .stuck)
  | _ => .stuck
/-- a = b = e -/
def asg2S (e : SE) (t u : Tg) : SS := exS e fun d ρ S => match tgD t d ρ with
  | some ρ' => (match tgD u d ρ' with
    | some ρ2 => .fl (.nx ρ2) S
    | none => .stuck)
  | none => .stuck
/-- list(range(..)) -/
def lrgE (fi : SA) : SE := appA fi mkL
/-! ### methods, properties -/
/-- the class of an instance that has no attribute m -/
def insC (m : Str) (S : Store) : D → Option Str
  | .ins c fs => if (fs.lookup m).isNone = true then some c else none
  | .ref n => (match S[n]? with
    | some (.ins c fs) => if (fs.lookup m).isNone = true then some c else none
    | _ => none)
  | _ => none
def chkI (c m : Str) (x : D) : M D := fun S => match insC m S x with
  | some c' => if c' = c then .ok x S else .stuck
  | none => .stuck
/-- o.m(..), o of the class c, g the def of m -/
def mcE (c m : Str) (fo : SE) (fs : SA) (n : Nat) (g : List D → M D) : SE := fun ρ => bnd (fo ρ) fun x => bnd (chkI c m x) fun x => bnd (fs ρ) fun ds => cal (n + 1) g (x :: ds)
/-- o.m, a property; errors are not foreseen -/
def prD (c m : Str) (g : List D → M D) (x : D) : M D := fun S => match insC Str.empty S x with
  | some c' => if c' = c then (match g [x] S with
    | .ok d S' => .ok d S'
    | _ => .stuck) else .stuck
  | none => .stuck
/-! ### zip -/
def itZ (fs : SA) : SA := fun ρ => bnd (fs ρ) fun vs => match vs with
  | [x, y] => bnd (still x) fun xs => bnd (still y) fun ys => ret (List.zipWith (fun a b => D.tup [a, b]) xs ys)
  | _ => stuck
def zip3 (xs ys zs : List D) : List D := List.zipWith (fun a bc => D.tup (a :: bc)) xs (List.zipWith (fun b c => [b, c]) ys zs)
def itZ3 (fs : SA) : SA := fun ρ => bnd (fs ρ) fun vs => match vs with
  | [x, y, z] => bnd (still x) fun xs => bnd (still y) fun ys => bnd (still z) fun zs => ret (zip3 xs ys zs)
  | _ => stuck
end F

set_option linter.all false
set_option maxRecDepth 100000
set_option maxHeartbeats 2000000
set_option autoImplicit false
/-! Data lie in the abstract heap; an expression, a statement reckons a function of data. -/
namespace F
open PySem PySem.Spec PyProof.Rows L2
abbrev Sl := L2.St

/-- the written part: a class's name stands for its object -/
structure B where
  K : PySem.W.Frag
  mg : Str → Option Value
/-- the world of a moment: the cells' addresses, the heap -/
structure Wd where
  μ : List Addr
  H : Hp
  hid : List Addr
def Wd.up (w : Wd) (p : Addr) (o : HO) : Wd := ⟨w.μ, upd w.H p o, w.hid⟩
def Wd.cell (w : Wd) (p : Addr) (o : HO) : Wd := ⟨w.μ ++ [p], upd w.H p o, w.hid⟩
/-- no cell, not hidden -/
def Fz (w : Wd) (a : Addr) : Prop := a ∉ w.μ ∧ a ∉ w.hid
def KTup (K : PySem.W.Frag) (a : Addr) (xs : List V) : Prop :=
  ∃ (o : Obj) (its : Array Value) (n : Nat), K.lookup a = some o ∧ o.cls = .type "tuple" ∧ o.data = .seq its n ∧ its.size ≤ sizeLine ∧ Vals xs its.toList
def TupAt (b : B) (w : Wd) (a : Addr) (vs : List V) : Prop := (Fz w a ∧ w.H a = some (.tup vs)) ∨ KTup b.K a vs
def LstAt (w : Wd) (a : Addr) (vs : List V) : Prop := Fz w a ∧ w.H a = some (.lst vs)
def KLst (K : PySem.W.Frag) (a : Addr) (xs : List V) : Prop :=
  ∃ (o : Obj) (its : Array Value) (n : Nat), K.lookup a = some o ∧ o.cls = .type "list" ∧ o.dict = none ∧ o.data = .seq its n ∧ its.size ≤ sizeLine ∧ Vals xs its.toList
def FrzAt (b : B) (w : Wd) (a : Addr) (vs : List V) : Prop := (Fz w a ∧ ∃ o, w.H a = some (.frz o (.lst vs))) ∨ KLst b.K a vs
mutual
def Rp (b : B) (w : Wd) : D → V → Prop
  | .non, v => v = .non
  | .bl k, v => v = .bl k
  | .int i, v => v = .int i
  | .str s, v => v = .str s
  | .ty n, v => v = .ty n
  | .tup ds, v => ∃ a vs, v = .ref a ∧ TupAt b w a vs ∧ RpL b w ds vs
  | .lst ds, v => ∃ a vs, v = .ref a ∧ LstAt w a vs ∧ RpL b w ds vs
  | .frz ds, v => ∃ a vs, v = .ref a ∧ FrzAt b w a vs ∧ RpL b w ds vs
  | .ins c fs, v => ∃ a cc dx vs, v = .ref a ∧ b.mg c = some (.ref cc) ∧ Fz w a ∧ w.H a = some (.ins cc dx vs) ∧ RpF b w fs vs
  | .ref n, v => ∃ a, w.μ[n]? = some a ∧ v = .ref a
def RpL (b : B) (w : Wd) : List D → List V → Prop
  | [], vs => vs = []
  | d :: ds, vs => ∃ v r, vs = v :: r ∧ Rp b w d v ∧ RpL b w ds r
def RpF (b : B) (w : Wd) : List (Str × D) → List (Str × V) → Prop
  | [], vs => vs = []
  | (f, d) :: ds, vs => ∃ v r, vs = (f, v) :: r ∧ Rp b w d v ∧ RpF b w ds r
end
def CellAt (b : B) (w : Wd) (a : Addr) : C → Prop
  | .lst ds => ∃ vs, w.H a = some (.lst vs) ∧ RpL b w ds vs
  | .ins c fs => ∃ cc dx vs, b.mg c = some (.ref cc) ∧ w.H a = some (.ins cc dx vs) ∧ RpF b w fs vs
structure StR (b : B) (w : Wd) (S : Store) : Prop where
  len : w.μ.length = S.length
  nd : w.μ.Nodup
  hd : ∀ a ∈ w.hid, a ∉ w.μ ∧ ∃ o, w.H a = some o
  at_ : ∀ (n : Nat) (c : C), S[n]? = some c → ∃ a, w.μ[n]? = some a ∧ CellAt b w a c
structure EnvR (b : B) (w : Wd) (ρ : Env) (σ : Sl) : Prop where
  len : ρ.length = σ.length
  at_ : ∀ (i : Nat) (d : D), ρ[i]? = some (some d) → ∃ v, σ[i]? = some (some v) ∧ Rp b w d v
/-- what data lean on stays -/
structure Mo (w w' : Wd) : Prop where
  pre : w.μ <+: w'.μ
  fz : ∀ a o, w.H a = some o → Fz w a → Fz w' a ∧ w'.H a = some o
structure Le (w w' : Wd) : Prop where
  pre : w.μ <+: w'.μ
  keep : ∀ a o, w.H a = some o → a ∉ w.μ → w'.H a = some o
  new : ∀ a, a ∈ w'.μ → a ∉ w.μ → w.H a = none
  hid : w'.hid = w.hid
theorem Le.refl (w : Wd) : Le w w := ⟨List.prefix_refl _, fun _ _ h _ => h, fun _ h n => absurd h n, rfl⟩
theorem Le.out1 {w w' : Wd} (l : Le w w') {a : Addr} {o : HO} (h : w.H a = some o) (n : a ∉ w.μ) : a ∉ w'.μ := fun z => by
  have := l.new a z n
  rw [h] at this; cases this
theorem Le.mo {w w' : Wd} (l : Le w w') : Mo w w' := ⟨l.pre, fun a o h n => ⟨⟨l.out1 h n.1, by rw [l.hid]; exact n.2⟩, l.keep a o h n.1⟩⟩
theorem Le.trans {w w' w'' : Wd} (l : Le w w') (m : Le w' w'') : Le w w'' where
  pre := l.pre.trans m.pre
  keep := fun a o h n => m.keep a o (l.keep a o h n) (l.out1 h n)
  new := fun a h n => by
    cases q : w.H a with
    | none => rfl
    | some o =>
      have h1 := l.keep a o q n
      have h2 := m.new a h (l.out1 q n)
      rw [h1] at h2; cases h2
  hid := m.hid.trans l.hid
section
variable {b : B} {w w' : Wd} {S : Store}
mutual
theorem Rp.mo (l : Mo w w') : ∀ (d : D) (v : V), Rp b w d v → Rp b w' d v
  | .non, v, h => h
  | .bl _, v, h => h
  | .int _, v, h => h
  | .str _, v, h => h
  | .ty _, v, h => h
  | .tup ds, v, h => by
    obtain ⟨a, vs, e, t, r⟩ := h
    refine ⟨a, vs, e, ?_, RpL.mo l ds vs r⟩
    rcases t with ⟨n, t⟩ | t
    · exact .inl (l.fz a _ t n)
    · exact .inr t
  | .lst ds, v, h => by
    obtain ⟨a, vs, e, ⟨n, t⟩, r⟩ := h
    exact ⟨a, vs, e, l.fz a _ t n, RpL.mo l ds vs r⟩
  | .frz ds, v, h => by
    obtain ⟨a, vs, e, t, r⟩ := h
    refine ⟨a, vs, e, ?_, RpL.mo l ds vs r⟩
    rcases t with ⟨n, o, t⟩ | t
    · obtain ⟨h1, h2⟩ := l.fz a _ t n
      exact .inl ⟨h1, o, h2⟩
    · exact .inr t
  | .ins c fs, v, h => by
    obtain ⟨a, cc, dx, vs, e, m, n, t, r⟩ := h
    obtain ⟨h1, h2⟩ := l.fz a _ t n
    exact ⟨a, cc, dx, vs, e, m, h1, h2, RpF.mo l fs vs r⟩
  | .ref n, v, h => by
    obtain ⟨a, e, q⟩ := h
    refine ⟨a, ?_, q⟩
    obtain ⟨t, ht⟩ := l.pre
    obtain ⟨hn, he⟩ := List.getElem?_eq_some_iff.mp e
    rw [← ht, List.getElem?_append_left hn]
    exact e
theorem RpL.mo (l : Mo w w') : ∀ (ds : List D) (vs : List V), RpL b w ds vs → RpL b w' ds vs
  | [], vs, h => h
  | d :: ds, vs, h => by
    obtain ⟨v, r, e, h1, h2⟩ := h
    exact ⟨v, r, e, Rp.mo l d v h1, RpL.mo l ds r h2⟩
theorem RpF.mo (l : Mo w w') : ∀ (ds : List (Str × D)) (vs : List (Str × V)), RpF b w ds vs → RpF b w' ds vs
  | [], vs, h => h
  | (f, d) :: ds, vs, h => by
    obtain ⟨v, r, e, h1, h2⟩ := h
    exact ⟨v, r, e, Rp.mo l d v h1, RpF.mo l ds r h2⟩
end
theorem Rp.mono (l : Le w w') (d : D) (v : V) (h : Rp b w d v) : Rp b w' d v := Rp.mo l.mo d v h
theorem RpL.mono (l : Le w w') (d : List D) (v : List V) (h : RpL b w d v) : RpL b w' d v := RpL.mo l.mo d v h
theorem RpF.mono (l : Le w w') (d : List (Str × D)) (v : List (Str × V)) (h : RpF b w d v) : RpF b w' d v := RpF.mo l.mo d v h
theorem EnvR.mo (l : Mo w w') {ρ : Env} {σ : Sl} (e : EnvR b w ρ σ) : EnvR b w' ρ σ :=
  ⟨e.len, fun i d h => let ⟨v, h1, h2⟩ := e.at_ i d h; ⟨v, h1, Rp.mo l d v h2⟩⟩
theorem EnvR.mono (l : Le w w') {ρ : Env} {σ : Sl} (e : EnvR b w ρ σ) : EnvR b w' ρ σ :=
  ⟨e.len, fun i d h => let ⟨v, h1, h2⟩ := e.at_ i d h; ⟨v, h1, Rp.mono l d v h2⟩⟩
theorem RpL.length : ∀ {ds : List D} {vs : List V}, RpL b w ds vs → ds.length = vs.length
  | [], vs, h => by cases (show vs = [] from h); rfl
  | d :: ds, vs, h => by
    obtain ⟨v, r, e, _, h2⟩ := h
    subst e
    simp [RpL.length h2]
theorem RpL.get : ∀ {ds : List D} {vs : List V} {i : Nat} {d : D}, RpL b w ds vs → ds[i]? = some d → ∃ v, vs[i]? = some v ∧ Rp b w d v
  | [], vs, i, d, h, e => by simp at e
  | d' :: ds, vs, 0, d, h, e => by
    obtain ⟨v, r, e1, h1, _⟩ := h
    subst e1
    simp at e; subst e
    exact ⟨v, rfl, h1⟩
  | d' :: ds, vs, i + 1, d, h, e => by
    obtain ⟨v, r, e1, _, h2⟩ := h
    subst e1
    obtain ⟨u, h3, h4⟩ := RpL.get (i := i) h2 (by simpa using e)
    exact ⟨u, by simpa using h3, h4⟩
theorem RpL.getV : ∀ {ds : List D} {vs : List V} {i : Nat} {v : V}, RpL b w ds vs → vs[i]? = some v → ∃ d, ds[i]? = some d ∧ Rp b w d v := fun {ds vs i v} h e => by
  have hl := RpL.length h
  obtain ⟨hi, _⟩ := List.getElem?_eq_some_iff.mp e
  have hd : ds[i]? = some (ds[i]'(by omega)) := List.getElem?_eq_getElem (by omega)
  obtain ⟨u, h1, h2⟩ := RpL.get h hd
  rw [e] at h1; cases h1
  exact ⟨_, hd, h2⟩
theorem RpL.append : ∀ {ds es : List D} {vs us : List V}, RpL b w ds vs → RpL b w es us → RpL b w (ds ++ es) (vs ++ us)
  | [], es, vs, us, h, g => by cases (show vs = [] from h); exact g
  | d :: ds, es, vs, us, h, g => by
    obtain ⟨v, r, e, h1, h2⟩ := h
    subst e
    exact ⟨v, r ++ us, rfl, h1, RpL.append h2 g⟩
theorem RpL.take : ∀ (n : Nat) {ds : List D} {vs : List V}, RpL b w ds vs → RpL b w (ds.take n) (vs.take n)
  | 0, ds, vs, h => by rw [List.take_zero, List.take_zero]; rfl
  | n + 1, [], vs, h => by cases (show vs = [] from h); rfl
  | n + 1, d :: ds, vs, h => by
    obtain ⟨v, r, e, h1, h2⟩ := h
    subst e
    exact ⟨v, r.take n, rfl, h1, RpL.take n h2⟩
theorem RpL.drop : ∀ (n : Nat) {ds : List D} {vs : List V}, RpL b w ds vs → RpL b w (ds.drop n) (vs.drop n)
  | 0, ds, vs, h => h
  | n + 1, [], vs, h => by cases (show vs = [] from h); rfl
  | n + 1, d :: ds, vs, h => by
    obtain ⟨v, r, e, h1, h2⟩ := h
    subst e
    exact RpL.drop n h2
theorem RpL.set : ∀ (i : Nat) {ds : List D} {vs : List V} {d : D} {v : V}, RpL b w ds vs → Rp b w d v → RpL b w (ds.set i d) (vs.set i v)
  | i, [], vs, d, v, h, g => by cases (show vs = [] from h); rfl
  | 0, d' :: ds, vs, d, v, h, g => by
    obtain ⟨v', r, e, h1, h2⟩ := h
    subst e
    exact ⟨v, r, rfl, g, h2⟩
  | i + 1, d' :: ds, vs, d, v, h, g => by
    obtain ⟨v', r, e, h1, h2⟩ := h
    subst e
    exact ⟨v', r.set i v, rfl, h1, RpL.set i h2 g⟩
theorem RpL.one {d : D} {v : V} (h : Rp b w d v) : RpL b w [d] [v] := ⟨v, [], rfl, h, rfl⟩
theorem RpL.rep : ∀ (k : Nat) {ds : List D} {vs : List V}, RpL b w ds vs → RpL b w (List.replicate k ds).flatten (List.replicate k vs).flatten
  | 0, ds, vs, h => rfl
  | k + 1, ds, vs, h => by
    rw [List.replicate_succ, List.replicate_succ, List.flatten_cons, List.flatten_cons]
    exact RpL.append h (RpL.rep k h)
theorem RpL.ints : ∀ {ns : List Int} {vs : List V}, RpL b w (ns.map D.int) vs → vs = ns.map V.int
  | [], vs, h => h
  | n :: ns, vs, h => by
    obtain ⟨v, r, e, h1, h2⟩ := h
    rw [e, show v = .int n from h1, RpL.ints h2]; rfl
theorem RpL.bls : ∀ {ns : List Bool} {vs : List V}, RpL b w (ns.map D.bl) vs → vs = ns.map V.bl
  | [], vs, h => h
  | n :: ns, vs, h => by
    obtain ⟨v, r, e, h1, h2⟩ := h
    rw [e, show v = .bl n from h1, RpL.bls h2]; rfl
theorem RpL.ofInts : ∀ (ns : List Int), RpL b w (ns.map D.int) (ns.map V.int)
  | [] => rfl
  | n :: ns => ⟨_, _, rfl, rfl, RpL.ofInts ns⟩
theorem RpL.strs : ∀ {ns : List Str} {vs : List V}, RpL b w (ns.map D.str) vs → vs = ns.map V.str
  | [], vs, h => h
  | n :: ns, vs, h => by
    obtain ⟨v, r, e, h1, h2⟩ := h
    rw [e, show v = .str n from h1, RpL.strs h2]; rfl
theorem TupAt.sq {a : Addr} {vs : List V} (t : TupAt b w a vs) : SqT b.K w.H a vs := by
  rcases t with ⟨_, t⟩ | t
  · exact .inl (.inl t)
  · exact .inr t
theorem FrzAt.sq {a : Addr} {vs : List V} (t : FrzAt b w a vs) : SqL b.K w.H a vs := by
  rcases t with ⟨_, o, t⟩ | t
  · exact .inl (.inr ⟨o, t⟩)
  · exact .inr t
theorem LstAt.sq {K : PySem.W.Frag} {a : Addr} {vs : List V} (t : LstAt w a vs) : SqL K w.H a vs := .inl (.inl t.2)
/-! ### the heap's steps -/
theorem StR.cell (st : StR b w S) {n : Nat} {a : Addr} (h : w.μ[n]? = some a) : ∃ c, S[n]? = some c ∧ CellAt b w a c := by
  obtain ⟨hn, _⟩ := List.getElem?_eq_some_iff.mp h
  have hs : n < S.length := by rw [← st.len]; exact hn
  have e : S[n]? = some S[n] := List.getElem?_eq_getElem hs
  obtain ⟨a', h1, h2⟩ := st.at_ n _ e
  rw [h] at h1; cases h1
  exact ⟨_, e, h2⟩
theorem StR.there (st : StR b w S) {a : Addr} (h : a ∈ w.μ) : ∃ o, w.H a = some o ∧ ((∃ xs, o = .lst xs) ∨ ∃ C dx fs, o = .ins C dx fs) := by
  obtain ⟨n, hn⟩ := List.mem_iff_getElem?.mp h
  obtain ⟨c, _, h2⟩ := st.cell hn
  cases c with
  | lst ds => obtain ⟨vs, e, _⟩ := h2; exact ⟨_, e, .inl ⟨_, rfl⟩⟩
  | ins c fs => obtain ⟨cc, dx, vs, _, e, _⟩ := h2; exact ⟨_, e, .inr ⟨_, _, _, rfl⟩⟩
theorem StR.fresh (st : StR b w S) {p : Addr} (h : w.H p = none) : Fz w p := by
  refine ⟨fun z => ?_, fun z => ?_⟩
  · obtain ⟨o, e, _⟩ := st.there z
    rw [h] at e; cases e
  · obtain ⟨_, o, e⟩ := st.hd p z
    rw [h] at e; cases e
/-- a new object beside the cells -/
theorem le_new {p : Addr} {o : HO} (h : w.H p = none) : Le w (w.up p o) :=
  ⟨List.prefix_refl _, fun a u e _ => by show upd w.H p o a = _; rw [upd_ne (ne_of_none e h)]; exact e, fun a z n => absurd z n, rfl⟩
theorem le_cell {p : Addr} {o : HO} (h : w.H p = none) : Le w (w.cell p o) :=
  ⟨List.prefix_append _ _, fun a u e _ => by show upd w.H p o a = _; rw [upd_ne (ne_of_none e h)]; exact e, fun a z n => by
    rcases List.mem_append.mp z with z | z
    · exact absurd z n
    · rw [List.mem_singleton.mp z]; exact h, rfl⟩
theorem le_mut {a : Addr} {o : HO} (h : a ∈ w.μ) : Le w (w.up a o) :=
  ⟨List.prefix_refl _, fun c u e n => by show upd w.H a o c = _; rw [upd_ne (fun z : c = a => n (by rw [z]; exact h))]; exact e, fun c z n => absurd z n, rfl⟩
theorem CellAt.mo (l : Mo w w') {a : Addr} {c : C} (h : CellAt b w a c) (e : w'.H a = w.H a) : CellAt b w' a c := by
  cases c with
  | lst ds => obtain ⟨vs, h1, h2⟩ := h; exact ⟨vs, e.trans h1, RpL.mo l _ _ h2⟩
  | ins c fs => obtain ⟨cc, dx, vs, h0, h1, h2⟩ := h; exact ⟨cc, dx, vs, h0, e.trans h1, RpF.mo l _ _ h2⟩
theorem hd_up (st : StR b w S) {p : Addr} {o : HO} : ∀ a ∈ w.hid, ∃ u, upd w.H p o a = some u := fun a ha => by
  obtain ⟨_, u, e⟩ := st.hd a ha
  by_cases q : a = p
  · exact ⟨o, by rw [q]; exact upd_same⟩
  · exact ⟨u, by rw [upd_ne q]; exact e⟩
theorem StR.new (st : StR b w S) {p : Addr} {o : HO} (h : w.H p = none) : StR b (w.up p o) S := by
  refine ⟨st.len, st.nd, fun a ha => ⟨(st.hd a ha).1, hd_up st a ha⟩, fun n c e => ?_⟩
  obtain ⟨a, h1, h2⟩ := st.at_ n c e
  exact ⟨a, h1, h2.mo (le_new h).mo (upd_ne (fun z => (st.fresh h).1 (z ▸ List.mem_of_getElem? h1)))⟩
theorem StR.newCell (st : StR b w S) {p : Addr} {o : HO} {c : C} (h : w.H p = none) (hc : CellAt b (w.cell p o) p c) : StR b (w.cell p o) (S ++ [c]) := by
  refine ⟨by simp [st.len, Wd.cell], ?_, fun a ha => ⟨fun z => ?_, hd_up st a ha⟩, fun n c' e => ?_⟩
  · refine List.nodup_append.mpr ⟨st.nd, by simp, fun a ha c' hc' z => ?_⟩
    rw [List.mem_singleton] at hc'
    exact (st.fresh h).1 (by rw [← hc', ← z]; exact ha)
  · rcases List.mem_append.mp z with z | z
    · exact (st.hd a ha).1 z
    · exact (st.fresh h).2 (by rw [← List.mem_singleton.mp z]; exact ha)
  · by_cases hn : n < S.length
    · rw [List.getElem?_append_left hn] at e
      obtain ⟨a, h1, h2⟩ := st.at_ n c' e
      refine ⟨a, ?_, h2.mo (le_cell h).mo (upd_ne (fun z => (st.fresh h).1 (z ▸ List.mem_of_getElem? h1)))⟩
      show (w.μ ++ [p])[n]? = some a
      rw [List.getElem?_append_left (by rw [st.len]; exact hn)]
      exact h1
    · have hn2 : n < (S ++ [c]).length := (List.getElem?_eq_some_iff.mp e).1
      have hn3 : n = S.length := by simp at hn2; omega
      subst hn3
      rw [List.getElem?_append_right (Nat.le_refl _)] at e
      simp at e
      subst e
      refine ⟨p, ?_, hc⟩
      show (w.μ ++ [p])[S.length]? = some p
      rw [← st.len, List.getElem?_append_right (Nat.le_refl _)]
      simp
theorem StR.mut (st : StR b w S) {n : Nat} {a : Addr} {o : HO} {c : C} (h : w.μ[n]? = some a) (hc : CellAt b (w.up a o) a c) : StR b (w.up a o) (S.set n c) := by
  have ha : a ∈ w.μ := List.mem_of_getElem? h
  refine ⟨by simp [st.len, Wd.up], st.nd, fun a ha => ⟨(st.hd a ha).1, hd_up st a ha⟩, fun m c' e => ?_⟩
  by_cases hm : m = n
  · subst hm
    have hl : m < (S.set m c).length := (List.getElem?_eq_some_iff.mp e).1
    rw [List.getElem?_set_self (by simpa using hl)] at e
    cases e
    exact ⟨a, h, hc⟩
  · rw [List.getElem?_set_ne (Ne.symm hm)] at e
    obtain ⟨a', h1, h2⟩ := st.at_ m c' e
    refine ⟨a', h1, h2.mo (le_mut ha).mo (upd_ne (fun z => ?_))⟩
    subst z
    obtain ⟨l1, e1⟩ := List.getElem?_eq_some_iff.mp h1
    obtain ⟨l2, e2⟩ := List.getElem?_eq_some_iff.mp h
    exact hm ((List.getElem_inj st.nd).mp (e1.trans e2.symm))
/-- what a list that is read is -/
theorem lv_at (st : StR b w S) {d : D} {v : V} {ds : List D} (h : lv S d = some ds) (r : Rp b w d v) : ∃ a vs, v = .ref a ∧ w.H a = some (.lst vs) ∧ RpL b w ds vs := by
  cases d with
  | lst es =>
    cases (show es = ds from Option.some.inj h)
    obtain ⟨a, vs, e, t, r⟩ := r
    exact ⟨a, vs, e, t.2, r⟩
  | ref n =>
    obtain ⟨a, h1, h2⟩ := r
    obtain ⟨c, hc, h3⟩ := st.cell h1
    have h' : (match S[n]? with | some (.lst ds) => some ds | _ => none) = some ds := h
    rw [hc] at h'
    cases c with
    | lst es =>
      cases (show es = ds from Option.some.inj h')
      obtain ⟨vs, e, r⟩ := h3
      exact ⟨a, vs, h2, e, r⟩
    | ins c fs => cases h'
  | _ => cases h
theorem lvf_at (st : StR b w S) {d : D} {v : V} {ds : List D} (h : lvf S d = some ds) (r : Rp b w d v) : ∃ a vs, v = .ref a ∧ SqL b.K w.H a vs ∧ RpL b w ds vs := by
  cases d with
  | frz es =>
    cases (show es = ds from Option.some.inj h)
    obtain ⟨a, vs, e, t, r⟩ := r
    exact ⟨a, vs, e, t.sq, r⟩
  | lst es =>
    obtain ⟨a, vs, e, t, r⟩ := lv_at st (d := .lst es) h r
    exact ⟨a, vs, e, .inl (.inl t), r⟩
  | ref n =>
    obtain ⟨a, vs, e, t, r⟩ := lv_at st (d := .ref n) h r
    exact ⟨a, vs, e, .inl (.inl t), r⟩
  | _ => cases h
theorem sv_at (st : StR b w S) {d : D} {v : V} {ds : List D} (h : sv S d = some ds) (r : Rp b w d v) : ∃ a vs, v = .ref a ∧ (SqL b.K w.H a vs ∨ SqT b.K w.H a vs) ∧ RpL b w ds vs := by
  cases d with
  | tup es =>
    cases (show es = ds from Option.some.inj h)
    obtain ⟨a, vs, e, t, r⟩ := r
    exact ⟨a, vs, e, .inr t.sq, r⟩
  | frz es =>
    obtain ⟨a, vs, e, t, r⟩ := lvf_at st (d := .frz es) h r
    exact ⟨a, vs, e, .inl t, r⟩
  | lst es =>
    obtain ⟨a, vs, e, t, r⟩ := lvf_at st (d := .lst es) h r
    exact ⟨a, vs, e, .inl t, r⟩
  | ref n =>
    obtain ⟨a, vs, e, t, r⟩ := lvf_at st (d := .ref n) h r
    exact ⟨a, vs, e, .inl t, r⟩
  | _ => cases h
end
/-! ### what is wanted -/
/-- an error as it lies -/
def XnR (b : B) (w : Wd) (x : Xn) (cls : Value) (dd : Option Addr) : Prop :=
  b.mg x.cls = some cls ∧ (∃ a, cls = .ref a) ∧ match x.fld with
    | none => True
    | some (f, d) => ∃ a v, dd = some a ∧ w.H a = some (.xd [(f, v)]) ∧ Rp b w d v
def PostE (b : B) (Wx : WX) (σ : Sl) (w : Wd) (o : Out D) (Q : VK) : Prop := match o with
  | .ok d S => ∀ w' v, Le w w' → StR b w' S → Rp b w' d v → Q v w'.H
  | .exn x S => ∀ w' cls dd, Le w w' → StR b w' S → XnR b w' x cls dd → Wx cls dd σ w'.H
  | .stuck => False
def PostA (b : B) (Wx : WX) (σ : Sl) (w : Wd) (o : Out (List D)) (Q : List V → Hp → Prop) : Prop := match o with
  | .ok d S => ∀ w' v, Le w w' → StR b w' S → RpL b w' d v → Q v w'.H
  | .exn x S => ∀ w' cls dd, Le w w' → StR b w' S → XnR b w' x cls dd → Wx cls dd σ w'.H
  | .stuck => False
def PostT (b : B) (Wx : WX) (σ : Sl) (w : Wd) (o : Out Bool) (Q : Bool → Hp → Prop) : Prop := match o with
  | .ok d S => ∀ w', Le w w' → StR b w' S → Q d w'.H
  | .exn x S => ∀ w' cls dd, Le w w' → StR b w' S → XnR b w' x cls dd → Wx cls dd σ w'.H
  | .stuck => False
def tE (b : B) (Wx : WX) (f : SE) : TE := fun σ H Q => ∃ w ρ S, w.H = H ∧ EnvR b w ρ σ ∧ StR b w S ∧ PostE b Wx σ w (f ρ S) Q
def tA (b : B) (Wx : WX) (f : SA) : TA := fun σ H Q => ∃ w ρ S, w.H = H ∧ EnvR b w ρ σ ∧ StR b w S ∧ PostA b Wx σ w (f ρ S) Q
def tT (b : B) (Wx : WX) (f : ST) : TT := fun σ H Q => ∃ w ρ S, w.H = H ∧ EnvR b w ρ σ ∧ StR b w S ∧ PostT b Wx σ w (f ρ S) Q
abbrev bX (X : Cx) : B := ⟨X.K, X.mg⟩
abbrev FE (X : Cx) (Wx : WX) (e : Expr) (f : SE) : Prop := PE X e (tE (bX X) Wx f)
abbrev FA (X : Cx) (Wx : WX) (e : List Expr) (f : SA) : Prop := PA X e (tA (bX X) Wx f)
abbrev FT (X : Cx) (Wx : WX) (e : Expr) (f : ST) : Prop := PT X e (tT (bX X) Wx f)

section
variable {b : B} {Wx : WX} {σ : Sl} {w w' : Wd} {Q : VK}
theorem PostE.le {o : Out D} (l : Le w w') (h : PostE b Wx σ w o Q) : PostE b Wx σ w' o Q := by
  cases o with
  | ok d S => exact fun w2 v m => h w2 v (l.trans m)
  | exn x S => exact fun w2 c d m => h w2 c d (l.trans m)
  | stuck => exact h
theorem PostA.le {o : Out (List D)} {Q : List V → Hp → Prop} (l : Le w w') (h : PostA b Wx σ w o Q) : PostA b Wx σ w' o Q := by
  cases o with
  | ok d S => exact fun w2 v m => h w2 v (l.trans m)
  | exn x S => exact fun w2 c d m => h w2 c d (l.trans m)
  | stuck => exact h
theorem PostT.le {o : Out Bool} {Q : Bool → Hp → Prop} (l : Le w w') (h : PostT b Wx σ w o Q) : PostT b Wx σ w' o Q := by
  cases o with
  | ok d S => exact fun w2 m => h w2 (l.trans m)
  | exn x S => exact fun w2 c d m => h w2 c d (l.trans m)
  | stuck => exact h
theorem PostE.bind {α : Type} {m : M D} {k : D → M α} {S : Store} {R : VK} {P : Wd → Out α → Prop} (hle : ∀ w1 o, Le w w1 → P w o → P w1 o) (hx : ∀ x S', P w (.exn x S') → PostE b Wx σ w (.exn x S') R) (hs : P w .stuck → False) (h : P w (bnd m k S))
    (hk : ∀ w1 d v S1, Le w w1 → StR b w1 S1 → Rp b w1 d v → P w1 (k d S1) → R v w1.H) : PostE b Wx σ w (m S) R := by
  unfold bnd at h
  cases q : m S with
  | ok d S1 =>
    rw [q] at h
    exact fun w1 v l st r => hk w1 d v S1 l st r (hle w1 _ l h)
  | exn x S1 => rw [q] at h; exact hx x S1 h
  | stuck => rw [q] at h; exact (hs h).elim
theorem PostE.bindE {m : M D} {k : D → M D} {S : Store} {R : VK} (h : PostE b Wx σ w (bnd m k S) Q)
    (hk : ∀ w1 d v S1, Le w w1 → StR b w1 S1 → Rp b w1 d v → PostE b Wx σ w1 (k d S1) Q → R v w1.H) : PostE b Wx σ w (m S) R :=
  PostE.bind (P := fun w o => PostE b Wx σ w o Q) (fun _ _ l h => h.le l) (fun _ _ h => h) (fun h => h) h hk
/-- an expression, then the rest -/
theorem bindE {f : SE} {k : D → M D} {ρ : Env} {S : Store} {R : VK} (hE : EnvR b w ρ σ) (hS : StR b w S) (h : PostE b Wx σ w (bnd (f ρ) k S) Q)
    (hk : ∀ w1 d v S1, Le w w1 → EnvR b w1 ρ σ → StR b w1 S1 → Rp b w1 d v → PostE b Wx σ w1 (k d S1) Q → R v w1.H) : tE b Wx f σ w.H R := by
  refine ⟨w, ρ, S, rfl, hE, hS, ?_⟩
  unfold bnd at h
  cases q : f ρ S with
  | ok d S1 =>
    rw [q] at h
    exact fun w1 v l st r => hk w1 d v S1 l (hE.mono l) st r (PostE.le l h)
  | exn x S1 =>
    rw [q] at h
    exact h
  | stuck => rw [q] at h; exact h
theorem bindET {f : SE} {k : D → M Bool} {ρ : Env} {S : Store} {R : VK} {Q : Bool → Hp → Prop} (hE : EnvR b w ρ σ) (hS : StR b w S) (h : PostT b Wx σ w (bnd (f ρ) k S) Q)
    (hk : ∀ w1 d v S1, Le w w1 → EnvR b w1 ρ σ → StR b w1 S1 → Rp b w1 d v → PostT b Wx σ w1 (k d S1) Q → R v w1.H) : tE b Wx f σ w.H R := by
  refine ⟨w, ρ, S, rfl, hE, hS, ?_⟩
  unfold bnd at h
  cases q : f ρ S with
  | ok d S1 =>
    rw [q] at h
    exact fun w1 v l st r => hk w1 d v S1 l (hE.mono l) st r (PostT.le l h)
  | exn x S1 =>
    rw [q] at h
    exact h
  | stuck => rw [q] at h; exact h
theorem bindEA {f : SE} {k : D → M (List D)} {ρ : Env} {S : Store} {R : VK} {Q : List V → Hp → Prop} (hE : EnvR b w ρ σ) (hS : StR b w S) (h : PostA b Wx σ w (bnd (f ρ) k S) Q)
    (hk : ∀ w1 d v S1, Le w w1 → EnvR b w1 ρ σ → StR b w1 S1 → Rp b w1 d v → PostA b Wx σ w1 (k d S1) Q → R v w1.H) : tE b Wx f σ w.H R := by
  refine ⟨w, ρ, S, rfl, hE, hS, ?_⟩
  unfold bnd at h
  cases q : f ρ S with
  | ok d S1 =>
    rw [q] at h
    exact fun w1 v l st r => hk w1 d v S1 l (hE.mono l) st r (PostA.le l h)
  | exn x S1 =>
    rw [q] at h
    exact h
  | stuck => rw [q] at h; exact h
theorem bindAA {f : SA} {k : List D → M (List D)} {ρ : Env} {S : Store} {R : List V → Hp → Prop} {Q : List V → Hp → Prop} (hE : EnvR b w ρ σ) (hS : StR b w S) (h : PostA b Wx σ w (bnd (f ρ) k S) Q)
    (hk : ∀ w1 d v S1, Le w w1 → EnvR b w1 ρ σ → StR b w1 S1 → RpL b w1 d v → PostA b Wx σ w1 (k d S1) Q → R v w1.H) : tA b Wx f σ w.H R := by
  refine ⟨w, ρ, S, rfl, hE, hS, ?_⟩
  unfold bnd at h
  cases q : f ρ S with
  | ok d S1 =>
    rw [q] at h
    exact fun w1 v l st r => hk w1 d v S1 l (hE.mono l) st r (PostA.le l h)
  | exn x S1 =>
    rw [q] at h
    exact h
  | stuck => rw [q] at h; exact h
theorem bindAE {f : SA} {k : List D → M D} {ρ : Env} {S : Store} {R : List V → Hp → Prop} (hE : EnvR b w ρ σ) (hS : StR b w S) (h : PostE b Wx σ w (bnd (f ρ) k S) Q)
    (hk : ∀ w1 d v S1, Le w w1 → EnvR b w1 ρ σ → StR b w1 S1 → RpL b w1 d v → PostE b Wx σ w1 (k d S1) Q → R v w1.H) : tA b Wx f σ w.H R := by
  refine ⟨w, ρ, S, rfl, hE, hS, ?_⟩
  unfold bnd at h
  cases q : f ρ S with
  | ok d S1 =>
    rw [q] at h
    exact fun w1 v l st r => hk w1 d v S1 l (hE.mono l) st r (PostE.le l h)
  | exn x S1 =>
    rw [q] at h
    exact h
  | stuck => rw [q] at h; exact h
theorem bindTE {f : ST} {k : Bool → M D} {ρ : Env} {S : Store} {R : Bool → Hp → Prop} (hE : EnvR b w ρ σ) (hS : StR b w S) (h : PostE b Wx σ w (bnd (f ρ) k S) Q)
    (hk : ∀ w1 d S1, Le w w1 → EnvR b w1 ρ σ → StR b w1 S1 → PostE b Wx σ w1 (k d S1) Q → R d w1.H) : tT b Wx f σ w.H R := by
  refine ⟨w, ρ, S, rfl, hE, hS, ?_⟩
  unfold bnd at h
  cases q : f ρ S with
  | ok d S1 =>
    rw [q] at h
    exact fun w1 l st => hk w1 d S1 l (hE.mono l) st (PostE.le l h)
  | exn x S1 =>
    rw [q] at h
    exact h
  | stuck => rw [q] at h; exact h
theorem bindTT {f : ST} {k : Bool → M Bool} {ρ : Env} {S : Store} {R : Bool → Hp → Prop} {Q : Bool → Hp → Prop} (hE : EnvR b w ρ σ) (hS : StR b w S) (h : PostT b Wx σ w (bnd (f ρ) k S) Q)
    (hk : ∀ w1 d S1, Le w w1 → EnvR b w1 ρ σ → StR b w1 S1 → PostT b Wx σ w1 (k d S1) Q → R d w1.H) : tT b Wx f σ w.H R := by
  refine ⟨w, ρ, S, rfl, hE, hS, ?_⟩
  unfold bnd at h
  cases q : f ρ S with
  | ok d S1 =>
    rw [q] at h
    exact fun w1 l st => hk w1 d S1 l (hE.mono l) st (PostT.le l h)
  | exn x S1 =>
    rw [q] at h
    exact h
  | stuck => rw [q] at h; exact h
end
theorem PE.imp {X : Cx} {e : Expr} {t t' : TE} (h : PE X e t) (i : ∀ σ H Q, t' σ H Q → t σ H Q) : PE X e t' := ⟨fun pins s σ H Q I hw => h.run pins s σ H Q I (i σ H Q hw)⟩
theorem PT.imp {X : Cx} {e : Expr} {t t' : TT} (h : PT X e t) (i : ∀ σ H Q, t' σ H Q → t σ H Q) : PT X e t' := ⟨fun pins s σ H Q I hw => h.run pins s σ H Q I (i σ H Q hw)⟩
theorem PW.imp {X : Cx} {e : Expr} {t t' : TT} (h : PW X e t) (i : ∀ σ H Q, t' σ H Q → t σ H Q) : PW X e t' := ⟨fun wh pins s σ H Q I hw => h.run wh pins s σ H Q I (i σ H Q hw)⟩
theorem PA.imp {X : Cx} {e : List Expr} {t t' : TA} (h : PA X e t) (i : ∀ σ H Q, t' σ H Q → t σ H Q) : PA X e t' := ⟨fun pos pins s σ H Q I hw => h.run pos pins s σ H Q I (i σ H Q hw)⟩
theorem PS.imp {X : Cx} {e : Stmt} {t t' : TS} (h : PS X e t) (i : ∀ D σ H, t' D σ H → t D σ H) : PS X e t' := ⟨fun pins s σ H D I hw => h.run pins s σ H D I (i D σ H hw)⟩
theorem PSs.imp {X : Cx} {e : List Stmt} {t t' : TS} (h : PSs X e t) (i : ∀ D σ H, t' D σ H → t D σ H) : PSs X e t' := ⟨fun pins s σ H D I hw => h.run pins s σ H D I (i D σ H hw)⟩
end F

set_option linter.all false
set_option maxRecDepth 100000
set_option maxHeartbeats 2000000
set_option autoImplicit false
namespace F
open PySem PySem.Spec PyProof.Rows L2
theorem lineN_eq : lineN = sizeLine := by rw [sizeLine_eq]; rfl
section
variable {b : B} {Wx : WX} {σ : Sl} {w : Wd} {S : Store} {Q : VK}
/-- a plain answer -/
theorem PostE.now {d : D} {v : V} (h : PostE b Wx σ w (.ok d S) Q) (st : StR b w S) (r : Rp b w d v) : Q v w.H := h w v (Le.refl w) st r
theorem PostE.newL {ds : List D} {vs : List V} {p : Addr} (h : PostE b Wx σ w (.ok (.lst ds) S) Q) (st : StR b w S) (r : RpL b w ds vs) (hp : w.H p = none) : Q (.ref p) (upd w.H p (.lst vs)) :=
  h (w.up p (.lst vs)) (.ref p) (le_new hp) (st.new hp) ⟨p, vs, rfl, ⟨st.fresh hp, upd_same⟩, RpL.mono (le_new hp) _ _ r⟩
theorem PostE.newT {ds : List D} {vs : List V} {p : Addr} (h : PostE b Wx σ w (.ok (.tup ds) S) Q) (st : StR b w S) (r : RpL b w ds vs) (hp : w.H p = none) : Q (.ref p) (upd w.H p (.tup vs)) :=
  h (w.up p (.tup vs)) (.ref p) (le_new hp) (st.new hp) ⟨p, vs, rfl, .inl ⟨st.fresh hp, upd_same⟩, RpL.mono (le_new hp) _ _ r⟩
theorem PostE.newC {ds : List D} {vs : List V} {p : Addr} (h : PostE b Wx σ w (.ok (.ref S.length) (S ++ [.lst ds])) Q) (st : StR b w S) (r : RpL b w ds vs) (hp : w.H p = none) : Q (.ref p) (upd w.H p (.lst vs)) := by
  refine h (w.cell p (.lst vs)) (.ref p) (le_cell hp) (st.newCell hp ⟨vs, upd_same, RpL.mono (le_cell hp) _ _ r⟩) ⟨p, ?_, rfl⟩
  show (w.μ ++ [p])[S.length]? = some p
  rw [← st.len, List.getElem?_append_right (Nat.le_refl _)]
  simp
theorem TupAt.rp {a : Addr} {vs : List V} {ds : List D} (t : TupAt b w a vs) (r : RpL b w ds vs) : Rp b w (.tup ds) (.ref a) := ⟨a, vs, rfl, t, r⟩
end
/-! ### names, constants -/
section
variable {X : Cx} {Wx : WX}
theorem fe_var {x : Str} {pos : Pos} (i : Nat) (hN : X.N[i]? = some x := by rfl) (hv : Vis X.env.scope x := by first | exact Or.inl rfl | exact Or.inr (Or.inl rfl) | exact Or.inr (Or.inr rfl)) (hd : (x == ("__debug__" : Str)) = false := by decide)
    (hcd : (x == ("__classdict__" : Str)) = false := by decide) : FE X Wx (.Name x pos) (varD i) :=
  PE.imp (pe_var hN hv hd hcd) fun σ H Q ⟨w, ρ, S, e, hE, hS, h⟩ => by
    subst e
    unfold varD at h
    cases q : ρ[i]? with
    | none => rw [q] at h; exact h.elim
    | some o =>
      rw [q] at h
      cases o with
      | none => exact h.elim
      | some d =>
        obtain ⟨v, h1, h2⟩ := hE.at_ i d q
        exact ⟨v, h1, PostE.now h hS h2⟩
theorem fe_con {e : Expr} {v : V} {d : D} (h : PE X e (tC v)) (r : ∀ w, Rp (bX X) w d v) : FE X Wx e (cD d) :=
  PE.imp h fun σ H Q ⟨w, ρ, S, e, hE, hS, h⟩ => by
    subst e
    exact PostE.now h hS (r w)
theorem fe_int {i j pos} : FE X Wx (.Constant (.int i) j pos) (cD (.int i)) := fe_con pe_int fun _ => rfl
theorem fe_bl {i j pos} : FE X Wx (.Constant (.bool i) j pos) (cD (.bl i)) := fe_con pe_bl fun _ => rfl
theorem fe_non {j pos} : FE X Wx (.Constant .none j pos) (cD .non) := fe_con pe_non fun _ => rfl
theorem fe_str {i j pos} : FE X Wx (.Constant (.str i) j pos) (cD (.str i)) := fe_con pe_str fun _ => rfl
/-- a module's constant: an int, a text -/
theorem fe_gint {x : Str} {pos : Pos} {i : Int} (hm : ∃ t, X.mg x = some (.int i t)) (hg : Gl X x := by rfl) (hd : (x == ("__debug__" : Str)) = false := by decide) : FE X Wx (.Name x pos) (cD (.int i)) := by
  obtain ⟨t, hm⟩ := hm
  exact fe_con (pe_glob hg hm (v := .int i) ⟨t, rfl⟩ hd) fun _ => rfl
theorem fe_gstr {x : Str} {pos : Pos} {i : Str} (hm : ∃ t, X.mg x = some (.str i t)) (hg : Gl X x := by rfl) (hd : (x == ("__debug__" : Str)) = false := by decide) : FE X Wx (.Name x pos) (cD (.str i)) := by
  obtain ⟨t, hm⟩ := hm
  exact fe_con (pe_glob hg hm (v := .str i) ⟨t, rfl⟩ hd) fun _ => rfl
/-- a module's constant: a tuple of ints and texts -/
structure GTup (b : B) (x : Str) (ds : List D) : Prop where
  ex : ∃ a vs, b.mg x = some (.ref a) ∧ KTup b.K a vs ∧ ∀ w, RpL b w ds vs
theorem fe_gtup {x : Str} {pos : Pos} {ds : List D} (hm : GTup (bX X) x ds) (hg : Gl X x := by rfl) (hd : (x == ("__debug__" : Str)) = false := by decide) : FE X Wx (.Name x pos) (cD (.tup ds)) := by
  obtain ⟨a, vs, hm, k, r⟩ := hm.ex
  exact fe_con (pe_glob hg hm (v := .ref a) rfl hd) fun w => ⟨a, vs, rfl, .inr k, r w⟩
end
/-! ### two values -/
def OpS (b : B) (r : R2) (g : D → D → M D) : Prop := ∀ (Wx : WX) (σ : Sl) (w : Wd) (S : Store) (d e : D) (x y : V) (Q : VK), StR b w S → Rp b w d x → Rp b w e y → PostE b Wx σ w (g d e S) Q → r x y w.H Q
section
variable {X : Cx} {Wx : WX} {a c : Expr} {pos : Pos} {r : R2} {g : D → D → M D} {fa fc : SE}
theorem tOp_of (hs : OpS (bX X) r g) : ∀ σ H Q, tE (bX X) Wx (op2 g fa fc) σ H Q → tOp r (tE (bX X) Wx fa) (tE (bX X) Wx fc) σ H Q := fun σ H Q ⟨w, ρ, S, e, hE, hS, h⟩ => by
  subst e
  refine bindE hE hS h fun w1 d v S1 l1 e1 s1 r1 h1 => bindE e1 s1 h1 fun w2 d2 v2 S2 l2 e2 s2 r2 h2 => ?_
  exact hs Wx σ w2 S2 d d2 v v2 Q s2 (Rp.mono l2 d v r1) r2 h2
theorem fe_op {op : Operator} (ho : OpR X (binaryOp op) r) (hs : OpS (bX X) r g) (ha : FE X Wx a fa) (hc : FE X Wx c fc) : FE X Wx (.BinOp a op c pos) (op2 g fa fc) := PE.imp (pe_op ho ha hc) (tOp_of hs)
theorem fe_cmp {op : CmpOp} (ho : OpR X (compareOp op) r) (hs : OpS (bX X) r g) (ha : FE X Wx a fa) (hc : FE X Wx c fc) (hm : behindInMarks op c = false := by first | exact nomark _ (by decide) (by decide) | rfl) : FE X Wx (.Compare a [op] [c] pos) (op2 g fa fc) := PE.imp (pe_cmpR ho ha hc hm) (tOp_of hs)
theorem opS_ints {f : Int → Int → V} {k : Int → Int → D} (hg : ∀ i j, g (.int i) (.int j) = ret (k i j)) (h0 : ∀ d e S, (∀ i j, ¬ (d = .int i ∧ e = .int j)) → g d e S = .stuck) (hr : ∀ w i j, Rp (bX X) w (k i j) (f i j)) : OpS (bX X) (rI0 f) g := by
  intro Wx σ w S d e x y Q st rd re h
  by_cases q : ∃ i j, d = .int i ∧ e = .int j
  · obtain ⟨i, j, rfl, rfl⟩ := q
    rw [hg] at h
    exact ⟨i, j, rd, re, PostE.now h st (hr w i j)⟩
  · rw [h0 d e S (fun i j z => q ⟨i, j, z⟩)] at h
    exact h.elim
end
section
variable {X : Cx} {Wx : WX} {a c : Expr} {pos : Pos} {fa fc : SE}
theorem opS_add : OpS (bX X) (fun x y H Q => (∃ i j, x = V.int i ∧ y = V.int j ∧ Q (.int (i + j)) H) ∨ ((∃ i j, x = .str i ∧ y = .str j ∧ i.length + j.length ≤ sizeLine ∧ Q (.str (i ++ j)) H) ∨ (rCatA X.K x y H Q ∨ rCat x y H Q))) addD := by
  intro Wx σ w S d e x y Q st rd re h
  have lists : PostE (bX X) Wx σ w (addL d e S) Q → rCat x y w.H Q := fun h => by
    unfold addL at h
    cases q1 : lv S d with
    | none => rw [q1] at h; exact h.elim
    | some ds =>
      cases q2 : lv S e with
      | none => rw [q1, q2] at h; exact h.elim
      | some es =>
        rw [q1, q2] at h
        obtain ⟨p, vs, rfl, t1, r1⟩ := lv_at st q1 rd
        obtain ⟨p2, us, rfl, t2, r2⟩ := lv_at st q2 re
        by_cases hl : ds.length + es.length ≤ lineN
        · simp only [hl, if_true] at h
          refine ⟨p, p2, vs, us, rfl, rfl, t1, t2, ?_, fun q hq => PostE.newL h st (RpL.append r1 r2) hq⟩
          rw [← RpL.length r1, ← RpL.length r2, ← lineN_eq]; exact hl
        · simp only [hl, if_false] at h; exact h.elim
  cases d with
  | int i => cases e with
    | int j => exact .inl ⟨i, j, rd, re, PostE.now h st rfl⟩
    | _ => exact h.elim
  | str i => cases e with
    | str j =>
      have h' : PostE (bX X) Wx σ w (if i.length + j.length ≤ lineN then .ok (.str (i ++ j)) S else .stuck) Q := h
      by_cases hl : i.length + j.length ≤ lineN
      · rw [if_pos hl] at h'
        exact .inr (.inl ⟨i, j, rd, re, by rw [← lineN_eq]; exact hl, PostE.now h' st rfl⟩)
      · rw [if_neg hl] at h'; exact h'.elim
    | _ => exact h.elim
  | tup ds => cases e with
    | tup es =>
      have h' : PostE (bX X) Wx σ w (if ds.length + es.length ≤ lineN then .ok (.tup (ds ++ es)) S else .stuck) Q := h
      by_cases hl : ds.length + es.length ≤ lineN
      · rw [if_pos hl] at h'
        obtain ⟨p, vs, rfl, t1, r1⟩ := rd
        obtain ⟨p2, us, rfl, t2, r2⟩ := re
        have l1 := RpL.length r1
        have l2 := RpL.length r2
        refine .inr (.inr (.inl ⟨p, p2, vs, us, rfl, rfl, t1.sq, t2.sq, by rw [← l1, ← l2, ← lineN_eq]; exact hl, fun z => ?_, fun _ z => ?_, fun _ _ q hq => PostE.newT h' st (RpL.append r1 r2) hq⟩))
        · subst z
          have : ds = [] := List.eq_nil_of_length_eq_zero l1
          subst this
          exact PostE.now h' st (t2.rp r2)
        · subst z
          have : es = [] := List.eq_nil_of_length_eq_zero l2
          subst this
          rw [List.append_nil] at h'
          exact PostE.now h' st (t1.rp r1)
      · rw [if_neg hl] at h'; exact h'.elim
    | _ => exact h.elim
  | non => exact .inr (.inr (.inr (lists h)))
  | bl _ => exact .inr (.inr (.inr (lists h)))
  | ty _ => exact .inr (.inr (.inr (lists h)))
  | lst _ => exact .inr (.inr (.inr (lists h)))
  | frz _ => exact .inr (.inr (.inr (lists h)))
  | ins _ _ => exact .inr (.inr (.inr (lists h)))
  | ref _ => exact .inr (.inr (.inr (lists h)))
theorem fe_add (ha : FE X Wx a fa) (hc : FE X Wx c fc) : FE X Wx (.BinOp a .Add c pos) (op2 addD fa fc) := fe_op (OpR.or op_add (OpR.or op_add_str (OpR.or op_catA op_cat))) opS_add ha hc
theorem fe_sub (ha : FE X Wx a fa) (hc : FE X Wx c fc) : FE X Wx (.BinOp a .Sub c pos) (op2 subD fa fc) := by
  refine fe_op op_sub (opS_ints (k := fun i j => .int (i - j)) (fun _ _ => rfl) (fun d e S h => ?_) fun _ _ _ => rfl) ha hc
  cases d <;> cases e <;> first | rfl | exact absurd ⟨rfl, rfl⟩ (h _ _)
theorem opS_mul : OpS (bX X) (fun x y H Q => (∃ i j, x = V.int i ∧ y = V.int j ∧ CMul i j ∧ Q (.int (i * j)) H) ∨ (rRepT X.K x y H Q ∨ rRep x y H Q)) mulD := by
  intro Wx σ w S d e x y Q st rd re h
  cases e with
  | int k =>
    have lists : PostE (bX X) Wx σ w (repL d k S) Q → rRep x y w.H Q := fun h => by
      unfold repL at h
      cases q1 : lv S d with
      | none => rw [q1] at h; exact h.elim
      | some ds =>
        rw [q1] at h
        obtain ⟨p, vs, rfl, t1, r1⟩ := lv_at st q1 rd
        by_cases hl : -(2 ^ 63) ≤ k ∧ k < 2 ^ 63 ∧ ds.length * k.toNat ≤ lineN
        · simp only [hl, and_self, if_true] at h
          refine ⟨p, k, vs, rfl, re, t1, hl.1, hl.2.1, ?_, fun q hq => PostE.newL h st (RpL.rep _ r1) hq⟩
          rw [← RpL.length r1, ← lineN_eq]; exact hl.2.2
        · dsimp only at h
          rw [if_neg hl] at h; exact h.elim
    cases d with
    | int i =>
      have h' : PostE (bX X) Wx σ w (if mulOk i k then .ok (.int (i * k)) S else .stuck) Q := h
      by_cases hl : mulOk i k
      · rw [if_pos hl] at h'
        exact .inl ⟨i, k, rd, re, hl, PostE.now h' st rfl⟩
      · rw [if_neg hl] at h'; exact h'.elim
    | tup ds =>
      have h' : PostE (bX X) Wx σ w (if ds ≠ [] ∧ ds.length ≤ 1000 ∧ 2 ≤ k ∧ k ≤ 1000 then .ok (.tup (List.replicate k.toNat ds).flatten) S else .stuck) Q := h
      by_cases hl : ds ≠ [] ∧ ds.length ≤ 1000 ∧ 2 ≤ k ∧ k ≤ 1000
      · rw [if_pos hl] at h'
        obtain ⟨p, vs, rfl, t1, r1⟩ := rd
        have l1 := RpL.length r1
        refine .inr (.inl ⟨p, k, vs, rfl, re, t1.sq, fun z => hl.1 ?_, hl.2.2.1, hl.2.2.2, by omega, fun q hq => PostE.newT h' st (RpL.rep _ r1) hq⟩)
        subst z
        exact List.eq_nil_of_length_eq_zero l1
      · rw [if_neg hl] at h'; exact h'.elim
    | non => exact .inr (.inr (lists h))
    | bl _ => exact .inr (.inr (lists h))
    | str _ => exact .inr (.inr (lists h))
    | ty _ => exact .inr (.inr (lists h))
    | lst _ => exact .inr (.inr (lists h))
    | frz _ => exact .inr (.inr (lists h))
    | ins _ _ => exact .inr (.inr (lists h))
    | ref _ => exact .inr (.inr (lists h))
  | _ => exact h.elim
theorem fe_mul (ha : FE X Wx a fa) (hc : FE X Wx c fc) : FE X Wx (.BinOp a .Mult c pos) (op2 mulD fa fc) := fe_op (OpR.or op_mul (OpR.or op_repT op_rep)) opS_mul ha hc
theorem opS_cond {f k : Int → Int → Int} {P : Int → Int → Prop} {C : Int → Int → Prop} {g : D → D → M D} [∀ i j, Decidable (P i j)] (hk : ∀ i j, k i j = f i j) (hg : ∀ i j S, g (.int i) (.int j) S = if P i j then .ok (.int (k i j)) S else .stuck) (h0 : ∀ d e S, (∀ i j, ¬ (d = .int i ∧ e = .int j)) → g d e S = .stuck) (hP : ∀ i j, P i j → C i j) :
    OpS (bX X) (rI C fun i j => .int (f i j)) g := by
  intro Wx σ w S d e x y Q st rd re h
  by_cases q : ∃ i j, d = .int i ∧ e = .int j
  · obtain ⟨i, j, rfl, rfl⟩ := q
    rw [hg] at h
    by_cases hp : P i j
    · rw [if_pos hp, hk] at h
      exact ⟨i, j, rd, re, hP i j hp, PostE.now h st rfl⟩
    · rw [if_neg hp] at h; exact h.elim
  · rw [h0 d e S (fun i j z => q ⟨i, j, z⟩)] at h
    exact h.elim
theorem fe_div (ha : FE X Wx a fa) (hc : FE X Wx c fc) : FE X Wx (.BinOp a .FloorDiv c pos) (op2 divD fa fc) := by
  refine fe_op op_fdivW (opS_cond (k := fun i j => i / j) (P := fun i j => 0 < j ∧ j < 18446744073709551616) (fun _ _ => rfl) (fun i j S => rfl) (fun d e S h => ?_) fun i j h => ?_) ha hc
  · cases d <;> cases e <;> first | rfl | exact absurd ⟨rfl, rfl⟩ (h _ _)
  · exact wide_div (i := i) (b := 64) h.1 (by omega) (by decide) (by decide)
theorem fe_mod (ha : FE X Wx a fa) (hc : FE X Wx c fc) : FE X Wx (.BinOp a .Mod c pos) (op2 modD fa fc) := by
  refine fe_op op_mod (opS_cond (k := fun i j => i % j) (P := fun i j => 0 < j) (fun _ _ => rfl) (fun i j S => rfl) (fun d e S h => ?_) fun i j h => h) ha hc
  cases d <;> cases e <;> first | rfl | exact absurd ⟨rfl, rfl⟩ (h _ _)
theorem fe_pow (ha : FE X Wx a fa) (hc : FE X Wx c fc) : FE X Wx (.BinOp a .Pow c pos) (op2 powD fa fc) := by
  refine fe_op op_pow (opS_cond (k := fun i j => i ^ j.toNat) (P := fun i j => 0 ≤ j ∧ j ≤ 1000000 ∧ i.natAbs < 18446744073709551616) (fun _ _ => rfl) (fun i j S => rfl) (fun d e S h => ?_) fun i j h => h) ha hc
  cases d <;> cases e <;> first | rfl | exact absurd ⟨rfl, rfl⟩ (h _ _)
end
end F

set_option linter.all false
set_option maxRecDepth 100000
set_option maxHeartbeats 2000000
set_option autoImplicit false
namespace F
open PySem PySem.Spec PyProof.Rows L2
section
variable {b : B} {w : Wd} {S : Store}
mutual
theorem Rp.dp : ∀ (d : D) (v : V), Rp b w d v → d.toP.canLay0 = true → Dp b.K w.H v d.toP
  | .non, v, h, _ => by cases (show v = .non from h); exact .non
  | .bl k, v, h, _ => by cases (show v = .bl k from h); exact .bl k
  | .int i, v, h, _ => by cases (show v = .int i from h); exact .int i
  | .str s, v, h, _ => by cases (show v = .str s from h); exact .str s
  | .ty n, v, h, c => by simp [D.toP, PyData.canLay0] at c
  | .tup ds, v, h, c => by
    obtain ⟨a, vs, e, t, r⟩ := h
    subst e
    exact .tup t.sq (RpL.dp ds vs r (by simpa [D.toP, PyData.canLay0] using c))
  | .lst ds, v, h, c => by
    obtain ⟨a, vs, e, t, r⟩ := h
    subst e
    exact .lst t.sq (RpL.dp ds vs r (by simpa [D.toP, PyData.canLay0] using c))
  | .frz ds, v, h, c => by
    obtain ⟨a, vs, e, t, r⟩ := h
    subst e
    exact .lst t.sq (RpL.dp ds vs r (by simpa [D.toP, PyData.canLay0] using c))
  | .ins c fs, v, h, q => by simp [D.toP, PyData.canLay0] at q
  | .ref n, v, h, q => by simp [D.toP, PyData.canLay0] at q
theorem RpL.dp : ∀ (ds : List D) (vs : List V), RpL b w ds vs → PyData.canLayAll0 (toPs ds) = true → DpAll b.K w.H vs (toPs ds)
  | [], vs, h, _ => by cases (show vs = [] from h); exact .nil
  | d :: ds, vs, h, c => by
    obtain ⟨v, r, e, h1, h2⟩ := h
    subst e
    have c' : d.toP.canLay0 = true ∧ PyData.canLayAll0 (toPs ds) = true := by simpa [toPs, PyData.canLayAll0] using c
    exact .cons (Rp.dp d v h1 c'.1) (RpL.dp ds r h2 c'.2)
end
theorem vw_dp (st : StR b w S) {d : D} {v : V} (h : Rp b w d v) (c : SeqAt.shaped (vw S d).toP = true) : Dp b.K w.H v (vw S d).toP := by
  have c0 := SeqAt.canLay_of_shaped c
  unfold vw at c0 ⊢
  cases q : lv S d with
  | none => rw [q] at c0; exact Rp.dp d v h c0
  | some ds =>
    rw [q] at c0
    obtain ⟨a, vs, e, t, r⟩ := lv_at st q h
    subst e
    exact .lst (.inl (.inl t)) (RpL.dp ds vs r (by simpa [D.toP, PyData.canLay0] using c0))
theorem scal_of {d e : D} {x y : V} (h : scalD d e = true) (rd : Rp b w d x) (re : Rp b w e y) : scal x y = true ∧ decide (x = y) = scalEq d e := by
  cases d <;> first
    | (exfalso; revert h; simp [scalD, kind]; done)
    | (cases e <;> first
        | (exfalso; revert h; simp [scalD, kind]; done)
        | (have e1 := rd; have e2 := re; simp only [Rp] at e1 e2; subst e1; subst e2; refine ⟨rfl, ?_⟩; simp [scalEq]; done)
        | (have e1 := rd; have e2 := re; simp only [Rp] at e1 e2; subst e1; subst e2; refine ⟨rfl, ?_⟩; simp [scalEq]; first | rfl | (split <;> simp_all)))
end
section
variable {X : Cx} {Wx : WX} {a c : Expr} {pos : Pos} {fa fc : SE}
theorem opS_eq : OpS (bX X) (fun x y H Q => rEq x y H Q ∨ rEqD X.K x y H Q) eqM := by
  intro Wx σ w S d e x y Q st rd re h
  unfold eqM eqV at h
  by_cases hs : scalD d e = true
  · rw [if_pos hs] at h
    obtain ⟨h1, h2⟩ := scal_of (b := bX X) hs rd re
    exact .inl ⟨h1, by rw [h2]; exact PostE.now h st rfl⟩
  · rw [if_neg hs] at h
    by_cases hh : (SeqAt.shaped (vw S d).toP && SeqAt.shaped (vw S e).toP) = true
    · rw [if_pos hh] at h
      obtain ⟨c1, c2⟩ := Bool.and_eq_true_iff.mp hh
      exact .inr ⟨_, _, vw_dp st rd c1, vw_dp st re c2, c1, c2, PostE.now h st rfl⟩
    · rw [if_neg hh] at h; exact h.elim
theorem opS_ne : OpS (bX X) (fun x y H Q => rNe x y H Q ∨ rNeD X.K x y H Q) neM := by
  intro Wx σ w S d e x y Q st rd re h
  unfold neM eqV at h
  by_cases hs : scalD d e = true
  · rw [if_pos hs] at h
    obtain ⟨h1, h2⟩ := scal_of (b := bX X) hs rd re
    exact .inl ⟨h1, by rw [h2]; exact PostE.now h st rfl⟩
  · rw [if_neg hs] at h
    by_cases hh : (SeqAt.shaped (vw S d).toP && SeqAt.shaped (vw S e).toP) = true
    · rw [if_pos hh] at h
      obtain ⟨c1, c2⟩ := Bool.and_eq_true_iff.mp hh
      exact .inr ⟨_, _, vw_dp st rd c1, vw_dp st re c2, c1, c2, PostE.now h st rfl⟩
    · rw [if_neg hh] at h; exact h.elim
/-- the operators of ==, !=, <, <=, >, >=, in, not in, by their rules -/
def CmpS (X : Cx) (op : CmpOp) (g : D → D → M D) : Prop := ∃ r, OpR X (compareOp op) r ∧ OpS (bX X) r g
theorem cm_eq (hu : X.A.units + 64 < cLine) : CmpS X .Eq eqM := ⟨_, OpR.or op_eq (op_eqD hu), opS_eq⟩
theorem cm_ne (hu : X.A.units + 64 < cLine) : CmpS X .NotEq neM := ⟨_, OpR.or op_ne (op_neD hu), opS_ne⟩
theorem cm_lt : CmpS X .Lt ltD := ⟨_, op_lt, opS_ints (k := fun i j => .bl (decide (i < j))) (fun _ _ => rfl) (fun d e S h => by cases d <;> cases e <;> first | rfl | exact absurd ⟨rfl, rfl⟩ (h _ _)) fun _ _ _ => rfl⟩
theorem cm_le : CmpS X .LtE leD := ⟨_, op_le, opS_ints (k := fun i j => .bl (decide (i ≤ j))) (fun _ _ => rfl) (fun d e S h => by cases d <;> cases e <;> first | rfl | exact absurd ⟨rfl, rfl⟩ (h _ _)) fun _ _ _ => rfl⟩
theorem cm_gt : CmpS X .Gt gtD := ⟨_, op_gt, opS_ints (k := fun i j => .bl (decide (j < i))) (fun _ _ => rfl) (fun d e S h => by cases d <;> cases e <;> first | rfl | exact absurd ⟨rfl, rfl⟩ (h _ _)) fun _ _ _ => rfl⟩
theorem cm_ge : CmpS X .GtE geD := ⟨_, op_ge, opS_ints (k := fun i j => .bl (decide (j ≤ i))) (fun _ _ => rfl) (fun d e S h => by cases d <;> cases e <;> first | rfl | exact absurd ⟨rfl, rfl⟩ (h _ _)) fun _ _ _ => rfl⟩
/-! in -/
def rInT (K : PySem.W.Frag) : R2 := fun x y H Q => ∃ d ds, Dp K H x d ∧ Dp K H y (.tuple ds) ∧ SeqAt.shaped d = true ∧ SeqAt.shaped (.list ds) = true ∧ Q (.bl (ds.any fun z => PyData.eqv z d)) H
def rNotInT (K : PySem.W.Frag) : R2 := fun x y H Q => ∃ d ds, Dp K H x d ∧ Dp K H y (.tuple ds) ∧ SeqAt.shaped d = true ∧ SeqAt.shaped (.list ds) = true ∧ Q (.bl (!ds.any fun z => PyData.eqv z d)) H
theorem room_in {ds : List PyData} {d : PyData} {A : Around} (s : SeqAt.shaped d = true) (hu : A.units + 65 < cLine) : A.units + 1 + min (PyData.depthAll ds) d.depth < cLine := by
  have h1 := SeqAt.depth_of_shaped s
  have h2 : min (PyData.depthAll ds) d.depth ≤ d.depth := Nat.min_le_right _ _
  omega
theorem op_inT (hu : X.A.units + 65 < cLine) : OpR X (compareOp .In) (rInT X.K) := by
  intro pins s σ H x y v u Q I rx ry ⟨d, ds, hd, he, sd, se, q⟩
  obtain ⟨as, r1⟩ := Dp.reads I d x v hd rx
  obtain ⟨bs, r2⟩ := Dp.reads I (.tuple ds) y u he ry
  exact SeqAt.in_tuple_reads r2 r1 (SeqAt.canLay_of_shaped se) (SeqAt.canLay_of_shaped sd) (room_in sd hu) ⟨.bl _, H, I, rfl, q⟩
theorem op_notInT (hu : X.A.units + 65 < cLine) : OpR X (compareOp .NotIn) (rNotInT X.K) := by
  intro pins s σ H x y v u Q I rx ry ⟨d, ds, hd, he, sd, se, q⟩
  obtain ⟨as, r1⟩ := Dp.reads I d x v hd rx
  obtain ⟨bs, r2⟩ := Dp.reads I (.tuple ds) y u he ry
  exact SeqAt.notIn_tuple_reads r2 r1 (SeqAt.canLay_of_shaped se) (SeqAt.canLay_of_shaped sd) (room_in sd hu) ⟨.bl _, H, I, rfl, q⟩
theorem inSeq_dp {b : B} {w : Wd} {S : Store} (st : StR b w S) {e : D} {y : V} {ds : List D} (q : sv S e = some ds) (re : Rp b w e y) (c : SeqAt.shaped (.list (toPs ds)) = true) : Dp b.K w.H y (.list (toPs ds)) ∨ Dp b.K w.H y (.tuple (toPs ds)) := by
  obtain ⟨p, vs, rfl, t, r⟩ := sv_at st q re
  have c0 : PyData.canLayAll0 (toPs ds) = true := by simpa [PyData.canLay0] using SeqAt.canLay_of_shaped c
  rcases t with t | t
  · exact .inl (.lst t (RpL.dp ds vs r c0))
  · exact .inr (.tup t (RpL.dp ds vs r c0))
theorem inV_of {b : B} {w : Wd} {S : Store} (st : StR b w S) {d e : D} {x y : V} {k : Bool} (h : inV S d e = some k) (rd : Rp b w d x) (re : Rp b w e y) :
    (∃ (c : Nat) (z : Str), x = .str ⟨#[c]⟩ ∧ y = .str z ∧ k = decide (c ∈ z.cps.toList)) ∨ ∃ dd ds, Dp b.K w.H x dd ∧ (Dp b.K w.H y (.list ds) ∨ Dp b.K w.H y (.tuple ds)) ∧ SeqAt.shaped dd = true ∧ SeqAt.shaped (.list ds) = true ∧ k = ds.any fun z => PyData.eqv z dd := by
  have seq : (match sv S e with
    | some ds => if SeqAt.shaped d.toP && SeqAt.shaped (.list (toPs ds)) then some ((toPs ds).any fun z => PyData.eqv z d.toP) else none
    | none => none) = some k → ∃ dd ds, Dp b.K w.H x dd ∧ (Dp b.K w.H y (.list ds) ∨ Dp b.K w.H y (.tuple ds)) ∧ SeqAt.shaped dd = true ∧ SeqAt.shaped (.list ds) = true ∧ k = ds.any fun z => PyData.eqv z dd := fun h => by
    cases q : sv S e with
    | none => rw [q] at h; cases h
    | some ds =>
      rw [q] at h
      dsimp only at h
      by_cases hh : (SeqAt.shaped d.toP && SeqAt.shaped (.list (toPs ds))) = true
      · rw [if_pos hh] at h
        obtain ⟨c1, c2⟩ := Bool.and_eq_true_iff.mp hh
        exact ⟨_, _, Rp.dp d x rd (SeqAt.canLay_of_shaped c1), inSeq_dp st q re c2, c1, c2, (Option.some.inj h).symm⟩
      · rw [if_neg hh] at h; cases h
  cases e with
  | str z =>
    cases d with
    | str a' =>
      have h' : (match a'.cps.toList with | [c] => some (decide (c ∈ z.cps.toList)) | _ => none) = some k := h
      cases q : a'.cps.toList with
      | nil => rw [q] at h'; cases h'
      | cons c r =>
        cases r with
        | nil =>
          rw [q] at h'
          have e1 : a' = ⟨#[c]⟩ := by
            cases a' with
            | mk arr =>
              have : arr = #[c] := by
                apply Array.ext'
                simpa using q
              rw [this]
          have e2 : x = .str a' := rd
          exact .inl ⟨c, z, by rw [e2, e1], re, (Option.some.inj h').symm⟩
        | cons _ _ => rw [q] at h'; cases h'
    | _ => cases h
  | _ => exact .inr (seq h)
theorem cm_in (hu : X.A.units + 65 < cLine) : CmpS X .In inD := by
  refine ⟨_, OpR.or op_in_sign (OpR.or (op_inD hu) (op_inT hu)), ?_⟩
  intro Wx σ w S d e x y Q st rd re h
  unfold inD at h
  cases q : inV S d e with
  | none => rw [q] at h; exact h.elim
  | some k =>
    rw [q] at h
    rcases inV_of (b := bX X) st q rd re with ⟨c, z, e1, e2, e3⟩ | ⟨dd, ds, e1, e2, e3, e4, e5⟩
    · exact .inl ⟨c, z, e1, e2, by rw [← e3]; exact PostE.now h st rfl⟩
    · rcases e2 with e2 | e2
      · exact .inr (.inl ⟨dd, ds, e1, e2, e3, e4, by rw [← e5]; exact PostE.now h st rfl⟩)
      · exact .inr (.inr ⟨dd, ds, e1, e2, e3, e4, by rw [← e5]; exact PostE.now h st rfl⟩)
theorem cm_notIn (hu : X.A.units + 65 < cLine) : CmpS X .NotIn notInD := by
  refine ⟨_, OpR.or op_notIn_sign (OpR.or (op_notInD hu) (op_notInT hu)), ?_⟩
  intro Wx σ w S d e x y Q st rd re h
  unfold notInD at h
  cases q : inV S d e with
  | none => rw [q] at h; exact h.elim
  | some k =>
    rw [q] at h
    rcases inV_of (b := bX X) st q rd re with ⟨c, z, e1, e2, e3⟩ | ⟨dd, ds, e1, e2, e3, e4, e5⟩
    · exact .inl ⟨c, z, e1, e2, by rw [← e3]; exact PostE.now h st rfl⟩
    · rcases e2 with e2 | e2
      · exact .inr (.inl ⟨dd, ds, e1, e2, e3, e4, by rw [← e5]; exact PostE.now h st rfl⟩)
      · exact .inr (.inr ⟨dd, ds, e1, e2, e3, e4, by rw [← e5]; exact PostE.now h st rfl⟩)
/-! None -/
theorem isN_of {b : B} {w : Wd} {d : D} {x : V} (r : Rp b w d x) : decide (x = .non) = isN d := by
  cases d with
  | non => cases (show x = .non from r); rfl
  | bl k => cases (show x = .bl k from r); rfl
  | int k => cases (show x = .int k from r); rfl
  | str k => cases (show x = .str k from r); rfl
  | ty k => cases (show x = .ty k from r); rfl
  | tup ds => obtain ⟨p, vs, rfl, _⟩ := r; rfl
  | lst ds => obtain ⟨p, vs, rfl, _⟩ := r; rfl
  | frz ds => obtain ⟨p, vs, rfl, _⟩ := r; rfl
  | ins c fs => obtain ⟨p, _, _, _, rfl, _⟩ := r; rfl
  | ref n => obtain ⟨p, _, rfl⟩ := r; rfl
theorem cm_is : CmpS X .Is (noneOp false) := by
  refine ⟨_, op_isN, ?_⟩
  intro Wx σ w S d e x y Q st rd re h
  cases e with
  | non => exact ⟨re, by rw [isN_of rd]; exact PostE.now h st rfl⟩
  | _ => exact h.elim
theorem cm_isNot : CmpS X .IsNot (noneOp true) := by
  refine ⟨_, op_notN, ?_⟩
  intro Wx σ w S d e x y Q st rd re h
  cases e with
  | non => exact ⟨re, by rw [isN_of rd]; exact PostE.now h st rfl⟩
  | _ => exact h.elim
theorem fe_cm {op : CmpOp} {g : D → D → M D} (h : CmpS X op g) (ha : FE X Wx a fa) (hc : FE X Wx c fc) (hm : behindInMarks op c = false := by first | exact nomark _ (by decide) (by decide) | rfl) : FE X Wx (.Compare a [op] [c] pos) (op2 g fa fc) := by
  obtain ⟨r, ho, hs⟩ := h
  exact fe_cmp ho hs ha hc hm
theorem boolT_of {f : SE} : ∀ σ H Q, tT (bX X) Wx (boolT f) σ H Q → tE (bX X) Wx f σ H (fun x H' => ∃ k, x = .bl k ∧ Q k H') := fun σ H Q ⟨w, ρ, S, e, hE, hS, h⟩ => by
  subst e
  refine bindET hE hS h fun w1 d v S1 l1 e1 s1 r1 h1 => ?_
  cases d with
  | bl k => exact ⟨k, r1, h1 w1 (Le.refl _) s1⟩
  | _ => exact h1.elim
theorem ft_cm {op : CmpOp} {g : D → D → M D} (h : CmpS X op g) (ha : FE X Wx a fa) (hc : FE X Wx c fc) (hm : behindInMarks op c = false := by first | exact nomark _ (by decide) (by decide) | rfl) : FT X Wx (.Compare a [op] [c] pos) (boolT (op2 g fa fc)) := by
  obtain ⟨r, ho, hs⟩ := h
  exact PT.imp (pt_cmpR ho ha hc hm) fun σ H Q h => tOp_of hs σ H _ (boolT_of σ H Q h)
theorem chain_of {r r' : R2} {fb : SE} {g g' : D → D → M D} (hs : OpS (bX X) r g) (hs' : OpS (bX X) r' g') : ∀ σ H Q, tE (bX X) Wx (chain g g' fa fb fc) σ H Q → tChain r r' (tE (bX X) Wx fa) (tE (bX X) Wx fb) (tE (bX X) Wx fc) σ H Q := fun σ H Q ⟨w, ρ, S, e, hE, hS, h⟩ => by
  subst e
  refine bindE hE hS h fun w1 d v S1 l1 e1 s1 r1 h1 => bindE e1 s1 h1 fun w2 d2 v2 S2 l2 en2 s2 r2 h2 => ?_
  refine hs Wx σ w2 S2 d d2 v v2 _ s2 (Rp.mono l2 d v r1) r2 (PostE.bindE h2 fun w3 d3 v3 S3 l3 s3 r3 h3 => ?_)
  cases d3 with
  | bl k =>
    refine ⟨k, r3, ?_⟩
    cases k with
    | true =>
      rw [if_pos rfl]
      refine bindE (en2.mono l3) s3 h3 fun w4 d4 v4 S4 l4 e4 s4 r4 h4 => ?_
      exact hs' Wx σ w4 S4 d2 d4 v2 v4 Q s4 (Rp.mono l4 _ _ (Rp.mono l3 _ _ r2)) r4 h4
    | false =>
      rw [if_neg Bool.false_ne_true]
      exact PostE.now h3 s3 rfl
  | _ => exact h3.elim
theorem fe_chain {e2 : Expr} {fb : SE} {op op' : CmpOp} {g g' : D → D → M D} (h : CmpS X op g) (h' : CmpS X op' g') (ha : FE X Wx a fa) (hb : FE X Wx e2 fb) (hc : FE X Wx c fc)
    (hm : lastMarks [op, op'] [e2, c] = false := by with_unfolding_all rfl) : FE X Wx (.Compare a [op, op'] [e2, c] pos) (chain g g' fa fb fc) := by
  obtain ⟨r, ho, hs⟩ := h
  obtain ⟨r', ho', hs'⟩ := h'
  exact PE.imp (pe_chain ho ho' ha hb hc hm) (chain_of hs hs')
theorem ft_chain {e2 : Expr} {fb : SE} {op op' : CmpOp} {g g' : D → D → M D} (h : CmpS X op g) (h' : CmpS X op' g') (ha : FE X Wx a fa) (hb : FE X Wx e2 fb) (hc : FE X Wx c fc)
    (hm : lastMarks [op, op'] [e2, c] = false := by with_unfolding_all rfl) : FT X Wx (.Compare a [op, op'] [e2, c] pos) (boolT (chain g g' fa fb fc)) := by
  obtain ⟨r, ho, hs⟩ := h
  obtain ⟨r', ho', hs'⟩ := h'
  exact PT.imp (pt_chain ho ho' ha hb hc hm) fun σ H Q h => chain_of hs hs' σ H _ (boolT_of σ H Q h)
end
/-! ### tests -/
section
variable {X : Cx} {Wx : WX} {a c : Expr} {pos : Pos} {fa fc : SE} {ta tc : ST} {rest : List Expr}
theorem truV_of {b : B} {w : Wd} {S : Store} {d : D} {x : V} (st : StR b w S) (r : Rp b w d x) {Wx : WX} {σ : Sl} {Q : Bool → Hp → Prop} (h : PostT b Wx σ w (truD d S) Q) : ∃ k, TruV b.K x w.H k ∧ Q k w.H := by
  have seq : PostT b Wx σ w (match sv S d with | some ds => Out.ok (!ds.isEmpty) S | none => Out.stuck) Q → ∃ k, TruV b.K x w.H k ∧ Q k w.H := fun h => by
    cases q : sv S d with
    | none => rw [q] at h; exact h.elim
    | some ds =>
      rw [q] at h
      obtain ⟨p, vs, rfl, t, r⟩ := sv_at st q r
      have e : (!ds.isEmpty) = !vs.isEmpty := by
        have := RpL.length r
        cases ds <;> cases vs <;> first | rfl | simp at this
      refine ⟨!ds.isEmpty, ?_, h w (Le.refl _) st⟩
      rcases t with t | t
      · exact .inl ⟨vs, t, e⟩
      · exact .inr (.inl ⟨vs, t, e⟩)
  cases d with
  | non => cases (show x = .non from r); exact ⟨false, rfl, h w (Le.refl _) st⟩
  | bl k => cases (show x = .bl k from r); exact ⟨k, rfl, h w (Le.refl _) st⟩
  | int k => cases (show x = .int k from r); exact ⟨_, rfl, h w (Le.refl _) st⟩
  | str z =>
    cases (show x = .str z from r)
    have h' : PostT b Wx σ w (if z.length ≤ lineN then .ok ((z.length : Int) != 0) S else .stuck) Q := h
    by_cases hl : z.length ≤ lineN
    · rw [if_pos hl] at h'
      exact ⟨_, ⟨by rw [← lineN_eq]; exact hl, rfl⟩, h' w (Le.refl _) st⟩
    · rw [if_neg hl] at h'; exact h'.elim
  | ty _ => exact seq h
  | tup _ => exact seq h
  | lst _ => exact seq h
  | frz _ => exact seq h
  | ins _ _ => exact seq h
  | ref _ => exact seq h
theorem ft_tru (ha : FE X Wx a fa) (he : ∀ whole, isTrue a X.env whole = (do let v ← whole; standAt a.pos; holding [v] (truthy v)) := by intro _; rfl) : FT X Wx a (truT fa) :=
  PT.imp (pt_truth ha he) fun σ H Q ⟨w, ρ, S, e, hE, hS, h⟩ => by
    subst e
    exact bindET hE hS h fun w1 d v S1 l1 e1 s1 r1 h1 => truV_of s1 r1 h1
theorem ft_not (ha : FT X Wx a ta) : FT X Wx (.UnaryOp .Not a pos) (notT ta) :=
  PT.imp (pt_not ha) fun σ H Q ⟨w, ρ, S, e, hE, hS, h⟩ => by
    subst e
    exact bindTT hE hS h fun w1 d S1 l1 e1 s1 h1 => h1 w1 (Le.refl _) s1
abbrev FW (X : Cx) (Wx : WX) (e : Expr) (f : ST) : Prop := PW X e (tT (bX X) Wx f)
theorem fw_and1 (ha : FT X Wx a ta) : FW X Wx (.BoolOp .And [a] pos) ta := pw_and1 ha
theorem fw_or1 (ha : FT X Wx a ta) : FW X Wx (.BoolOp .Or [a] pos) ta := pw_or1 ha
theorem fw_and (ha : FT X Wx a ta) (hb : FW X Wx (.BoolOp .And (c :: rest) pos) tc) : FW X Wx (.BoolOp .And (a :: c :: rest) pos) (andT ta tc) :=
  PW.imp (pw_and ha hb) fun σ H Q ⟨w, ρ, S, e, hE, hS, h⟩ => by
    subst e
    refine bindTT hE hS h fun w1 d S1 l1 e1 s1 h1 => ?_
    cases d with
    | true => rw [if_pos rfl] at h1 ⊢; exact ⟨w1, ρ, S1, rfl, e1, s1, h1⟩
    | false => rw [if_neg Bool.false_ne_true] at h1 ⊢; exact h1 w1 (Le.refl _) s1
theorem fw_or (ha : FT X Wx a ta) (hb : FW X Wx (.BoolOp .Or (c :: rest) pos) tc) : FW X Wx (.BoolOp .Or (a :: c :: rest) pos) (orT ta tc) :=
  PW.imp (pw_or ha hb) fun σ H Q ⟨w, ρ, S, e, hE, hS, h⟩ => by
    subst e
    refine bindTT hE hS h fun w1 d S1 l1 e1 s1 h1 => ?_
    cases d with
    | true => rw [if_pos rfl] at h1 ⊢; exact h1 w1 (Le.refl _) s1
    | false => rw [if_neg Bool.false_ne_true] at h1 ⊢; exact ⟨w1, ρ, S1, rfl, e1, s1, h1⟩
theorem ft_w {f : ST} (h : FW X Wx a f) : FT X Wx a f := PW.pt h
/-! .. as values -/
theorem fe_one {op} (ha : FE X Wx a fa) : FE X Wx (.BoolOp op [a] pos) fa := pe_one ha
theorem fe_and (ha : FE X Wx a fa) (hb : FE X Wx (.BoolOp .And (c :: rest) pos) fc) : FE X Wx (.BoolOp .And (a :: c :: rest) pos) (andE fa fc) :=
  PE.imp (pe_and ha hb) fun σ H Q ⟨w, ρ, S, e, hE, hS, h⟩ => by
    subst e
    refine bindE hE hS h fun w1 d v S1 l1 e1 s1 r1 h1 => ?_
    cases d with
    | bl k =>
      refine ⟨k, r1, ?_⟩
      dsimp only at h1
      cases k with
      | true => rw [if_pos rfl] at h1 ⊢; exact ⟨w1, ρ, S1, rfl, e1, s1, h1⟩
      | false => rw [if_neg Bool.false_ne_true] at h1 ⊢; exact PostE.now h1 s1 rfl
    | _ => exact h1.elim
theorem fe_or (ha : FE X Wx a fa) (hb : FE X Wx (.BoolOp .Or (c :: rest) pos) fc) : FE X Wx (.BoolOp .Or (a :: c :: rest) pos) (orE fa fc) :=
  PE.imp (pe_or ha hb) fun σ H Q ⟨w, ρ, S, e, hE, hS, h⟩ => by
    subst e
    refine bindE hE hS h fun w1 d v S1 l1 e1 s1 r1 h1 => ?_
    cases d with
    | bl k =>
      refine ⟨k, r1, ?_⟩
      dsimp only at h1
      cases k with
      | true => rw [if_pos rfl] at h1 ⊢; exact PostE.now h1 s1 rfl
      | false => rw [if_neg Bool.false_ne_true] at h1 ⊢; exact ⟨w1, ρ, S1, rfl, e1, s1, h1⟩
    | _ => exact h1.elim
theorem fe_not (ha : FE X Wx a fa) : FE X Wx (.UnaryOp .Not a pos) (op1 notD fa) :=
  PE.imp (pe_not ha) fun σ H Q ⟨w, ρ, S, e, hE, hS, h⟩ => by
    subst e
    refine bindE hE hS h fun w1 d v S1 l1 e1 s1 r1 h1 => ?_
    cases d with
    | bl k => exact ⟨k, r1, PostE.now h1 s1 rfl⟩
    | _ => exact h1.elim
theorem fe_neg (ha : FE X Wx a fa) : FE X Wx (.UnaryOp .USub a pos) (op1 negD fa) :=
  PE.imp (pe_un un_neg ha) fun σ H Q ⟨w, ρ, S, e, hE, hS, h⟩ => by
    subst e
    refine bindE hE hS h fun w1 d v S1 l1 e1 s1 r1 h1 => ?_
    cases d with
    | int k => exact ⟨k, r1, PostE.now h1 s1 rfl⟩
    | _ => exact h1.elim
theorem fe_if {t : Expr} {ft : ST} (ht : FT X Wx t ft) (ha : FE X Wx a fa) (hc : FE X Wx c fc) : FE X Wx (.IfExp t a c pos) (ifE ft fa fc) :=
  PE.imp (pe_ifExp ht ha hc) fun σ H Q ⟨w, ρ, S, e, hE, hS, h⟩ => by
    subst e
    refine bindTE hE hS h fun w1 d S1 l1 e1 s1 h1 => ?_
    cases d with
    | true => rw [if_pos rfl] at h1 ⊢; exact ⟨w1, ρ, S1, rfl, e1, s1, h1⟩
    | false => rw [if_neg Bool.false_ne_true] at h1 ⊢; exact ⟨w1, ρ, S1, rfl, e1, s1, h1⟩
end
end F

set_option linter.all false
set_option maxRecDepth 100000
set_option maxHeartbeats 2000000
set_option autoImplicit false
namespace F
open PySem PySem.Spec PyProof.Rows L2
section
variable {X : Cx} {Wx : WX} {a c : Expr} {pos : Pos} {fa fc : SE} {es : List Expr} {fs : SA}
/-! ### arguments, displays -/
theorem PostA.now {b : B} {Wx : WX} {σ : Sl} {w : Wd} {S : Store} {Q : List V → Hp → Prop} {d : List D} {v : List V} (h : PostA b Wx σ w (.ok d S) Q) (st : StR b w S) (r : RpL b w d v) : Q v w.H := h w v (Le.refl w) st r
theorem fa_nil : FA X Wx [] nilA := PA.imp pa_nil fun σ H Q ⟨w, ρ, S, e, hE, hS, h⟩ => by
  subst e
  exact PostA.now h hS rfl
theorem fa_cons (ha : FE X Wx a fa) (hr : FA X Wx es fs) (hs : starEach (a :: es) X.env = (false, eval a X.env) :: starEach es X.env := by rfl) : FA X Wx (a :: es) (consA fa fs) :=
  PA.imp (pa_cons ha hr hs) fun σ H Q ⟨w, ρ, S, e, hE, hS, h⟩ => by
    subst e
    refine bindEA hE hS h fun w1 d v S1 l1 e1 s1 r1 h1 => bindAA e1 s1 h1 fun w2 d2 v2 S2 l2 e2 s2 r2 h2 => ?_
    exact PostA.now h2 s2 ⟨v, v2, rfl, Rp.mono l2 _ _ r1, r2⟩
theorem fa_star {p : Pos} (ha : FE X Wx a fa) (hr : FA X Wx es fs) (hs : starEach (.Starred a p :: es) X.env = (true, eval a X.env) :: starEach es X.env := by rfl) : FA X Wx (.Starred a p :: es) (starA fa fs) :=
  PA.imp (StX.pa_star ha hr hs) fun σ H Q ⟨w, ρ, S, e, hE, hS, h⟩ => by
    subst e
    refine bindEA hE hS h fun w1 d v S1 l1 e1 s1 r1 h1 => ?_
    unfold bnd at h1
    dsimp only at h1
    cases q : sv S1 d with
    | none => rw [q] at h1; exact h1.elim
    | some ds =>
      rw [q] at h1
      obtain ⟨p, vs, rfl, t, r⟩ := sv_at s1 q r1
      refine ⟨p, vs, rfl, t.symm, ?_⟩
      refine bindAA e1 s1 h1 fun w2 d2 v2 S2 l2 e2 s2 r2 h2 => ?_
      exact PostA.now h2 s2 (RpL.append (RpL.mono l2 _ _ r) r2)
theorem fe_lst (h : FA X Wx es fs) : FE X Wx (.List es pos) (lstE fs) := PE.imp (pe_lst h) fun σ H Q ⟨w, ρ, S, e, hE, hS, h⟩ => by
  subst e
  refine bindAE hE hS h fun w1 d v S1 l1 e1 s1 r1 h1 => ?_
  unfold mkL at h1
  by_cases hl : d.length ≤ lineN
  · rw [if_pos hl] at h1
    exact ⟨by rw [← RpL.length r1, ← lineN_eq]; exact hl, fun p hp => PostE.newL h1 s1 r1 hp⟩
  · rw [if_neg hl] at h1; exact h1.elim
theorem fe_cel (h : FA X Wx es fs) : FE X Wx (.List es pos) (celE fs) := PE.imp (pe_lst h) fun σ H Q ⟨w, ρ, S, e, hE, hS, h⟩ => by
  subst e
  refine bindAE hE hS h fun w1 d v S1 l1 e1 s1 r1 h1 => ?_
  unfold mkC at h1
  by_cases hl : d.length ≤ lineN
  · rw [if_pos hl] at h1
    exact ⟨by rw [← RpL.length r1, ← lineN_eq]; exact hl, fun p hp => PostE.newC h1 s1 r1 hp⟩
  · rw [if_neg hl] at h1; exact h1.elim
theorem fe_tup {k : Nat} (h : FA X Wx es fs) : FE X Wx (.Tuple es k pos) (tupE fs) := PE.imp (pe_tup h) fun σ H Q ⟨w, ρ, S, e, hE, hS, h⟩ => by
  subst e
  refine bindAE hE hS h fun w1 d v S1 l1 e1 s1 r1 h1 => ?_
  unfold mkT at h1
  by_cases hl : d.length ≤ lineN
  · rw [if_pos hl] at h1
    exact ⟨by rw [← RpL.length r1, ← lineN_eq]; exact hl, fun p hp => PostE.newT h1 s1 r1 hp⟩
  · rw [if_neg hl] at h1; exact h1.elim
/-! ### subscripts, slices -/
theorem pos_eq (n : Nat) (i : Int) : pos? n i = ixN n i := by
  unfold pos? ixN
  by_cases h0 : 0 ≤ i
  · rw [if_neg (by omega), if_pos h0]
  · rw [if_pos (by omega), if_neg h0]
    by_cases h1 : -(n : Int) ≤ i
    · rw [if_pos (by omega), if_pos h1]
    · rw [if_neg (by omega), if_neg h1]
theorem at_eq {α : Type} (xs : List α) (i : Int) : at? xs i = atI xs i := by
  unfold at? atI
  rw [pos_eq]
  cases ixN xs.length i <;> rfl
theorem at_get {b : B} {w : Wd} {ds : List D} {vs : List V} {i : Int} {d : D} (r : RpL b w ds vs) (h : at? ds i = some d) : ∃ v, atI vs i = some v ∧ Rp b w d v := by
  rw [at_eq] at h
  unfold atI at h ⊢
  rw [← RpL.length r]
  cases q : ixN ds.length i with
  | none => rw [q] at h; cases h
  | some j =>
    rw [q] at h
    exact RpL.get r h
theorem opS_ix : OpS (bX X) (rIx X.K) ixD := by
  intro Wx σ w S d e x y Q st rd re h
  cases e with
  | int i =>
    have seq : PostE (bX X) Wx σ w (ixS d i S) Q → (rIxL X.K x y w.H Q ∨ rIxT X.K x y w.H Q) := fun h => by
      unfold ixS at h
      cases q : sv S d with
      | none => rw [q] at h; exact h.elim
      | some ds =>
        rw [q] at h
        dsimp only at h
        cases q2 : at? ds i with
        | none => rw [q2] at h; exact h.elim
        | some z =>
          rw [q2] at h
          obtain ⟨p, vs, rfl, t, r⟩ := sv_at st q rd
          obtain ⟨v, h1, h2⟩ := at_get r q2
          rcases t with t | t
          · exact .inl ⟨p, vs, i, v, rfl, re, t, h1, PostE.now h st h2⟩
          · exact .inr ⟨p, vs, i, v, rfl, re, t, h1, PostE.now h st h2⟩
    have seq' : PostE (bX X) Wx σ w (ixS d i S) Q → rIx X.K x y w.H Q := fun h => (seq h).elim (fun z => .inl z) fun z => .inr (.inl z)
    cases d with
    | str z =>
      have h' : PostE (bX X) Wx σ w (if z.length ≤ lineN then (match at? z.cps.toList i with | some c => .ok (.str ⟨#[c]⟩) S | none => .stuck) else .stuck) Q := h
      by_cases hl : z.length ≤ lineN
      · rw [if_pos hl] at h'
        cases q : at? z.cps.toList i with
        | none => rw [q] at h'; exact h'.elim
        | some c =>
          rw [q] at h'
          rw [at_eq] at q
          exact .inr (.inr ⟨z, i, c, rd, re, by rw [← lineN_eq]; exact hl, q, PostE.now h' st rfl⟩)
      · rw [if_neg hl] at h'; exact h'.elim
    | _ => exact seq' h
  | _ => exact h.elim
theorem fe_ix (ha : FE X Wx a fa) (hc : FE X Wx c fc) (hs : PlainIx c := by exact fun _ _ => rfl) : FE X Wx (.Subscript a c pos) (op2 ixD fa fc) := PE.imp (pe_ix ix_seq ha hc hs) (tOp_of opS_ix)
theorem cut_eq (n d : Nat) (o : Option Int) (h : d ≤ n) : cutN n d o = HT.sIx n d o := by
  cases o with
  | none => rfl
  | some v =>
    show (if v < 0 then ((n : Int) + v).toNat else min n v.toNat) = if v < 0 then (v + (n : Int)).toNat else min v.toNat n
    rw [Int.add_comm, Nat.min_comm]
theorem cutD_eq (xs : List V) (lo hi : Option Int) : cutD xs lo hi = cutV xs lo hi := by
  unfold cutD cutV
  rw [cut_eq _ _ _ (Nat.zero_le _), cut_eq _ _ _ (Nat.le_refl _)]
theorem RpL.cut {b : B} {w : Wd} {ds : List D} {vs : List V} (lo hi : Option Int) (r : RpL b w ds vs) : RpL b w (cutD ds lo hi) (cutV vs lo hi) := by
  rw [← cutD_eq]
  unfold cutD
  rw [RpL.length r]
  exact RpL.take _ (RpL.drop _ r)
def SlS (b : B) (r : V → Option Int → Option Int → Hp → VK → Prop) : Prop := ∀ (Wx : WX) (σ : Sl) (w : Wd) (S : Store) (d : D) (x : V) (lo hi : Option Int) (Q : VK), StR b w S → Rp b w d x → PostE b Wx σ w (slD d lo hi S) Q → r x lo hi w.H Q
theorem slS : SlS (bX X) (fun x lo hi H Q => rSlA X.K x lo hi H Q ∨ rSlL X.K x lo hi H Q) := by
  intro Wx σ w S d x lo hi Q st rd h
  have lists : PostE (bX X) Wx σ w (slL d lo hi S) Q → rSlL X.K x lo hi w.H Q := fun h => by
    unfold slL at h
    cases q : lvf S d with
    | none => rw [q] at h; exact h.elim
    | some ds =>
      rw [q] at h
      obtain ⟨p, vs, rfl, t, r⟩ := lvf_at st q rd
      exact ⟨p, vs, rfl, t, fun u hu => PostE.newL h st (RpL.cut lo hi r) hu⟩
  cases d with
  | tup ds =>
    obtain ⟨p, vs, rfl, t, r⟩ := rd
    refine .inl ⟨p, vs, rfl, t.sq, fun hw => ?_, fun _ u hu => PostE.newT h st (RpL.cut lo hi r) hu⟩
    have e : cutV vs lo hi = vs := by
      unfold cutV
      rw [hw.1, hw.2]
      simp
    exact PostE.now h st (t.rp (by have := RpL.cut lo hi r; rw [e] at this; exact this))
  | _ => exact .inr (lists h)
/-- a slice's end -/
inductive FO (X : Cx) (Wx : WX) : Option Expr → (Env → M (Option Int)) → Prop
  | none : FO X Wx none fun _ => ret none
  | some {e : Expr} {f : SE} (h : FE X Wx e f) : FO X Wx (some e) fun ρ => bnd (f ρ) asInt
theorem fo_po {o : Option Expr} {f : Env → M (Option Int)} (h : FO X Wx o f) : ∃ t, PO X o t ∧ ∀ (σ : Sl) (w : Wd) (ρ : Env) (S : Store) (k : Option Int → M D) (Q : VK) (R : Option Int → Hp → Prop), EnvR (bX X) w ρ σ → StR (bX X) w S → PostE (bX X) Wx σ w (bnd (f ρ) k S) Q →
    (∀ w1 lo S1, Le w w1 → EnvR (bX X) w1 ρ σ → StR (bX X) w1 S1 → PostE (bX X) Wx σ w1 (k lo S1) Q → R lo w1.H) → t σ w.H R := by
  cases h with
  | none => exact ⟨_, po_none, fun σ w ρ S k Q R hE hS h hk => hk w Option.none S (Le.refl _) hE hS h⟩
  | @some e0 f he =>
    refine ⟨_, po_some he, fun σ w ρ S k Q R hE hS h hk => ?_⟩
    refine ⟨w, ρ, S, rfl, hE, hS, ?_⟩
    refine PostE.bind (P := fun w o => PostE (bX X) Wx σ w o Q) (fun _ _ l h => h.le l) (fun _ _ h => h) (fun h => h) (k := fun d => bnd (asInt d) k) (by
      unfold bnd at h ⊢
      dsimp only at h ⊢
      cases q : f ρ S with
      | ok d S1 => rw [q] at h; exact h
      | exn x S1 => rw [q] at h; exact h
      | stuck => rw [q] at h; exact h) fun w1 d v S1 l1 s1 r1 h1 => ?_
    cases d with
    | int i => exact ⟨i, r1, hk w1 (Option.some i) S1 l1 (hE.mono l1) s1 h1⟩
    | _ => exact h1.elim
theorem fe_slice {lo hi : Option Expr} {fl fh : Env → M (Option Int)} {p2 : Pos} (ha : FE X Wx a fa) (hl : FO X Wx lo fl) (hh : FO X Wx hi fh) : FE X Wx (.Subscript a (.Slice lo hi none p2) pos) (slE fa fl fh) := by
  obtain ⟨tl, pl, kl⟩ := fo_po hl
  obtain ⟨th, ph, kh⟩ := fo_po hh
  refine PE.imp (pe_slice (SlR.or sl_tupA sl_list) ha pl ph) fun σ H Q ⟨w, ρ, S, e, hE, hS, h⟩ => ?_
  subst e
  refine bindE hE hS h fun w1 d v S1 l1 e1 s1 r1 h1 => ?_
  refine kl σ w1 ρ S1 _ Q _ e1 s1 h1 fun w2 lo S2 l2 e2 s2 h2 => ?_
  refine kh σ w2 ρ S2 _ Q _ e2 s2 h2 fun w3 hi S3 l3 e3 s3 h3 => ?_
  exact slS Wx σ w3 S3 d v lo hi Q s3 (Rp.mono l3 _ _ (Rp.mono l2 _ _ r1)) h3
/-! ### built-in functions -/
/-- a built-in's rule by data -/
def CaS (b : B) (r : List V → Hp → VK → Prop) (g : List D → M D) : Prop := ∀ (Wx : WX) (σ : Sl) (w : Wd) (S : Store) (ds : List D) (vs : List V) (Q : VK), StR b w S → RpL b w ds vs → PostE b Wx σ w (g ds S) Q → r vs w.H Q
theorem fe_callB {x : Str} {p : Pos} {id : String} {e : Expr} {r : List V → Hp → VK → Prop} {g : List D → M D} (hc : CallR X (.builtin id) r) (hs : CaS (bX X) r g) (hm : X.mg x = none) (ha : FA X Wx (e :: es) fs) (hv : bootBuiltins x = some (.builtin id) := by decide +kernel) (hg : Gl X x := by rfl) (hn : x ≠ "__name__" := by decide) (hdb : (x == ("__debug__" : Str)) = false := by decide)
    (he : starEach (e :: es) X.env = (false, eval e X.env) :: starEach es X.env := by rfl) (hpl : (backTo pos (starEach es X.env)).any (·.1) = false := by rfl) : FE X Wx (.Call (.Name x p) (e :: es) [] pos) (appA fs g) :=
  PE.imp (pe_callB hc hg hm hv ha hn hdb he hpl) fun σ H Q ⟨w, ρ, S, e, hE, hS, h⟩ => by
    subst e
    exact bindAE hE hS h fun w1 d v S1 l1 e1 s1 r1 h1 => hs Wx σ w1 S1 d v Q s1 r1 h1
theorem fe_callT {x : Str} {p : Pos} {T : String} {e : Expr} {r : List V → Hp → VK → Prop} {g : List D → M D} (hc : CallR X (.type T) r) (hs : CaS (bX X) r g) (hm : X.mg x = none) (ha : FA X Wx (e :: es) fs) (hv : bootBuiltins x = some (.type T) := by decide +kernel) (hg : Gl X x := by rfl) (hn : x ≠ "__name__" := by decide) (hdb : (x == ("__debug__" : Str)) = false := by decide)
    (he : starEach (e :: es) X.env = (false, eval e X.env) :: starEach es X.env := by rfl) (hpl : (backTo pos (starEach es X.env)).any (·.1) = false := by rfl) : FE X Wx (.Call (.Name x p) (e :: es) [] pos) (appA fs g) :=
  PE.imp (pe_callTy hc hg hm hv ha hn hdb he hpl) fun σ H Q ⟨w, ρ, S, e, hE, hS, h⟩ => by
    subst e
    exact bindAE hE hS h fun w1 d v S1 l1 e1 s1 r1 h1 => hs Wx σ w1 S1 d v Q s1 r1 h1
theorem rpl1 {b : B} {w : Wd} {d : D} {vs : List V} (h : RpL b w [d] vs) : ∃ v, vs = [v] ∧ Rp b w d v := by
  obtain ⟨v, r, e, h1, h2⟩ := h
  cases (show r = [] from h2)
  exact ⟨v, e, h1⟩
theorem rpl2 {b : B} {w : Wd} {d e : D} {vs : List V} (h : RpL b w [d, e] vs) : ∃ v u, vs = [v, u] ∧ Rp b w d v ∧ Rp b w e u := by
  obtain ⟨v, r, e, h1, h2⟩ := h
  obtain ⟨u, rfl, h3⟩ := rpl1 h2
  exact ⟨v, u, e, h1, h3⟩
theorem caS1 {b : B} {r : List V → Hp → VK → Prop} {f : D → M D} (h : ∀ (Wx : WX) (σ : Sl) (w : Wd) (S : Store) (d : D) (v : V) (Q : VK), StR b w S → Rp b w d v → PostE b Wx σ w (f d S) Q → r [v] w.H Q) : CaS b r (g1 f) := by
  intro Wx σ w S ds vs Q st r h'
  match ds, r, h' with
  | [d], r, h' =>
    obtain ⟨v, rfl, r1⟩ := rpl1 r
    exact h Wx σ w S d v Q st r1 h'
  | [], _, h' => exact h'.elim
  | _ :: _ :: _, _, h' => exact h'.elim
theorem caS2 {b : B} {r : List V → Hp → VK → Prop} {f : D → D → M D} (h : ∀ (Wx : WX) (σ : Sl) (w : Wd) (S : Store) (d e : D) (v u : V) (Q : VK), StR b w S → Rp b w d v → Rp b w e u → PostE b Wx σ w (f d e S) Q → r [v, u] w.H Q) : CaS b r (g2 f) := by
  intro Wx σ w S ds vs Q st r h'
  match ds, r, h' with
  | [d, e], r, h' =>
    obtain ⟨v, u, rfl, r1, r2⟩ := rpl2 r
    exact h Wx σ w S d e v u Q st r1 r2 h'
  | [], _, h' => exact h'.elim
  | [_], _, h' => exact h'.elim
  | _ :: _ :: _ :: _, _, h' => exact h'.elim
/-! len -/
theorem fe_len {p : Pos} (ha : FA X Wx [a] fs) (hm : X.mg "len" = none) (hg : Gl X "len" := by rfl) (he : starEach [a] X.env = (false, eval a X.env) :: starEach [] X.env := by rfl) (hpl : (backTo pos (starEach [] X.env)).any (·.1) = false := by rfl) : FE X Wx (.Call (.Name "len" p) [a] [] pos) (appA fs (g1 lenD)) := by
  refine fe_callB call_len (caS1 fun Wx σ w S d v Q st r h => ?_) hm ha (hg := hg) (he := he) (hpl := hpl)
  have seq : PostE (bX X) Wx σ w (match sv S d with | some ds => Out.ok (.int ds.length) S | none => Out.stuck) Q → ∃ x n, [v] = [x] ∧ LenV X.K x w.H n ∧ Q (.int n) w.H := fun h => by
    cases q : sv S d with
    | none => rw [q] at h; exact h.elim
    | some ds =>
      rw [q] at h
      obtain ⟨p, vs, rfl, t, r⟩ := sv_at st q r
      rcases t with t | t
      · exact ⟨_, _, rfl, .inl ⟨vs, t, RpL.length r⟩, PostE.now h st rfl⟩
      · exact ⟨_, _, rfl, .inr ⟨vs, t, RpL.length r⟩, PostE.now h st rfl⟩
  cases d with
  | str z =>
    have h' : PostE (bX X) Wx σ w (if z.length ≤ lineN then .ok (.int z.length) S else .stuck) Q := h
    by_cases hl : z.length ≤ lineN
    · rw [if_pos hl] at h'
      cases (show v = .str z from r)
      exact ⟨_, z.length, rfl, ⟨by rw [← lineN_eq]; exact hl, rfl⟩, PostE.now h' st rfl⟩
    · rw [if_neg hl] at h'; exact h'.elim
  | _ => exact seq h
end
end F

set_option linter.all false
set_option maxRecDepth 100000
set_option maxHeartbeats 2000000
set_option autoImplicit false
namespace F
open PySem PySem.Spec PyProof.Rows L2
/-! ### the semantics of some built-ins -/
theorem ints_some : ∀ {ds : List D} {ns : List Int}, ints? ds = some ns → ds = ns.map D.int
  | [], ns, h => by cases (show ([] : List Int) = ns from Option.some.inj h); rfl
  | d :: ds, ns, h => by
    unfold ints? at h
    cases d with
    | int i =>
      cases q : ints? ds with
      | none => rw [q] at h; cases h
      | some r =>
        rw [q] at h
        cases (show i :: r = ns from Option.some.inj h)
        rw [List.map_cons, ← ints_some q]
    | _ => cases h
theorem ints_map : ∀ ns : List Int, ints? (ns.map D.int) = some ns
  | [] => rfl
  | n :: ns => by rw [List.map_cons]; unfold ints?; rw [ints_map ns]
theorem bls_some : ∀ {ds : List D} {ns : List Bool}, bls? ds = some ns → ds = ns.map D.bl
  | [], ns, h => by cases (show ([] : List Bool) = ns from Option.some.inj h); rfl
  | d :: ds, ns, h => by
    unfold bls? at h
    cases d with
    | bl i =>
      cases q : bls? ds with
      | none => rw [q] at h; cases h
      | some r =>
        rw [q] at h
        cases (show i :: r = ns from Option.some.inj h)
        rw [List.map_cons, ← bls_some q]
    | _ => cases h
theorem bls_map : ∀ ns : List Bool, bls? (ns.map D.bl) = some ns
  | [] => rfl
  | n :: ns => by rw [List.map_cons]; unfold bls?; rw [bls_map ns]
theorem maxI_mem : ∀ (n : Int) (ns : List Int), maxI (n :: ns) ∈ n :: ns ∧ ∀ y ∈ n :: ns, y ≤ maxI (n :: ns)
  | n, [] => ⟨List.mem_singleton.mpr rfl, fun y hy => by rw [List.mem_singleton.mp hy]; exact Int.le_refl _⟩
  | n, m :: ns => by
    obtain ⟨h1, h2⟩ := maxI_mem m ns
    show max n (maxI (m :: ns)) ∈ _ ∧ ∀ y ∈ _, y ≤ max n (maxI (m :: ns))
    refine ⟨?_, fun y hy => ?_⟩
    · by_cases h : n ≤ maxI (m :: ns)
      · rw [Int.max_eq_right h]; exact List.mem_cons_of_mem _ h1
      · rw [Int.max_eq_left (by omega)]; exact List.mem_cons_self
    · rcases List.mem_cons.mp hy with e | hy
      · rw [e]; exact Int.le_max_left _ _
      · exact Int.le_trans (h2 y hy) (Int.le_max_right _ _)
theorem minI_mem : ∀ (n : Int) (ns : List Int), minI (n :: ns) ∈ n :: ns ∧ ∀ y ∈ n :: ns, minI (n :: ns) ≤ y
  | n, [] => ⟨List.mem_singleton.mpr rfl, fun y hy => by rw [List.mem_singleton.mp hy]; exact Int.le_refl _⟩
  | n, m :: ns => by
    obtain ⟨h1, h2⟩ := minI_mem m ns
    show min n (minI (m :: ns)) ∈ _ ∧ ∀ y ∈ _, min n (minI (m :: ns)) ≤ y
    refine ⟨?_, fun y hy => ?_⟩
    · by_cases h : n ≤ minI (m :: ns)
      · rw [Int.min_eq_left h]; exact List.mem_cons_self
      · rw [Int.min_eq_right (by omega)]; exact List.mem_cons_of_mem _ h1
    · rcases List.mem_cons.mp hy with e | hy
      · rw [e]; exact Int.min_le_left _ _
      · exact Int.le_trans (Int.min_le_right _ _) (h2 y hy)
section
variable {X : Cx} {Wx : WX} {a c : Expr} {pos p : Pos} {fa fc : SE} {es : List Expr} {fs : SA}
theorem ofInts_at {b : B} {w : Wd} {S : Store} (st : StR b w S) {d : D} {v : V} {ds : List D} {ns : List Int} (q : lvf S d = some ds) (q2 : ints? ds = some ns) (r : Rp b w d v) : ∃ a, v = .ref a ∧ SqL b.K w.H a (ns.map V.int) := by
  obtain ⟨p, vs, rfl, t, r⟩ := lvf_at st q r
  rw [ints_some q2] at r
  rw [RpL.ints r] at t
  exact ⟨p, rfl, t⟩
theorem ofBls_at {b : B} {w : Wd} {S : Store} (st : StR b w S) {d : D} {v : V} {ds : List D} {ns : List Bool} (q : lvf S d = some ds) (q2 : bls? ds = some ns) (r : Rp b w d v) : ∃ a, v = .ref a ∧ SqL b.K w.H a (ns.map V.bl) := by
  obtain ⟨p, vs, rfl, t, r⟩ := lvf_at st q r
  rw [bls_some q2] at r
  rw [RpL.bls r] at t
  exact ⟨p, rfl, t⟩
theorem ca_sum : CaS (bX X) (rSum X.K) (g1 sumD) := caS1 fun Wx σ w S d v Q st r h => by
  unfold sumD ofInts at h
  cases q : lvf S d with
  | none => rw [q] at h; exact h.elim
  | some ds =>
    rw [q] at h
    dsimp only at h
    cases q2 : ints? ds with
    | none => rw [q2] at h; exact h.elim
    | some ns =>
      rw [q2] at h
      obtain ⟨p, rfl, t⟩ := ofInts_at st q q2 r
      exact ⟨p, ns, rfl, t, PostE.now h st rfl⟩
theorem ca_maxL : CaS (bX X) (rMax X.K) (g1 maxLD) := caS1 fun Wx σ w S d v Q st r h => by
  unfold maxLD at h
  cases q : lvf S d with
  | none => rw [q] at h; exact h.elim
  | some ds =>
    rw [q] at h
    dsimp only at h
    cases q2 : ints? ds with
    | none => rw [q2] at h; exact h.elim
    | some ns =>
      rw [q2] at h
      cases ns with
      | nil => exact h.elim
      | cons n ns =>
        obtain ⟨p, rfl, t⟩ := ofInts_at st q q2 r
        refine ⟨p, n :: ns, rfl, t, by simp, fun m hm h2 => ?_⟩
        obtain ⟨k1, k2⟩ := maxI_mem n ns
        rw [show m = maxI (n :: ns) from Int.le_antisymm (k2 m hm) (h2 _ k1)]
        exact PostE.now h st rfl
theorem ca_minL : CaS (bX X) (rMin X.K) (g1 minLD) := caS1 fun Wx σ w S d v Q st r h => by
  unfold minLD at h
  cases q : lvf S d with
  | none => rw [q] at h; exact h.elim
  | some ds =>
    rw [q] at h
    dsimp only at h
    cases q2 : ints? ds with
    | none => rw [q2] at h; exact h.elim
    | some ns =>
      rw [q2] at h
      cases ns with
      | nil => exact h.elim
      | cons n ns =>
        obtain ⟨p, rfl, t⟩ := ofInts_at st q q2 r
        refine ⟨p, n :: ns, rfl, t, by simp, fun m hm h2 => ?_⟩
        obtain ⟨k1, k2⟩ := minI_mem n ns
        rw [show m = minI (n :: ns) from Int.le_antisymm (h2 _ k1) (k2 m hm)]
        exact PostE.now h st rfl
theorem ca_all : CaS (bX X) (rAll X.K) (g1 allD) := caS1 fun Wx σ w S d v Q st r h => by
  unfold allD ofBls at h
  cases q : lvf S d with
  | none => rw [q] at h; exact h.elim
  | some ds =>
    rw [q] at h
    dsimp only at h
    cases q2 : bls? ds with
    | none => rw [q2] at h; exact h.elim
    | some ns =>
      rw [q2] at h
      obtain ⟨p, rfl, t⟩ := ofBls_at st q q2 r
      exact ⟨p, ns, rfl, t, PostE.now h st rfl⟩
theorem ca_any : CaS (bX X) (rAny X.K) (g1 anyD) := caS1 fun Wx σ w S d v Q st r h => by
  unfold anyD ofBls at h
  cases q : lvf S d with
  | none => rw [q] at h; exact h.elim
  | some ds =>
    rw [q] at h
    dsimp only at h
    cases q2 : bls? ds with
    | none => rw [q2] at h; exact h.elim
    | some ns =>
      rw [q2] at h
      obtain ⟨p, rfl, t⟩ := ofBls_at st q q2 r
      exact ⟨p, ns, rfl, t, PostE.now h st rfl⟩
theorem ca_abs : CaS (bX X) (fun xs H Q => ∃ i, xs = [.int i] ∧ Q (.int (if i < 0 then -i else i)) H) (g1 absD) := caS1 fun Wx σ w S d v Q st r h => by
  cases d with
  | int i => exact ⟨i, by rw [show v = .int i from r], PostE.now h st rfl⟩
  | _ => exact h.elim
theorem ca_int : CaS (bX X) (fun xs H Q => (∃ i, xs = [.int i] ∧ Q (.int i) H) ∨ ∃ k, xs = [.bl k] ∧ Q (.int (if k then 1 else 0)) H) (g1 intD) := caS1 fun Wx σ w S d v Q st r h => by
  cases d with
  | int i => exact .inl ⟨i, by rw [show v = .int i from r], PostE.now h st rfl⟩
  | bl k => exact .inr ⟨k, by rw [show v = .bl k from r], PostE.now h st rfl⟩
  | _ => exact h.elim
theorem ca_max2 : CaS (bX X) (fun xs H Q => ∃ i j, xs = [.int i, .int j] ∧ Q (.int (if j > i then j else i)) H) (g2 max2D) := caS2 fun Wx σ w S d e v u Q st r1 r2 h => by
  cases d with
  | int i => cases e with
    | int j => exact ⟨i, j, by rw [show v = .int i from r1, show u = .int j from r2], PostE.now h st rfl⟩
    | _ => exact h.elim
  | _ => exact h.elim
theorem ca_min2 : CaS (bX X) (fun xs H Q => ∃ i j, xs = [.int i, .int j] ∧ Q (.int (if j < i then j else i)) H) (g2 min2D) := caS2 fun Wx σ w S d e v u Q st r1 r2 h => by
  cases d with
  | int i => cases e with
    | int j => exact ⟨i, j, by rw [show v = .int i from r1, show u = .int j from r2], PostE.now h st rfl⟩
    | _ => exact h.elim
  | _ => exact h.elim
theorem ca_list : CaS (bX X) (fun xs H Q => ∃ p ys, xs = [.ref p] ∧ (SqL X.K H p ys ∨ SqT X.K H p ys) ∧ ∀ l, H l = none → Q (.ref l) (upd H l (.lst ys))) (g1 listD) := caS1 fun Wx σ w S d v Q st r h => by
  unfold listD at h
  cases q : sv S d with
  | none => rw [q] at h; exact h.elim
  | some ds =>
    rw [q] at h
    obtain ⟨p, vs, rfl, t, r⟩ := sv_at st q r
    exact ⟨p, vs, rfl, t, fun l hl => PostE.newL h st r hl⟩
theorem ca_listC : CaS (bX X) (fun xs H Q => ∃ p ys, xs = [.ref p] ∧ (SqL X.K H p ys ∨ SqT X.K H p ys) ∧ ∀ l, H l = none → Q (.ref l) (upd H l (.lst ys))) (g1 listC) := caS1 fun Wx σ w S d v Q st r h => by
  unfold listC at h
  cases q : sv S d with
  | none => rw [q] at h; exact h.elim
  | some ds =>
    rw [q] at h
    obtain ⟨p, vs, rfl, t, r⟩ := sv_at st q r
    exact ⟨p, vs, rfl, t, fun l hl => PostE.newC h st r hl⟩
theorem ca_tuple : CaS (bX X) (fun xs H Q => ∃ p ys, xs = [.ref p] ∧ ((SqL X.K H p ys ∧ ∀ l, H l = none → Q (.ref l) (upd H l (.tup ys))) ∨ (SqT X.K H p ys ∧ Q (.ref p) H))) (g1 tupleD) := caS1 fun Wx σ w S d v Q st r h => by
  unfold tupleD at h
  cases q : sv S d with
  | none => rw [q] at h; exact h.elim
  | some ds =>
    rw [q] at h
    by_cases ht : ∃ es, d = .tup es
    · obtain ⟨es, rfl⟩ := ht
      cases (show es = ds from Option.some.inj q)
      obtain ⟨p, vs, rfl, t, r⟩ := r
      exact ⟨p, vs, rfl, .inr ⟨t.sq, PostE.now h st (t.rp r)⟩⟩
    · have q' : lvf S d = some ds := by
        cases d <;> first | exact q | exact absurd ⟨_, rfl⟩ ht
      obtain ⟨p, vs, rfl, t, r⟩ := lvf_at st q' r
      exact ⟨p, vs, rfl, .inl ⟨t, fun l hl => PostE.newT h st r hl⟩⟩
/-! isinstance -/
theorem typ_of {b : B} {w : Wd} {S : Store} (st : StR b w S) {d : D} {v : V} {t : String} (h : typ S d = some t) (r : Rp b w d v) : TyX b.K w.H v (.type t) ∧ ["NoneType", "bool", "int", "str", "tuple", "list"].contains t = true := by
  cases d with
  | non => cases (show "NoneType" = t from Option.some.inj h); cases (show v = .non from r); exact ⟨.base .non, by decide⟩
  | bl k => cases (show "bool" = t from Option.some.inj h); cases (show v = .bl k from r); exact ⟨.base (.bl k), by decide⟩
  | int k => cases (show "int" = t from Option.some.inj h); cases (show v = .int k from r); exact ⟨.base (.int k), by decide⟩
  | str k => cases (show "str" = t from Option.some.inj h); cases (show v = .str k from r); exact ⟨.base (.str k), by decide⟩
  | tup ds =>
    cases (show "tuple" = t from Option.some.inj h)
    obtain ⟨p, vs, rfl, q, _⟩ := r
    refine ⟨?_, by decide⟩
    rcases q with ⟨_, q⟩ | ⟨o, its, n, q, c, _⟩
    · exact .base (.tup q)
    · exact .kTuple q c
  | lst ds =>
    cases (show "list" = t from Option.some.inj h)
    obtain ⟨p, vs, rfl, ⟨_, q⟩, _⟩ := r
    exact ⟨.base (.lst q), by decide⟩
  | frz ds =>
    cases (show "list" = t from Option.some.inj h)
    obtain ⟨p, vs, rfl, q, _⟩ := r
    refine ⟨?_, by decide⟩
    rcases q with ⟨_, o, q⟩ | ⟨o, its, n, q, c, _⟩
    · exact .base (.frz q)
    · exact .kList q c
  | ref n =>
    obtain ⟨p, h1, rfl⟩ := r
    obtain ⟨c, hc, h3⟩ := st.cell h1
    have h' : (match S[n]? with | some (.lst ds) => some "list" | _ => none) = some t := h
    rw [hc] at h'
    cases c with
    | lst es =>
      cases (show "list" = t from Option.some.inj h')
      obtain ⟨vs, e, _⟩ := h3
      exact ⟨.base (.lst e), by decide⟩
    | ins c fs => cases h'
  | _ => cases h
theorem kit_all : (["NoneType", "bool", "int", "str", "tuple", "list"].all fun a => ["int", "bool", "str", "tuple", "list", "dict"].all fun b => decide (kitB a b = some (isB a b))) = true := by decide +kernel
theorem kit_is {K : PySem.W.Frag} {a b : String} (ha : ["NoneType", "bool", "int", "str", "tuple", "list"].contains a = true) (hb : known b = true) : PySem.W.kitOne K (.type a) (.type b) = some (isB a b) := by
  refine kit_ty ?_
  have h := List.all_eq_true.mp kit_all a (by simpa using ha)
  have h2 := List.all_eq_true.mp h b (by simpa [known] using hb)
  exact of_decide_eq_true h2
theorem tyN_of {b : B} {w : Wd} {d : D} {v : V} {n : String} (h : tyN d = some n) (r : Rp b w d v) : v = .ty n ∧ known n = true := by
  cases d with
  | ty m =>
    have h' : (if known m then some m else none) = some n := h
    by_cases k : known m = true
    · rw [if_pos k] at h'
      cases (show m = n from Option.some.inj h')
      exact ⟨r, k⟩
    · rw [if_neg k] at h'; cases h'
  | _ => cases h
theorem tyNs_of {b : B} {w : Wd} : ∀ {ds : List D} {vs : List V} {ns : List String}, tyNs ds = some ns → RpL b w ds vs → Paired ClsV vs (ns.map Value.type) ∧ ∀ n ∈ ns, known n = true
  | [], vs, ns, h, r => by
    cases (show ([] : List String) = ns from Option.some.inj h)
    cases (show vs = [] from r)
    exact ⟨.nil, fun n hn => by simp at hn⟩
  | d :: ds, vs, ns, h, r => by
    obtain ⟨v, rs, rfl, r1, r2⟩ := r
    unfold tyNs at h
    cases q : tyN d with
    | none => rw [q] at h; cases h
    | some n =>
      cases q2 : tyNs ds with
      | none => rw [q, q2] at h; cases h
      | some ms =>
        rw [q, q2] at h
        cases (show n :: ms = ns from Option.some.inj h)
        obtain ⟨h1, h2⟩ := tyNs_of q2 r2
        obtain ⟨rfl, k⟩ := tyN_of q r1
        exact ⟨.cons (.ty n) h1, fun m hm => (List.mem_cons.mp hm).elim (fun e => e ▸ k) (h2 m)⟩
theorem kit_any {K : PySem.W.Frag} {t : String} (ht : ["NoneType", "bool", "int", "str", "tuple", "list"].contains t = true) : ∀ {ns : List String}, (∀ n ∈ ns, known n = true) → PySem.W.kitAny K (.type t) (ns.map Value.type) = some (ns.any fun n => isB t n)
  | [], _ => rfl
  | n :: ns, h => by
    have h1 := kit_is (K := K) ht (h n List.mem_cons_self)
    refine kitAny_cons h1 (fun e => ?_) fun e => ?_
    · rw [kit_any ht fun m hm => h m (List.mem_cons_of_mem _ hm)]
      rw [List.any_cons, e, Bool.false_or]
    · rw [List.any_cons, e, Bool.true_or]
theorem ca_isi : CaS (bX X) (fun xs H Q => rIsi X.K xs H Q ∨ (rIsiT X.K xs H Q ∨ rIsiK X.K xs H Q)) (g2 isiD) := caS2 fun Wx σ w S d c v u Q st r1 r2 h => by
  unfold isiD at h
  cases q : typ S d with
  | none => rw [q] at h; exact h.elim
  | some t =>
    rw [q] at h
    dsimp only at h
    obtain ⟨ht, hk⟩ := typ_of st q r1
    by_cases hc : ∃ cs, c = .tup cs
    · obtain ⟨cs, rfl⟩ := hc
      dsimp only at h
      cases q2 : tyNs cs with
      | none => rw [q2] at h; exact h.elim
      | some ns =>
        rw [q2] at h
        obtain ⟨p, vs, rfl, t2, r3⟩ := r2
        obtain ⟨k1, k2⟩ := tyNs_of q2 r3
        rcases t2 with ⟨_, t2⟩ | ⟨o, its, n, t2, oc, od, _, rv⟩
        · exact .inr (.inl ⟨v, p, vs, _, _, _, rfl, t2, k1, ht, kit_any hk k2, PostE.now h st rfl⟩)
        · obtain ⟨oc', odd, odt, osl⟩ := o
          simp only at oc od
          subst oc od
          have e3 := ClsV.all k1 rv
          exact .inr (.inr ⟨v, p, odd, ns.map Value.type, n, osl, _, _, rfl, by rw [t2, ← e3], ht, kit_any hk k2, PostE.now h st rfl⟩)
    · have h' : PostE (bX X) Wx σ w (match tyN c with | some n => Out.ok (.bl (isB t n)) S | none => Out.stuck) Q := by
        cases c <;> first | exact h | exact absurd ⟨_, rfl⟩ hc
      cases q2 : tyN c with
      | none => rw [q2] at h'; exact h'.elim
      | some n =>
        rw [q2] at h'
        obtain ⟨rfl, k⟩ := tyN_of q2 r2
        exact .inl ⟨v, .ty n, _, _, _, rfl, .ty n, ht, kit_is hk k, PostE.now h' st rfl⟩
end
end F

set_option linter.all false
set_option maxRecDepth 100000
set_option maxHeartbeats 2000000
set_option autoImplicit false
namespace F
open PySem PySem.Spec PyProof.Rows L2
theorem callR_or {X : Cx} {f : Value} {r r' : List V → Hp → VK → Prop} (h : CallR X f r) (h' : CallR X f r') : CallR X f (fun xs H Q => r xs H Q ∨ r' xs H Q) := by
  intro pins s σ H vs us Q I rv q
  rcases q with q | q
  · exact h pins s σ H vs us Q I rv q
  · exact h' pins s σ H vs us Q I rv q
theorem callR_isi {X : Cx} : CallR X (.builtin "isinstance") (fun xs H Q => rIsi X.K xs H Q ∨ (rIsiT X.K xs H Q ∨ rIsiK X.K xs H Q)) := callR_or call_isi (callR_or call_isiT call_isiK)
/-! ### a def, by what it reckons -/
def PostF (b : B) (w : Wd) (o : Out D) (Q : VK) (E : XK) : Prop := match o with
  | .ok d S => ∀ w' v, Le w w' → StR b w' S → Rp b w' d v → Q v w'.H
  | .exn x S => ∀ w' cls dd, Le w w' → StR b w' S → XnR b w' x cls dd → E cls dd w'.H
  | .stuck => False
def spOf (b : B) (n : Nat) (g : List D → M D) : Sp := fun vs H Q E => vs.length = n ∧ ∃ w ds S, w.H = H ∧ RpL b w ds vs ∧ StR b w S ∧ PostF b w (g ds S) Q E
/-- the def x reckons g of its n arguments, within level k -/
structure DefOk (P : Program) (w : World) (K : PySem.W.Frag) (mg : Str → Option Value) (base : Heap) (x : Str) (k n : Nat) (g : List D → M D) : Prop where
  ex : ∃ (f : Addr) (fd : FuncData) (ps : List Str), ps.length = n ∧ FnOk P w K mg base (L2.CX P w) k f fd ps (spOf ⟨K, mg⟩ n g) ∧ mg x = some (.ref f) ∧ PySem.W.keepIn K (.ref f) = true ∧ Binds K fd ps []
theorem DefOk.mono {P : Program} {w : World} {K : PySem.W.Frag} {mg : Str → Option Value} {base : Heap} {x : Str} {j k n : Nat} {g : List D → M D} (h : DefOk P w K mg base x j n g) (hk : j ≤ k) : DefOk P w K mg base x k n g := by
  obtain ⟨f, fd, ps, h1, h2, h3⟩ := h.ex
  exact ⟨f, fd, ps, h1, h2.mono hk, h3⟩
/-- another function that is the same wherever it is not stuck -/
theorem DefOk.imp {P : Program} {w : World} {K : PySem.W.Frag} {mg : Str → Option Value} {base : Heap} {x : Str} {k n : Nat} {g g' : List D → M D} (h : DefOk P w K mg base x k n g) (hg : ∀ ds S, g' ds S = .stuck ∨ g ds S = g' ds S) : DefOk P w K mg base x k n g' := by
  obtain ⟨f, fd, ps, h1, h2, h3⟩ := h.ex
  refine ⟨f, fd, ps, h1, h2.imp fun vs H Q E ⟨hl, w1, ds, S, e1, e2, e3, e4⟩ => ?_, h3⟩
  refine ⟨hl, w1, ds, S, e1, e2, e3, ?_⟩
  rcases hg ds S with z | z
  · rw [z] at e4; exact e4.elim
  · rw [z]; exact e4
section
variable {X : Cx} {Wx : WX} {x : Str} {p pos : Pos} {e : Expr} {es : List Expr} {fs : SA} {k n : Nat} {g : List D → M D}
theorem fe_call (C : DefOk X.prog X.w X.K X.mg X.base x k n g) (hr : Room k X.A) (tk : Takes X Wx) (ha : FA X Wx (e :: es) fs) (hg : Gl X x := by rfl)
    (hdb : (x == ("__debug__" : Str)) = false := by decide) (he : starEach (e :: es) X.env = (false, eval e X.env) :: starEach es X.env := by rfl) (hpl : (backTo pos (starEach es X.env)).any (·.1) = false := by rfl) :
    FE X Wx (.Call (.Name x p) (e :: es) [] pos) (appA fs fun ds S => if ds.length = n then g ds S else .stuck) := by
  obtain ⟨f, fd, ps, hn, F, hm, hk, hb⟩ := C.ex
  refine PE.imp (pe_callS (E := fun σ => WE Wx σ) F hr hg hm hk hb (fun σ => passAt tk σ) ha hdb he hpl) fun σ H Q ⟨w, ρ, S, e, hE, hS, h⟩ => ?_
  subst e
  refine bindAE hE hS h fun w1 d v S1 l1 e1 s1 r1 h1 => ?_
  by_cases hl : d.length = n
  · rw [if_pos hl] at h1
    refine ⟨by rw [← RpL.length r1]; exact hl, w1, d, S1, rfl, r1, s1, ?_⟩
    cases q : g d S1 with
    | ok z S2 => rw [q] at h1; exact h1
    | exn z S2 => rw [q] at h1; exact h1
    | stuck => rw [q] at h1; exact h1.elim
  · rw [if_neg hl] at h1; exact h1.elim
end
end F

set_option linter.all false
set_option maxRecDepth 100000
set_option maxHeartbeats 2000000
set_option autoImplicit false
namespace F
open PySem PySem.Spec PyProof.Rows L2
abbrev D_ := D
/-! ### targets: a name, a tuple of names -/
section
variable {b : B} {w : Wd}
theorem EnvR.set {ρ : Env} {σ : Sl} (h : EnvR b w ρ σ) (i : Nat) {d : D} {v : V} (r : Rp b w d v) : EnvR b w (ρ.set i (some d)) (σ.set i (some v)) := by
  refine ⟨by simp [h.len], fun j d' e => ?_⟩
  by_cases q : i = j
  · subst q
    have hl : i < (ρ.set i (some d)).length := (List.getElem?_eq_some_iff.mp e).1
    rw [List.length_set] at hl
    rw [List.getElem?_set_self hl] at e
    cases e
    exact ⟨v, by rw [List.getElem?_set_self (by rw [← h.len]; exact hl)], r⟩
  · rw [List.getElem?_set_ne q] at e
    obtain ⟨u, h1, h2⟩ := h.at_ j d' e
    exact ⟨u, by rw [List.getElem?_set_ne q]; exact h1, h2⟩
theorem EnvR.setA : ∀ {is : List Nat} {ds : List D} {vs : List V} {ρ : Env} {σ : Sl}, EnvR b w ρ σ → RpL b w ds vs → EnvR b w (setAll is ds ρ) (setAll is vs σ)
  | [], ds, vs, ρ, σ, h, r => by
    cases ds <;> cases vs <;> exact h
  | i :: is, [], vs, ρ, σ, h, r => by
    cases (show vs = [] from r)
    exact h
  | i :: is, d :: ds, vs, ρ, σ, h, r => by
    obtain ⟨v, rs, rfl, r1, r2⟩ := r
    show EnvR b w (setAll is ds (ρ.set i (some d))) (setAll is rs (σ.set i (some v)))
    exact EnvR.setA (h.set i r1) r2
end
theorem wipe_set {σ : Sl} {i : Nat} {x : Option V} : ∀ {vs : List Nat}, i ∈ vs → wipe (σ.set i x) vs = wipe σ vs := by
  intro vs
  induction vs with
  | nil => intro h; simp at h
  | cons j vs ih =>
    intro h
    show (wipe (σ.set i x) vs).set j none = (wipe σ vs).set j none
    by_cases q : i ∈ vs
    · rw [ih q]
    · have e : i = j := (List.mem_cons.mp h).resolve_right q
      subst e
      clear ih h
      have : ∀ vs : List Nat, i ∉ vs → wipe (σ.set i x) vs = (wipe σ vs).set i x := by
        intro vs
        induction vs with
        | nil => intro _; rfl
        | cons k vs ih =>
          intro hk
          show (wipe (σ.set i x) vs).set k none = ((wipe σ vs).set k none).set i x
          rw [ih (fun z => hk (List.mem_cons_of_mem _ z)), List.set_comm _ _ (fun z => hk (by rw [z]; exact List.mem_cons_self))]
      rw [this vs q, List.set_set]
theorem wipe_setAll {vs : List Nat} : ∀ {is : List Nat} {us : List V} {σ : Sl}, (∀ i ∈ is, i ∈ vs) → wipe (setAll is us σ) vs = wipe σ vs
  | [], us, σ, _ => by cases us <;> rfl
  | i :: is, [], σ, _ => rfl
  | i :: is, u :: us, σ, h => by
    show wipe (setAll is us (σ.set i (some u))) vs = _
    rw [wipe_setAll fun j hj => h j (List.mem_cons_of_mem _ hj), wipe_set (h i List.mem_cons_self)]
def gNames : List Nat → TGs
  | [] => gNil
  | i :: is => gCons (gName i) (gNames is)
def tgG (K : PySem.W.Frag) : Tg → TG
  | .name i => gName i
  | .tup is => gTup K is.length (gNames is)
theorem wipe_none {σ : Sl} {i : Nat} : ∀ {vs : List Nat}, i ∈ vs → (wipe σ vs).set i none = wipe σ vs := by
  intro vs
  induction vs with
  | nil => intro h; simp at h
  | cons j vs ih =>
    intro h
    show ((wipe σ vs).set j none).set i none = (wipe σ vs).set j none
    by_cases q : i = j
    · rw [q, List.set_set]
    · rw [List.set_comm _ _ (Ne.symm q), ih ((List.mem_cons.mp h).resolve_left q)]
theorem wipe_sub {σ : Sl} {vs : List Nat} : ∀ us : List Nat, (∀ i ∈ us, i ∈ vs) → wipe (wipe σ vs) us = wipe σ vs
  | [], _ => rfl
  | u :: us, h => by
    show (wipe (wipe σ vs) us).set u none = _
    rw [wipe_sub us fun i hi => h i (List.mem_cons_of_mem _ hi), wipe_none (h u List.mem_cons_self)]
theorem wipe_wipe {σ : Sl} {vs : List Nat} : wipe (wipe σ vs) vs = wipe σ vs := wipe_sub vs fun _ h => h
/-- the target stores at t's slots -/
abbrev FG (X : Cx) (tg : Expr) (t : Tg) : Prop := PG X tg (tgG X.K t)
theorem gNames_of : ∀ (is : List Nat) (σ : Sl) (H : Hp) (vs : List V) (Q : Sl → Hp → Prop), vs.length = is.length → Q (setAll is vs σ) H → gNames is vs σ H Q
  | [], σ, H, vs, Q, hl, q => by
    have : vs = [] := List.eq_nil_of_length_eq_zero hl
    subst this
    exact ⟨rfl, q⟩
  | i :: is, σ, H, vs, Q, hl, q => by
    cases vs with
    | nil => simp at hl
    | cons v vs => exact ⟨v, vs, rfl, gNames_of is _ H vs Q (by simpa using hl) q⟩
theorem tg_of {b : B} {t : Tg} {σ : Sl} {w : Wd} {d : D} {v : V} {ρ ρ' : Env} (hE : EnvR b w ρ σ) (r : Rp b w d v) (e : tgD t d ρ = some ρ') :
    ∃ σ', EnvR b w ρ' σ' ∧ (∀ vs, (∀ i ∈ t.slots, i ∈ vs) → wipe σ' vs = wipe σ vs) ∧ ∀ Q : Sl → Hp → Prop, Q σ' w.H → tgG b.K t v σ w.H Q := by
  cases t with
  | name i =>
    cases (show ρ.set i (some d) = ρ' from Option.some.inj e)
    exact ⟨σ.set i (some v), hE.set i r, fun vs h => wipe_set (h i (by simp [Tg.slots])), fun Q q => q⟩
  | tup is =>
    cases d with
    | tup ds =>
      have e' : (if ds.length = is.length then some (setAll is ds ρ) else none) = some ρ' := e
      by_cases hl : ds.length = is.length
      · rw [if_pos hl] at e'
        cases (show setAll is ds ρ = ρ' from Option.some.inj e')
        obtain ⟨a, vs, rfl, t, r⟩ := r
        have hl2 : vs.length = is.length := by rw [← RpL.length r]; exact hl
        exact ⟨setAll is vs σ, hE.setA r, fun us h => wipe_setAll h, fun Q q => ⟨a, vs, rfl, t.sq, hl2, gNames_of is σ w.H vs Q hl2 q⟩⟩
      · rw [if_neg hl] at e'; cases e'
    | _ => cases e
section
variable {X : Cx}
theorem fg_name {x : Str} {pos : Pos} (i : Nat) (hN : X.N.Nodup) (hi : X.N[i]? = some x := by rfl) (hx : Loc X.env.scope x := by first | exact Or.inl rfl | exact Or.inr rfl) (hf : X.fn x = true ∨ X.env.scope.names.lookup x = some .local := by first | exact .inl rfl | exact .inr rfl) : FG X (.Name x pos) (.name i) := pg_name hN hi hx hf
abbrev FGs (X : Cx) (ts : List Expr) (is : List Nat) : Prop := PGs X ts (gNames is)
theorem fgs_nil : FGs X [] [] := pgs_nil
theorem fgs_cons {x : Str} {pos : Pos} {es : List Expr} {is : List Nat} (i : Nat) (hN : X.N.Nodup) (h : FGs X es is) (hi : X.N[i]? = some x := by rfl) (hx : Loc X.env.scope x := by first | exact Or.inl rfl | exact Or.inr rfl) (hf : X.fn x = true ∨ X.env.scope.names.lookup x = some .local := by first | exact .inl rfl | exact .inr rfl)
    (hs : (assignEach (.Name x pos :: es) X.env).map (·.2) = assign (.Name x pos) X.env :: (assignEach es X.env).map (·.2) := by rfl) : FGs X (.Name x pos :: es) (i :: is) := pgs_cons (pg_name hN hi hx hf) h hs
theorem fg_tup {es : List Expr} {k : Nat} {is : List Nat} {pos : Pos} (hc : X.calm = true) (h : FGs X es is) (hn : (assignEach es X.env).length = is.length := by rfl) (hst : (assignEach es X.env).findIdx? (·.1) = none := by rfl) : FG X (.Tuple es k pos) (.tup is) := pg_tup hc h hn hst
end
/-! ### what is walked -/
/-- J yields ds -/
def ItOk (b : B) (J : It) (ds : List D) (w1 : Wd) : Prop := ∀ (i : Nat) (w2 : Wd), Mo w1 w2 → (∀ p, w2.H p = none → Fz w2 p) → (∀ d, ds[i]? = some d → J.go i w2.H ∧ ∀ x H', J.yld i w2.H x H' → ∃ w3, w3.H = H' ∧ (w3 = w2 ∨ ∃ p o, w2.H p = none ∧ w3 = w2.up p o) ∧ Rp b w3 d x) ∧ (i = ds.length → J.stop i w2.H)
def PostI (b : B) (Wx : WX) (σ : Sl) (w : Wd) (o : Out (List D)) (R : It → Hp → Prop) : Prop := match o with
  | .ok ds S => ∀ w' J, Le w w' → StR b w' S → ItOk b J ds w' → R J w'.H
  | .exn x S => ∀ w' cls dd, Le w w' → StR b w' S → XnR b w' x cls dd → Wx cls dd σ w'.H
  | .stuck => False
structure FI (X : Cx) (Wx : WX) (tg iter : Expr) (fi : SA) : Prop where
  ex : ∃ wi, PI X tg iter wi ∧ ∀ (σ : Sl) (w : Wd) (ρ : Env) (S : Store) (R : It → Hp → Prop), EnvR (bX X) w ρ σ → StR (bX X) w S → PostI (bX X) Wx σ w (fi ρ S) R → wi σ w.H R
section
variable {b : B} {Wx : WX} {σ : Sl} {w w' : Wd}
theorem PostI.le {o : Out (List D)} {R : It → Hp → Prop} (l : Le w w') (h : PostI b Wx σ w o R) : PostI b Wx σ w' o R := by
  cases o with
  | ok d S => exact fun w2 v m => h w2 v (l.trans m)
  | exn x S => exact fun w2 c d m => h w2 c d (l.trans m)
  | stuck => exact h
theorem bindEI {f : SE} {k : D → M (List D)} {ρ : Env} {S : Store} {R : VK} {Q : It → Hp → Prop} (hE : EnvR b w ρ σ) (hS : StR b w S) (h : PostI b Wx σ w (bnd (f ρ) k S) Q)
    (hk : ∀ w1 d v S1, Le w w1 → EnvR b w1 ρ σ → StR b w1 S1 → Rp b w1 d v → PostI b Wx σ w1 (k d S1) Q → R v w1.H) : tE b Wx f σ w.H R := by
  refine ⟨w, ρ, S, rfl, hE, hS, ?_⟩
  unfold bnd at h
  cases q : f ρ S with
  | ok d S1 =>
    rw [q] at h
    exact fun w1 v l st r => hk w1 d v S1 l (hE.mono l) st r (PostI.le l h)
  | exn x S1 => rw [q] at h; exact h
  | stuck => rw [q] at h; exact h
theorem bindAI {f : SA} {k : List D → M (List D)} {ρ : Env} {S : Store} {R : List V → Hp → Prop} {Q : It → Hp → Prop} (hE : EnvR b w ρ σ) (hS : StR b w S) (h : PostI b Wx σ w (bnd (f ρ) k S) Q)
    (hk : ∀ w1 d v S1, Le w w1 → EnvR b w1 ρ σ → StR b w1 S1 → RpL b w1 d v → PostI b Wx σ w1 (k d S1) Q → R v w1.H) : tA b Wx f σ w.H R := by
  refine ⟨w, ρ, S, rfl, hE, hS, ?_⟩
  unfold bnd at h
  cases q : f ρ S with
  | ok d S1 =>
    rw [q] at h
    exact fun w1 v l st r => hk w1 d v S1 l (hE.mono l) st r (PostI.le l h)
  | exn x S1 => rw [q] at h; exact h
  | stuck => rw [q] at h; exact h
end
section
variable {X : Cx} {Wx : WX} {tg a c : Expr} {pos p : Pos} {fa fc : SE} {fs : SA}
theorem sqL_still {b : B} {w1 w2 : Wd} {a : Addr} {vs : List V} (m : Mo w1 w2) (h : LstAt w1 a vs ∨ FrzAt b w1 a vs) : SqL b.K w2.H a vs := by
  rcases h with ⟨n, h⟩ | ⟨n, o, h⟩ | h
  · exact .inl (.inl (m.fz _ _ h n).2)
  · exact .inl (.inr ⟨o, (m.fz _ _ h n).2⟩)
  · exact .inr h
theorem itl_ok {b : B} {w1 : Wd} {a : Addr} {vs : List V} {ds : List D} (h : LstAt w1 a vs ∨ FrzAt b w1 a vs) (r : RpL b w1 ds vs) : ItOk b (Itl b.K a) ds w1 := by
  intro i w2 m _
  have hs : SqL b.K w2.H a vs := sqL_still m h
  refine ⟨fun d e => ?_, fun e => ⟨vs, hs, by rw [e, RpL.length r]; exact Nat.le_refl _⟩⟩
  obtain ⟨v, h1, h2⟩ := RpL.get r e
  refine ⟨⟨vs, v, hs, h1⟩, fun x H' ⟨e1, e2⟩ => ⟨w2, e1.symm, .inl rfl, ?_⟩⟩
  have := e2 vs hs
  rw [h1] at this; cases this
  exact Rp.mo m d v h2
theorem tup_still {b : B} {w1 w2 : Wd} {a : Addr} {vs : List V} (m : Mo w1 w2) (h : TupAt b w1 a vs) : SqT b.K w2.H a vs := by
  rcases h with ⟨n, h⟩ | h
  · exact .inl (.inl (m.fz _ _ h n).2)
  · exact .inr h
theorem itt_ok {b : B} {w1 : Wd} {a : Addr} {vs : List V} {ds : List D} (h : TupAt b w1 a vs) (r : RpL b w1 ds vs) : ItOk b (Itt b.K a) ds w1 := by
  intro i w2 m _
  have hs : SqT b.K w2.H a vs := tup_still m h
  refine ⟨fun d e => ?_, fun e => ⟨vs, hs, by rw [e, RpL.length r]; exact Nat.le_refl _⟩⟩
  obtain ⟨v, h1, h2⟩ := RpL.get r e
  refine ⟨⟨vs, v, hs, h1⟩, fun x H' ⟨e1, e2⟩ => ⟨w2, e1.symm, .inl rfl, ?_⟩⟩
  have := e2 vs hs
  rw [h1] at this; cases this
  exact Rp.mo m d v h2
theorem itr_ok {b : B} {w1 : Wd} (lo : Int) (n : Nat) : ItOk b (Itr lo n) ((List.range n).map fun k => D.int (lo + (k : Nat))) w1 := by
  intro i w2 m _
  refine ⟨fun d e => ?_, fun e => by rw [e, List.length_map, List.length_range]; exact Nat.le_refl n⟩
  rw [List.getElem?_map] at e
  cases q : (List.range n)[i]? with
  | none => rw [q] at e; cases e
  | some k =>
    rw [q] at e
    obtain ⟨hi, he⟩ := List.getElem?_eq_some_iff.mp q
    rw [List.length_range] at hi
    rw [List.getElem_range] at he
    subst he
    cases (show D.int (lo + (i : Nat)) = d from Option.some.inj e)
    exact ⟨hi, fun x H' ⟨e1, e2⟩ => ⟨w2, e1.symm, .inl rfl, e2⟩⟩
theorem its_ok {b : B} {w1 : Wd} (z : Str) : ItOk b (Its z) (z.cps.toList.map fun c => D.str ⟨#[c]⟩) w1 := by
  intro i w2 m _
  refine ⟨fun d e => ?_, fun e => by rw [e, List.length_map, Array.length_toList]; exact Nat.le_refl _⟩
  rw [List.getElem?_map] at e
  cases q : z.cps.toList[i]? with
  | none => rw [q] at e; cases e
  | some c =>
    rw [q] at e
    obtain ⟨hi, he⟩ := List.getElem?_eq_some_iff.mp q
    rw [Array.length_toList] at hi
    cases (show D.str ⟨#[c]⟩ = d from Option.some.inj e)
    refine ⟨hi, fun x H' ⟨e1, c', e2, e3⟩ => ⟨w2, e1.symm, .inl rfl, ?_⟩⟩
    have : z.cps[i]? = some c := by rw [← Array.getElem?_toList]; exact q
    rw [this] at e2
    cases e2
    exact e3
theorem pi_or {wi wj : TI} (h : PI X tg a wi) (h' : PI X tg a wj) : PI X tg a (fun σ H R => wi σ H R ∨ wj σ H R) :=
  ⟨fun pins s σ H R I q => q.elim (h.run pins s σ H R I) (h'.run pins s σ H R I)⟩
theorem fi_seq (ha : FE X Wx a fa) : FI X Wx tg a (itE fa) := by
  refine ⟨_, pi_or (pi_str ha) (pi_or (pi_list ha) (pi_tup ha)), fun σ w ρ S R hE hS h => ?_⟩
  -- which of the two: by what the value is
  unfold itE at h
  have h' := h
  unfold bnd at h'
  cases q : fa ρ S with
  | ok d S1 =>
    rw [q] at h'
    have lists : (∃ ds, d = .lst ds ∨ d = .frz ds) → iList X.K (tE (bX X) Wx fa) σ w.H R := fun hd => by
      refine ⟨w, ρ, S, rfl, hE, hS, ?_⟩
      rw [q]
      intro w1 v l st r
      rcases hd with ⟨ds, rfl | rfl⟩
      · obtain ⟨p, vs, rfl, t, r⟩ := r
        exact ⟨p, rfl, ⟨vs, t.sq⟩, h' w1 _ l st (itl_ok (.inl t) r)⟩
      · obtain ⟨p, vs, rfl, t, r⟩ := r
        exact ⟨p, rfl, ⟨vs, t.sq⟩, h' w1 _ l st (itl_ok (.inr t) r)⟩
    cases d with
    | str z =>
      refine .inl ⟨w, ρ, S, rfl, hE, hS, ?_⟩
      rw [q]
      intro w1 v l st r
      cases (show v = .str z from r)
      exact ⟨z, rfl, h' w1 _ l st (its_ok z)⟩
    | lst ds => exact .inr (.inl (lists ⟨ds, .inl rfl⟩))
    | frz ds => exact .inr (.inl (lists ⟨ds, .inr rfl⟩))
    | tup ds =>
      refine .inr (.inr ⟨w, ρ, S, rfl, hE, hS, ?_⟩)
      rw [q]
      intro w1 v l st r
      obtain ⟨p, vs, rfl, t, r⟩ := r
      exact ⟨p, rfl, ⟨vs, t.sq⟩, h' w1 _ l st (itt_ok t r)⟩
    | _ => exact h'.elim
  | exn x S1 =>
    rw [q] at h'
    refine .inl ⟨w, ρ, S, rfl, hE, hS, ?_⟩
    rw [q]
    exact h'
  | stuck => rw [q] at h'; exact h'.elim
theorem fi_range1 (hm : X.mg "range" = none) (ha : FA X Wx [a] fs) (hg : Gl X "range" := by rfl) (hs : starEach [a] X.env = [(false, eval a X.env)] := by rfl) : FI X Wx tg (.Call (.Name "range" p) [a] [] pos) (appA fs itR1) := by
  refine ⟨_, pi_range1 hg hm ha hs, fun σ w ρ S R hE hS h => ?_⟩
  refine bindAI hE hS h fun w1 ds vs S1 l1 e1 s1 r1 h1 => ?_
  match ds, r1, h1 with
  | [.int j], r1, h1 =>
    obtain ⟨v, rfl, r2⟩ := rpl1 r1
    cases (show v = .int j from r2)
    have h1' : PostI (bX X) Wx σ w1 (if -(2 ^ 62) ≤ j ∧ j < 2 ^ 62 then .ok ((List.range j.toNat).map fun i => D.int (i : Nat)) S1 else .stuck) R := h1
    by_cases hj : -(2 ^ 62) ≤ j ∧ j < 2 ^ 62
    · rw [if_pos hj] at h1'
      refine ⟨j, rfl, hj.1, hj.2, h1' w1 _ (Le.refl _) s1 ?_⟩
      have := itr_ok (b := bX X) (w1 := w1) 0 j.toNat
      simpa using this
    · rw [if_neg hj] at h1'; exact h1'.elim
  | [], _, h1 => exact h1.elim
  | .non :: _, _, h1 => exact h1.elim
  | .bl _ :: _, _, h1 => exact h1.elim
  | .str _ :: _, _, h1 => exact h1.elim
  | .ty _ :: _, _, h1 => exact h1.elim
  | .tup _ :: _, _, h1 => exact h1.elim
  | .lst _ :: _, _, h1 => exact h1.elim
  | .frz _ :: _, _, h1 => exact h1.elim
  | .ins _ _ :: _, _, h1 => exact h1.elim
  | .ref _ :: _, _, h1 => exact h1.elim
  | .int _ :: _ :: _, _, h1 => exact h1.elim
theorem fi_range2 (hm : X.mg "range" = none) (ha : FA X Wx [a, c] fs) (hg : Gl X "range" := by rfl) (hs : starEach [a, c] X.env = [(false, eval a X.env), (false, eval c X.env)] := by rfl) (hs2 : starEach [c] X.env = [(false, eval c X.env)] := by rfl) : FI X Wx tg (.Call (.Name "range" p) [a, c] [] pos) (appA fs itR2) := by
  refine ⟨_, pi_range2 hg hm ha hs hs2, fun σ w ρ S R hE hS h => ?_⟩
  refine bindAI hE hS h fun w1 ds vs S1 l1 e1 s1 r1 h1 => ?_
  by_cases q : ∃ i j, ds = [.int i, .int j]
  · obtain ⟨i, j, rfl⟩ := q
    obtain ⟨v, u, rfl, r2, r3⟩ := rpl2 r1
    cases (show v = .int i from r2)
    cases (show u = .int j from r3)
    have h1' : PostI (bX X) Wx σ w1 (if -(2 ^ 62) ≤ i ∧ i < 2 ^ 62 ∧ -(2 ^ 62) ≤ j ∧ j < 2 ^ 62 then .ok ((List.range (j - i).toNat).map fun k => D.int (i + (k : Nat))) S1 else .stuck) R := h1
    by_cases hj : -(2 ^ 62) ≤ i ∧ i < 2 ^ 62 ∧ -(2 ^ 62) ≤ j ∧ j < 2 ^ 62
    · rw [if_pos hj] at h1'
      exact ⟨i, j, rfl, hj, h1' w1 _ (Le.refl _) s1 (itr_ok (b := bX X) (w1 := w1) i (j - i).toNat)⟩
    · rw [if_neg hj] at h1'; exact h1'.elim
  · have : itR2 ds S1 = .stuck := by
      unfold itR2
      split
      · exact absurd ⟨_, _, rfl⟩ q
      · rfl
    rw [this] at h1
    exact h1.elim
end
/-! ### list comprehensions -/
theorem EnvR.wipe {b : B} {w : Wd} {ρ : Env} {σ : Sl} (h : EnvR b w ρ σ) : ∀ vs : List Nat, EnvR b w (wipeD ρ vs) (L2.wipe σ vs)
  | [] => h
  | v :: vs => by
    have ih := EnvR.wipe h vs
    refine ⟨by simp [wipeD, L2.wipe, ih.len], fun i d e => ?_⟩
    by_cases q : v = i
    · subst q
      have hl : v < ((wipeD ρ vs).set v none).length := (List.getElem?_eq_some_iff.mp e).1
      rw [List.length_set] at hl
      have e' : ((wipeD ρ vs).set v none)[v]? = some (some d) := e
      rw [List.getElem?_set_self hl] at e'
      cases e'
    · have e' : ((wipeD ρ vs).set v none)[i]? = some (some d) := e
      rw [List.getElem?_set_ne q] at e'
      obtain ⟨u, h1, h2⟩ := ih.at_ i d e'
      refine ⟨u, ?_, h2⟩
      show ((L2.wipe σ vs).set v none)[i]? = some (some u)
      rw [List.getElem?_set_ne q]
      exact h1
abbrev WF : WX := fun _ _ _ _ => False
def Wd.un (w : Wd) (h : List Addr) : Wd := ⟨w.μ, w.H, h⟩
section
variable {b : B} {w w1 : Wd} {S : Store} {d : Addr}
theorem mo_hide (l : Le w1 (w.un w1.hid)) (hd : w1.H d = none) (hh : w.hid = d :: w1.hid) : Mo w1 w := ⟨l.pre, fun a o h n => by
  obtain ⟨⟨h1, h2⟩, h3⟩ := l.mo.fz a o h n
  refine ⟨⟨h1, fun z => ?_⟩, h3⟩
  rw [hh] at z
  rcases List.mem_cons.mp z with z | z
  · rw [z, hd] at h; cases h
  · exact h2 z⟩
theorem mo_un (hh : w.hid = d :: w1.hid) : Mo w (w.un w1.hid) := ⟨List.prefix_refl _, fun a o h n => ⟨⟨n.1, fun z => n.2 (by rw [hh]; exact List.mem_cons_of_mem _ z)⟩, h⟩⟩
theorem str_un (st : StR b w S) (hh : w.hid = d :: w1.hid) : StR b (w.un w1.hid) S := ⟨st.len, st.nd, fun a ha => st.hd a (by rw [hh]; exact List.mem_cons_of_mem _ ha), fun n c e => by
  obtain ⟨a, h1, h2⟩ := st.at_ n c e
  exact ⟨a, h1, h2.mo (mo_un hh) rfl⟩⟩
/-- the hidden list is changed -/
theorem mo_hid {o : HO} (hd : d ∈ w.hid) : Mo w (w.up d o) := ⟨List.prefix_refl _, fun a u h n => ⟨n, by
  show upd w.H d o a = some u
  rw [upd_ne (fun z => n.2 (by rw [z]; exact hd))]
  exact h⟩⟩
theorem str_hid {o : HO} (st : StR b w S) (hd : d ∈ w.hid) : StR b (w.up d o) S := ⟨st.len, st.nd, fun a ha => ⟨(st.hd a ha).1, hd_up st a ha⟩, fun n c e => by
  obtain ⟨a, h1, h2⟩ := st.at_ n c e
  exact ⟨a, h1, h2.mo (mo_hid hd) (upd_ne (fun z => (st.hd d hd).1 (z ▸ List.mem_of_getElem? h1)))⟩⟩
theorem le_hid {o : HO} (l : Le w1 (w.un w1.hid)) (hd : w1.H d = none) : Le w1 ((w.up d o).un w1.hid) := ⟨l.pre, fun a u h n => by
  show upd w.H d o a = some u
  rw [upd_ne (ne_of_none h hd)]
  exact l.keep a u h n, l.new, rfl⟩
theorem le_un {w' : Wd} {h : List Addr} (l : Le w w') : Le (w.un h) (w'.un h) := ⟨l.pre, l.keep, l.new, rfl⟩
end
theorem PTs.imp {X : Cx} {e : List Expr} {t t' : TT} (h : PTs X e t) (i : ∀ σ H Q, t' σ H Q → t σ H Q) : PTs X e t' := ⟨fun pins s σ H Q I hw => h.run pins s σ H Q I (i σ H Q hw)⟩
abbrev FTs (X : Cx) (Wx : WX) (e : List Expr) (f : ST) : Prop := PTs X e (tT (bX X) Wx f)
section
variable {X : Cx} {Wx : WX}
theorem fts_nil : FTs X Wx [] yesT := PTs.imp pts_nil fun σ H Q ⟨w, ρ, S, e, hE, hS, h⟩ => by
  subst e
  exact h w (Le.refl _) hS
theorem fts_one {c : Expr} {f : ST} (h : FT X Wx c f) : FTs X Wx [c] f := pts_one h
theorem lc_of {wi : TI} {own : List (Str × Nat)} {t : Tg} {fi : SA} {ft : ST} {fe : SE} (hwi : ∀ (σ : Sl) (w : Wd) (ρ : Env) (S : Store) (R : It → Hp → Prop), EnvR (bX X) w ρ σ → StR (bX X) w S → PostI (bX X) Wx σ w (fi ρ S) R → wi σ w.H R)
    (hsl : ∀ i ∈ t.slots, i ∈ own.map (·.2)) {σ : Sl} {H : Hp} {Q : VK} (h : tE (bX X) Wx (lcE (own.map (·.2)) t fi ft fe) σ H Q) : tLc wi (tgG X.K t) (tT (bX X) WF ft) (tE (bX X) WF fe) (own.map (·.2)) σ H Q := by
  obtain ⟨w, ρ, S, e, hE, hS, h⟩ := h
  subst e
  refine hwi σ w ρ S _ hE hS ?_
  unfold lcE bnd at h
  cases q : fi ρ S with
  | exn x S1 => rw [q] at h; exact h
  | stuck => rw [q] at h; exact h.elim
  | ok ds S1 =>
    rw [q] at h
    dsimp only at h
    intro w1 J l1 s1 jok D hD
    have h := PostE.le l1 h
    by_cases hlen : ds.length ≤ lineN
    · rw [if_pos hlen] at h
      have hDf : Fz w1 D := s1.fresh hD
      refine ⟨fun i m H => m = ds.length - i ∧ i ≤ ds.length ∧ ∃ (wn : Wd) (Sn : Store) (accD : List D_) (accV : List V), wn.H = H ∧ wn.hid = D :: w1.hid ∧ Le w1 (wn.un w1.hid) ∧ StR (bX X) wn Sn ∧ wn.H D = some (.lst accV) ∧ RpL (bX X) wn accD accV ∧ accD.length ≤ i ∧
        PostE (bX X) Wx σ w1 (bns (lcGo t ft fe (wipeD ρ (own.map (·.2))) (ds.drop i)) (fun r => ret (.lst (accD ++ r))) Sn) Q, ⟨ds.length, by simp, Nat.zero_le _, ⟨w1.μ, upd w1.H D (.lst []), D :: w1.hid⟩, S1, [], [], rfl, rfl, ?_, ?_, upd_same, rfl, Nat.le_refl _, ?_⟩, ?_⟩
      · exact le_new hD
      · refine ⟨s1.len, s1.nd, fun a ha => ?_, fun n c e => ?_⟩
        · rcases List.mem_cons.mp ha with z | z
          · subst z; exact ⟨hDf.1, _, upd_same⟩
          · exact ⟨(s1.hd a z).1, hd_up s1 a z⟩
        · obtain ⟨a, h1, h2⟩ := s1.at_ n c e
          refine ⟨a, h1, h2.mo (mo_hide (w := ⟨w1.μ, upd w1.H D (.lst []), D :: w1.hid⟩) (le_new hD) hD rfl) (upd_ne (fun z => hDf.1 (z ▸ List.mem_of_getElem? h1)))⟩
      · rw [List.drop_zero]
        simpa using h
      · rintro i m H ⟨rfl, hi, wn, Sn, accD, accV, rfl, hh, l2, st, hacc, racc, hal, hp⟩
        have hDh : D ∈ wn.hid := by rw [hh]; exact List.mem_cons_self
        have m1 : Mo w1 wn := mo_hide l2 hD hh
        obtain ⟨jgo, jstop⟩ := jok i wn m1 fun p hp => st.fresh hp
        by_cases hlt : i < ds.length
        · have ed : ds[i]? = some ds[i] := List.getElem?_eq_getElem hlt
          obtain ⟨g1, g2⟩ := jgo _ ed
          refine .inr ⟨g1, _, fun H' z => z, fun x H' y => ?_⟩
          obtain ⟨w3, rfl, hw3, rx⟩ := g2 x H' y
          have l3 : Le wn w3 := by
            rcases hw3 with z | ⟨p, o, z1, z2⟩
            · rw [z]; exact Le.refl _
            · rw [z2]; exact le_new z1
          have st3 : StR (bX X) w3 Sn := by
            rcases hw3 with z | ⟨p, o, z1, z2⟩
            · rw [z]; exact st
            · rw [z2]; exact st.new z1
          have hdrop : ds.drop i = ds[i] :: ds.drop (i + 1) := (List.drop_eq_getElem_cons hlt)
          rw [hdrop] at hp
          unfold lcGo at hp
          cases qt : tgD t ds[i] (wipeD ρ (own.map (·.2))) with
          | none => rw [qt] at hp; exact hp.elim
          | some ρ' =>
            rw [qt] at hp
            have eW : EnvR (bX X) w3 (wipeD ρ (own.map (·.2))) (L2.wipe σ (own.map (·.2))) := (((hE.mono l1).mo m1).mono l3).wipe _
            obtain ⟨σ', e3, hw, hq⟩ := tg_of eW rx qt
            refine hq _ ⟨by rw [hw _ hsl, wipe_wipe], ?_⟩
            refine ⟨w3, ρ', Sn, rfl, e3, st3, ?_⟩
            unfold bns at hp
            dsimp only at hp
            cases qc : ft ρ' Sn with
            | exn x S4 => rw [qc] at hp; exact hp.elim
            | stuck => rw [qc] at hp; exact hp.elim
            | ok c S4 =>
              rw [qc] at hp
              intro w4 l4 st4
              have l2' : Le w1 (w4.un w1.hid) := (l2.trans (le_un l3)).trans (le_un l4)
              have hh4 : w4.hid = D :: w1.hid := (l4.hid.trans l3.hid).trans hh
              have k3 : w3.H D = some (.lst accV) := l3.keep D _ hacc (st.hd D hDh).1
              have hD3 : D ∈ w3.hid := by rw [l3.hid]; exact hDh
              have k4 : w4.H D = some (.lst accV) := l4.keep D _ k3 (st3.hd D hD3).1
              cases c with
              | false =>
                rw [if_neg Bool.false_ne_true]
                refine ⟨ds.length - (i + 1), by omega, rfl, hlt, w4, S4, accD, accV, rfl, hh4, l2', st4, k4, RpL.mono l4 _ _ (RpL.mono l3 _ _ racc), Nat.le_succ_of_le hal, ?_⟩
                exact hp
              | true =>
                rw [if_pos rfl]
                refine ⟨w4, ρ', S4, rfl, e3.mono l4, st4, ?_⟩
                have hp2 : PostE (bX X) Wx σ w1 (bns (bns (fe ρ') fun y => bns (lcGo t ft fe (wipeD ρ (own.map (·.2))) (ds.drop (i + 1))) fun r => ret (y :: r)) (fun r => ret (.lst (accD ++ r))) S4) Q := hp
                unfold bns at hp2
                dsimp only at hp2
                cases qe : fe ρ' S4 with
                | exn x S5 => rw [qe] at hp2; exact hp2.elim
                | stuck => rw [qe] at hp2; exact hp2.elim
                | ok y S5 =>
                  rw [qe] at hp2
                  dsimp only at hp2
                  intro w5 v l5 st5 ry
                  have hD4 : D ∈ w4.hid := by rw [hh4]; exact List.mem_cons_self
                  have hh5 : w5.hid = D :: w1.hid := l5.hid.trans hh4
                  have hD5 : D ∈ w5.hid := by rw [hh5]; exact List.mem_cons_self
                  have k5 : w5.H D = some (.lst accV) := l5.keep D _ k4 (st4.hd D hD4).1
                  have r5 : RpL (bX X) w5 accD accV := RpL.mono l5 _ _ (RpL.mono l4 _ _ (RpL.mono l3 _ _ racc))
                  refine ⟨accV, k5, ?_, ?_⟩
                  · have z1 := RpL.length racc
                    have z2 := lineN_eq
                    omega
                  refine ⟨ds.length - (i + 1), by omega, rfl, hlt, w5.up D (.lst (accV ++ [v])), S5, accD ++ [y], accV ++ [v], rfl, hh5, le_hid (l2'.trans (le_un l5)) hD, str_hid st5 hD5, upd_same, RpL.mo (mo_hid hD5) _ _ (RpL.append r5 (RpL.one ry)), by simp; omega, ?_⟩
                  unfold bns
                  cases qr : lcGo t ft fe (wipeD ρ (own.map (·.2))) (ds.drop (i + 1)) S5 with
                  | exn x S6 => rw [qr] at hp2; exact hp2.elim
                  | stuck => rw [qr] at hp2; exact hp2.elim
                  | ok r S6 =>
                    rw [qr] at hp2
                    have e1 : accD ++ [y] ++ r = accD ++ (y :: r) := by simp
                    dsimp only
                    rw [e1]
                    exact hp2
        · have e : i = ds.length := by omega
          refine .inl ⟨jstop e, ?_⟩
          rw [e, List.drop_length] at hp
          have hp' : PostE (bX X) Wx σ w1 (.ok (.lst (accD ++ [])) Sn) Q := hp
          rw [List.append_nil] at hp'
          refine hp' (wn.un w1.hid) (.ref D) l2 (str_un st hh) ⟨D, accV, rfl, ⟨⟨(st.hd D hDh).1, hDf.2⟩, hacc⟩, RpL.mo (mo_un hh) _ _ racc⟩
    · rw [if_neg hlen] at h; exact h.elim
theorem fe_lc {elt tg iter : Expr} {ifs : List Expr} {scope : Scope} {own : List (Str × Nat)} {pos : Pos} {t : Tg} {fi : SA} {ft : ST} {fe : SE} (hc : X.calm = true) (hN : X.N.Nodup) (hi : FI X Wx tg iter fi) (ok : BlkOk X.N X.env.scope scope own)
    (hsl : ∀ i ∈ t.slots, i ∈ own.map (·.2))
    (hg : ∀ (s : Shared) (H : Hp) (C : Addr) (cl : List (Str × Addr)) (fp : List Addr), PG (X.blk s H scope (compEnvC scope cl C X.env) fp) tg (tgG X.K t)) (ht : ∀ (s : Shared) (H : Hp) (C : Addr) (cl : List (Str × Addr)) (fp : List Addr), PTs (X.blk s H scope (compEnvC scope cl C X.env) fp) ifs (tT (bX X) WF ft))
    (he : ∀ (s : Shared) (H : Hp) (C : Addr) (cl : List (Str × Addr)) (fp : List Addr), PE (X.blk s H scope (compEnvC scope cl C X.env) fp) elt (tE (bX X) WF fe)) (hs : ∀ x, foldedSetIterable iter X.env x = pure x := by intro _; rfl) :
    FE X Wx (.ListComp elt [⟨tg, iter, ifs, 0⟩] scope pos) (lcE (own.map (·.2)) t fi ft fe) := by
  obtain ⟨wi, hpi, hwi⟩ := hi.ex
  exact PE.imp (pe_lc hc hN hpi ok hg ht he hs) fun σ H Q h => lc_of hwi hsl h
end
end F

set_option linter.all false
set_option maxRecDepth 100000
set_option maxHeartbeats 2000000
set_option autoImplicit false
namespace F
open PySem PySem.Spec PyProof.Rows L2
def PostS (b : B) (Wx : WX) (w : Wd) (o : OS) (E : Ends) : Prop := match o with
  | .fl (.nx ρ) S => ∀ w' σ, Le w w' → EnvR b w' ρ σ → StR b w' S → E.nx σ w'.H
  | .fl (.bk ρ) S => ∀ w' σ, Le w w' → EnvR b w' ρ σ → StR b w' S → E.bk σ w'.H
  | .fl (.ct ρ) S => ∀ w' σ, Le w w' → EnvR b w' ρ σ → StR b w' S → E.ct σ w'.H
  | .fl (.rt d) S => ∀ w' v, Le w w' → StR b w' S → Rp b w' d v → E.rt v w'.H
  | .fl (.xn x ρ) S => ∀ w' σ cls dd, Le w w' → EnvR b w' ρ σ → StR b w' S → XnR b w' x cls dd → Wx cls dd σ w'.H
  | .stuck => False
def tS (b : B) (Wx : WX) (f : SS) : TS := fun E σ H => ∃ w ρ S, w.H = H ∧ EnvR b w ρ σ ∧ StR b w S ∧ PostS b Wx w (f ρ S) E
abbrev FS (X : Cx) (Wx : WX) (st : Stmt) (f : SS) : Prop := PS X st (tS (bX X) Wx f)
abbrev FSs (X : Cx) (Wx : WX) (st : List Stmt) (f : SS) : Prop := PSs X st (tS (bX X) Wx f)
/-! ### the semantics -/
section
variable {b : B} {Wx : WX} {w w' : Wd} {σ : Sl}
theorem PostS.le {o : OS} {E : Ends} (l : Le w w') (h : PostS b Wx w o E) : PostS b Wx w' o E := by
  cases o with
  | stuck => exact h
  | fl f S =>
    cases f with
    | nx ρ => exact fun w2 s m => h w2 s (l.trans m)
    | bk ρ => exact fun w2 s m => h w2 s (l.trans m)
    | ct ρ => exact fun w2 s m => h w2 s (l.trans m)
    | rt d => exact fun w2 v m => h w2 v (l.trans m)
    | xn x ρ => exact fun w2 s c d m => h w2 s c d (l.trans m)
theorem PostS.imp {o : OS} {E E' : Ends} (h : PostS b Wx w o E) (hn : ∀ σ w, E.nx σ w → E'.nx σ w) (hb : ∀ σ w, E.bk σ w → E'.bk σ w) (hc : ∀ σ w, E.ct σ w → E'.ct σ w) (hr : ∀ σ w, E.rt σ w → E'.rt σ w) : PostS b Wx w o E' := by
  cases o with
  | stuck => exact h
  | fl f S =>
    cases f with
    | nx ρ => exact fun w2 s m e t => hn _ _ (h w2 s m e t)
    | bk ρ => exact fun w2 s m e t => hb _ _ (h w2 s m e t)
    | ct ρ => exact fun w2 s m e t => hc _ _ (h w2 s m e t)
    | rt d => exact fun w2 v m s r => hr _ _ (h w2 v m s r)
    | xn x ρ => exact h
theorem exE {f : SE} {k : D → Env → Store → OS} {ρ : Env} {S : Store} {R : VK} {E : Ends} (hE : EnvR b w ρ σ) (hS : StR b w S) (h : PostS b Wx w (exS f k ρ S) E)
    (hk : ∀ w1 d v S1, Le w w1 → EnvR b w1 ρ σ → StR b w1 S1 → Rp b w1 d v → PostS b Wx w1 (k d ρ S1) E → R v w1.H) : tE b Wx f σ w.H R := by
  refine ⟨w, ρ, S, rfl, hE, hS, ?_⟩
  unfold exS at h
  cases q : f ρ S with
  | ok d S1 =>
    rw [q] at h
    exact fun w1 v l st r => hk w1 d v S1 l (hE.mono l) st r (PostS.le l h)
  | exn x S1 =>
    rw [q] at h
    exact fun w1 c dd l st r => h w1 σ c dd l (hE.mono l) st r
  | stuck => rw [q] at h; exact h
theorem exT {f : ST} {k : Bool → Env → Store → OS} {ρ : Env} {S : Store} {R : Bool → Hp → Prop} {E : Ends} (hE : EnvR b w ρ σ) (hS : StR b w S) (h : PostS b Wx w (exS f k ρ S) E)
    (hk : ∀ w1 d S1, Le w w1 → EnvR b w1 ρ σ → StR b w1 S1 → PostS b Wx w1 (k d ρ S1) E → R d w1.H) : tT b Wx f σ w.H R := by
  refine ⟨w, ρ, S, rfl, hE, hS, ?_⟩
  unfold exS at h
  cases q : f ρ S with
  | ok d S1 =>
    rw [q] at h
    exact fun w1 l st => hk w1 d S1 l (hE.mono l) st (PostS.le l h)
  | exn x S1 =>
    rw [q] at h
    exact fun w1 c dd l st r => h w1 σ c dd l (hE.mono l) st r
  | stuck => rw [q] at h; exact h
end
section
variable {X : Cx} {Wx : WX} {st : Stmt} {rest : List Stmt} {f g : SS} {e c : Expr} {fe : SE} {fc : ST} {pos : Pos}
theorem fss_nil : FSs X Wx [] nxS := PSs.imp pss_nil fun E σ H ⟨w, ρ, S, e, hE, hS, h⟩ => by
  subst e
  exact h w σ (Le.refl _) hE hS
theorem fss_cons (h1 : FS X Wx st f) (h2 : FSs X Wx rest g) : FSs X Wx (st :: rest) (seqS f g) := PSs.imp (pss_cons h1 h2) fun E σ H ⟨w, ρ, S, e, hE, hS, h⟩ => by
  subst e
  refine ⟨w, ρ, S, rfl, hE, hS, ?_⟩
  unfold seqS at h
  cases q : f ρ S with
  | stuck => rw [q] at h; exact h.elim
  | fl fl S1 =>
    rw [q] at h
    cases fl with
    | nx ρ1 => exact fun w1 σ1 l e1 s1 => ⟨w1, ρ1, S1, rfl, e1, s1, PostS.le l h⟩
    | bk ρ1 => exact h
    | ct ρ1 => exact h
    | rt d => exact h
    | xn x ρ1 => exact h
theorem fss_one (h1 : FS X Wx st f) : FSs X Wx [st] f := pss_one h1
theorem fs_doc {x j pos pos'} : FS X Wx (.Expr (.Constant (.str x) j pos) pos') nxS := PS.imp ps_doc fun E σ H ⟨w, ρ, S, e, hE, hS, h⟩ => by
  subst e
  exact h w σ (Le.refl _) hE hS
theorem fs_pass {pos} : FS X Wx (.Pass pos) nxS := PS.imp ps_pass fun E σ H ⟨w, ρ, S, e, hE, hS, h⟩ => by
  subst e
  exact h w σ (Le.refl _) hE hS
theorem fs_expr (he : FE X Wx e fe) (hs : swapsWith e none pos.line X.env = pure false := by rfl) : FS X Wx (.Expr e pos) (dropS fe) := PS.imp (ps_expr he hs) fun E σ H ⟨w, ρ, S, e, hE, hS, h⟩ => by
  subst e
  exact exE hE hS h fun w1 d v S1 l1 e1 s1 r1 h1 => h1 w1 σ (Le.refl _) e1 s1
theorem fs_ret (he : FE X Wx e fe) : FS X Wx (.Return (some e) pos) (retS fe) := PS.imp (ps_ret he) fun E σ H ⟨w, ρ, S, e, hE, hS, h⟩ => by
  subst e
  exact exE hE hS h fun w1 d v S1 l1 e1 s1 r1 h1 => h1 w1 v (Le.refl _) s1 r1
theorem fs_retN : FS X Wx (.Return none pos) retN := PS.imp ps_retN fun E σ H ⟨w, ρ, S, e, hE, hS, h⟩ => by
  subst e
  exact h w .non (Le.refl _) hS rfl
theorem fs_if {a1 a2 : List Stmt} (hc : FT X Wx c fc) (ha : FSs X Wx a1 f) (hb : FSs X Wx a2 g) : FS X Wx (.If c a1 a2 pos) (ifS fc f g) := PS.imp (ps_if hc ha hb) fun E σ H ⟨w, ρ, S, e, hE, hS, h⟩ => by
  subst e
  refine exT hE hS h fun w1 d S1 l1 e1 s1 h1 => ?_
  cases d with
  | true => rw [if_pos rfl] at h1 ⊢; exact ⟨w1, ρ, S1, rfl, e1, s1, h1⟩
  | false => rw [if_neg Bool.false_ne_true] at h1 ⊢; exact ⟨w1, ρ, S1, rfl, e1, s1, h1⟩
theorem fs_never : FS X Wx st nevS := PS.imp ps_never fun E σ H ⟨w, ρ, S, e, hE, hS, h⟩ => h.elim
theorem asg_of {t : Tg} : ∀ E σ H, tS (bX X) Wx (asgS fe t) E σ H → tAsg (tE (bX X) Wx fe) (tgG X.K t) E σ H := fun E σ H ⟨w, ρ, S, e, hE, hS, h⟩ => by
  subst e
  refine exE hE hS h fun w1 d v S1 l1 e1 s1 r1 h1 => ?_
  cases q : tgD t d ρ with
  | none => rw [q] at h1; exact h1.elim
  | some ρ' =>
    rw [q] at h1
    obtain ⟨σ', e2, _, hq⟩ := tg_of e1 r1 q
    exact hq _ (h1 w1 σ' (Le.refl _) e2 s1)
/-- name = e, (a, b) = e -/
theorem fs_asg {tg : Expr} {t : Tg} (he : FE X Wx e fe) (hg : FG X tg t) (hs : swapsWithSole [tg] e pos.line X.env = pure false := by rfl) (hw : swappedStores [tg] e X.env = pure none := by rfl)
    (h1 : (assignEach [tg] X.env).map (·.2) = [assign tg X.env] := by rfl) : FS X Wx (.Assign [tg] e pos) (asgS fe t) := PS.imp (ps_asg he hg hs hw h1) asg_of
theorem fs_set {x : Str} {pos' : Pos} (i : Nat) (hN : X.N.Nodup) (he : FE X Wx e fe) (hi : X.N[i]? = some x := by rfl) (hx : Loc X.env.scope x := by first | exact Or.inl rfl | exact Or.inr rfl) (hs : swapsWith e (some (.Name x pos')) pos.line X.env = pure false := by rfl) (hf : X.fn x = true ∨ X.env.scope.names.lookup x = some .local := by first | exact .inl rfl | exact .inr rfl) :
    FS X Wx (.Assign [.Name x pos'] e pos) (asgS fe (.name i)) := PS.imp (ps_set hN hi hx he hs hf) asg_of
/-- name = [.. for ..] -/
theorem fs_setLc {i : Nat} {y : Str} {py : Pos} {elt tg iter : Expr} {ifs : List Expr} {scope : Scope} {own : List (Str × Nat)} {pos spos : Pos} {t : Tg} {fi : SA} {ft : ST} {fe : SE} (hc : X.calm = true) (hN : X.N.Nodup) (hi : FI X Wx tg iter fi) (ok : BlkOk X.N X.env.scope scope own)
    (hsl : ∀ i ∈ t.slots, i ∈ own.map (·.2))
    (hg : ∀ (s : Shared) (H : Hp) (C : Addr) (cl : List (Str × Addr)) (fp : List Addr), PG (X.blk s H scope (compEnvC scope cl C X.env) fp) tg (tgG X.K t)) (ht : ∀ (s : Shared) (H : Hp) (C : Addr) (cl : List (Str × Addr)) (fp : List Addr), PTs (X.blk s H scope (compEnvC scope cl C X.env) fp) ifs (tT (bX X) WF ft))
    (he : ∀ (s : Shared) (H : Hp) (C : Addr) (cl : List (Str × Addr)) (fp : List Addr), PE (X.blk s H scope (compEnvC scope cl C X.env) fp) elt (tE (bX X) WF fe)) (hy : X.N[i]? = some y := by rfl) (hyl : X.env.scope.names.lookup y = some .local := by rfl)
    (hsw : swapsWith (.ListComp elt [⟨tg, iter, ifs, 0⟩] scope pos) (some (.Name y py)) spos.line X.env = pure true := by exact sw_true rfl rfl rfl (by decide +kernel)) (hs : ∀ x, foldedSetIterable iter X.env x = pure x := by intro _; rfl) :
    FS X Wx (.Assign [.Name y py] (.ListComp elt [⟨tg, iter, ifs, 0⟩] scope pos) spos) (asgS (lcE (own.map (·.2)) t fi ft fe) (.name i)) := by
  obtain ⟨wi, hpi, hwi⟩ := hi.ex
  refine PS.imp (ps_setLc hc hN hy hyl hsw hpi ok hg ht he hs) fun E σ H h => ?_
  have h2 := asg_of (X := X) E σ H h
  exact lc_of hwi hsl h2
/-- for -/
theorem fs_for {tg iter : Expr} {body : List Stmt} {t : Tg} {fi : SA} (hp : PassesOwn (model X.prog X.w) X.A X.env X.xe) (hc : X.calm = true) (hi : FI X Wx tg iter fi) (hg : FG X tg t) (hb : FSs X Wx body f)
    (hs : ∀ x, foldedSetIterable iter X.env x = pure x := by intro _; rfl) : FS X Wx (.For tg iter body [] pos) (forS t fi f) := by
  obtain ⟨wi, hpi, hwi⟩ := hi.ex
  refine PS.imp (ps_for hp hc hpi hg hb hs) fun E σ H ⟨w, ρ, S, e, hE, hS, h⟩ => ?_
  subst e
  refine hwi σ w ρ S _ hE hS ?_
  unfold forS exS at h
  cases q : fi ρ S with
  | exn x S1 =>
    rw [q] at h
    exact fun w1 c dd l st r => h w1 σ c dd l (hE.mono l) st r
  | stuck => rw [q] at h; exact h.elim
  | ok ds S1 =>
    rw [q] at h
    dsimp only at h
    intro w1 J l1 s1 jok
    have h := PostS.le l1 h
    refine ⟨fun i m σ H => m = ds.length - i ∧ i ≤ ds.length ∧ ∃ (wn : Wd) (ρn : Env) (Sn : Store), wn.H = H ∧ Le w1 wn ∧ EnvR (bX X) wn ρn σ ∧ StR (bX X) wn Sn ∧ PostS (bX X) Wx wn (forGo t f (ds.drop i) ρn Sn) E, ⟨ds.length, by simp, Nat.zero_le _, w1, ρ, S1, rfl, Le.refl _, hE.mono l1, s1, by rw [List.drop_zero]; exact h⟩, ?_⟩
    rintro i m σn H ⟨rfl, hil, wn, ρn, Sn, rfl, l2, en, st, hp⟩
    obtain ⟨jgo, jstop⟩ := jok i wn l2.mo fun p hp => st.fresh hp
    by_cases hlt : i < ds.length
    · have ed : ds[i]? = some ds[i] := List.getElem?_eq_getElem hlt
      obtain ⟨g1, g2⟩ := jgo _ ed
      refine .inr ⟨g1, _, fun σ' H' z => z, fun x H' y => ?_⟩
      obtain ⟨w3, rfl, hw3, rx⟩ := g2 x H' y
      have l3 : Le wn w3 := by
        rcases hw3 with z | ⟨p, o, z1, z2⟩
        · rw [z]; exact Le.refl _
        · rw [z2]; exact le_new z1
      have st3 : StR (bX X) w3 Sn := by
        rcases hw3 with z | ⟨p, o, z1, z2⟩
        · rw [z]; exact st
        · rw [z2]; exact st.new z1
      have hdrop : ds.drop i = ds[i] :: ds.drop (i + 1) := (List.drop_eq_getElem_cons hlt)
      rw [hdrop] at hp
      unfold forGo at hp
      cases qt : tgD t ds[i] ρn with
      | none => rw [qt] at hp; exact hp.elim
      | some ρ' =>
        rw [qt] at hp
        dsimp only at hp
        obtain ⟨σ', e3, _, hq⟩ := tg_of (en.mono l3) rx qt
        refine hq _ ⟨w3, ρ', Sn, rfl, e3, st3, ?_⟩
        have hp := PostS.le l3 hp
        cases qf : f ρ' Sn with
        | stuck => rw [qf] at hp; exact hp.elim
        | fl fl S4 =>
          rw [qf] at hp
          cases fl with
          | nx ρ4 => exact fun w4 σ4 l4 e4 s4 => ⟨ds.length - (i + 1), by omega, rfl, hlt, w4, ρ4, S4, rfl, (l2.trans l3).trans l4, e4, s4, PostS.le l4 hp⟩
          | ct ρ4 => exact fun w4 σ4 l4 e4 s4 => ⟨ds.length - (i + 1), by omega, rfl, hlt, w4, ρ4, S4, rfl, (l2.trans l3).trans l4, e4, s4, PostS.le l4 hp⟩
          | bk ρ4 => exact hp
          | rt d => exact hp
          | xn x ρ4 => exact hp
    · have e : i = ds.length := by omega
      rw [e, List.drop_length] at hp
      exact .inl ⟨jstop e, hp wn σn (Le.refl _) en st⟩
/-- while, at most n turns -/
theorem fs_while {c : Expr} {body : List Stmt} (n : Nat) (hp : PassesOwn (model X.prog X.w) X.A X.env X.xe) (hc : FT X Wx c fc) (hb : FSs X Wx body f) : FS X Wx (.While c body [] pos) (whGo fc f n) := by
  refine PS.imp (ps_while hp hc hb) fun E σ H ⟨w, ρ, S, e, hE, hS, h⟩ => ?_
  subst e
  refine ⟨fun m σ H => ∃ (wn : Wd) (ρn : Env) (Sn : Store), wn.H = H ∧ EnvR (bX X) wn ρn σ ∧ StR (bX X) wn Sn ∧ PostS (bX X) Wx wn (whGo fc f m ρn Sn) E, ⟨n, w, ρ, S, rfl, hE, hS, h⟩, ?_⟩
  rintro m σn H ⟨wn, ρn, Sn, rfl, en, st, hm⟩
  cases m with
  | zero => exact hm.elim
  | succ m =>
    refine exT en st hm fun w1 d S1 l1 e1 s1 h1 => ?_
    cases d with
    | false => rw [if_neg Bool.false_ne_true] at h1 ⊢; exact h1 w1 σn (Le.refl _) e1 s1
    | true =>
      rw [if_pos rfl] at h1 ⊢
      refine ⟨_, fun σ' H' z => z, w1, ρn, S1, rfl, e1, s1, ?_⟩
      cases qf : f ρn S1 with
      | stuck => rw [qf] at h1; exact h1.elim
      | fl fl S4 =>
        rw [qf] at h1
        cases fl with
        | nx ρ4 => exact fun w4 σ4 l4 e4 s4 => ⟨m, Nat.lt_succ_self m, w4, ρ4, S4, rfl, e4, s4, PostS.le l4 h1⟩
        | ct ρ4 => exact fun w4 σ4 l4 e4 s4 => ⟨m, Nat.lt_succ_self m, w4, ρ4, S4, rfl, e4, s4, PostS.le l4 h1⟩
        | bk ρ4 => exact h1
        | rt d => exact h1
        | xn x ρ4 => exact h1
end
/-! ### a def -/
theorem env_start {b : B} {w : Wd} {ds : List D} {vs : List V} {N : List Str} (r : RpL b w ds vs) : EnvR b w (ds.map some ++ List.replicate (N.length - ds.length) none) (L2.start N vs) := by
  have hl := RpL.length r
  unfold L2.start
  refine ⟨by simp [hl], fun i d e => ?_⟩
  by_cases hi : i < ds.length
  · rw [List.getElem?_append_left (by simpa using hi), List.getElem?_map] at e
    cases q : ds[i]? with
    | none => rw [q] at e; cases e
    | some d' =>
      rw [q] at e
      cases e
      obtain ⟨v, h1, h2⟩ := RpL.get r q
      refine ⟨v, ?_, h2⟩
      rw [List.getElem?_append_left (by rw [List.length_map, ← hl]; exact hi), List.getElem?_map, h1]
      rfl
  · rw [List.getElem?_append_right (by simpa using hi)] at e
    rw [List.getElem?_replicate] at e
    split at e <;> cases e
section
variable {P : Program} {w : World} {K : PySem.W.Frag} {mg : Str → Option Value} {base : Heap}
theorem def_ok {x qual : Str} {params : Arguments} {body : List Stmt} {sc : Scope} {f : Addr} {fd : FuncData} {N ps : List Str} {k : Nat} {g : SS} (F : FunD K x qual params body sc [] [] f fd) (S : FnScope N ps sc) (hm : mg x = some (.ref f)) (hb : Binds K fd ps [])
    (hbody : ∀ (cdv : Value) (A : Around) (outer : List PySem.Env) (s : Shared) (H : Hp) (E : XK), Room k (A.deeper (envOfC qual sc s.heap.objs.size f cdv)) →
      FSs (cxOf (L2.CX P w) P w K mg base N qual sc f cdv A outer s H E) (fun cls d _ H => E cls d H) body g) : DefOk P w K mg base x (k + 1) ps.length (runB g N.length) := by
  refine ⟨f, fd, ps, rfl, ?_, hm, F.kp, hb⟩
  refine F.ok S (fun vs H Q E h => h.1) fun cdv A outer s H vs Q E hr ⟨hl, w1, ds, S1, e1, r1, s1, h⟩ => ⟨_, hbody cdv A outer s H E hr, w1, _, S1, e1, env_start (N := N) r1, s1, ?_⟩
  unfold runB at h
  cases q : g (ds.map some ++ List.replicate (N.length - ds.length) none) S1 with
  | stuck => rw [q] at h; exact h.elim
  | fl fl S2 =>
    rw [q] at h
    cases fl with
    | nx ρ => exact fun w2 σ l e s => h w2 .non l s rfl
    | rt d => exact h
    | xn x ρ => exact fun w2 σ c dd l e s r => h w2 c dd l s r
    | bk ρ => exact h.elim
    | ct ρ => exact h.elim
end
end F

set_option linter.all false
set_option maxRecDepth 100000
set_option maxHeartbeats 2000000
set_option autoImplicit false
/-! enumerate(tuple) -/
namespace F
open PySem PySem.Spec PyProof.Rows L2
open AutoSeq1 (wpAny_loadPart')
theorem meets_enumT (l : Addr) (items : Array Value) (n : Nat) (dct : Option Addr) (sl : Array (Option Value)) :
    Meets (Builtin.«enumerate.__new__» ⟨[.type "enumerate", .ref l], []⟩) (fun _ R s => s.heap.get? l = some { cls := .type "tuple", dict := dct, data := .seq items n, slots := sl } ∧
      R (.ok (.ret (.ref (s.heap.push { cls := .type "tuple_iterator", data := .fields #[.ref l, .int 0 0] }).objs.size)))
        { s with heap := (s.heap.push { cls := .type "tuple_iterator", data := .fields #[.ref l, .int 0 0] }).push { cls := .type "enumerate", data := .fields #[.none, .bool false, .ref s.heap.objs.size, rawInt 0, .none, .none] } }) :=
  .of_wp fun prog w A R s h => by
    obtain ⟨hp, g, d, tk, os⟩ := s; obtain ⟨hl, h⟩ := h
    have hsub := sub_enumerate
    have hL : Heap.IsTuple (Shared.heap ⟨hp, g, d, tk, os⟩) l items := ⟨_, hl, rfl, n, rfl⟩
    wp_walk using wpAny_loadPart' hl
    refine wpAny_stack_any fun st => wpAny_pure ?_
    split
    · rename_i c _ _ _ _ _
      cases (c == Value.type "enumerate")
      · wp_walk using wpAny_loadPart' hl, wpAny_pyIter_tuple hL
        exact ⟨_, rfl, h⟩
      · wp_walk using wpAny_loadPart' hl, wpAny_pyIter_tuple hL
        exact ⟨_, rfl, h⟩
    · wp_walk using wpAny_loadPart' hl, wpAny_pyIter_tuple hL
      exact ⟨_, rfl, h⟩
theorem call_enumT {prog : Program} {w : World} {A : Around} {E : Value → Shared → Prop} {s : Shared} {l : Addr} {items : Array Value} {Q : Value → Shared → Prop} (hL : s.heap.IsTuple l items)
    (h : ∀ h', IsEnum h' (s.heap.objs.size + 1) s.heap.objs.size 0 .none → h'.IsTupleIter s.heap.objs.size l 0 → h'.objs.size = s.heap.objs.size + 2 →
      (∀ b o, s.heap.get? b = some o → h'.get? b = some o) → Q (.ref (s.heap.objs.size + 1)) { s with heap := h' }) :
    wpAny (model prog w) A (call (.type "enumerate") [.ref l]) Q E s := by
  obtain ⟨⟨c, dct, dt, sl⟩, hl, hc, n, hd⟩ := hL
  replace hc : c = .type "tuple" := hc
  replace hd : dt = .seq items n := hd
  subst hc hd
  refine callType_new F.called_enumerate (by decide) (F.typeCall_enumerate_1 _) (F.newCall_enumerate_1 _) (fun obj => F.args_object_init_2 obj _) F.entry_enumerate_new (meets_enumT l items n dct sl) ⟨hl, ?_⟩
  have hz : (s.heap.push { cls := .type "tuple_iterator", data := .fields #[.ref l, .int 0 0] }).objs.size = s.heap.objs.size + 1 := Heap.size_push ..
  show _ ∧ _
  rw [hz]
  have he : IsEnum ((s.heap.push { cls := .type "tuple_iterator", data := .fields #[.ref l, .int 0 0] }).push { cls := .type "enumerate", data := .fields #[.none, .bool false, .ref s.heap.objs.size, rawInt 0, .none, .none] }) (s.heap.objs.size + 1) s.heap.objs.size 0 .none := by
    have := Heap.get?_push_size (s.heap.push { cls := .type "tuple_iterator", data := .fields #[.ref l, .int 0 0] }) (o := { cls := .type "enumerate", data := .fields #[.none, .bool false, .ref s.heap.objs.size, rawInt 0, .none, .none] }) rfl
    rw [hz] at this; exact this
  refine ⟨⟨_, he, rfl⟩, h _ he ⟨_, Heap.get?_push_of_some _ (Heap.get?_push_size _ rfl), rfl, rfl⟩ (by rw [Heap.size_push, hz]) fun b o x => Heap.get?_push_of_some _ (Heap.get?_push_of_some _ x)⟩
/-- the tuple at a, each item in a new pair -/
def IteT (K : PySem.W.Frag) (a : Addr) : It :=
  ⟨fun i H => ∃ (xs : List V) (x : V), SqT K H a xs ∧ xs[i]? = some x, fun i H v H' => ∃ T x, v = .ref T ∧ H T = none ∧ H' = upd H T (.tup [.int (i : Nat), x]) ∧ ∀ xs, SqT K H a xs → xs[i]? = some x, fun i H => ∃ xs : List V, SqT K H a xs ∧ xs.length = i⟩
theorem tup_apart {h : Heap} {it a : Addr} {i : Nat} {its : Array Value} (hit : h.IsTupleIter it a i) (hT : h.IsTuple a its) : a ≠ it := fun z => by
  subst z
  obtain ⟨o, e1, e2, _⟩ := hT
  obtain ⟨o', e3, e4, _⟩ := hit
  rw [e1] at e3
  cases e3
  rw [e2] at e4
  exact absurd e4 (by decide)
theorem turn_enumT {P : Program} {w : World} {K : PySem.W.Frag} {elts : List Expr} {kk : Nat} {tpos : Pos} (a e it : Addr) :
    Turn P w K (.Tuple elts kk tpos) (IteT K a) [e, it] e (fun i h => (∃ old, IsEnum h e it ((i : Nat) : Int) old) ∧ h.IsTupleIter it a i ∧ e ≠ it) where
  mem := by simp
  obj := fun i h st b hb => by
    obtain ⟨⟨old, he⟩, ⟨o, ho, hc, hd⟩, _⟩ := st
    have e' : b = e ∨ b = it := by simpa using hb
    rcases e' with z | z
    · rw [z]; exact ⟨_, he, fun v q => nomatch q⟩
    · rw [z]; exact ⟨o, ho, fun v q => by rw [hd] at q; cases q⟩
  keep := fun i h h' st k => let ⟨⟨old, he⟩, hi, hne⟩ := st; ⟨⟨old, k e (by simp) _ he⟩, hi.at fun o q => k it (by simp) o q, hne⟩
  item := by
    intro X hP hw hK hc i pins s σ H E I hf st hg
    subst hP hw hK
    obtain ⟨⟨old, he⟩, hit, hne⟩ := st
    obtain ⟨xs, x, hq, hx⟩ := hg
    obtain ⟨its, rv, p, hz⟩ := I.tuple hq
    obtain ⟨u, hu, ru⟩ := rv.get hx
    have hil : i < its.toArray.size := by simp; exact (List.getElem?_eq_some_iff.mp hu).1
    have hel : e < s.heap.objs.size := Heap.lt_size he
    have hIt : it < s.heap.objs.size := by obtain ⟨_, q, _⟩ := hit; exact Heap.lt_size q
    have hT : s.heap.IsTuple a its.toArray := p
    have hea : e ≠ a := fun z => by
      subst z
      obtain ⟨o, e1, e2, _⟩ := hT
      have e3 := Option.some.inj (he.symm.trans e1)
      rw [← e3] at e2
      simp at e2
    have Dr := Draws.tuple (prog := X.prog) (w := X.w) (A := X.A.in1) (I.ok.hd hc) it a (tup_apart hit hT) its.toArray
    refine wpAny_pyNext_enum_itemD Dr he ⟨hit, hT⟩ hil hne (by simp; exact ⟨hne, hea⟩) fun x' h' tk hx' ho hst hTt hsz hk => ?_
    have ex : x' = u := by
      have h1 : its.toArray[i]? = some x' := hx'
      have h2 : its.toArray[i]? = some u := by simpa using hu
      rw [h1] at h2; exact Option.some.inj h2
    subst ex
    refine ⟨_, rfl, wpAny_letOwnedTupleGo_enum (s := { s with heap := h', toks := tk + 1 }) ho fun h'' he' sb => ?_⟩
    have hT2 : h''.get? s.heap.objs.size = some { cls := .type "tuple", data := .seq #[.int i tk, x'] } := (sb.2 _ (Nat.ne_of_gt hel)).trans hTt
    have new : ObjOk X.prog X.w (upd H s.heap.objs.size (.tup [.int (i : Nat), x])) h'' s.heap.objs.size (.tup [.int (i : Nat), x]) :=
      ⟨by show 2 ≤ sizeLine; decide, [.int i tk, x'], .cons ⟨_, rfl⟩ (.cons ru .nil), ⟨_, hT2, rfl, _, rfl⟩⟩
    have I1 : Inv X pins σ (upd H s.heap.objs.size (.tup [.int (i : Nat), x])) { s with heap := h'', toks := tk + 1 } :=
      I.turnedNew (ch := [e, it]) (fun b ob hb q => (sb.2 b (fun z => hb (by simp [z]))).trans (hk b ob (fun z => hb (by simp [z])) (fun z => hb (by simp [z])) q)) hf (Nat.le_refl _) new
    refine ⟨.ref s.heap.objs.size, _, I1, rfl, ⟨_, x, rfl, I.hok.fresh (Nat.le_refl _), rfl, fun ys hy => by rw [I.tuple_inj hy hq]; exact hx⟩, ⟨⟨x', ?_⟩, hst.1.at fun o q => (sb.2 it (Ne.symm hne)).trans q, hne⟩, fun b hb => ?_⟩
    · have e1 : ((i + 1 : Nat) : Int) = (i : Int) + 1 := by omega
      rw [e1]; exact he'
    · have hb' : b < s.heap.objs.size := by
        have e' : b = e ∨ b = it := by simpa using hb
        rcases e' with z | z
        · rw [z]; exact hel
        · rw [z]; exact hIt
      rw [upd_ne (Nat.ne_of_lt hb')]
      exact (hf b hb).1
  done := by
    intro X hP hw hK hc i pins s σ H E I hf st hg
    subst hP hw hK
    obtain ⟨⟨old, he⟩, hit, hne⟩ := st
    obtain ⟨xs, hq, hx⟩ := hg
    obtain ⟨its, rv, p, hz⟩ := I.tuple hq
    obtain ⟨f0, f1, f2, f3, f4, f5⟩ := hf it (by simp)
    have hl := rv.length
    have hT : s.heap.IsTuple a its.toArray := p
    have Dr := Draws.tuple (prog := X.prog) (w := X.w) (A := X.A.in1) (I.ok.hd hc) it a (tup_apart hit hT) its.toArray
    have ei : i = its.toArray.size := by simp; omega
    subst ei
    exact wpAny_pyNext_enum_endD Dr he ⟨hit, hT⟩ fun h' eb => ⟨rfl, I.turned (t' := s.toks) (fun b o hb q => eb b o hb q) f0 f1 f3 f4 f5⟩
  self := fun A i s Q E st h => let ⟨⟨_, he⟩, _⟩ := st; wpAny_pyIter_enum he h
def iEnumT (K : PySem.W.Frag) (ta : TA) : TI := fun σ H R => ta σ H fun vs H1 => ∃ a xs, vs = [.ref a] ∧ SqT K H1 a xs ∧ R (IteT K a) H1
theorem pi_enumT {X : Cx} {e : Expr} {ta : TA} {p pos tpos : Pos} {elts : List Expr} {kk : Nat} (hg : Gl X "enumerate") (hm : X.mg "enumerate" = none) (ha : PA X [e] ta) (hs : starEach [e] X.env = [(false, eval e X.env)] := by rfl) : PI X (.Tuple elts kk tpos) (.Call (.Name "enumerate" p) [e] [] pos) (iEnumT X.K ta) := by
  refine ⟨fun pins s σ H R I h => ?_⟩
  refine Call_ (ld_blt I hg hm boot_enumerate (PyProof.Rows.callWith_type1 (thn (ha.run pos pins s σ H _ I h) fun us s1 ⟨vs, H1, I1, r1, q1⟩ => ?_) hs rfl))
  obtain ⟨a, xs, ex, hq, q⟩ := q1
  subst ex
  cases r1 with
  | cons r rr =>
    cases rr
    cases r
    obtain ⟨its, rv, p', hz⟩ := I1.tuple hq
    refine call_enumT (show s1.heap.IsTuple a its.toArray from p') fun h' he hit hsz hk => wpAny_pyIter_enum he ?_
    have I2 : Inv X pins σ H1 { s1 with heap := h' } := I1.kept (t' := s1.toks) hk
    refine ⟨s1.heap.objs.size + 1, [s1.heap.objs.size + 1, s1.heap.objs.size], _, _, H1, rfl, I2, turn_enumT a (s1.heap.objs.size + 1) s1.heap.objs.size, ⟨⟨.none, he⟩, hit, Nat.succ_ne_self _⟩, fun b hb => ?_, q⟩
    have e' : b = s1.heap.objs.size + 1 ∨ b = s1.heap.objs.size := by simpa using hb
    have hle : s1.heap.objs.size ≤ b := by
      rcases e' with z | z
      · rw [z]; exact Nat.le_add_right _ _
      · rw [z]; exact Nat.le_refl _
    exact I1.fpOk hle (I1.hok.fresh hle)
theorem enumL_get {ds : List D} {i : Nat} {e : D} (h : (enumL ds)[i]? = some e) : ∃ d, ds[i]? = some d ∧ e = .tup [.int (i : Nat), d] := by
  unfold enumL at h
  rw [List.getElem?_zipWith] at h
  cases q1 : (List.range ds.length)[i]? with
  | none => rw [q1] at h; cases h
  | some k =>
    cases q2 : ds[i]? with
    | none => rw [q1, q2] at h; cases h
    | some d =>
      rw [q1, q2] at h
      obtain ⟨hi, he⟩ := List.getElem?_eq_some_iff.mp q1
      rw [List.getElem_range] at he
      subst he
      exact ⟨d, rfl, (Option.some.inj h).symm⟩
theorem enumL_len (ds : List D) : (enumL ds).length = ds.length := by unfold enumL; simp
section
variable {X : Cx} {Wx : WX} {tg a c : Expr} {pos p : Pos} {fa fc : SE} {fs : SA}
theorem en_pair {b : B} {w2 : Wd} {i : Nat} {T : Addr} {d : D} {v : V} (hn : w2.H T = none) (hf : Fz w2 T) (r : Rp b w2 d v) : Rp b (w2.up T (.tup [.int (i : Nat), v])) (.tup [.int (i : Nat), d]) (.ref T) :=
  ⟨T, _, rfl, .inl ⟨hf, upd_same⟩, ⟨_, _, rfl, rfl, RpL.one (Rp.mono (le_new hn) _ _ r)⟩⟩
theorem ite_ok {b : B} {w1 : Wd} {a : Addr} {vs : List V} {ds : List D} (h : LstAt w1 a vs ∨ FrzAt b w1 a vs) (r : RpL b w1 ds vs) : ItOk b (Ite b.K a) (enumL ds) w1 := by
  intro i w2 m hfr
  have hs : SqL b.K w2.H a vs := sqL_still m h
  refine ⟨fun e he => ?_, fun e => ⟨vs, hs, by rw [e, enumL_len, RpL.length r]; exact Nat.le_refl _⟩⟩
  obtain ⟨d, h0, rfl⟩ := enumL_get he
  obtain ⟨v, h1, h2⟩ := RpL.get r h0
  refine ⟨⟨vs, v, hs, h1⟩, fun x H' ⟨T, y, e1, e2, e3, e4⟩ => ⟨w2.up T (.tup [.int (i : Nat), v]), ?_, .inr ⟨T, _, e2, rfl⟩, ?_⟩⟩
  · have := e4 vs hs
    rw [h1] at this; cases this
    exact e3.symm
  · rw [e1]
    exact en_pair e2 (hfr T e2) (Rp.mo m d v h2)
theorem iteT_ok {b : B} {w1 : Wd} {a : Addr} {vs : List V} {ds : List D} (h : TupAt b w1 a vs) (r : RpL b w1 ds vs) : ItOk b (IteT b.K a) (enumL ds) w1 := by
  intro i w2 m hfr
  have hs : SqT b.K w2.H a vs := tup_still m h
  refine ⟨fun e he => ?_, fun e => ⟨vs, hs, by rw [e, enumL_len, RpL.length r]⟩⟩
  obtain ⟨d, h0, rfl⟩ := enumL_get he
  obtain ⟨v, h1, h2⟩ := RpL.get r h0
  refine ⟨⟨vs, v, hs, h1⟩, fun x H' ⟨T, y, e1, e2, e3, e4⟩ => ⟨w2.up T (.tup [.int (i : Nat), v]), ?_, .inr ⟨T, _, e2, rfl⟩, ?_⟩⟩
  · have := e4 vs hs
    rw [h1] at this; cases this
    exact e3.symm
  · rw [e1]
    exact en_pair e2 (hfr T e2) (Rp.mo m d v h2)
theorem fi_enum {elts : List Expr} {kk : Nat} {tpos : Pos} (hm : X.mg "enumerate" = none) (ha : FA X Wx [a] fs) (hg : Gl X "enumerate" := by rfl) (hs : starEach [a] X.env = [(false, eval a X.env)] := by rfl) : FI X Wx (.Tuple elts kk tpos) (.Call (.Name "enumerate" p) [a] [] pos) (itEn fs) := by
  refine ⟨_, pi_or (pi_enum hg hm ha hs) (pi_enumT hg hm ha hs), fun σ w ρ S R hE hS h => ?_⟩
  unfold itEn at h
  have h' := h
  unfold bnd at h'
  cases q : fs ρ S with
  | ok vs S1 =>
    rw [q] at h'
    dsimp only at h'
    match vs, q, h' with
    | [d], q, h' =>
      cases d with
      | lst ds =>
        refine .inl ⟨w, ρ, S, rfl, hE, hS, ?_⟩
        rw [q]
        intro w1 v l st r
        obtain ⟨u, rfl, p, vs, rfl, t, r⟩ := rpl1 r
        exact ⟨p, vs, rfl, t.sq, h' w1 _ l st (ite_ok (.inl t) r)⟩
      | frz ds =>
        refine .inl ⟨w, ρ, S, rfl, hE, hS, ?_⟩
        rw [q]
        intro w1 v l st r
        obtain ⟨u, rfl, p, vs, rfl, t, r⟩ := rpl1 r
        exact ⟨p, vs, rfl, t.sq, h' w1 _ l st (ite_ok (.inr t) r)⟩
      | tup ds =>
        refine .inr ⟨w, ρ, S, rfl, hE, hS, ?_⟩
        rw [q]
        intro w1 v l st r
        obtain ⟨u, rfl, p, vs, rfl, t, r⟩ := rpl1 r
        exact ⟨p, vs, rfl, t.sq, h' w1 _ l st (iteT_ok t r)⟩
      | _ => exact h'.elim
    | [], _, h' => exact h'.elim
    | _ :: _ :: _, _, h' => exact h'.elim
  | exn x S1 =>
    rw [q] at h'
    refine .inl ⟨w, ρ, S, rfl, hE, hS, ?_⟩
    rw [q]
    exact h'
  | stuck => rw [q] at h'; exact h'.elim
/-! ### a cell's list grows, is stored in -/
theorem fe_append {apos : Pos} (ho : FE X Wx a fa) (hc : FA X Wx [c] fs) (hbase : attributeBase a "append" X.env (eval a X.env) = eval a X.env := by rfl)
    (hfew : ((backTo pos (starEach [c] X.env)).all (fun x => !x.1) && (backToKw pos (keywordEach [] X.env)).all (fun x => x.1.isSome)
      && decide ([c].length + ([] : List Keyword).length + (if ([] : List Keyword).isEmpty then 0 else 1) < 30)) = true := by rfl)
    (hline : (apos.endLine == pos.line) = true := by rfl) (hs : starEach [c] X.env = (false, eval c X.env) :: starEach [] X.env := by rfl) (hplain : (backTo pos (starEach [] X.env)).any (·.1) = false := by rfl) :
    FE X Wx (.Call (.Attribute a "append" apos) [c] [] pos) (mtE fa fs appD) :=
  PE.imp (pe_bm PySem.F.plainAttrs_list PySem.F.slot_list_append PySem.F.type_list_append mt_append ho hc hbase hfew hline hs hplain) fun σ H Q ⟨w, ρ, S, e, hE, hS, h⟩ => by
    subst e
    refine bindE hE hS h fun w1 d v S1 l1 e1 s1 r1 h1 => ?_
    cases q : lv S1 d with
    | none => unfold bnd chkL at h1; dsimp only at h1; rw [q] at h1; exact h1.elim
    | some ds0 =>
      have h1 : PostE (bX X) Wx σ w1 (bnd (fs ρ) (g1 (appD d)) S1) Q := by
        unfold bnd chkL at h1
        dsimp only at h1
        rw [q] at h1
        exact h1
      obtain ⟨p, vs, rfl, t, _⟩ := lv_at s1 q r1
      refine ⟨.inl ⟨rfl, vs, .inl (.inl t)⟩, ?_⟩
      refine bindAE e1 s1 h1 fun w2 ds us S2 l2 e2 s2 r2 h2 => ?_
      match ds, r2, h2 with
      | [y], r2, h2 =>
        obtain ⟨u, rfl, r3⟩ := rpl1 r2
        have h2 : PostE (bX X) Wx σ w2 (appD d y S2) Q := h2
        unfold appD at h2
        cases d with
        | ref n =>
          dsimp only at h2
          obtain ⟨p', hp, ep⟩ := Rp.mono l2 _ _ r1
          cases ep
          obtain ⟨cc, hcc, hat⟩ := s2.cell hp
          rw [hcc] at h2
          cases cc with
          | lst es =>
            dsimp only at h2
            obtain ⟨xs, hx, rx⟩ := hat
            by_cases hl : es.length < lineN
            · rw [if_pos hl] at h2
              refine ⟨p, xs, u, rfl, rfl, hx, by rw [← RpL.length rx, ← lineN_eq]; exact hl, ?_⟩
              have hm : p ∈ w2.μ := List.mem_of_getElem? hp
              refine h2 (w2.up p (.lst (xs ++ [u]))) .non (le_mut hm) (s2.mut hp ⟨_, upd_same, ?_⟩) rfl
              exact RpL.append (RpL.mono (le_mut hm) _ _ rx) (RpL.one (Rp.mono (le_mut hm) _ _ r3))
            · rw [if_neg hl] at h2; exact h2.elim
          | ins _ _ => exact h2.elim
        | _ => exact h2.elim
      | [], _, h2 => exact h2.elim
      | _ :: _ :: _, _, h2 => exact h2.elim
/-- o[i] = v, o a cell's list -/
theorem fs_setit {o i e : Expr} {fo fi fe : SE} {p' : Pos} (he : FE X Wx e fe) (ho : FE X Wx o fo) (hi : FE X Wx i fi) (hs : swapsWithSole [.Subscript o i p'] e pos.line X.env = pure false := by rfl) (hw : swappedStores [.Subscript o i p'] e X.env = pure none := by rfl)
    (h1 : (assignEach [.Subscript o i p'] X.env).map (·.2) = [assign (.Subscript o i p') X.env] := by rfl)
    (ha : ∀ v, assign (.Subscript o i p') X.env v = (do
      let ov ← holding [v] (eval o X.env)
      let iv ← holding [v, ov] (eval i X.env)
      standAt p'
      holding [v, ov, iv] (setItem ov iv v)
      release [v, ov, iv] []) := by intro _; rfl) : FS X Wx (.Assign [.Subscript o i p'] e pos) (setItS fe fo fi) :=
  PS.imp (ps_asg he (pg_sub ho hi set_list ha) hs hw h1) fun E σ H ⟨w, ρ, S, e, hE, hS, h⟩ => by
    subst e
    refine exE hE hS h fun w1 d v S1 l1 e1 s1 r1 h1 => ?_
    refine exE e1 s1 h1 fun w2 d2 v2 S2 l2 e2 s2 r2 h2 => ?_
    refine exE e2 s2 h2 fun w3 d3 v3 S3 l3 e3 s3 r3 h3 => ?_
    cases d2 with
    | ref n =>
      cases d3 with
      | int j =>
        dsimp only at h3
        obtain ⟨p, hp, rfl⟩ := Rp.mono l3 _ _ r2
        obtain ⟨cc, hcc, hat⟩ := s3.cell hp
        rw [hcc] at h3
        cases cc with
        | lst es =>
          dsimp only at h3
          obtain ⟨xs, hx, rx⟩ := hat
          cases q : pos? es.length j with
          | none => rw [q] at h3; exact h3.elim
          | some m =>
            rw [q] at h3
            rw [pos_eq] at q
            have hm : p ∈ w3.μ := List.mem_of_getElem? hp
            refine ⟨p, xs, j, m, rfl, r3, hx, by rw [← RpL.length rx]; exact q, ?_⟩
            refine h3 (w3.up p (.lst (xs.set m v))) σ (le_mut hm) (e3.mono (le_mut hm)) (s3.mut hp ⟨_, upd_same, ?_⟩)
            exact RpL.set _ (RpL.mono (le_mut hm) _ _ rx) (Rp.mono (le_mut hm) _ _ (Rp.mono l3 _ _ (Rp.mono l2 _ _ r1)))
        | ins _ _ => exact h3.elim
      | _ => exact h3.elim
    | _ => exact h3.elim
theorem fe_repC (ha : FE X Wx a fa) (hc : FE X Wx c fc) : FE X Wx (.BinOp a .Mult c pos) (op2 repC fa fc) := by
  refine fe_op op_rep ?_ ha hc
  intro Wx σ w S d e x y Q st rd re h
  cases e with
  | int k =>
    unfold repC at h
    dsimp only at h
    cases q1 : lv S d with
    | none => rw [q1] at h; exact h.elim
    | some ds =>
      rw [q1] at h
      dsimp only at h
      obtain ⟨p, vs, rfl, t1, r1⟩ := lv_at st q1 rd
      by_cases hl : -(2 ^ 63) ≤ k ∧ k < 2 ^ 63 ∧ ds.length * k.toNat ≤ lineN
      · rw [if_pos hl] at h
        refine ⟨p, k, vs, rfl, re, t1, hl.1, hl.2.1, ?_, fun q hq => PostE.newC h st (RpL.rep _ r1) hq⟩
        rw [← RpL.length r1, ← lineN_eq]; exact hl.2.2
      · rw [if_neg hl] at h; exact h.elim
  | _ => exact h.elim
theorem fe_addC (ha : FE X Wx a fa) (hc : FE X Wx c fc) : FE X Wx (.BinOp a .Add c pos) (op2 addC fa fc) := by
  refine fe_op op_cat ?_ ha hc
  intro Wx σ w S d e x y Q st rd re h
  unfold addC at h
  cases q1 : lv S d with
  | none => rw [q1] at h; exact h.elim
  | some ds =>
    cases q2 : lv S e with
    | none => rw [q1, q2] at h; exact h.elim
    | some es =>
      rw [q1, q2] at h
      dsimp only at h
      obtain ⟨p1, vs1, rfl, t1, r1⟩ := lv_at st q1 rd
      obtain ⟨p2, vs2, rfl, t2, r2⟩ := lv_at st q2 re
      by_cases hl : ds.length + es.length ≤ lineN
      · rw [if_pos hl] at h
        refine ⟨p1, p2, vs1, vs2, rfl, rfl, t1, t2, ?_, fun q hq => PostE.newC h st (RpL.append r1 r2) hq⟩
        rw [← RpL.length r1, ← RpL.length r2, ← lineN_eq]; exact hl
      · rw [if_neg hl] at h; exact h.elim
/-! ### range with a step of -1 -/
theorem fi_range3 {c2 : Expr} (hm : X.mg "range" = none) (ha : FA X Wx [a, c, c2] fs) (hg : Gl X "range" := by rfl) (hs : starEach [a, c, c2] X.env = (false, eval a X.env) :: starEach [c, c2] X.env := by rfl) (hpl : (backTo pos (starEach [c, c2] X.env)).any (·.1) = false := by rfl) : FI X Wx tg (.Call (.Name "range" p) [a, c, c2] [] pos) (appA fs itR3) := by
  refine ⟨_, pi_range3 hg hm ha hs hpl, fun σ w ρ S R hE hS h => ?_⟩
  refine bindAI hE hS h fun w1 ds vs S1 l1 e1 s1 r1 h1 => ?_
  by_cases q : ∃ i j, ds = [.int i, .int j, .int (-1)]
  · obtain ⟨i, j, rfl⟩ := q
    obtain ⟨v, u, rfl, r2, r3⟩ := r1
    obtain ⟨v2, v3, rfl, r4, r5⟩ := rpl2 r3
    cases (show v = .int i from r2)
    cases (show v2 = .int j from r4)
    cases (show v3 = .int (-1) from r5)
    have h1' : PostI (bX X) Wx σ w1 (if -(2 ^ 62) ≤ i ∧ i < 2 ^ 62 ∧ -(2 ^ 62) ≤ j ∧ j < 2 ^ 62 then .ok ((List.range (i - j).toNat).map fun k => D.int (i - (k : Nat))) S1 else .stuck) R := h1
    by_cases hj : -(2 ^ 62) ≤ i ∧ i < 2 ^ 62 ∧ -(2 ^ 62) ≤ j ∧ j < 2 ^ 62
    · rw [if_pos hj] at h1'
      refine ⟨i, j, -1, _, rfl, RgC.neg hj.1 hj.2.1 hj.2.2.1 hj.2.2.2, h1' w1 _ (Le.refl _) s1 ?_⟩
      intro m w2 _ _
      refine ⟨fun d e => ?_, fun e => by rw [e, List.length_map, List.length_range]; exact Nat.le_refl _⟩
      rw [List.getElem?_map] at e
      cases q : (List.range (i - j).toNat)[m]? with
      | none => rw [q] at e; cases e
      | some k =>
        rw [q] at e
        obtain ⟨hi, he⟩ := List.getElem?_eq_some_iff.mp q
        rw [List.length_range] at hi
        rw [List.getElem_range] at he
        subst he
        cases (show D.int (i - (m : Nat)) = d from Option.some.inj e)
        refine ⟨hi, fun x H' ⟨e1, e2⟩ => ⟨w2, e1.symm, .inl rfl, ?_⟩⟩
        rw [e2]
        show V.int (i + (m : Nat) * -1) = V.int (i - (m : Nat))
        congr 1
        omega
    · rw [if_neg hj] at h1'; exact h1'.elim
  · have : itR3 ds S1 = .stuck := by
      unfold itR3
      split
      · exact absurd ⟨_, _, rfl⟩ q
      · rfl
    rw [this] at h1
    exact h1.elim
end
end F

set_option linter.all false
set_option maxRecDepth 100000
set_option maxHeartbeats 2000000
set_option autoImplicit false
namespace F
open PySem PySem.Spec PyProof.Rows L2
/-! ### a def's own cells are closed behind it -/
section
variable {b : B} {w : Wd} {S : Store} {m : Nat}
/-- the world with the first m cells alone -/
def Wd.first (w : Wd) (m : Nat) : Wd := ⟨w.μ.take m, w.H, w.hid⟩
theorem fz_first {a : Addr} (h : Fz w a) : Fz (w.first m) a := ⟨fun z => h.1 ((List.take_sublist _ _).subset z), h.2⟩
mutual
theorem Rp.first : ∀ (d : D) (v : V), Rp b w d v → d.bel m = true → Rp b (w.first m) d v
  | .non, v, h, _ => h
  | .bl _, v, h, _ => h
  | .int _, v, h, _ => h
  | .str _, v, h, _ => h
  | .ty _, v, h, _ => h
  | .tup ds, v, h, c => by
    obtain ⟨a, vs, e, t, r⟩ := h
    refine ⟨a, vs, e, ?_, RpL.first ds vs r (by simpa [D.bel] using c)⟩
    rcases t with ⟨n, t⟩ | t
    · exact .inl ⟨fz_first n, t⟩
    · exact .inr t
  | .lst ds, v, h, c => by
    obtain ⟨a, vs, e, ⟨n, t⟩, r⟩ := h
    exact ⟨a, vs, e, ⟨fz_first n, t⟩, RpL.first ds vs r (by simpa [D.bel] using c)⟩
  | .frz ds, v, h, c => by
    obtain ⟨a, vs, e, t, r⟩ := h
    refine ⟨a, vs, e, ?_, RpL.first ds vs r (by simpa [D.bel] using c)⟩
    rcases t with ⟨n, t⟩ | t
    · exact .inl ⟨fz_first n, t⟩
    · exact .inr t
  | .ins cn fs, v, h, c => by
    obtain ⟨a, cc, dx, vs, e, mm, n, t, r⟩ := h
    exact ⟨a, cc, dx, vs, e, mm, fz_first n, t, RpF.first fs vs r (by simpa [D.bel] using c)⟩
  | .ref n, v, h, c => by
    obtain ⟨a, e, q⟩ := h
    refine ⟨a, ?_, q⟩
    have hn : n < m := by simpa [D.bel] using c
    show (w.μ.take m)[n]? = some a
    rw [List.getElem?_take_of_lt hn]
    exact e
theorem RpL.first : ∀ (ds : List D) (vs : List V), RpL b w ds vs → belL m ds = true → RpL b (w.first m) ds vs
  | [], vs, h, _ => h
  | d :: ds, vs, h, c => by
    obtain ⟨v, r, e, h1, h2⟩ := h
    have c' : d.bel m = true ∧ belL m ds = true := by simpa [belL] using c
    exact ⟨v, r, e, Rp.first d v h1 c'.1, RpL.first ds r h2 c'.2⟩
theorem RpF.first : ∀ (ds : List (Str × D)) (vs : List (Str × V)), RpF b w ds vs → belF m ds = true → RpF b (w.first m) ds vs
  | [], vs, h, _ => h
  | (f, d) :: ds, vs, h, c => by
    obtain ⟨v, r, e, h1, h2⟩ := h
    have c' : d.bel m = true ∧ belF m ds = true := by simpa [belF] using c
    exact ⟨v, r, e, Rp.first d v h1 c'.1, RpF.first ds r h2 c'.2⟩
end
mutual
theorem Rp.res (st : StR b w S) : ∀ (d e : D) (v : V), Rp b w d v → d.res m S = some e → Rp b (w.first m) e v
  | .non, e, v, h, q => by cases (show D.non = e by simpa [D.res, D.bel] using q); exact h
  | .bl k, e, v, h, q => by cases (show D.bl k = e by simpa [D.res, D.bel] using q); exact h
  | .int k, e, v, h, q => by cases (show D.int k = e by simpa [D.res, D.bel] using q); exact h
  | .str k, e, v, h, q => by cases (show D.str k = e by simpa [D.res, D.bel] using q); exact h
  | .ty k, e, v, h, q => by cases (show D.ty k = e by simpa [D.res, D.bel] using q); exact h
  | .tup ds, e, v, h, q => by
    unfold D.res at q
    cases q1 : resL m S ds with
    | none => rw [q1] at q; cases q
    | some es =>
      rw [q1] at q
      cases (show D.tup es = e from Option.some.inj q)
      obtain ⟨a, vs, e, t, r⟩ := h
      refine ⟨a, vs, e, ?_, RpL.res st ds es vs r q1⟩
      rcases t with ⟨n, t⟩ | t
      · exact .inl ⟨fz_first n, t⟩
      · exact .inr t
  | .lst ds, e, v, h, q => by
    have q' : (if (D.lst ds).bel m = true then some (D.lst ds) else none) = some e := by simpa [D.res] using q
    by_cases c : (D.lst ds).bel m = true
    · rw [if_pos c] at q'
      cases (show D.lst ds = e from Option.some.inj q')
      exact Rp.first _ v h c
    · rw [if_neg c] at q'; cases q'
  | .frz ds, e, v, h, q => by
    have q' : (if (D.frz ds).bel m = true then some (D.frz ds) else none) = some e := by simpa [D.res] using q
    by_cases c : (D.frz ds).bel m = true
    · rw [if_pos c] at q'
      cases (show D.frz ds = e from Option.some.inj q')
      exact Rp.first _ v h c
    · rw [if_neg c] at q'; cases q'
  | .ins cn fs, e, v, h, q => by
    have q' : (if (D.ins cn fs).bel m = true then some (D.ins cn fs) else none) = some e := by simpa [D.res] using q
    by_cases c : (D.ins cn fs).bel m = true
    · rw [if_pos c] at q'
      cases (show D.ins cn fs = e from Option.some.inj q')
      exact Rp.first _ v h c
    · rw [if_neg c] at q'; cases q'
  | .ref n, e, v, h, q => by
    unfold D.res at q
    by_cases hn : n < m
    · rw [if_pos hn] at q
      cases (show D.ref n = e from Option.some.inj q)
      exact Rp.first _ v h (by simpa [D.bel] using hn)
    · rw [if_neg hn] at q
      cases q1 : S[n]? with
      | none => rw [q1] at q; cases q
      | some c =>
        rw [q1] at q
        cases c with
        | ins cn fs =>
          dsimp only at q
          by_cases hb : belF m fs = true
          · rw [if_pos hb] at q
            cases (show D.ins cn fs = e from Option.some.inj q)
            obtain ⟨a, h1, h2⟩ := h
            obtain ⟨a', h3, h4⟩ := st.at_ n _ q1
            rw [h1] at h3; cases h3
            obtain ⟨cc, dx, vs, h0, h5, h6⟩ := h4
            refine ⟨a, cc, dx, vs, h2, h0, ⟨fun z => ?_, fun z => (st.hd a z).1 (List.mem_of_getElem? h1)⟩, h5, RpF.first fs vs h6 hb⟩
            obtain ⟨k, hk⟩ := List.mem_iff_getElem?.mp (show a ∈ w.μ.take m from z)
            have hkm : k < m := by
              have := (List.getElem?_eq_some_iff.mp hk).1
              rw [List.length_take] at this
              omega
            rw [List.getElem?_take_of_lt hkm] at hk
            obtain ⟨l1, e1⟩ := List.getElem?_eq_some_iff.mp hk
            obtain ⟨l2, e2⟩ := List.getElem?_eq_some_iff.mp h1
            have := (List.getElem_inj st.nd).mp (e1.trans e2.symm)
            omega
          · rw [if_neg hb] at q; cases q
        | lst ds =>
          dsimp only at q
          by_cases hb : belL m ds = true
          · rw [if_pos hb] at q
            cases (show D.lst ds = e from Option.some.inj q)
            obtain ⟨a, h1, h2⟩ := h
            obtain ⟨a', h3, h4⟩ := st.at_ n _ q1
            rw [h1] at h3; cases h3
            obtain ⟨vs, h5, h6⟩ := h4
            refine ⟨a, vs, h2, ⟨⟨fun z => ?_, fun z => (st.hd a z).1 (List.mem_of_getElem? h1)⟩, h5⟩, RpL.first ds vs h6 hb⟩
            obtain ⟨k, hk⟩ := List.mem_iff_getElem?.mp (show a ∈ w.μ.take m from z)
            have hkm : k < m := by
              have := (List.getElem?_eq_some_iff.mp hk).1
              rw [List.length_take] at this
              omega
            rw [List.getElem?_take_of_lt hkm] at hk
            obtain ⟨l1, e1⟩ := List.getElem?_eq_some_iff.mp hk
            obtain ⟨l2, e2⟩ := List.getElem?_eq_some_iff.mp h1
            have := (List.getElem_inj st.nd).mp (e1.trans e2.symm)
            omega
          · rw [if_neg hb] at q; cases q
theorem RpL.res (st : StR b w S) : ∀ (ds es : List D) (vs : List V), RpL b w ds vs → resL m S ds = some es → RpL b (w.first m) es vs
  | [], es, vs, h, q => by
    cases (show [] = es by simpa [resL] using q)
    exact h
  | d :: ds, es, vs, h, q => by
    obtain ⟨v, r, e, h1, h2⟩ := h
    unfold resL at q
    cases q1 : d.res m S with
    | none => rw [q1] at q; cases q
    | some d' =>
      cases q2 : resL m S ds with
      | none => rw [q1, q2] at q; cases q
      | some ds' =>
        rw [q1, q2] at q
        cases (show d' :: ds' = es from Option.some.inj q)
        exact ⟨v, r, e, Rp.res st d d' v h1 q1, RpL.res st ds ds' r h2 q2⟩
end
theorem StR.first (st : StR b w S) (hb : (S.take m).all (·.bel m) = true) (hm : m ≤ S.length) : StR b (w.first m) (S.take m) := by
  refine ⟨by simp [Wd.first, st.len], st.nd.sublist (List.take_sublist _ _), fun a ha => ⟨fun z => (st.hd a ha).1 ((List.take_sublist _ _).subset z), (st.hd a ha).2⟩, fun n c e => ?_⟩
  have hn : n < m := by
    have := (List.getElem?_eq_some_iff.mp e).1
    rw [List.length_take] at this
    omega
  have hc : c.bel m = true := List.all_eq_true.mp hb c (List.mem_of_getElem? e)
  rw [List.getElem?_take_of_lt hn] at e
  obtain ⟨a, h1, h2⟩ := st.at_ n c e
  refine ⟨a, ?_, ?_⟩
  · show (w.μ.take m)[n]? = some a
    rw [List.getElem?_take_of_lt hn]
    exact h1
  · cases c with
    | lst ds => obtain ⟨vs, h3, h4⟩ := h2; exact ⟨vs, h3, RpL.first ds vs h4 hc⟩
    | ins cn fs => obtain ⟨cc, dx, vs, h0, h3, h4⟩ := h2; exact ⟨cc, dx, vs, h0, h3, RpF.first fs vs h4 hc⟩
end
theorem postF_close {b : B} {w1 : Wd} {S : Store} {o : Out D} {Q : VK} {E : XK} (e3 : StR b w1 S) (e4 : PostF b w1 (closeOut S.length o) Q E) : PostF b w1 o Q E := by
  cases o with
  | stuck => exact e4.elim
  | exn x S1 =>
    have e4 : PostF b w1 (if (S1.take S.length).all (·.bel S.length) ∧ S.length ≤ S1.length ∧ x.bel S.length = true then .exn x (S1.take S.length) else .stuck) Q E := e4
    by_cases hb : (S1.take S.length).all (·.bel S.length) = true ∧ S.length ≤ S1.length ∧ x.bel S.length = true
    · rw [if_pos hb] at e4
      intro w2 cls dd l st r
      have hμ : w2.μ.take S.length = w1.μ := by
        obtain ⟨t, ht⟩ := l.pre
        rw [← ht, ← e3.len, List.take_left']
        rfl
      have l2 : Le w1 (w2.first S.length) := ⟨by show w1.μ <+: w2.μ.take _; rw [hμ]; exact List.prefix_refl _, l.keep, fun a z n => absurd (by show a ∈ w1.μ; rw [← hμ]; exact z) n, l.hid⟩
      refine e4 (w2.first S.length) cls dd l2 (st.first hb.1 hb.2.1) ?_
      obtain ⟨r1, r2, r3⟩ := r
      refine ⟨r1, r2, ?_⟩
      have hx := hb.2.2
      unfold Xn.bel at hx
      cases q : x.fld with
      | none => trivial
      | some fd =>
        rw [q] at r3 hx
        obtain ⟨f, d⟩ := fd
        obtain ⟨a, v, h1, h2, h3⟩ := r3
        exact ⟨a, v, h1, h2, Rp.first d v h3 hx⟩
    · rw [if_neg hb] at e4; exact e4.elim
  | ok d S1 =>
    have e4 : PostF b w1 (if (S1.take S.length).all (·.bel S.length) ∧ S.length ≤ S1.length then (match d.res S.length S1 with
      | some e => .ok e (S1.take S.length)
      | none => .stuck) else .stuck) Q E := e4
    by_cases hb : ((S1.take S.length).all (·.bel S.length) = true) ∧ S.length ≤ S1.length
    · rw [if_pos hb] at e4
      cases q2 : d.res S.length S1 with
      | none => rw [q2] at e4; exact e4.elim
      | some e =>
        rw [q2] at e4
        intro w2 v l st r
        have hμ : w2.μ.take S.length = w1.μ := by
          obtain ⟨t, ht⟩ := l.pre
          rw [← ht, ← e3.len, List.take_left']
          rfl
        have l2 : Le w1 (w2.first S.length) := ⟨by show w1.μ <+: w2.μ.take _; rw [hμ]; exact List.prefix_refl _, l.keep, fun a z n => absurd (by show a ∈ w1.μ; rw [← hμ]; exact z) n, l.hid⟩
        exact e4 (w2.first S.length) v l2 (st.first hb.1 hb.2) (Rp.res st d e v r q2)
    · rw [if_neg hb] at e4; exact e4.elim
/-- its own cells are closed -/
theorem DefOk.close {P : Program} {w : World} {K : PySem.W.Frag} {mg : Str → Option Value} {base : Heap} {x : Str} {k n : Nat} {g : List D → M D} (h : DefOk P w K mg base x k n g) : DefOk P w K mg base x k n (fun ds S => closeOut S.length (g ds S)) := by
  obtain ⟨f, fd, ps, h1, h2, h3⟩ := h.ex
  refine ⟨f, fd, ps, h1, h2.imp fun vs H Q E ⟨hl, w1, ds, S, e1, e2, e3, e4⟩ => ⟨hl, w1, ds, S, e1, e2, e3, postF_close e3 e4⟩, h3⟩
theorem fe_cal {X : Cx} {Wx : WX} {x : Str} {p pos : Pos} {e : Expr} {es : List Expr} {fs : SA} {k n : Nat} {g : List D → M D} (C : DefOk X.prog X.w X.K X.mg X.base x k n g) (hr : Room k X.A) (tk : Takes X Wx) (ha : FA X Wx (e :: es) fs) (hg : Gl X x := by rfl)
    (hdb : (x == ("__debug__" : Str)) = false := by decide) (he : starEach (e :: es) X.env = (false, eval e X.env) :: starEach es X.env := by rfl) (hpl : (backTo pos (starEach es X.env)).any (·.1) = false := by rfl) :
    FE X Wx (.Call (.Name x p) (e :: es) [] pos) (appA fs (cal n g)) := by
  have h : (fun ds S => if ds.length = n then g ds S else Out.stuck) = cal n g := by
    funext ds S
    unfold cal
    by_cases h : ds.length = n
    · rw [if_pos h, if_pos h]
    · rw [if_neg h, if_neg h]; rfl
  rw [← h]
  exact fe_call C hr tk ha hg hdb he hpl
end F

set_option linter.all false
set_option maxRecDepth 100000
set_option maxHeartbeats 2000000
set_option autoImplicit false
namespace F
open PySem PySem.Spec PyProof.Rows L2
open PySem.W (Holds HoldAll Datum)
theorem u65 {k : Nat} {A : Around} (r : Room k A) : A.units + 65 < cLine := by have := r.un; omega
section
variable {b : B} {Wx : WX} {w : Wd} {σ : Sl}
theorem exA {f : SA} {is : List Nat} {ρ : Env} {S : Store} {R : List V → Hp → Prop} {E : Ends} (hE : EnvR b w ρ σ) (hS : StR b w S) (h : PostS b Wx w (parS f is ρ S) E)
    (hk : ∀ w1 ds vs, ds.length = is.length → RpL b w1 ds vs → E.nx (setAll is vs σ) w1.H → R vs w1.H) : tA b Wx f σ w.H R := by
  refine ⟨w, ρ, S, rfl, hE, hS, ?_⟩
  unfold parS at h
  cases q : f ρ S with
  | ok ds S1 =>
    rw [q] at h
    dsimp only at h
    by_cases hl : ds.length = is.length
    · rw [if_pos hl] at h
      exact fun w1 v l st r => hk w1 ds v hl r (h w1 _ l (EnvR.setA (hE.mono l) r) st)
    · rw [if_neg hl] at h; exact h.elim
  | exn x S1 =>
    rw [q] at h
    exact fun w1 c dd l st r => h w1 σ c dd l (hE.mono l) st r
  | stuck => rw [q] at h; exact h
end
section
variable {X : Cx} {Wx : WX} {pos : Pos}
theorem fs_par {i j : Nat} {x y : Str} {a b : Expr} {fs : SA} {px py pt : Pos} {kt k2 pt2} (hN : X.N.Nodup) (ha : FA X Wx [a, b] fs) (hc : X.calm = true := by rfl) (hi : X.N[i]? = some x := by rfl) (hj : X.N[j]? = some y := by rfl) (hij : i ≠ j := by decide)
    (hx : X.env.scope.names.lookup x = some .local := by rfl) (hy : X.env.scope.names.lookup y = some .local := by rfl)
    (hw : swappedStores [.Tuple [.Name x px, .Name y py] kt pt] (.Tuple [a, b] k2 pt2) X.env = pure (some [x, y]) := by rfl)
    (hs : swapsWithSole [.Tuple [.Name x px, .Name y py] kt pt] (.Tuple [a, b] k2 pt2) pos.line X.env = pure false := by rfl) :
    FS X Wx (.Assign [.Tuple [.Name x px, .Name y py] kt pt] (.Tuple [a, b] k2 pt2) pos) (parS fs [i, j]) := PS.imp (ps_par hc hN hi hj hij hx hy ha hw hs) fun E σ H ⟨w, ρ, S, e, hE, hS, h⟩ => by
  subst e
  refine exA hE hS h fun w1 ds vs hl r q => ?_
  have h2 := RpL.length r
  match vs, (show vs.length = 2 by rw [← h2]; exact hl) with
  | [u, v], _ => exact ⟨u, v, rfl, q⟩
theorem fs_par3 {i j l : Nat} {x y z : Str} {a b c : Expr} {fs : SA} {px py pz pt : Pos} {kt k2 pt2} (hN : X.N.Nodup) (ha : FA X Wx [a, b, c] fs) (hc : X.calm = true := by rfl) (hi : X.N[i]? = some x := by rfl) (hj : X.N[j]? = some y := by rfl) (hl : X.N[l]? = some z := by rfl) (hij : i ≠ j := by decide) (hil : i ≠ l := by decide) (hjl : j ≠ l := by decide)
    (hx : X.env.scope.names.lookup x = some .local := by rfl) (hy : X.env.scope.names.lookup y = some .local := by rfl) (hz : X.env.scope.names.lookup z = some .local := by rfl)
    (hw : swappedStores [.Tuple [.Name x px, .Name y py, .Name z pz] kt pt] (.Tuple [a, b, c] k2 pt2) X.env = pure (some [x, y, z]) := by rfl)
    (hs : swapsWithSole [.Tuple [.Name x px, .Name y py, .Name z pz] kt pt] (.Tuple [a, b, c] k2 pt2) pos.line X.env = pure false := by rfl) :
    FS X Wx (.Assign [.Tuple [.Name x px, .Name y py, .Name z pz] kt pt] (.Tuple [a, b, c] k2 pt2) pos) (parS fs [i, j, l]) := PS.imp (ps_par3 hc hN hi hj hl hij hil hjl hx hy hz ha hw hs) fun E σ H ⟨w, ρ, S, e, hE, hS, h⟩ => by
  subst e
  refine exA hE hS h fun w1 ds vs hl r q => ?_
  have h2 := RpL.length r
  match vs, (show vs.length = 3 by rw [← h2]; exact hl) with
  | [u, v, z], _ => exact ⟨u, v, z, rfl, q⟩
theorem fs_subeq {x : Str} {e : Expr} {fe : SE} {pos' : Pos} (i : Nat) (hN : X.N.Nodup) (he : FE X Wx e fe) (hi : X.N[i]? = some x := by rfl) (hx : Loc X.env.scope x := by first | exact Or.inl rfl | exact Or.inr rfl) (hf : X.fn x = true ∨ X.env.scope.names.lookup x = some .local := by first | exact .inl rfl | exact .inr rfl) :
    FS X Wx (.AugAssign (.Name x pos') .Sub e pos) (asgS (op2 subD (varD i) fe) (.name i)) := PS.imp (ps_aug hN hi hx he ip_sub hf) fun E σ H ⟨w, ρ, S, e, hE, hS, h⟩ => by
  subst e
  unfold asgS exS op2 at h
  have e1 : varD i ρ S = match ρ[i]? with
    | some (some d) => Out.ok d S
    | _ => Out.stuck := rfl
  cases q : ρ[i]? with
  | none => rw [bnd, e1, q] at h; exact h.elim
  | some o =>
    cases o with
    | none => rw [bnd, e1, q] at h; exact h.elim
    | some d =>
      rw [bnd, e1, q] at h
      dsimp only at h
      obtain ⟨v, h1, h2⟩ := hE.at_ i d q
      refine ⟨v, h1, w, ρ, S, rfl, hE, hS, ?_⟩
      unfold bnd at h
      cases q2 : fe ρ S with
      | stuck => rw [q2] at h; exact h
      | exn x S1 =>
        rw [q2] at h
        exact fun w1 c dd l st r => h w1 σ c dd l (hE.mono l) st r
      | ok d2 S1 =>
        rw [q2] at h
        intro w1 v2 l st r
        have h2' := Rp.mono l d v h2
        cases d <;> try exact h.elim
        cases d2 <;> try exact h.elim
        rename_i m n
        refine ⟨m, n, h2', r, ?_⟩
        exact h w1 _ l ((hE.mono l).set i (show Rp _ _ (.int (m - n)) (.int (m - n)) from rfl)) st
end
/-! ### min of pairs -/
theorem minP_eq (x : Int × Int) (xs : List (Int × Int)) : PySem.W.minOf x xs = minP x xs := rfl
def rMinP (K : PySem.W.Frag) : List V → Hp → VK → Prop := fun vs H Q => ∃ (a : Addr) (xs : List V) (p : Int × Int) (ps : List (Int × Int)), vs = [.ref a] ∧ SqL K H a xs ∧ DpAll K H xs ((p :: ps).map Datum.toD) ∧
  ∀ (i : Nat) (x : V), xs[i]? = some x → (p :: ps)[i]? = some (minP p ps) → Q x H
theorem callR_minP {X : Cx} (hu : X.A.units + 65 < cLine) (hc : X.calm = true) : CallR X (.builtin "min") (rMinP X.K) := by
  intro pins s σ H vs us Q I r h
  obtain ⟨a, xs, p, ps, rfl, hs, hd, q⟩ := h
  obtain ⟨its, rv, hl, _⟩ := I.list hs
  obtain ⟨as, ra⟩ := Dp.readsAll I _ _ _ hd rv
  rw [Vals.ref1 r]
  have HA : HoldAll s.heap its.toArray.toList (p :: ps) := ⟨as, by simpa using ra⟩
  refine PySem.W.min_list_datum (I.ok.hd hc) hl.isList HA (by show X.A.units + 1 + 1 < cLine; omega) fun i v h' tk hv hH hk => ?_
  obtain ⟨y, hy, hY⟩ := HA.at (i := i) (v := v) (by rw [← Array.getElem?_toList] at hv; exact hv)
  obtain ⟨cs, rc⟩ := Holds.keeps hk hY
  obtain ⟨ds, rd⟩ := hH
  have e := PySem.W.alike_unique (Datum.toD y) (Datum.toD (minP p ps)) v cs ds (PySem.W.DatumOrd.alike _ _) rc rd
  have e2 : y = minP p ps := by
    obtain ⟨y1, y2⟩ := y
    have e' : PyData.tuple [.int y1, .int y2] = PyData.tuple [.int (minP p ps).1, .int (minP p ps).2] := e
    injection e' with e'
    injection e' with e1 e3
    injection e3 with e3 _
    injection e1 with e1
    injection e3 with e3
    rw [e1, e3]
  subst e2
  have hil : i < its.length := by
    have hv' : its[i]? = some v := by simpa using hv
    exact (List.getElem?_eq_some_iff.mp hv').1
  have hxl : i < xs.length := by rw [rv.length]; exact hil
  obtain ⟨u, hu1, ru⟩ := rv.get (List.getElem?_eq_getElem hxl)
  have hv' : its[i]? = some v := by simpa using hv
  rw [hu1] at hv'
  cases hv'
  exact ⟨xs[i], H, I.kept hk, ru, q i _ (List.getElem?_eq_getElem hxl) hy⟩
theorem prs_toD : ∀ {ds : List D} {ps : List (Int × Int)}, prs? ds = some ps → ds = ps.map (fun p => D.tup [.int p.1, .int p.2])
  | [], ps, h => by cases (show [] = ps from Option.some.inj h); rfl
  | d :: ds, ps, h => by
    unfold prs? at h
    split at h
    · rename_i a b r q
      cases (Option.some.inj h)
      rw [prs_toD q]; rfl
    · cases h
theorem minP_mem : ∀ (ps : List (Int × Int)) (p : Int × Int), minP p ps ∈ p :: ps
  | [], p => by simp [minP]
  | y :: ps, p => by
    show minP (if ltP y p = true then y else p) ps ∈ _
    have := minP_mem ps (if ltP y p = true then y else p)
    split at this <;> simp_all
    rcases this with h | h <;> simp [h]
theorem ca_minP {X : Cx} : CaS (bX X) (rMinP X.K) (g1 minPD) := caS1 fun Wx σ w S d v Q st r h => by
  unfold minPD at h
  cases q : lvf S d with
  | none => rw [q] at h; exact h.elim
  | some ds =>
    rw [q] at h
    dsimp only at h
    cases q2 : prs? ds with
    | none => rw [q2] at h; exact h.elim
    | some ns =>
      rw [q2] at h
      cases ns with
      | nil => exact h.elim
      | cons n ns =>
        obtain ⟨p, vs, rfl, t, r⟩ := lvf_at st q r
        have e := prs_toD q2
        have dp : DpAll (bX X).K w.H vs ((n :: ns).map Datum.toD) := by
          have e2 : toPs ds = (n :: ns).map Datum.toD := by
            rw [e]
            generalize n :: ns = l
            induction l with
            | nil => rfl
            | cons z l ih =>
              rw [List.map_cons, List.map_cons, toPs, ih]
              rfl
          rw [← e2]
          refine RpL.dp ds vs r ?_
          rw [e2]
          generalize n :: ns = l
          induction l with
          | nil => rfl
          | cons z l ih => exact ih
        refine ⟨p, vs, n, ns, rfl, t, dp, fun i x hx hi => ?_⟩
        have hd : ds[i]? = some (.tup [.int (minP n ns).1, .int (minP n ns).2]) := by rw [e, List.getElem?_map, hi]; rfl
        obtain ⟨v2, h1, h2⟩ := RpL.get r hd
        rw [h1] at hx
        cases hx
        exact PostE.now h st h2
/-- def_ok, with what the body needs of its place -/
theorem def_ok2 {P : Program} {w : World} {K : PySem.W.Frag} {mg : Str → Option Value} {base : Heap} {x qual : Str} {params : Arguments} {body : List Stmt} {sc : Scope} {f : Addr} {fd : FuncData} {N ps : List Str} {k : Nat} {g : SS} (F : FunD K x qual params body sc [] [] f fd) (S : FnScope N ps sc) (hm : mg x = some (.ref f)) (hb : Binds K fd ps [])
    (hbody : ∀ (cdv : Value) (A : Around) (outer : List PySem.Env) (s : Shared) (H : Hp) (E : XK), Room k (A.deeper (envOfC qual sc s.heap.objs.size f cdv)) →
      Takes (cxOf (L2.CX P w) P w K mg base N qual sc f cdv A outer s H E) (fun cls d _ H => E cls d H) →
      PassesOwn (model P w) (A.deeper (envOfC qual sc s.heap.objs.size f cdv)) (envOfC qual sc s.heap.objs.size f cdv) (cxOf (L2.CX P w) P w K mg base N qual sc f cdv A outer s H E).xe →
      FSs (cxOf (L2.CX P w) P w K mg base N qual sc f cdv A outer s H E) (fun cls d _ H => E cls d H) body g) : DefOk P w K mg base x (k + 1) ps.length (runB g N.length) :=
  def_ok F S hm hb fun cdv A outer s H E hr => hbody cdv A outer s H E hr
    (takes_of (X := cxOf (L2.CX P w) P w K mg base N qual sc f cdv A outer s H E) rfl rfl rfl rfl)
    (passes_of (X := cxOf (L2.CX P w) P w K mg base N qual sc f cdv A outer s H E) rfl)
theorem def_fn {P : Program} {w : World} {K : PySem.W.Frag} {mg : Str → Option Value} {base : Heap} {x qual : Str} {params : Arguments} {body : List Stmt} {sc : Scope} {f : Addr} {fd : FuncData} {N ps : List Str} {k : Nat} {g : SS} (F : FunD K x qual params body sc [] [] f fd) (S : FnScope N ps sc)
    (hbody : ∀ (cdv : Value) (A : Around) (outer : List PySem.Env) (s : Shared) (H : Hp) (E : XK), Room k (A.deeper (envOfC qual sc s.heap.objs.size f cdv)) →
      Takes (cxOf (L2.CX P w) P w K mg base N qual sc f cdv A outer s H E) (fun cls d _ H => E cls d H) →
      PassesOwn (model P w) (A.deeper (envOfC qual sc s.heap.objs.size f cdv)) (envOfC qual sc s.heap.objs.size f cdv) (cxOf (L2.CX P w) P w K mg base N qual sc f cdv A outer s H E).xe →
      FSs (cxOf (L2.CX P w) P w K mg base N qual sc f cdv A outer s H E) (fun cls d _ H => E cls d H) body g) : FnOk P w K mg base (L2.CX P w) (k + 1) f fd ps (spOf ⟨K, mg⟩ ps.length (runB g N.length)) := by
  refine F.ok S (fun vs H Q E h => h.1) fun cdv A outer s H vs Q E hr ⟨hl, w1, ds, S1, e1, r1, s1, h⟩ => ⟨_, hbody cdv A outer s H E hr
    (takes_of (X := cxOf (L2.CX P w) P w K mg base N qual sc f cdv A outer s H E) rfl rfl rfl rfl)
    (passes_of (X := cxOf (L2.CX P w) P w K mg base N qual sc f cdv A outer s H E) rfl), w1, _, S1, e1, env_start (N := N) r1, s1, ?_⟩
  unfold runB at h
  cases q : g (ds.map some ++ List.replicate (N.length - ds.length) none) S1 with
  | stuck => rw [q] at h; exact h.elim
  | fl fl S2 =>
    rw [q] at h
    cases fl with
    | nx ρ => exact fun w2 σ l e s => h w2 .non l s rfl
    | rt d => exact h
    | xn x ρ => exact fun w2 σ c dd l e s r => h w2 c dd l s r
    | bk ρ => exact h.elim
    | ct ρ => exact h.elim
/-- a def that is not called -/
theorem def_stuck {P : Program} {w : World} {K : PySem.W.Frag} {mg : Str → Option Value} {base : Heap} {x : Str} {ps : List Str} {f : Addr} {fd : FuncData} {k : Nat} (hm : mg x = some (.ref f)) (hk : PySem.W.keepIn K (.ref f) = true) (hb : Binds K fd ps []) : DefOk P w K mg base x k ps.length (fun _ => stuck) :=
  ⟨f, fd, ps, rfl, ⟨fun vs H Q E h => h.1, fun A outer s H args us vs Q E hr _ _ _ ⟨_, w1, ds, S1, _, _, _, h⟩ => h.elim⟩, hm, hk, hb⟩
end F

set_option linter.all false
set_option maxRecDepth 100000
set_option maxHeartbeats 2000000
set_option autoImplicit false
/-! own classes: attributes, making -/
namespace F
open PySem PySem.Spec PyProof.Rows L2
structure ClsF (K : PySem.W.Frag) (mg : Str → Option Value) (c f : Str) : Prop where
  ex : ∃ C, mg c = some (.ref C) ∧ Cls K C ∧ NoAttr K C f
section
variable {b : B} {w : Wd} {S : Store}
theorem RpF.get {f : Str} {d : D} : ∀ {fs : List (Str × D)} {vs : List (Str × V)}, RpF b w fs vs → fs.lookup f = some d → ∃ v, vs.lookup f = some v ∧ Rp b w d v
  | [], vs, h, e => by cases e
  | (g, x) :: fs, vs, h, e => by
    obtain ⟨v, r, e1, h1, h2⟩ := h
    subst e1
    by_cases q : f = g
    · have hb : (f == g) = true := beq_iff_eq.mpr q
      simp only [List.lookup, hb] at e ⊢
      cases e
      exact ⟨v, rfl, h1⟩
    · have hb : (f == g) = false := beq_eq_false_iff_ne.mpr q
      simp only [List.lookup, hb] at e ⊢
      exact RpF.get h2 e
theorem RpF.len : ∀ {fs : List (Str × D)} {vs : List (Str × V)}, RpF b w fs vs → fs.length = vs.length
  | [], vs, h => by cases (show vs = [] from h); rfl
  | (g, x) :: fs, vs, h => by
    obtain ⟨v, r, e1, h1, h2⟩ := h
    subst e1
    simp [RpF.len h2]
theorem RpF.put {f : Str} {d : D} {v : V} (hd : Rp b w d v) : ∀ {fs : List (Str × D)} {vs : List (Str × V)}, RpF b w fs vs → RpF b w (putG f d fs) (putF f v vs)
  | [], vs, h => by
    cases (show vs = [] from h)
    exact ⟨v, [], rfl, hd, rfl⟩
  | (g, x) :: fs, vs, h => by
    obtain ⟨u, r, e1, h1, h2⟩ := h
    subst e1
    by_cases q : g = f
    · simp only [putG, putF, if_pos q]
      exact ⟨v, r, rfl, hd, h2⟩
    · simp only [putG, putF, if_neg q]
      exact ⟨u, _, rfl, h1, RpF.put hd h2⟩
end
section
variable {X : Cx} {Wx : WX} {e o value : Expr} {c f x : Str} {pos pos' : Pos} {fe fo : SE}
/-- e.f -/
theorem fe_fld (hc : ClsF X.K X.mg c f) (he : FE X Wx e fe) (hb : attributeBase e f X.env (eval e X.env) = eval e X.env := by rfl) : FE X Wx (.Attribute e f pos) (op1 (getF c f) fe) := by
  obtain ⟨C, hm, hC, hN⟩ := hc.ex
  refine PE.imp (pe_fld he hb) fun σ H Q ⟨w, ρ, S, e1, hE, hS, h⟩ => ?_
  subst e1
  refine bindE hE hS h fun w1 d v S1 l1 e1 s1 r1 h1 => ?_
  cases d with
  | ins c' fs =>
    obtain ⟨a, cc, dx, vs, rfl, h0, n, t, r⟩ := r1
    have h1' : PostE (bX X) Wx σ w1 (if c' = c then (match fs.lookup f with | some x => .ok x S1 | none => .stuck) else .stuck) Q := h1
    by_cases q : c' = c
    · subst q
      rw [if_pos rfl] at h1'
      have : cc = C := by have := h0.symm.trans hm; injection this with this; injection this
      subst this
      cases q2 : fs.lookup f with
      | none => rw [q2] at h1'; exact h1'.elim
      | some d =>
        rw [q2] at h1'
        obtain ⟨v, k1, k2⟩ := RpF.get r q2
        exact ⟨a, cc, dx, vs, v, rfl, t, hC, hN, k1, PostE.now h1' s1 k2⟩
    · rw [if_neg q] at h1'; exact h1'.elim
  | ref n =>
    obtain ⟨a, k1, rfl⟩ := r1
    obtain ⟨cl, hcl, h3⟩ := s1.cell k1
    have h1' : PostE (bX X) Wx σ w1 (match S1[n]? with
      | some (.ins c' fs) => if c' = c then (match fs.lookup f with | some x => .ok x S1 | none => .stuck) else .stuck
      | _ => .stuck) Q := h1
    rw [hcl] at h1'
    cases cl with
    | lst _ => exact h1'.elim
    | ins c' fs =>
      dsimp only at h1'
      obtain ⟨cc, dx, vs, h0, t, r⟩ := h3
      by_cases q : c' = c
      · subst q
        rw [if_pos rfl] at h1'
        have : cc = C := by have := h0.symm.trans hm; injection this with this; injection this
        subst this
        cases q2 : fs.lookup f with
        | none => rw [q2] at h1'; exact h1'.elim
        | some d =>
          rw [q2] at h1'
          obtain ⟨v, k1, k2⟩ := RpF.get r q2
          exact ⟨a, cc, dx, vs, v, rfl, t, hC, hN, k1, PostE.now h1' s1 k2⟩
      · rw [if_neg q] at h1'; exact h1'.elim
  | _ => exact h1.elim
/-- o.f = value -/
theorem fs_fld (hc : ClsF X.K X.mg c f) (hv : FE X Wx value fe) (ho : FE X Wx o fo) (hs : swapsWith value (some (.Attribute o f pos')) pos.line X.env = pure false := by rfl) : FS X Wx (.Assign [.Attribute o f pos'] value pos) (setFS c f fe fo) := by
  obtain ⟨C, hm, hC, hN⟩ := hc.ex
  refine PS.imp (ps_fld ho hv hs) fun E σ H ⟨w, ρ, S, e1, hE, hS, h⟩ => ?_
  subst e1
  refine exE hE hS h fun w1 d v S1 l1 e1 s1 r1 h1 => ?_
  refine exE e1 s1 h1 fun w2 y u S2 l2 e2 s2 r2 h2 => ?_
  cases y with
  | ref n =>
    obtain ⟨a, k1, rfl⟩ := r2
    obtain ⟨cl, hcl, h3⟩ := s2.cell k1
    dsimp only at h2
    rw [hcl] at h2
    cases cl with
    | lst _ => exact h2.elim
    | ins c' fs =>
      dsimp only at h2
      obtain ⟨cc, dx, vs, h0, t, r⟩ := h3
      by_cases q : c' = c ∧ fs.length < 1000
      · rw [if_pos q] at h2
        obtain ⟨q1, q2⟩ := q
        subst q1
        have : cc = C := by have := h0.symm.trans hm; injection this with this; injection this
        subst this
        refine ⟨a, cc, dx, vs, rfl, t, hC, hN, by rw [← RpF.len r]; exact q2, ?_⟩
        have ha : a ∈ w2.μ := List.mem_of_getElem? k1
        have l3 : Le w2 (w2.up a (.ins cc dx (putF f v vs))) := le_mut ha
        have hput : RpF (bX X) (w2.up a (.ins cc dx (putF f v vs))) (putG f d fs) (putF f v vs) := RpF.mo l3.mo _ _ (RpF.put (Rp.mono l2 _ _ r1) r)
        exact h2 (w2.up a (.ins cc dx (putF f v vs))) σ l3 (e2.mono l3) (s2.mut k1 ⟨cc, dx, _, h0, upd_same, hput⟩)
      · rw [if_neg q] at h2; exact h2.elim
  | _ => exact h2.elim
end
end F

set_option linter.all false
set_option maxRecDepth 100000
set_option maxHeartbeats 2000000
set_option autoImplicit false
/-! C(..) of an own class, errors let through -/
namespace F
open PySem PySem.Spec PyProof.Rows L2
section
variable {X : Cx} {CX : CXT} {k : Nat} {f C : Addr} {fd : FuncData} {ps : List Str} {sp : Sp} {E : L2.St → XK} {x : Str} {p pos : Pos} {e : Expr} {es : List Expr} {t : TA}
theorem run_makeS {pins : List (Addr × Obj)} {σ : L2.St} {H : Hp} {s : Shared} {Q : VK} {us : List Value} {vs : List V} (M : Mk X.K C f) (Fo : FnOk X.prog X.w X.K X.mg X.base CX k f fd ps sp) (hr : Room (k + 1) X.A) (hb : Binds X.K fd ps [])
    (hx : PassesAt CX X σ (E σ)) (I : Inv X pins σ H s) (r : Vals vs us)
    (h : ∀ x dx, H x = none → H dx = none → dx ≠ x → sp (.ref x :: vs) (upd (upd H dx (.own x)) x (.ins C dx [])) (fun v H2 => v = .non ∧ Q (.ref x) H2) (E σ)) :
    wpAny (model X.prog X.w) X.A (call (.ref C) us) (EP X pins σ Q) X.xe s := by
  have hq := h (s.heap.objs.size + 1) s.heap.objs.size (I.hok.fresh (Nat.le_succ _)) (I.hok.fresh (Nat.le_refl _)) (Nat.ne_of_lt (Nat.lt_succ_self _))
  have I2 := Inv.made (C := C) I
  have r2 : Vals (V.ref (s.heap.objs.size + 1) :: vs) (Value.ref (s.heap.objs.size + 1) :: us) := .cons rfl r
  have hl : (Value.ref (s.heap.objs.size + 1) :: us).length = ps.length := by
    have e := r2.length
    rw [Fo.len _ _ _ _ hq] at e
    exact e.symm
  have b := hb { s with heap := (s.heap.push PySem.W.emptyDict).push (PySem.W.instObj C s.heap.objs.size) } (Value.ref (s.heap.objs.size + 1) :: us) I2.kIn (by rw [List.append_nil]; exact hl)
  rw [List.append_nil] at b
  refine wpAny_call (make_map (f := f) I.kIn M.makes M.init (beq_iff_eq.mp M.fn) (codeAny_mono (Fo.run _ X.stack _ _ ⟨Value.ref (s.heap.objs.size + 1) :: us, []⟩ (Value.ref (s.heap.objs.size + 1) :: us) _ _ (E σ) (hr.make C us [])
    (I2.env0.make C us []) b r2 hq) fun r s' hq' => ?_))
  cases r with
  | error e => exact hx pins _ _ e s' I2 hq'
  | ok fl =>
    cases fl with
    | ret u =>
      obtain ⟨v, H', I3, rv, ev, q3⟩ := I2.after hq'
      subst ev
      exact ⟨rv, ⟨V.ref (s.heap.objs.size + 1), H', I3, rfl, q3⟩⟩
    | next => exact False.elim hq'
    | brk => exact False.elim hq'
    | cont => exact False.elim hq'
def tMakeS (C : Addr) (sp : Sp) (E : L2.St → XK) (t : TA) : TE := fun σ H Q => t σ H fun vs H1 => ∀ x dx, H1 x = none → H1 dx = none → dx ≠ x →
  sp (.ref x :: vs) (upd (upd H1 dx (.own x)) x (.ins C dx [])) (fun v H2 => v = .non ∧ Q (.ref x) H2) (E σ)
theorem pe_makeS (M : Mk X.K C f) (Fo : FnOk X.prog X.w X.K X.mg X.base CX k f fd ps sp) (hr : Room (k + 1) X.A) (hg : Gl X x) (hm : X.mg x = some (.ref C)) (hb : Binds X.K fd ps []) (hx : ∀ σ, PassesAt CX X σ (E σ))
    (ha : PA X (e :: es) t) (hdb : (x == ("__debug__" : Str)) = false := by decide) (he : starEach (e :: es) X.env = (false, eval e X.env) :: starEach es X.env := by rfl) (hpl : (backTo pos (starEach es X.env)).any (·.1) = false := by rfl) :
    PE X (.Call (.Name x p) (e :: es) [] pos) (tMakeS C sp E t) := by
  refine ⟨fun pins s σ H Q I h => ?_⟩
  refine wpAny_Call_Name_kw (ld_glob I hg hm ?_ hdb)
  refine PySem.W.callWith_K (h₀ := X.base) I.ok.mod.kin M.kp (thn (ha.run pos pins s σ H _ I h) fun us s1 ⟨vs, H1, I1, r, q⟩ => ⟨I1.kIn, ?_⟩) he hpl
  exact run_makeS M Fo hr hb (hx σ) I1 r q
end
/-- the class c is made by an __init__ of n parameters (self among them) that reckons g -/
structure InitOk (P : Program) (w : World) (K : PySem.W.Frag) (mg : Str → Option Value) (base : Heap) (c : Str) (k n : Nat) (g : List D → M D) : Prop where
  ex : ∃ (C f : Addr) (fd : FuncData) (ps : List Str), mg c = some (.ref C) ∧ ps.length = n ∧ FnOk P w K mg base (L2.CX P w) k f fd ps (spOf ⟨K, mg⟩ n g) ∧ Mk K C f ∧ Binds K fd ps []
theorem le_two {w : Wd} {x dx : Addr} {o u : HO} (hx : w.H x = none) (hd : w.H dx = none) : Le w ⟨w.μ ++ [x], upd (upd w.H dx o) x u, w.hid⟩ := by
  refine ⟨List.prefix_append _ _, fun a q e _ => ?_, fun a z n => ?_, rfl⟩
  · show upd (upd w.H dx o) x u a = _
    rw [upd_ne (ne_of_none e hx), upd_ne (ne_of_none e hd)]; exact e
  · rcases List.mem_append.mp z with z | z
    · exact absurd z n
    · rw [List.mem_singleton.mp z]; exact hx
theorem fe_make {X : Cx} {Wx : WX} {c : Str} {p pos : Pos} {e : Expr} {es : List Expr} {fs : SA} {k n : Nat} {g : List D → M D} (C : InitOk X.prog X.w X.K X.mg X.base c k (n + 1) g) (hr : Room (k + 1) X.A) (tk : Takes X Wx) (ha : FA X Wx (e :: es) fs) (hg : Gl X c := by rfl)
    (hdb : (c == ("__debug__" : Str)) = false := by decide) (he : starEach (e :: es) X.env = (false, eval e X.env) :: starEach es X.env := by rfl) (hpl : (backTo pos (starEach es X.env)).any (·.1) = false := by rfl) :
    FE X Wx (.Call (.Name c p) (e :: es) [] pos) (appA fs (cal n (mkI c g))) := by
  obtain ⟨cc, f, fd, ps, hm, hn, Fo, M, hb⟩ := C.ex
  refine PE.imp (pe_makeS (E := fun σ => WE Wx σ) M Fo hr hg hm hb (fun σ => passAt tk σ) ha hdb he hpl) fun σ H Q ⟨w, ρ, S, e, hE, hS, h⟩ => ?_
  subst e
  refine bindAE hE hS h fun w1 ds vs S1 l1 e1 s1 r1 h1 x dx hx hd hne => ?_
  unfold cal at h1
  by_cases hl : ds.length = n
  · rw [if_pos hl] at h1
    have l2 := le_two (w := w1) (o := .own x) (u := .ins cc dx []) hx hd
    have s2 : StR (bX X) ⟨w1.μ ++ [x], upd (upd w1.H dx (.own x)) x (.ins cc dx []), w1.hid⟩ (S1 ++ [.ins c []]) := by
      have sA : StR (bX X) (w1.up dx (.own x)) S1 := s1.new hd
      exact sA.newCell (p := x) (o := .ins cc dx []) (by show upd w1.H dx _ x = none; rw [upd_ne (Ne.symm hne)]; exact hx) ⟨cc, dx, [], hm, upd_same, rfl⟩
    have rx : Rp (bX X) ⟨w1.μ ++ [x], upd (upd w1.H dx (.own x)) x (.ins cc dx []), w1.hid⟩ (.ref S1.length) (.ref x) := ⟨x, by
      show (w1.μ ++ [x])[S1.length]? = some x
      rw [List.getElem?_append_right (by rw [s1.len]; exact Nat.le_refl _), s1.len]
      simp, rfl⟩
    refine ⟨by rw [← hl, RpL.length r1]; rfl, ⟨w1.μ ++ [x], upd (upd w1.H dx (.own x)) x (.ins cc dx []), w1.hid⟩, .ref S1.length :: ds, S1 ++ [.ins c []], rfl, ⟨.ref x, vs, rfl, rx, RpL.mono l2 _ _ r1⟩, s2, ?_⟩
    unfold mkI at h1
    cases q : g (.ref S1.length :: ds) (S1 ++ [.ins c []]) with
    | stuck => rw [q] at h1; exact h1.elim
    | exn y S2 =>
      rw [q] at h1
      exact fun w2 cls dd l st r => h1 w2 cls dd (l2.trans l) st r
    | ok d S2 =>
      rw [q] at h1
      cases d with
      | non => exact fun w2 v l st r => ⟨r, h1 w2 (.ref x) (l2.trans l) st (Rp.mono l _ _ rx)⟩
      | _ => exact h1.elim
  · rw [if_neg hl] at h1; exact h1.elim
/-- .. that does not change any more -/
theorem fe_makeF {X : Cx} {Wx : WX} {c : Str} {p pos : Pos} {e : Expr} {es : List Expr} {fs : SA} {k n : Nat} {g : List D → M D} (C : InitOk X.prog X.w X.K X.mg X.base c k (n + 1) g) (hr : Room (k + 1) X.A) (tk : Takes X Wx) (ha : FA X Wx (e :: es) fs) (hg : Gl X c := by rfl)
    (hdb : (c == ("__debug__" : Str)) = false := by decide) (he : starEach (e :: es) X.env = (false, eval e X.env) :: starEach es X.env := by rfl) (hpl : (backTo pos (starEach es X.env)).any (·.1) = false := by rfl) :
    FE X Wx (.Call (.Name c p) (e :: es) [] pos) (appA fs (cal n (mkF c g))) := by
  obtain ⟨cc, f, fd, ps, hm, hn, Fo, M, hb⟩ := C.ex
  refine PE.imp (pe_makeS (E := fun σ => WE Wx σ) M Fo hr hg hm hb (fun σ => passAt tk σ) ha hdb he hpl) fun σ H Q ⟨w, ρ, S, e, hE, hS, h⟩ => ?_
  subst e
  refine bindAE hE hS h fun w1 ds vs S1 l1 e1 s1 r1 h1 x dx hx hd hne => ?_
  unfold cal at h1
  by_cases hl : ds.length = n
  · rw [if_pos hl] at h1
    have h1 : PostE (bX X) Wx σ w1 (mkI c g ds S1) Q := postF_close (E := WE Wx σ) s1 h1
    have l2 := le_two (w := w1) (o := .own x) (u := .ins cc dx []) hx hd
    have s2 : StR (bX X) ⟨w1.μ ++ [x], upd (upd w1.H dx (.own x)) x (.ins cc dx []), w1.hid⟩ (S1 ++ [.ins c []]) := by
      have sA : StR (bX X) (w1.up dx (.own x)) S1 := s1.new hd
      exact sA.newCell (p := x) (o := .ins cc dx []) (by show upd w1.H dx _ x = none; rw [upd_ne (Ne.symm hne)]; exact hx) ⟨cc, dx, [], hm, upd_same, rfl⟩
    have rx : Rp (bX X) ⟨w1.μ ++ [x], upd (upd w1.H dx (.own x)) x (.ins cc dx []), w1.hid⟩ (.ref S1.length) (.ref x) := ⟨x, by
      show (w1.μ ++ [x])[S1.length]? = some x
      rw [List.getElem?_append_right (by rw [s1.len]; exact Nat.le_refl _), s1.len]
      simp, rfl⟩
    refine ⟨by rw [← hl, RpL.length r1]; rfl, ⟨w1.μ ++ [x], upd (upd w1.H dx (.own x)) x (.ins cc dx []), w1.hid⟩, .ref S1.length :: ds, S1 ++ [.ins c []], rfl, ⟨.ref x, vs, rfl, rx, RpL.mono l2 _ _ r1⟩, s2, ?_⟩
    unfold mkI at h1
    cases q : g (.ref S1.length :: ds) (S1 ++ [.ins c []]) with
    | stuck => rw [q] at h1; exact h1.elim
    | exn y S2 =>
      rw [q] at h1
      exact fun w2 cls dd l st r => h1 w2 cls dd (l2.trans l) st r
    | ok d S2 =>
      rw [q] at h1
      cases d with
      | non => exact fun w2 v l st r => ⟨r, h1 w2 (.ref x) (l2.trans l) st (Rp.mono l _ _ rx)⟩
      | _ => exact h1.elim
  · rw [if_neg hl] at h1; exact h1.elim
end F

set_option linter.all false
set_option maxRecDepth 100000
set_option maxHeartbeats 2000000
set_option autoImplicit false
/-! list.index, sorted, list(range), two targets -/
namespace F
open PySem PySem.Spec PyProof.Rows L2
theorem toPs_get : ∀ (ds : List D) (i : Nat), (toPs ds)[i]? = (ds[i]?).map D.toP
  | [], i => by simp [toPs]
  | d :: ds, 0 => rfl
  | d :: ds, i + 1 => by
    show (d.toP :: toPs ds)[i + 1]? = _
    simpa using toPs_get ds i
theorem idx_some {ds : List D} {y : D} {j : Nat} (h : idx? ds y = some j) : ∃ z, ds[j]? = some z ∧ PyData.eqv z.toP y.toP = true ∧ ∀ (m : Nat) (z' : D), m < j → ds[m]? = some z' → PyData.eqv z'.toP y.toP = false := by
  unfold idx? at h
  rw [List.findIdx?_eq_some_iff_getElem] at h
  obtain ⟨hj, h1, h2⟩ := h
  refine ⟨ds[j], List.getElem?_eq_getElem hj, h1, fun m z' hm hz => ?_⟩
  obtain ⟨hm2, rfl⟩ := List.getElem?_eq_some_iff.mp hz
  have := h2 m hm
  simpa using this
section
variable {X : Cx} {Wx : WX} {a c : Expr} {pos : Pos} {fa fc : SE} {fs : SA} {tg : Expr}
/-- o.index(y), o a list -/
theorem fe_index {apos : Pos} (hu : X.A.units + 65 < cLine) (ho : FE X Wx a fa) (hc : FA X Wx [c] fs) (hbase : attributeBase a "index" X.env (eval a X.env) = eval a X.env := by rfl)
    (hfew : ((backTo pos (starEach [c] X.env)).all (fun x => !x.1) && (backToKw pos (keywordEach [] X.env)).all (fun x => x.1.isSome)
      && decide ([c].length + ([] : List Keyword).length + (if ([] : List Keyword).isEmpty then 0 else 1) < 30)) = true := by rfl)
    (hline : (apos.endLine == pos.line) = true := by rfl) (hs : starEach [c] X.env = (false, eval c X.env) :: starEach [] X.env := by rfl) (hplain : (backTo pos (starEach [] X.env)).any (·.1) = false := by rfl) :
    FE X Wx (.Call (.Attribute a "index" apos) [c] [] pos) (mtE fa fs idxD) :=
  PE.imp (pe_bm PySem.F.plainAttrs_list PySem.F.slot_list_index PySem.F.type_list_index (mt_indexD hu) ho hc hbase hfew hline hs hplain) fun σ H Q ⟨w, ρ, S, e, hE, hS, h⟩ => by
    subst e
    refine bindE hE hS h fun w1 d v S1 l1 e1 s1 r1 h1 => ?_
    cases q : lv S1 d with
    | none => unfold bnd chkL at h1; dsimp only at h1; rw [q] at h1; exact h1.elim
    | some ds0 =>
      have h1 : PostE (bX X) Wx σ w1 (bnd (fs ρ) (g1 (idxD d)) S1) Q := by
        unfold bnd chkL at h1
        dsimp only at h1
        rw [q] at h1
        exact h1
      obtain ⟨p, vs, rfl, t, _⟩ := lv_at s1 q r1
      refine ⟨.inl ⟨rfl, vs, .inl (.inl t)⟩, ?_⟩
      refine bindAE e1 s1 h1 fun w2 ds us S2 l2 e2 s2 r2 h2 => ?_
      match ds, r2, h2 with
      | [y], r2, h2 =>
        obtain ⟨u, rfl, r3⟩ := rpl1 r2
        have h2 : PostE (bX X) Wx σ w2 (idxD d y S2) Q := h2
        unfold idxD at h2
        cases q2 : lv S2 d with
        | none => rw [q2] at h2; exact h2.elim
        | some es =>
          rw [q2] at h2
          dsimp only at h2
          obtain ⟨p', xs, ep, t2, r4⟩ := lv_at s2 q2 (Rp.mono l2 _ _ r1)
          injection ep with ep
          subst ep
          by_cases hsh : (SeqAt.shaped y.toP && SeqAt.shaped (.list (toPs es))) = true
          · rw [if_pos hsh] at h2
            obtain ⟨k1, k2⟩ := Bool.and_eq_true_iff.mp hsh
            cases q3 : idx? es y with
            | none => rw [q3] at h2; exact h2.elim
            | some j =>
              rw [q3] at h2
              dsimp only at h2
              obtain ⟨z, z1, z2, z3⟩ := idx_some q3
              refine ⟨p, u, y.toP, toPs es, j, z.toP, rfl, rfl, ?_, ?_, k2, k1, ?_, z2, fun m z' hm hz => ?_, PostE.now h2 s2 rfl⟩
              · have hl : PyData.canLayAll0 (toPs es) = true := SeqAt.canLay_of_shaped k2
                exact .lst (.inl (.inl t2)) (RpL.dp _ _ r4 hl)
              · exact Rp.dp _ _ r3 (SeqAt.canLay_of_shaped k1)
              · rw [toPs_get, z1]; rfl
              · rw [toPs_get] at hz
                cases q5 : es[m]? with
                | none => rw [q5] at hz; cases hz
                | some z5 =>
                  rw [q5] at hz
                  cases hz
                  exact z3 m z5 hm q5
          · rw [if_neg hsh] at h2; exact h2.elim
      | [], _, h2 => exact h2.elim
      | _ :: _ :: _, _, h2 => exact h2.elim
/-- sorted(ints) -/
theorem sortI_of {ns ns' : List Int} (hp : ns'.Perm ns) (hs : ns'.Pairwise (· ≤ ·)) : ns' = sortI ns := by
  have h1 : (sortI ns).Pairwise (· ≤ ·) := by
    have := List.pairwise_mergeSort (le := fun (a b : Int) => decide (a ≤ b)) (fun a b c => by simp; omega) (fun a b => by simp; omega) ns
    refine this.imp fun h => ?_
    simpa using h
  exact List.Perm.eq_of_pairwise (le := (· ≤ ·)) (fun a b _ _ h1 h2 => by omega) hs h1 (hp.trans (List.mergeSort_perm ns _).symm)
theorem ca_sorted : CaS (bX X) (rSortedI X.K) (g1 sortedD) := caS1 fun Wx σ w S d v Q st r h => by
  unfold sortedD at h
  cases q : lvf S d with
  | none => rw [q] at h; exact h.elim
  | some ds =>
    rw [q] at h
    dsimp only at h
    cases q2 : ints? ds with
    | none => rw [q2] at h; exact h.elim
    | some ns =>
      rw [q2] at h
      dsimp only at h
      obtain ⟨a, rfl, hs⟩ := ofInts_at st q q2 r
      refine ⟨a, ns, rfl, hs, fun ns' p hp hsr hn => ?_⟩
      rw [sortI_of hp hsr]
      exact PostE.newL h st (RpL.ofInts _) hn
theorem rg_ints {b : B} {w : Wd} (i j : Int) : RpL b w ((List.range (j - i).toNat).map fun k => D.int (i + (k : Nat))) (rgV i j) := by
  unfold rgV
  generalize List.range (j - i).toNat = l
  induction l with
  | nil => rfl
  | cons x xs ih => exact ⟨_, _, rfl, rfl, ih⟩
/-- list(range(i, j)) -/
theorem fe_listRg2 {p p2 pos2 : Pos} (hm : X.mg "list" = none) (hm2 : X.mg "range" = none) (ha : FE X Wx a fa) (hb : FE X Wx c fc) (hc : X.calm = true := by rfl) (hg : Gl X "list" := by rfl) (hg2 : Gl X "range" := by rfl)
    (na : starEach [a, c] X.env = (false, eval a X.env) :: starEach [c] X.env := by rfl)
    (nb : starEach [c] X.env = (false, eval c X.env) :: starEach [] X.env := by rfl) (hp : (backTo pos2 (starEach [c] X.env)).any (·.1) = false := by rfl)
    (ne : starEach [.Call (.Name "range" p2) [a, c] [] pos2] X.env = (false, eval (.Call (.Name "range" p2) [a, c] [] pos2) X.env) :: starEach [] X.env := by rfl) :
    FE X Wx (.Call (.Name "list" p) [.Call (.Name "range" p2) [a, c] [] pos2] [] pos) (lrgE (appA (consA fa (consA fc nilA)) itR2)) := by
  refine PE.imp (pe_listRg hc hg hm (prg_2 hg2 hm2 ha hb na nb hp) ne) fun σ H Q ⟨w, ρ, S, e, hE, hS, h⟩ => ?_
  subst e
  have h : PostE (bX X) Wx σ w (bnd (fa ρ) (fun d => bnd (fc ρ) fun d2 => bnd (itR2 [d, d2]) mkL) S) Q := by
    have e : (bnd (fa ρ) (fun d => bnd (fc ρ) fun d2 => bnd (itR2 [d, d2]) mkL) S) = lrgE (appA (consA fa (consA fc nilA)) itR2) ρ S := by
      unfold lrgE appA consA nilA bnd ret
      cases fa ρ S with
      | ok d S1 =>
        dsimp only
        cases fc ρ S1 <;> rfl
      | _ => rfl
    rw [e]; exact h
  refine bindE hE hS h fun w1 d v S1 l1 e1 s1 r1 h1 => ?_
  refine bindE e1 s1 h1 fun w2 d2 v2 S2 l2 e2 s2 r2 h2 => ?_
  unfold bnd itR2 at h2
  cases d with
  | int i => cases d2 with
    | int j =>
      dsimp only at h2
      by_cases hb : -(2 ^ 62) ≤ i ∧ i < 2 ^ 62 ∧ -(2 ^ 62) ≤ j ∧ j < 2 ^ 62
      · rw [if_pos hb] at h2
        dsimp only [mkL] at h2
        by_cases hl : ((List.range (j - i).toNat).map fun k => D.int (i + (k : Nat))).length ≤ lineN
        · rw [if_pos hl] at h2
          refine ⟨i, j, r1, r2, ⟨hb.1, hb.2.1, hb.2.2.1, hb.2.2.2, ?_⟩, fun q hq => PostE.newL h2 s2 (rg_ints i j) hq⟩
          rw [List.length_map, List.length_range] at hl
          exact hl
        · rw [if_neg hl] at h2; exact h2.elim
      · rw [if_neg hb] at h2; exact h2.elim
    | _ => exact h2.elim
  | _ => exact h2.elim
end
section
variable {X : Cx} {Wx : WX} {e : Expr} {pos : Pos} {fe : SE}
/-- t = u = e -/
theorem fs_asg2 {t1 t2 : Expr} {t u : Tg} (he : FE X Wx e fe) (h1 : FG X t1 t) (h2 : FG X t2 u) (ha : (assignEach [t1, t2] X.env).map (·.2) = [assign t1 X.env, assign t2 X.env] := by rfl) (hw : swappedStores [t1, t2] e X.env = pure none := by rfl) :
    FS X Wx (.Assign [t1, t2] e pos) (asg2S fe t u) := PS.imp (ps_asg2 he h1 h2 ha hw) fun E σ H ⟨w, ρ, S, e, hE, hS, h⟩ => by
  subst e
  refine exE hE hS h fun w1 d v S1 l1 e1 s1 r1 h1 => ?_
  cases q : tgD t d ρ with
  | none => rw [q] at h1; exact h1.elim
  | some ρ' =>
    rw [q] at h1
    dsimp only at h1
    obtain ⟨σ', e2, _, hq⟩ := tg_of e1 r1 q
    refine hq _ ?_
    cases q2 : tgD u d ρ' with
    | none => rw [q2] at h1; exact h1.elim
    | some ρ2 =>
      rw [q2] at h1
      obtain ⟨σ2, e3, _, hq2⟩ := tg_of e2 r1 q2
      exact hq2 _ (h1 w1 σ2 (Le.refl _) e3 s1)
end
end F

set_option linter.all false
set_option maxRecDepth 100000
set_option maxHeartbeats 2000000
set_option autoImplicit false
/-! methods, properties of own classes; the head's facts by tests of one's own -/
namespace F
open PySem PySem.Spec PyProof.Rows L2
/-! ### methods -/
structure MthOk (P : Program) (w : World) (K : PySem.W.Frag) (mg : Str → Option Value) (base : Heap) (c m : Str) (k n : Nat) (g : List D → M D) : Prop where
  ex : ∃ (C f : Addr) (fd : FuncData) (ps : List Str), mg c = some (.ref C) ∧ Cls K C ∧ Meth K C m f ∧ ps.length = n ∧ FnOk P w K mg base (L2.CX P w) k f fd ps (spOf ⟨K, mg⟩ n g) ∧ Binds K fd ps []
structure PrpOk (P : Program) (w : World) (K : PySem.W.Frag) (mg : Str → Option Value) (base : Heap) (c m : Str) (k : Nat) (g : List D → M D) : Prop where
  ex : ∃ (C p f : Addr) (fd : FuncData) (ps : List Str), mg c = some (.ref C) ∧ Cls K C ∧ PropOf K C m p f ∧ ps.length = 1 ∧ FnOk P w K mg base (L2.CX P w) k f fd ps (spOf ⟨K, mg⟩ 1 g) ∧ Binds K fd ps []
theorem MthOk.mono {P : Program} {w : World} {K : PySem.W.Frag} {mg : Str → Option Value} {base : Heap} {c m : Str} {j k n : Nat} {g : List D → M D} (h : MthOk P w K mg base c m j n g) (hk : j ≤ k) : MthOk P w K mg base c m k n g := by
  obtain ⟨C, f, fd, ps, h1, h2, h3, h4, h5, h6⟩ := h.ex
  exact ⟨C, f, fd, ps, h1, h2, h3, h4, h5.mono hk, h6⟩
theorem RpF.none {b : B} {w : Wd} {f : Str} : ∀ {fs : List (Str × D)} {vs : List (Str × V)}, RpF b w fs vs → fs.lookup f = none → vs.lookup f = none
  | [], vs, h, e => by cases (show vs = [] from h); rfl
  | (g, x) :: fs, vs, h, e => by
    obtain ⟨v, r, e1, h1, h2⟩ := h
    subst e1
    by_cases q : (f == g) = true
    · simp only [List.lookup, q] at e; cases e
    · rw [Bool.not_eq_true] at q
      simp only [List.lookup, q] at e ⊢
      exact RpF.none h2 e
theorem insC_ins (m : Str) (S : Store) (c : Str) (fs : List (Str × D)) : insC m S (.ins c fs) = if (fs.lookup m).isNone = true then some c else none := id rfl
theorem insC_ref (m : Str) (S : Store) (n : Nat) : insC m S (.ref n) = (match S[n]? with
    | some (.ins c fs) => if (fs.lookup m).isNone = true then some c else none
    | _ => none) := id rfl
theorem bnd_chkI {α : Type} (c m : Str) (d : D) (f : D → M α) (S : Store) : bnd (chkI c m d) f S = (match insC m S d with
    | some c' => if c' = c then f d S else .stuck
    | none => .stuck) := by
  unfold bnd chkI
  cases insC m S d with
  | none => rfl
  | some c' =>
    dsimp only
    by_cases h : c' = c
    · rw [if_pos h, if_pos h]
    · rw [if_neg h, if_neg h]
theorem insC_at {b : B} {w : Wd} {S : Store} (st : StR b w S) {m c : Str} {d : D} {v : V} (h : insC m S d = some c) (r : Rp b w d v) : ∃ a cc dx vs, v = .ref a ∧ b.mg c = some (.ref cc) ∧ w.H a = some (.ins cc dx vs) ∧ vs.lookup m = none := by
  cases d with
  | ins c' fs =>
    rw [insC_ins] at h
    by_cases q : (fs.lookup m).isNone = true
    · rw [if_pos q] at h
      cases h
      obtain ⟨a, cc, dx, vs, rfl, h0, n, t, r⟩ := r
      exact ⟨a, cc, dx, vs, rfl, h0, t, RpF.none r (Option.isNone_iff_eq_none.mp q)⟩
    · rw [if_neg q] at h; cases h
  | ref n =>
    obtain ⟨a, k1, rfl⟩ := r
    obtain ⟨cl, hcl, h3⟩ := st.cell k1
    rw [insC_ref, hcl] at h
    cases cl with
    | lst _ => cases h
    | ins c' fs =>
      dsimp only at h
      by_cases q : (fs.lookup m).isNone = true
      · rw [if_pos q] at h
        cases h
        obtain ⟨cc, dx, vs, h0, t, r⟩ := h3
        exact ⟨a, cc, dx, vs, rfl, h0, t, RpF.none r (Option.isNone_iff_eq_none.mp q)⟩
      · rw [if_neg q] at h; cases h
  | _ => cases h
section
variable {X : Cx} {Wx : WX} {e o : Expr} {es : List Expr} {c m : Str} {pos apos : Pos} {fe fo : SE} {fs : SA} {k n : Nat} {g : List D → M D}
def tMethS (C : Addr) (m : Str) (sp : Sp) (E : L2.St → XK) (ta : TE) (t : TA) : TE := fun σ H Q => ta σ H fun x H1 => ∃ a dx fs, x = .ref a ∧ H1 a = some (.ins C dx fs) ∧ fs.lookup m = none ∧ t σ H1 fun vs H2 => sp (x :: vs) H2 Q (E σ)
theorem pe_mthS {CX : CXT} {C f : Addr} {fd : FuncData} {ps : List Str} {sp : Sp} {E : L2.St → XK} {ta : TE} {t : TA} {pl : Sem Bool} (he : PE X o ta) (c : Cls X.K C) (hm : Meth X.K C m f) (Fo : FnOk X.prog X.w X.K X.mg X.base CX k f fd ps sp) (hr : Room k X.A) (hb : Binds X.K fd ps [])
    (hx : ∀ σ, PassesAt CX X σ (E σ)) (ha : PA X (e :: es) t)
    (hst : starEach (e :: es) X.env = (false, eval e X.env) :: starEach es X.env) (hpl : (backTo pos (starEach es X.env)).any (·.1) = false)
    (ht : eval (.Call (.Attribute o m apos) (e :: es) [] pos) X.env = (do
      let ov ← eval o X.env
      standAt apos.atName
      let (f, first) ← holding [ov] (getMethod ov m pl)
      callWith pos f first (backTo pos (starEach (e :: es) X.env)) (backToKw pos (keywordEach [] X.env)))) :
    PE X (.Call (.Attribute o m apos) (e :: es) [] pos) (tMethS C m sp E ta t) := by
  refine ⟨fun pins s σ H Q I h => PySem.W.methodCall_KW (pl := pl) (thn (he.run pins s σ H _ I h) fun u s1 hh => ?_) ht⟩
  obtain ⟨x, H1, I1, rx, a, dx, fs, ex, ea, l, q⟩ := hh
  subst ex
  cases (show u = Value.ref a from rx)
  refine getmeth_ok I1 ea c hm l (PySem.W.callWith_K (first := [.ref a]) (h₀ := X.base) I1.ok.mod.kin hm.kp (thn (ha.run pos pins s1 σ H1 _ I1 q) fun us s2 hh => ?_) hst hpl)
  obtain ⟨vs, H2, I2, r, q2⟩ := hh
  exact ⟨I2.kIn, run_fnS (us := .ref a :: us) (vs := .ref a :: vs) Fo hr hb (hx σ) I2 (.cons rfl r) q2⟩
theorem pe_mthS0 {CX : CXT} {C f : Addr} {fd : FuncData} {ps : List Str} {sp : Sp} {E : L2.St → XK} {ta : TE} {pl : Sem Bool} (he : PE X o ta) (c : Cls X.K C) (hm : Meth X.K C m f) (Fo : FnOk X.prog X.w X.K X.mg X.base CX k f fd ps sp) (hr : Room k X.A) (hb : Binds X.K fd ps [])
    (hx : ∀ σ, PassesAt CX X σ (E σ))
    (ht : eval (.Call (.Attribute o m apos) [] [] pos) X.env = (do
      let ov ← eval o X.env
      standAt apos.atName
      let (f, first) ← holding [ov] (getMethod ov m pl)
      callWith pos f first (backTo pos (starEach [] X.env)) (backToKw pos (keywordEach [] X.env)))) :
    PE X (.Call (.Attribute o m apos) [] [] pos) (tMethS C m sp E ta tNil) := by
  refine ⟨fun pins s σ H Q I h => PySem.W.methodCall_KW (pl := pl) (thn (he.run pins s σ H _ I h) fun u s1 hh => ?_) ht⟩
  obtain ⟨x, H1, I1, rx, a, dx, fs, ex, ea, l, q⟩ := hh
  subst ex
  cases (show u = Value.ref a from rx)
  exact getmeth_ok I1 ea c hm l (PySem.W.callWith_K0 (first := [.ref a]) I1.kIn hm.kp (run_fnS (us := [.ref a]) (vs := [.ref a]) Fo hr hb (hx σ) I1 (.cons rfl .nil) q))
/-- o.m(e, ..) -/
theorem fe_mth {pl : Sem Bool} (C : MthOk X.prog X.w X.K X.mg X.base c m k (n + 1) g) (hr : Room k X.A) (tk : Takes X Wx) (ho : FE X Wx o fo) (ha : FA X Wx (e :: es) fs)
    (hst : starEach (e :: es) X.env = (false, eval e X.env) :: starEach es X.env := by rfl) (hpl : (backTo pos (starEach es X.env)).any (·.1) = false := by rfl)
    (ht : eval (.Call (.Attribute o m apos) (e :: es) [] pos) X.env = (do
      let ov ← eval o X.env
      standAt apos.atName
      let (f, first) ← holding [ov] (getMethod ov m pl)
      callWith pos f first (backTo pos (starEach (e :: es) X.env)) (backToKw pos (keywordEach [] X.env))) := by rfl) :
    FE X Wx (.Call (.Attribute o m apos) (e :: es) [] pos) (mcE c m fo fs n g) := by
  obtain ⟨cc, f, fd, ps, hm, hC, hM, hn, Fo, hb⟩ := C.ex
  refine PE.imp (pe_mthS (E := fun σ => WE Wx σ) ho hC hM Fo hr hb (fun σ => passAt tk σ) ha hst hpl ht) fun σ H Q ⟨w, ρ, S, e, hE, hS, h⟩ => ?_
  subst e
  refine bindE hE hS h fun w1 d v S1 l1 e1 s1 r1 h1 => ?_
  cases q : insC m S1 d with
  | none => rw [bnd_chkI, q] at h1; exact h1.elim
  | some c' =>
    rw [bnd_chkI, q] at h1
    dsimp only at h1
    by_cases hc : c' = c
    · subst hc
      rw [if_pos rfl] at h1
      obtain ⟨a, C2, dx, vs, rfl, h0, t, l⟩ := insC_at s1 q r1
      have : C2 = cc := by have := h0.symm.trans hm; injection this with this; injection this
      subst this
      refine ⟨a, dx, vs, rfl, t, l, ?_⟩
      have h1 : PostE (bX X) Wx σ w1 (bnd (fs ρ) (fun ds => cal (n + 1) g (d :: ds)) S1) Q := h1
      refine bindAE e1 s1 h1 fun w2 ds us S2 l2 e2 s2 r2 h2 => ?_
      unfold cal at h2
      by_cases hl : (d :: ds).length = n + 1
      · rw [if_pos hl] at h2
        refine ⟨by rw [← hl]; simp [RpL.length r2], w2, d :: ds, S2, rfl, ⟨_, _, rfl, Rp.mono l2 _ _ r1, r2⟩, s2, ?_⟩
        cases q3 : g (d :: ds) S2 with
        | ok z S3 => rw [q3] at h2; exact h2
        | exn z S3 => rw [q3] at h2; exact h2
        | stuck => rw [q3] at h2; exact h2.elim
      · rw [if_neg hl] at h2; exact h2.elim
    · rw [if_neg hc] at h1; exact h1.elim
/-- o.m() -/
theorem fe_mth0 {pl : Sem Bool} (C : MthOk X.prog X.w X.K X.mg X.base c m k 1 g) (hr : Room k X.A) (tk : Takes X Wx) (ho : FE X Wx o fo)
    (ht : eval (.Call (.Attribute o m apos) [] [] pos) X.env = (do
      let ov ← eval o X.env
      standAt apos.atName
      let (f, first) ← holding [ov] (getMethod ov m pl)
      callWith pos f first (backTo pos (starEach [] X.env)) (backToKw pos (keywordEach [] X.env))) := by rfl) :
    FE X Wx (.Call (.Attribute o m apos) [] [] pos) (mcE c m fo nilA 0 g) := by
  obtain ⟨cc, f, fd, ps, hm, hC, hM, hn, Fo, hb⟩ := C.ex
  refine PE.imp (pe_mthS0 (E := fun σ => WE Wx σ) ho hC hM Fo hr hb (fun σ => passAt tk σ) ht) fun σ H Q ⟨w, ρ, S, e, hE, hS, h⟩ => ?_
  subst e
  refine bindE hE hS h fun w1 d v S1 l1 e1 s1 r1 h1 => ?_
  cases q : insC m S1 d with
  | none => rw [bnd_chkI, q] at h1; exact h1.elim
  | some c' =>
    rw [bnd_chkI, q] at h1
    dsimp only at h1
    by_cases hc : c' = c
    · subst hc
      rw [if_pos rfl] at h1
      obtain ⟨a, C2, dx, vs, rfl, h0, t, l⟩ := insC_at s1 q r1
      have : C2 = cc := by have := h0.symm.trans hm; injection this with this; injection this
      subst this
      refine ⟨a, dx, vs, rfl, t, l, ?_⟩
      have h2 : PostE (bX X) Wx σ w1 (g [d] S1) Q := h1
      show spOf _ 1 g [V.ref a] w1.H Q _
      refine ⟨rfl, w1, [d], S1, rfl, ⟨_, _, rfl, r1, rfl⟩, s1, ?_⟩
      cases q3 : g [d] S1 with
      | ok z S3 => rw [q3] at h2; exact h2
      | exn z S3 => rw [q3] at h2; exact h2
      | stuck => rw [q3] at h2; exact h2.elim
    · rw [if_neg hc] at h1; exact h1.elim
theorem cx_noE {P : Program} {w : World} {outer : List PySem.Env} (H : Hp) (s : Shared) (e : Value) (s' : Shared) (h : L2.CX P w outer H s (fun _ _ _ => False) e s') : False := by
  obtain ⟨_, _, _, _, _, _, _, _, _, _, _, _, z⟩ := h
  exact z
/-- o.f, a property -/
theorem fe_prp (C : PrpOk X.prog X.w X.K X.mg X.base c m k g) (hr : Room (k + 1) X.A) (he : FE X Wx e fe) (hb : attributeBase e m X.env (eval e X.env) = eval e X.env := by rfl) : FE X Wx (.Attribute e m pos) (op1 (prD c m g) fe) := by
  obtain ⟨cc, p, f, fd, ps, hm, hC, hP, hn, Fo, hB⟩ := C.ex
  refine PE.imp (pe_prop (dvs := []) (ds := []) (E := fun _ _ _ => False) he hC hP Fo hr hB .nil (fun _ _ H s e s' _ z => (cx_noE H s e s' z).elim) hb) fun σ H Q ⟨w, ρ, S, e, hE, hS, h⟩ => ?_
  subst e
  refine bindE hE hS h fun w1 d v S1 l1 e1 s1 r1 h1 => ?_
  unfold prD at h1
  cases q : insC Str.empty S1 d with
  | none => rw [q] at h1; exact h1.elim
  | some c' =>
    rw [q] at h1
    dsimp only at h1
    by_cases hc : c' = c
    · subst hc
      rw [if_pos rfl] at h1
      obtain ⟨a, C2, dx, vs, rfl, h0, t, l⟩ := insC_at s1 q r1
      have : C2 = cc := by have := h0.symm.trans hm; injection this with this; injection this
      subst this
      refine ⟨a, dx, vs, rfl, t, rfl, w1, [d], S1, rfl, ⟨_, _, rfl, r1, rfl⟩, s1, ?_⟩
      cases q3 : g [d] S1 with
      | ok z S3 => rw [q3] at h1; exact h1
      | exn z S3 => rw [q3] at h1; exact h1.elim
      | stuck => rw [q3] at h1; exact h1.elim
    · rw [if_neg hc] at h1; exact h1.elim
end
/-! ### the head's facts -/
abbrev Te : Type := PySem.W.Frag → Bool
structure FnY where
  at_ : PySem.W.Frag → Addr
  name : Str
  qual : Str
  params : Arguments
  body : List Stmt
  scope : Scope
abbrev FnT : Type := Option (Str × Str × Arguments × FuncBody × Scope × Addr × List (Str × Addr) × Addr)
def fnY (K : PySem.W.Frag) (d : FnY) : FnT := match K.lookup (d.at_ K) with
  | some ⟨_, _, .func fd, _⟩ => some (fd.name, fd.qualname, fd.params, fd.body, fd.scope, fd.globals, fd.closure, fd.builtins)
  | _ => none
def FnY.val (d : FnY) : FnT := some (d.name, d.qual, d.params, .stmts d.body, d.scope, mainGlobals, [], builtinsNs)
def FnY.ok (K : PySem.W.Frag) (d : FnY) : Bool := PySem.W.keepIn K (.ref (d.at_ K)) && (match K.lookup (d.at_ K) with
  | some ⟨_, _, .func fd, _⟩ => PySem.W.codeIn K fd.code d.qual && (He.dflB K fd.defaults [] && He.kwdB K fd.kwdefaults [])
  | _ => false)
theorem FnY.funD {K : PySem.W.Frag} {d : FnY} (e : fnY K d = d.val) (c : d.ok K = true) : ∃ fd, FunD K d.name d.qual d.params d.body d.scope [] [] (d.at_ K) fd := by
  obtain ⟨kp, c2⟩ := He.ba c
  unfold fnY at e
  split at e
  · rename_i oc od fd osl q
    rw [q] at c2
    obtain ⟨n1, n2, n3, n4, n5, n6, n7, n8, n9, n10, n11, n12, n13, n14, n15⟩ := fd
    have e2 : (some (n1, n2, n3, n4, n5, n6, n7, n15) : FnT) = some (d.name, d.qual, d.params, .stmts d.body, d.scope, mainGlobals, [], builtinsNs) := e
    simp only [Option.some.injEq, Prod.mk.injEq] at e2
    obtain ⟨h1, h2, h3, h4, h5, h6, h7, h8⟩ := e2
    subst h1 h2 h3 h4 h5 h6 h7 h8
    have c3 : (PySem.W.codeIn K n13 d.qual && (He.dflB K n8 [] && He.kwdB K n9 [])) = true := c2
    obtain ⟨k1, k2⟩ := He.ba c3
    obtain ⟨k3, k4⟩ := He.ba k2
    exact ⟨_, ⟨oc, od, n8, n9, n10, n11, n12, n13, n14, osl, rfl, q, k1, He.dflB_ok k3, He.kwdB_ok k4⟩, kp⟩
  · cases e
abbrev AlY : Type := Bool × List FnT
def obsY (ts : List Te) (fn : List FnY) (K : PySem.W.Frag) : AlY := ((ts.all fun t => t K) && fn.all fun d => d.ok K, fn.map fun d => fnY K d)
def valY (fn : List FnY) : AlY := (true, fn.map FnY.val)
def SaysY (ts : List Te) (fn : List FnY) (K : PySem.W.Frag) : Prop := obsY ts fn K = valY fn
def obsYG (n : Nat) (ts : List Te) (fn : List FnY) (g : Addr → Option Obj) : AlY := obsY ts fn (He.frG g (He.asD g n))
def hookY (n : Nat) (ts : List Te) (fn : List FnY) : PySem.W.Hook where
  α := AlY
  obs := fun s => obsYG n ts fn s.heap.get?
  val := fun _ => valY fn
  says := fun _ h => ∃ K : PySem.W.Frag, K.In h ∧ SaysY ts fn K
  of := fun _ _ e => ⟨_, He.frG_in, e⟩
  keeps := fun _ _ _ ⟨K, hK, c⟩ k => ⟨K, PySem.W.Frag.In.keeps hK k, c⟩
theorem obsYG_eq {n : Nat} {ts : List Te} {fn : List FnY} {g : Addr → Option Obj} {s : Shared} (h : ∀ a, g a = s.heap.get? a) : obsYG n ts fn g = (hookY n ts fn).obs s := by
  have e : g = s.heap.get? := funext h
  rw [e] <;> rfl
section
variable {ts : List Te} {fn : List FnY} {K : PySem.W.Frag}
theorem SaysY.both (c : SaysY ts fn K) : (ts.all fun t => t K) = true ∧ (fn.all fun d => d.ok K) = true := He.ba (congrArg (fun z : AlY => z.1) c)
theorem SaysY.fact (c : SaysY ts fn K) (i : Nat) {t : Te} (h : ts[i]? = some t := by rfl) : t K = true := List.all_eq_true.mp c.both.1 t (List.mem_of_getElem? h)
theorem SaysY.def_ (c : SaysY ts fn K) (i : Nat) {d : FnY} (h : fn[i]? = some d := by rfl) : ∃ fd, FunD K d.name d.qual d.params d.body d.scope [] [] (d.at_ K) fd := by
  have e : (fn.map fun d => fnY K d)[i]? = (fn.map FnY.val)[i]? := congrArg (fun z : AlY => z.2[i]?) c
  rw [List.getElem?_map, List.getElem?_map, h] at e
  exact FnY.funD (Option.some.inj e) (List.all_eq_true.mp c.both.2 d (List.mem_of_getElem? h))
end
/-! tests -/
def atG (x : Str) : PySem.W.Frag → Addr := fun K => He.ga K x
def atM (c m : Str) : PySem.W.Frag → Addr := fun K => He.ma K (He.ga K c) m
/-- a property's getter -/
def pg (K : PySem.W.Frag) (C : Addr) (m : Str) : Addr := match PySem.W.recIn K (He.ma K C m) "property" with
  | some (.ref g :: _) => g
  | _ => 0
def atP (c m : Str) : PySem.W.Frag → Addr := fun K => pg K (He.ga K c) m
def teF (f : He.Fa) : Te := fun K => f.ok K
def teP (c m : Str) : Te := fun K => decide (PySem.W.findIn K (.ref (He.ga K c)) m = some (some (.ref (He.ma K (He.ga K c) m)))) && (decide (PySem.W.specialIn K (.ref (He.ma K (He.ga K c) m)) "__get__" = some (some (.builtin "property.__get__"))) &&
  (decide (PySem.W.takesIn K (.ref (He.ma K (He.ga K c) m)) = some true) && (match PySem.W.recIn K (He.ma K (He.ga K c) m) "property" with
    | some (.ref _ :: _) => true
    | _ => false)))
theorem teP_ok {K : PySem.W.Frag} {c m : Str} (h : teP c m K = true) : PropOf K (He.ga K c) m (He.ma K (He.ga K c) m) (pg K (He.ga K c) m) := by
  obtain ⟨h1, h⟩ := He.ba h
  obtain ⟨h2, h⟩ := He.ba h
  obtain ⟨h3, h⟩ := He.ba h
  refine ⟨of_decide_eq_true h1, of_decide_eq_true h2, of_decide_eq_true h3, ?_⟩
  unfold pg
  split at h
  · rename_i g r q
    rw [q]
    exact ⟨r, rfl⟩
  · cases h
/-- a tuple constant -/
def teT (x : Str) (vs : List He.Dv) : Te := fun K => (He.Fa.glo x).ok K && He.tupB K x vs
def dvD : He.Dv → D
  | .non => .non
  | .bl b => .bl b
  | .int i => .int i
  | .str z => .str z
  | _ => .non
def dvOk : He.Dv → Bool
  | .non => true
  | .bl _ => true
  | .int _ => true
  | .str _ => true
  | _ => false
theorem dv_rp {b : B} {w : Wd} {K : PySem.W.Frag} : ∀ (vs : List He.Dv), vs.all dvOk = true → RpL b w (vs.map dvD) (vs.map (He.Dv.v K))
  | [], _ => rfl
  | v :: vs, h => by
    obtain ⟨h1, h2⟩ := He.ba (show (dvOk v && vs.all dvOk) = true from h)
    refine ⟨_, _, rfl, ?_, dv_rp vs h2⟩
    cases v <;> first | rfl | cases h1
theorem teT_ok {K : PySem.W.Frag} {mg : Str → Option Value} {h : Heap} (X : K.In h) (N : h.Ns mainGlobals mg) {x : Str} {vs : List He.Dv} (t : teT x vs K = true) (hv : vs.all dvOk = true := by rfl) : GTup ⟨K, mg⟩ x (vs.map dvD) := by
  obtain ⟨t1, t2⟩ := He.ba t
  refine ⟨He.ga K x, vs.map (He.Dv.v K), He.glo_ok X N t1, ?_, fun w => dv_rp vs hv⟩
  unfold He.tupB at t2
  split at t2
  · rename_i c od its n sl q
    obtain ⟨h1, h2⟩ := He.ba t2
    obtain ⟨h3, h4⟩ := He.ba h2
    exact ⟨_, its, n, q, congrArg Value.type (of_decide_eq_true h1), rfl, of_decide_eq_true h3, He.relAll_ok h4⟩
  · cases t2
end F

set_option linter.all false
set_option maxRecDepth 100000
set_option maxHeartbeats 4000000
set_option autoImplicit false
/-! len(set(xs)) of texts, any number -/
namespace F
open PySem PySem.Spec PyProof.Rows L2
theorem metS_succ (xs : List Str) {i : Nat} (h : i < xs.length) : metS xs (i + 1) = addS (metS xs i) (xs.getD i Str.empty) := by
  unfold metS
  have e : xs.getD i Str.empty = xs[i] := by rw [List.getD_eq_getElem?_getD, List.getElem?_eq_getElem h]; rfl
  rw [List.take_add_one, List.getElem?_eq_getElem h, e]
  show List.foldl addS [] (List.take i xs ++ [xs[i]]) = _
  rw [List.foldl_append]
  rfl
theorem addS_any (acc : List Str) (v k : Str) : (addS acc v).any (· == k) = (acc.any (· == k) || decide (k = v)) := by
  unfold addS
  by_cases h : acc.any (· == v) = true
  · rw [if_pos h]
    by_cases e : k = v
    · subst e; rw [h]; simp
    · simp [e]
  · rw [if_neg h, List.any_append]
    by_cases e : k = v
    · subst e; simp
    · have hb : (v == k) = false := by rw [beq_eq_false_iff_ne]; exact fun z => e z.symm
      simp [hb, e]
theorem addS_len (acc : List Str) (v : Str) : (addS acc v).length = if acc.any (· == v) then acc.length else acc.length + 1 := by
  unfold addS; split <;> simp
theorem metS_le (xs : List Str) : ∀ i, i ≤ xs.length → (metS xs i).length ≤ i
  | 0, _ => Nat.le_refl _
  | i + 1, h => by
    have := metS_le xs i (by omega)
    rw [metS_succ xs h, addS_len]
    split <;> omega
section
variable {prog : Program} {w : World} {A : Around} {R : Result → Shared → Prop} {I : Addr} {fp wr : List Addr} {G : Array GenState → Array GenState → Prop} {n : Nat} {P : Nat → Value → Prop} {St : Nat → Shared → Prop}
theorem upd_loop (W : WalksS prog w A.in1 I fp wr G n P St) (S : Addr) (hSf : S ∉ fp) (xs : List Str) (hsz : xs.length = n) (hb : n + 1 < scanBound) (hval : ∀ i v, P i v → ∃ t, v = .str (xs.getD i Str.empty) t) :
    ∀ (k i : Nat) (s : Shared), n - i = k → i ≤ n → St i s → s.heap.SetOf (PySem.strKind prog w) S (fun k' => (metS xs i).any (· == k')) (metS xs i).length →
      (∀ s', Moved (S :: wr) G s s' → s'.heap.SetOf (PySem.strKind prog w) S (fun k' => (metS xs n).any (· == k')) (metS xs n).length → R (.ok (.ret .none)) s') →
      codeAny (model prog w) A (.builtin "set.update.loop" ⟨[.ref S, .ref I], []⟩) R s := by
  have out : S ∉ wr := fun h => hSf (W.sub _ h)
  have more : ∀ b ∈ wr, b ∈ S :: wr := fun b hb => List.mem_cons_of_mem _ hb
  intro k
  induction k with
  | zero =>
    intro i s hk hi hst hS hR
    obtain rfl : i = n := by omega
    refine codeAny_builtin PyProof.Rows.F.entry_set_update_loop ?_
    rw [Around.under_plainId PyProof.Rows.F.plain_set_update_loop _]
    refine wpAny_bind (W.done s _ _ hst fun s' hm => ?_)
    obtain ⟨o, es, ep, t, ho, rest⟩ := hS
    exact wpAny_pure (hR s' (hm.mono more) ⟨o, es, ep, t, hm.heap S _ out ho, rest⟩)
  | succ k ih =>
    intro i s hk hi hst hS hR
    have hlt : i < n := by omega
    refine codeAny_builtin PyProof.Rows.F.entry_set_update_loop ?_
    rw [Around.under_plainId PyProof.Rows.F.plain_set_update_loop _]
    refine wpAny_bind (W.item i s _ _ hlt hst fun v s1 hP hst1 hm => ?_)
    obtain ⟨t, rfl⟩ := hval i v hP
    have hS1 : s1.heap.SetOf (PySem.strKind prog w) S (fun k' => (metS xs i).any (· == k')) (metS xs i).length := by
      obtain ⟨o, es, ep, tb, ho, rest⟩ := hS
      exact ⟨o, es, ep, tb, hm.heap S _ out ho, rest⟩
    refine wpAny_bind (wpAny_holding ?_)
    unfold setAdd
    refine wpAny_holding (wpAny_bind ((PySem.strKind prog w).pyHash (k := xs.getD i Str.empty) (strKind_is _ _ _ _) ?_))
    have room := metS_le xs i (by omega)
    refine wpAny_setAddHashed_of (knd := PySem.strKind prog w) (s := { s1 with toks := s1.toks + 1 }) (strKind_is _ _ _ _) rfl hS1 (by omega) fun h' sb hS2 => ?_
    have hS3 : h'.SetOf (PySem.strKind prog w) S (fun k' => (metS xs (i + 1)).any (· == k')) (metS xs (i + 1)).length :=
      SetOf_congr hS2 (fun k' => by rw [metS_succ xs (by omega), addS_any]) (by rw [metS_succ xs (by omega), addS_len])
    refine wpAny_pure ⟨plainId_quiet PyProof.Rows.F.plain_set_update_loop _, ih (i + 1) _ (by omega) hlt (W.frame _ s1 _ _ hst1 (Nat.le_succ _) fun b hb o e => ?_) hS3 fun s2 hm2 hS4 => hR s2 (Moved.trans W.gtrans ((hm.mono more).then_heap (Nat.le_succ _) fun b o hb e => ?_) hm2) hS4⟩
    · rw [sb.2 b (fun z : b = S => hSf (by rw [← z]; exact hb))]; exact e
    · rw [sb.2 b (fun z : b = S => hb (by rw [z]; exact List.mem_cons_self))]; exact e
end
section
variable {prog : Program} {w : World} {A : Around} {E : Value → Shared → Prop} {s : Shared}
/-- set.__init__ of a new set and a tuple of texts -/
theorem init_set {S l : Addr} {items : Array Value} {xs : List Str} {Q : Value → Shared → Prop} {led : Bool} (hh : A.handled = none) (hSo : s.heap.get? S = some { cls := .type "set", dict := none, data := .set #[] 0 (.fresh 0 0 led) }) (hl : s.heap.IsTuple l items)
    (hi : StrsAre items.toList xs) (hn : xs.length ≤ 1000)
    (hQ : ∀ (h' : Heap) (tk : Nat), h'.SetOf (PySem.strKind prog w) S (fun k' => (metS xs xs.length).any (· == k')) (metS xs xs.length).length →
      (∀ b o, b ≠ S → s.heap.get? b = some o → h'.get? b = some o) → Q .none { s with heap := h', toks := tk }) :
    codeAny (model prog w) A (.call (.builtin "set.__init__") ⟨[.ref S, .ref l], []⟩) (wants Q E) s := by
  have hT : s.TypeIs (.ref S) "set" := ⟨_, hSo, rfl⟩
  refine codeAny_call_builtin PySem.F.called_set.init.plain PySem.F.entry_set_init (check_set_init_1 hT ?_)
  obtain ⟨ol, hol, hcl, nl, hdl⟩ := id hl
  obtain ⟨ocls, odict, odata, oslots⟩ := ol
  dsimp only at hcl hdl
  subst hcl hdl
  have sub1 := PySem.F.sub_tuple_set
  have sub2 := PySem.F.sub_tuple_frozenset
  have ned : (Value.type "tuple" == Value.type "dict") = false := by decide
  have hne : l ≠ S := fun z => by
    rw [z, hSo] at hol
    injection hol with hol
    injection hol with hol
    injection hol with hol
    exact absurd hol (by decide)
  have hlS : l < s.heap.objs.size := Heap.lt_size hol
  have hSS : S < s.heap.objs.size := Heap.lt_size hSo
  obtain ⟨hp, g, d, t, os⟩ := s
  unfold Builtin.«set.__init__» noKeywords Builtin.Frozenset.updateFrom
  generalize hPI : pyIter = PI
  wp_walk
  subst hPI
  refine wpAny_pyIter_tuple hl (wpAny_bind (wpAny_runValue ?_))
  have hx : A.in1.in1.handled = none := hh
  have hsz : xs.length = items.size := by rw [← StrsAre.len_eq hi, Array.length_toList]
  have hval : ∀ (i : Nat) (v : Value), items[i]? = some v → ∃ t, v = .str (xs.getD i Str.empty) t := fun i v hv => SS.strs_at hi i v (by rw [Array.getElem?_toList]; exact hv)
  refine upd_loop (A := A.in1) (St := fun i s' => _) (Walks.tuple hx _ l (Nat.ne_of_lt hlS) items).toS S ?_ xs hsz (by rw [← hsz]; unfold scanBound; omega) hval (items.size - 0) 0 _ (by omega) (Nat.zero_le _)
    ⟨⟨_, Heap.get?_push_size _ rfl, rfl, rfl⟩, hl.push _⟩ ?_ ?_
  · intro z
    rcases List.mem_cons.mp z with z | z
    · exact absurd hSS (by rw [z]; exact Nat.lt_irrefl _)
    · exact hne (List.mem_singleton.mp z).symm
  · exact SetOf_congr ((setObjOf_fresh (knd := PySem.strKind prog w) led).setOf (Heap.get?_push_of_some _ hSo) (by unfold scanBound; omega)) (fun _ => rfl) rfl
  · intro s' hm hS'
    obtain ⟨h', g', d', tk', os'⟩ := s'
    have eg : g' = g := hm.gens
    have ed : d' = d := hm.drawn
    have eo : os' = os := hm.os
    subst eg ed eo
    refine wpAny_pure ?_
    show wpAny _ _ (PySem.ret Value.none) _ _ _
    refine wpAny_pure (hQ h' tk' (by rw [hsz]; exact hS') fun b o hb e => ?_)
    refine hm.heap b o (fun z => ?_) (Heap.get?_push_of_some _ e)
    rcases List.mem_cons.mp z with z | z
    · exact hb z
    · exact absurd (Heap.lt_size e) (by rw [List.mem_singleton.mp z]; exact Nat.lt_irrefl _)
/-- set(l), l a tuple of texts -/
theorem call_setT {l : Addr} {items : Array Value} {xs : List Str} {Q : Value → Shared → Prop} (hh : A.handled = none) (hl : s.heap.IsTuple l items) (hi : StrsAre items.toList xs) (hn : xs.length ≤ 1000)
    (hQ : ∀ (h' : Heap) (tk : Nat), h'.SetOf (PySem.strKind prog w) s.heap.objs.size (fun k' => (metS xs xs.length).any (· == k')) (metS xs xs.length).length →
      (∀ b o, s.heap.get? b = some o → h'.get? b = some o) → Q (.ref s.heap.objs.size) { s with heap := h', toks := tk }) :
    wpAny (model prog w) A (call (.type "set") [.ref l]) Q E s := by
  have notT := PySem.F.called_set.notType
  have can := PySem.F.called_set.canCreate
  have made := PySem.F.called_set.made
  have sub := PySem.F.called_set.sub
  obtain ⟨c, tl, mro⟩ := PySem.F.called_set.mro
  have tc := PySem.F.typeCall_set_1 (.ref l)
  refine wpAny_call (codeAny_of_tree ?_)
  show wpAny _ _ (callAny (.type "set") _) _ _ _
  refine wpAny_pure ⟨Code.quiet_builtin _ (by decide +kernel), codeAny_builtin PySem.F.entry_type_call ?_⟩
  rw [Around.under_plain (weight_type_call_type "set" [.ref l] []) rfl]
  repeat (any_goals (first | assumption | wp_step))
  refine codeAny_mono (code_set_new_1 (.ref l) (E := E) (Q₁ := fun obj s₁ => ∃ led : Bool, obj = .ref s.heap.objs.size ∧ s₁ = { s with heap := s.heap.push { cls := .type "set", dict := none, data := .set #[] 0 (.fresh 0 0 led) } }) fun led => ⟨led, rfl, rfl⟩) fun r s₁ hr => ?_
  match r, hr with
  | .error _, hr => exact hr
  | .ok (.ret obj), hr =>
    obtain ⟨led, rfl, rfl⟩ := hr
    have new : (s.heap.push { cls := .type "set", dict := none, data := .set #[] 0 (.fresh 0 0 led) }).get? s.heap.objs.size = some { cls := .type "set", dict := none, data := .set #[] 0 (.fresh 0 0 led) } := Heap.get?_push_size _ rfl
    have hT : Shared.TypeIs { s with heap := s.heap.push { cls := .type "set", dict := none, data := .set #[] 0 (.fresh 0 0 led) } } (.ref s.heap.objs.size) "set" := ⟨_, new, rfl⟩
    have il := PySem.F.called_set.init.lookup
    have ib := PySem.F.called_set.init.bind (.ref s.heap.objs.size)
    repeat (any_goals (first | assumption | wp_step))
    refine codeAny_mono (init_set (E := E) (led := led) (Q := fun r s₂ => r = .none ∧ ∃ h' tk, s₂ = { s with heap := h', toks := tk } ∧ h'.SetOf (PySem.strKind prog w) s.heap.objs.size (fun k' => (metS xs xs.length).any (· == k')) (metS xs xs.length).length ∧
        ∀ b o, s.heap.get? b = some o → h'.get? b = some o) hh new (hl.push _) hi hn fun h' tk hS k => ⟨rfl, h', tk, rfl, hS, fun b o e => k b o (Nat.ne_of_lt (Heap.lt_size e)) (Heap.get?_push_of_some _ e)⟩) fun r₂ s₂ hr₂ => ?_
    match r₂, hr₂ with
    | .error _, hr₂ => exact hr₂
    | .ok (.ret v), hr₂ =>
      obtain ⟨rfl, h', tk, rfl, hS, hk⟩ := hr₂
      repeat (any_goals (first | assumption | wp_step))
      exact hQ h' tk hS hk
    | .ok .next, hr₂ => exact hr₂.elim
    | .ok .brk, hr₂ => exact hr₂.elim
    | .ok .cont, hr₂ => exact hr₂.elim
  | .ok .next, hr => exact hr.elim
  | .ok .brk, hr => exact hr.elim
  | .ok .cont, hr => exact hr.elim
end
section
variable {X : Cx} {Wx : WX} {a : Expr} {fa : SE}
theorem strs_some : ∀ {ds : List D} {ss : List Str}, strs? ds = some ss → ds = ss.map D.str
  | [], ss, h => by cases h; rfl
  | d :: ds, ss, h => by
    cases d with
    | str z =>
      have h' : (match strs? ds with | some r => some (z :: r) | none => none) = some ss := by
        unfold strs? at h
        cases q : strs? ds with
        | none => rw [q] at h; cases h
        | some r => rw [q] at h; exact h
      cases q : strs? ds with
      | none => rw [q] at h'; cases h'
      | some r =>
        rw [q] at h'
        cases h'
        rw [strs_some q]; rfl
    | _ => cases h
theorem fe_lenSet {p p2 q pos : Pos} (hm : X.mg "len" = none) (hm2 : X.mg "set" = none) (ha : FE X Wx a fa) (hc : X.calm = true := by rfl) (hg : Gl X "len" := by rfl) (hg2 : Gl X "set" := by rfl)
    (na : starEach [a] X.env = (false, eval a X.env) :: starEach [] X.env := by rfl) : FE X Wx (.Call (.Name "len" p) [.Call (.Name "set" p2) [a] [] q] [] pos) (op1 lenSetD fa) := by
  refine ⟨fun pins s σ H Q I ⟨w, ρ, S, e, hE, hS, h⟩ => ?_⟩
  subst e
  refine Call_ (ld_blt I hg hm boot_len (callWith_builtin1 (args_cons ?_ rfl) rfl rfl))
  refine Call_ (ld_blt I hg2 hm2 boot_set (callWith_type1 (args_cons (thn (ha.run pins s σ w.H _ I (bindE hE hS h (R := fun x H1 => ∃ l xs, x = .ref l ∧ SqT X.K H1 l (xs.map V.str) ∧ xs.length ≤ 1000 ∧ Q (.int (metS xs xs.length).length) H1) fun w1 d v S1 l1 e1 s1 r1 h1 => ?_)) fun v s1 hh => args_nil ?_) na) na rfl))
  · unfold lenSetD at h1
    cases d with
    | tup ds =>
      dsimp only at h1
      cases q : strs? ds with
      | none => rw [q] at h1; exact h1.elim
      | some ss =>
        rw [q] at h1
        dsimp only at h1
        by_cases hl : ss.length ≤ 1000
        · rw [if_pos hl] at h1
          obtain ⟨a, vs, rfl, t, r⟩ := r1
          rw [strs_some q] at r
          rw [RpL.strs r] at t
          exact ⟨a, ss, rfl, t.sq, hl, PostE.now h1 s1 rfl⟩
        · rw [if_neg hl] at h1; exact h1.elim
    | _ => exact h1.elim
  · obtain ⟨x, H1, I1, r1, l, xs, rfl, hq, hl, q1⟩ := hh
    cases r1
    obtain ⟨its, r, pl, hz⟩ := I1.tuple hq
    refine call_setT (I1.ok.hd hc) pl (by simpa using strsAre_of r) hl fun h' tk hS hk => args_nil ?_
    obtain ⟨o, es, ep, t, ho, hex, hd, _, _, _, hf, hn⟩ := hS
    have I2 : Inv X pins σ H1 { s1 with heap := h', toks := tk } := I1.kept fun b o e => hk b o e
    have hm := metS_le xs xs.length (Nat.le_refl _)
    exact call_len_set ho hex hd hf (by rw [hn]; omega) ⟨.int (metS xs xs.length).length, H1, I2.tok _, ⟨_, by rw [hn]⟩, q1⟩
end
end F

set_option linter.all false
set_option maxRecDepth 100000
set_option maxHeartbeats 2000000
set_option autoImplicit false
namespace F
open PySem PySem.Spec PyProof.Rows L2
/-- the script's place -/
theorem sp_law {K : PySem.W.Frag} {mg : Str → Option Value} {g : List D → M D} {H : Hp} {a : Addr} {ns : List Int} (hO : Only H) (hS : SqL K H a (ns.map V.int)) (hg : ∃ S, g [.frz (ns.map .int)] [] = .ok (.bl true) S) :
    spOf ⟨K, mg⟩ 1 g [.ref a] H (fun v _ => v = .bl true) fun _ _ _ => False := by
  obtain ⟨S, hg⟩ := hg
  refine ⟨rfl, ⟨[], H, []⟩, [.frz (ns.map .int)], [], rfl, ⟨.ref a, [], rfl, ⟨a, ns.map V.int, rfl, ?_, ?_⟩, rfl⟩, ⟨rfl, List.nodup_nil, fun b hb => absurd hb List.not_mem_nil, fun n c e => by simp at e⟩, ?_⟩
  · rcases hS with (h | ⟨o, h⟩) | h
    · rcases hO a with e | ⟨o, xs, e⟩
      · rw [e] at h; cases h
      · rw [e] at h; cases h
    · exact .inl ⟨⟨List.not_mem_nil, List.not_mem_nil⟩, o, h⟩
    · exact .inr h
  · clear hg hS
    induction ns with
    | nil => rfl
    | cons n ns ih => exact ⟨.int n, _, rfl, rfl, ih⟩
  · rw [hg]
    exact fun w' v _ _ r => r
theorem cx_no {P : Program} {w : World} (H : Hp) (s : Shared) (e : Value) (s' : Shared) (h : L2.CX P w [] H s (fun _ _ _ => False) e s') : False := by
  obtain ⟨_, _, _, _, _, _, _, _, _, _, _, _, z⟩ := h
  exact z
/-- the end of a law, by what its def reckons -/
theorem walk_ofF {l : PySem.W.OpenLaw} {n k : Nat} {q : Program} {loose : List Str} {XP : (Str → Option Value) → Heap → Prop} {YP : World → Heap → Prop} {d : DefRec} {x : Str} {g : List D → M D}
    (hn : l.most = some n) (hn2 : n ≤ sizeLine) (hdf : d.params.defaults = []) (hr : Room k callerA)
    (F : ∀ (w : World) (mg : Str → Option Value) (fa : Addr) (h : Heap), YP w h → h.Ns mainGlobals mg → mg d.name = some (.ref fa) →
      ∃ (K : PySem.W.Frag) (fd : FuncData), K.In h ∧ (∀ (s : Shared) (u : Value), BindsTo s fd ⟨[u], []⟩ [(x, u)]) ∧
        ∀ base : Heap, K.In base → base.Ns mainGlobals mg → FnOk l.prog w K mg base (L2.CX l.prog w) k fa fd [x] (spOf ⟨K, mg⟩ 1 g))
    (hg : ∀ ns : List Int, ns.length ≤ n → ∃ S, g [.frz (ns.map .int)] [] = .ok (.bl true) S) :
    PySem.W.WalkO q loose XP YP l.row.toRowW d [] (fun f vs => PySem.call f vs) := by
  refine Att.attach_call hn hdf fun w s₀ s₁ mg mb fa o pm cd doc a vs ns G Y ho hd hcd hmg hobj hints hlen hgen => ?_
  obtain ⟨K, fd, KX, hb, hF⟩ := F w mg fa _ Y G.T.g hmg
  exact law_call KX G.T.g G.T.b G.T.builtins G.T.nolimit hgen hobj hints (Nat.le_trans hlen hn2) hr hF hb (fun H hO hS => sp_law hO hS (hg ns hlen)) fun H e s' z => cx_no H s₁ e s' z
end F

set_option linter.all false
set_option autoImplicit false
set_option maxRecDepth 100000
/-! Reckoning with FSem's functions. -/
namespace F
open PySem
/-! ### loops -/
theorem forGo_ind {t : Tg} {f : SS} {ds : List D} (I : Nat → Env → Store → Prop) {ρ : Env} {S : Store} (h0 : I 0 ρ S)
    (hs : ∀ (k : Nat) (hk : k < ds.length) (ρ : Env) (S : Store), I k ρ S → ∃ ρ' ρ2 S2, tgD t ds[k] ρ = some ρ' ∧ (f ρ' S = .fl (.nx ρ2) S2 ∨ f ρ' S = .fl (.ct ρ2) S2) ∧ I (k + 1) ρ2 S2) :
    ∃ ρ2 S2, forGo t f ds ρ S = .fl (.nx ρ2) S2 ∧ I ds.length ρ2 S2 := by
  suffices ∀ (m k : Nat) (ρ : Env) (S : Store), k + m = ds.length → I k ρ S → ∃ ρ2 S2, forGo t f (ds.drop k) ρ S = .fl (.nx ρ2) S2 ∧ I ds.length ρ2 S2 by
    have := this ds.length 0 ρ S (by omega) h0
    simpa using this
  intro m
  induction m with
  | zero =>
    intro k ρ S e h
    have e' : ds.drop k = [] := List.drop_eq_nil_of_le (by omega)
    refine ⟨ρ, S, by rw [e']; rfl, ?_⟩
    have : k = ds.length := by omega
    rw [← this]; exact h
  | succ m ih =>
    intro k ρ S e h
    have hk : k < ds.length := by omega
    obtain ⟨ρ', ρ2, S2, h1, h2, h3⟩ := hs k hk ρ S h
    obtain ⟨ρ3, S3, h4, h5⟩ := ih (k + 1) ρ2 S2 (by omega) h3
    refine ⟨ρ3, S3, ?_, h5⟩
    rw [List.drop_eq_getElem_cons hk]
    unfold forGo
    rw [h1]
    dsimp only
    rcases h2 with h2 | h2 <;> rw [h2] <;> exact h4
/-- a loop that may end by a return at the first item of some kind: each turn goes on or the k-th returns -/
theorem forGo_ret {t : Tg} {f : SS} {ds : List D} (I : Nat → Env → Store → Prop) {ρ : Env} {S : Store} {m : Nat} {o : OS} (hm : m < ds.length) (h0 : I 0 ρ S)
    (hs : ∀ (k : Nat) (hk : k < ds.length) (ρ : Env) (S : Store), k < m → I k ρ S → ∃ ρ' ρ2 S2, tgD t ds[k] ρ = some ρ' ∧ (f ρ' S = .fl (.nx ρ2) S2 ∨ f ρ' S = .fl (.ct ρ2) S2) ∧ I (k + 1) ρ2 S2)
    (hr : ∀ (ρ : Env) (S : Store), I m ρ S → ∃ ρ' d S2, tgD t ds[m] ρ = some ρ' ∧ f ρ' S = .fl (.rt d) S2 ∧ o = .fl (.rt d) S2) :
    forGo t f ds ρ S = o := by
  suffices ∀ (j k : Nat) (ρ : Env) (S : Store), k + j = m → I k ρ S → forGo t f (ds.drop k) ρ S = o by
    have := this m 0 ρ S (by omega) h0
    simpa using this
  intro j
  induction j with
  | zero =>
    intro k ρ S e h
    have : k = m := by omega
    subst this
    obtain ⟨ρ', d, S2, h1, h2, h3⟩ := hr ρ S h
    rw [List.drop_eq_getElem_cons hm]
    unfold forGo
    rw [h1]; dsimp only; rw [h2]; exact h3.symm
  | succ j ih =>
    intro k ρ S e h
    have hk : k < ds.length := by omega
    obtain ⟨ρ', ρ2, S2, h1, h2, h3⟩ := hs k hk ρ S (by omega) h
    rw [List.drop_eq_getElem_cons hk]
    unfold forGo
    rw [h1]; dsimp only
    rcases h2 with h2 | h2 <;> rw [h2] <;> exact ih (k + 1) ρ2 S2 (by omega) h3
theorem whGo_ind {c : ST} {f : SS} {n : Nat} (I : Nat → Env → Store → Prop) (m : Nat) {ρ : Env} {S : Store} (hm : m < n) (h0 : I 0 ρ S)
    (hs : ∀ (k : Nat) (ρ : Env) (S : Store), k < m → I k ρ S → ∃ S1 ρ2 S2, c ρ S = .ok true S1 ∧ (f ρ S1 = .fl (.nx ρ2) S2 ∨ f ρ S1 = .fl (.ct ρ2) S2) ∧ I (k + 1) ρ2 S2)
    (he : ∀ (ρ : Env) (S : Store), I m ρ S → c ρ S = .ok false S) :
    ∃ ρ2 S2, whGo c f n ρ S = .fl (.nx ρ2) S2 ∧ I m ρ2 S2 := by
  suffices ∀ (j k n : Nat) (ρ : Env) (S : Store), k + j = m → j < n → I k ρ S → ∃ ρ2 S2, whGo c f n ρ S = .fl (.nx ρ2) S2 ∧ I m ρ2 S2 by
    exact this m 0 n ρ S (by omega) hm h0
  intro j
  induction j with
  | zero =>
    intro k n ρ S e hn h
    have : k = m := by omega
    subst this
    obtain ⟨n, rfl⟩ : ∃ n', n = n' + 1 := ⟨n - 1, by omega⟩
    refine ⟨ρ, S, ?_, h⟩
    unfold whGo exS
    rw [he ρ S h]
    simp
  | succ j ih =>
    intro k n ρ S e hn h
    obtain ⟨n, rfl⟩ : ∃ n', n = n' + 1 := ⟨n - 1, by omega⟩
    obtain ⟨S1, ρ2, S2, h1, h2, h3⟩ := hs k ρ S (by omega) h
    obtain ⟨ρ3, S3, h4, h5⟩ := ih (k + 1) n ρ2 S2 (by omega) (by omega) h3
    refine ⟨ρ3, S3, ?_, h5⟩
    unfold whGo exS
    rw [h1]
    dsimp only
    rcases h2 with h2 | h2 <;> rw [h2] <;> simpa using h4
theorem lcGo_map {t : Tg} {ft : ST} {fe : SE} {ρ : Env} {S : Store} (p : D → Bool) (h : D → D) : ∀ ds : List D,
    (∀ d ∈ ds, ∃ ρ', tgD t d ρ = some ρ' ∧ ft ρ' S = .ok (p d) S ∧ (p d = true → fe ρ' S = .ok (h d) S)) →
    lcGo t ft fe ρ ds S = .ok ((ds.filter p).map h) S
  | [], _ => rfl
  | d :: ds, hd => by
    obtain ⟨ρ', h1, h2, h3⟩ := hd d (by simp)
    have ih := lcGo_map p h ds (fun e he => hd e (by simp [he]))
    unfold lcGo
    rw [h1]
    dsimp only
    unfold bns
    rw [h2]
    dsimp only
    cases q : p d with
    | false =>
      rw [if_neg (by simp)]
      rw [ih, List.filter_cons_of_neg (by simp [q])]
    | true =>
      rw [if_pos rfl, h3 q]
      dsimp only
      rw [ih, List.filter_cons_of_pos (by simp [q])]
      rfl
/-- by place: the items are of a list of anything -/
theorem lcGo_of {α : Type} {t : Tg} {ft : ST} {fe : SE} {ρ : Env} {S : Store} (e : α → D) (p : α → Bool) (h : α → D) : ∀ xs : List α,
    (∀ x ∈ xs, ∃ ρ', tgD t (e x) ρ = some ρ' ∧ ft ρ' S = .ok (p x) S ∧ (p x = true → fe ρ' S = .ok (h x) S)) →
    lcGo t ft fe ρ (xs.map e) S = .ok ((xs.filter p).map h) S
  | [], _ => rfl
  | d :: ds, hd => by
    obtain ⟨ρ', h1, h2, h3⟩ := hd d (by simp)
    have ih := lcGo_of e p h ds (fun e he => hd e (by simp [he]))
    rw [List.map_cons]
    unfold lcGo
    rw [h1]
    dsimp only
    unfold bns
    rw [h2]
    dsimp only
    cases q : p d with
    | false =>
      rw [if_neg (by simp)]
      rw [ih, List.filter_cons_of_neg (by simp [q])]
    | true =>
      rw [if_pos rfl, h3 q]
      dsimp only
      rw [ih, List.filter_cons_of_pos (by simp [q])]
      rfl
theorem lcE_of {α : Type} {own : List Nat} {t : Tg} {fi : SA} {ft : ST} {fe : SE} {ρ : Env} {S : Store} (e : α → D) (p : α → Bool) (h : α → D) (xs : List α) (hi : fi ρ S = .ok (xs.map e) S) (hl : xs.length ≤ lineN)
    (hd : ∀ x ∈ xs, ∃ ρ', tgD t (e x) (wipeD ρ own) = some ρ' ∧ ft ρ' S = .ok (p x) S ∧ (p x = true → fe ρ' S = .ok (h x) S)) :
    lcE own t fi ft fe ρ S = .ok (.lst ((xs.filter p).map h)) S := by
  unfold lcE bnd
  rw [hi]
  dsimp only
  rw [List.length_map, if_pos hl]
  unfold bns
  rw [lcGo_of e p h xs hd]
  rfl
theorem lcE_all {α : Type} {own : List Nat} {t : Tg} {fi : SA} {ft : ST} {fe : SE} {ρ : Env} {S : Store} (e : α → D) (h : α → D) (xs : List α) (hi : fi ρ S = .ok (xs.map e) S) (hl : xs.length ≤ lineN)
    (hd : ∀ x ∈ xs, ∃ ρ', tgD t (e x) (wipeD ρ own) = some ρ' ∧ ft ρ' S = .ok true S ∧ fe ρ' S = .ok (h x) S) :
    lcE own t fi ft fe ρ S = .ok (.lst (xs.map h)) S := by
  have := lcE_of (own := own) (t := t) (fi := fi) (ft := ft) (fe := fe) (ρ := ρ) (S := S) e (fun _ => true) h xs hi hl (fun x hx => by
    obtain ⟨r, a, b, c⟩ := hd x hx
    exact ⟨r, a, b, fun _ => c⟩)
  rw [this, List.filter_eq_self.mpr (by simp)]
/-! ### places -/
theorem at?_nat {α : Type} (xs : List α) (i : Nat) : at? xs ((i : Nat) : Int) = xs[i]? := by
  unfold at? pos?
  by_cases h : i < xs.length
  · have h1 : ¬ ((i : Int) < 0) := by omega
    have h2 : (i : Int) < xs.length := by omega
    rw [if_neg h1, if_pos h2]
    simp
  · have h1 : ¬ ((i : Int) < 0) := by omega
    have h2 : ¬ (i : Int) < xs.length := by omega
    rw [if_neg h1, if_neg h2]
    simp; omega
theorem at?_of {α : Type} (xs : List α) {i : Int} (k : Nat) (h : i = (k : Nat)) : at? xs i = xs[k]? := by rw [h, at?_nat]
theorem pos?_nat (n i : Nat) (h : i < n) : pos? n ((i : Nat) : Int) = some i := by
  unfold pos?
  have h1 : ¬ ((i : Int) < 0) := by omega
  have h2 : (i : Int) < n := by omega
  rw [if_neg h1, if_pos h2]
  simp
theorem cutD_upto {α : Type} (xs : List α) (k : Nat) : cutD xs none (some ((k : Nat) : Int)) = xs.take k := by
  unfold cutD cutN
  have h1 : ¬ ((k : Int) < 0) := by omega
  simp only [h1, if_false, Int.toNat_natCast, Nat.sub_zero, List.drop_zero]
  by_cases h : k ≤ xs.length
  · rw [Nat.min_eq_right h]
  · rw [Nat.min_eq_left (by omega), List.take_of_length_le (Nat.le_refl _), List.take_of_length_le (by omega)]
theorem cutD_from {α : Type} (xs : List α) (k : Nat) : cutD xs (some ((k : Nat) : Int)) none = xs.drop k := by
  unfold cutD cutN
  have h1 : ¬ ((k : Int) < 0) := by omega
  simp only [h1, if_false, Int.toNat_natCast]
  by_cases h : k ≤ xs.length
  · rw [Nat.min_eq_right h]
    rw [List.take_of_length_le]
    simp
  · rw [Nat.min_eq_left (by omega)]
    simp
    omega
theorem ints?_map {α : Type} (f : α → Int) : ∀ xs : List α, ints? (xs.map fun x => D.int (f x)) = some (xs.map f)
  | [] => rfl
  | x :: xs => by
    rw [List.map_cons]
    unfold ints?
    rw [ints?_map f xs]
    rfl
theorem bls?_map {α : Type} (f : α → Bool) : ∀ xs : List α, bls? (xs.map fun x => D.bl (f x)) = some (xs.map f)
  | [] => rfl
  | x :: xs => by
    rw [List.map_cons]
    unfold bls?
    rw [bls?_map f xs]
    rfl
theorem enumL_map (ds : List D) : enumL ds = (List.range ds.length).map fun i => D.tup [.int (i : Nat), ds.getD i .non] := by
  unfold enumL
  apply List.ext_getElem
  · simp
  · intro i h1 h2
    simp at h1
    simp [h1]
theorem belL_all (m : Nat) : ∀ ds : List D, (∀ d ∈ ds, d.bel m = true) → belL m ds = true
  | [], _ => rfl
  | d :: ds, h => by
    unfold belL
    rw [h d (by simp), belL_all m ds (fun e he => h e (by simp [he]))]
    rfl
theorem resL_all (m : Nat) (S : Store) : ∀ ds : List D, (∀ d ∈ ds, d.res m S = some d) → resL m S ds = some ds
  | [], _ => rfl
  | d :: ds, h => by
    unfold resL
    rw [h d (by simp), resL_all m S ds (fun e he => h e (by simp [he]))]
theorem ok_inj {α : Type} {a b : α} {S T : Store} (h : (Out.ok a S) = .ok b T) : a = b ∧ S = T := by
  cases h; exact ⟨rfl, rfl⟩
/-! ### the law's own makings: h is the second cell -/
def HI (S : Store) : Prop := ∃ (zs : List Int) (st k : Int), zs.length ≤ 63 ∧ S = [.lst (zs.map D.int), .lst [.int st, .ref 0, .int k]]
theorem HI.len {S : Store} (h : HI S) : S.length = 2 := by
  obtain ⟨_, _, _, _, rfl⟩ := h; rfl
theorem HI.bel {S : Store} (h : HI S) : S.all (·.bel 2) = true := by
  obtain ⟨zs, st, k, _, rfl⟩ := h
  have : belL 2 (zs.map D.int) = true := belL_all 2 _ (fun d hd => by
    obtain ⟨z, _, rfl⟩ := List.mem_map.mp hd
    rfl)
  simp [C.bel, belL, D.bel, this]
theorem close_HI {S T : Store} {d e : D} (h : HI S) (hd : d.res 2 (S ++ T) = some e) : closeOut S.length (.ok d (S ++ T)) = .ok e S := by
  have hl := h.len
  unfold closeOut
  have h1 : (S ++ T).take 2 = S := by rw [← hl]; exact List.take_left' rfl
  rw [hl]
  dsimp only
  rw [h1]
  have h2 : (S.all (·.bel 2)) = true ∧ 2 ≤ (S ++ T).length := ⟨h.bel, by simp [hl]⟩
  rw [if_pos h2, hd]
/-! ### single steps -/
theorem isi_non_int (S : Store) : isiD .non (.ty "int") S = .ok (.bl false) S := rfl
theorem isi_non_bool (S : Store) : isiD .non (.ty "bool") S = .ok (.bl false) S := rfl
theorem isi_non_str (S : Store) : isiD .non (.ty "str") S = .ok (.bl false) S := rfl
theorem isi_non_tuple (S : Store) : isiD .non (.ty "tuple") S = .ok (.bl false) S := rfl
theorem isi_non_list (S : Store) : isiD .non (.ty "list") S = .ok (.bl false) S := rfl
theorem isi_non_dict (S : Store) : isiD .non (.ty "dict") S = .ok (.bl false) S := rfl
theorem isi_non_tuple_list (S : Store) : isiD .non (.tup [.ty "tuple", .ty "list"]) S = .ok (.bl false) S := rfl
theorem isi_non_list_tuple (S : Store) : isiD .non (.tup [.ty "list", .ty "tuple"]) S = .ok (.bl false) S := rfl
theorem isi_bl_int (b : Bool) (S : Store) : isiD (.bl b) (.ty "int") S = .ok (.bl true) S := rfl
theorem isi_bl_bool (b : Bool) (S : Store) : isiD (.bl b) (.ty "bool") S = .ok (.bl true) S := rfl
theorem isi_bl_str (b : Bool) (S : Store) : isiD (.bl b) (.ty "str") S = .ok (.bl false) S := rfl
theorem isi_bl_tuple (b : Bool) (S : Store) : isiD (.bl b) (.ty "tuple") S = .ok (.bl false) S := rfl
theorem isi_bl_list (b : Bool) (S : Store) : isiD (.bl b) (.ty "list") S = .ok (.bl false) S := rfl
theorem isi_bl_dict (b : Bool) (S : Store) : isiD (.bl b) (.ty "dict") S = .ok (.bl false) S := rfl
theorem isi_bl_tuple_list (b : Bool) (S : Store) : isiD (.bl b) (.tup [.ty "tuple", .ty "list"]) S = .ok (.bl false) S := rfl
theorem isi_bl_list_tuple (b : Bool) (S : Store) : isiD (.bl b) (.tup [.ty "list", .ty "tuple"]) S = .ok (.bl false) S := rfl
theorem isi_int_int (i : Int) (S : Store) : isiD (.int i) (.ty "int") S = .ok (.bl true) S := rfl
theorem isi_int_bool (i : Int) (S : Store) : isiD (.int i) (.ty "bool") S = .ok (.bl false) S := rfl
theorem isi_int_str (i : Int) (S : Store) : isiD (.int i) (.ty "str") S = .ok (.bl false) S := rfl
theorem isi_int_tuple (i : Int) (S : Store) : isiD (.int i) (.ty "tuple") S = .ok (.bl false) S := rfl
theorem isi_int_list (i : Int) (S : Store) : isiD (.int i) (.ty "list") S = .ok (.bl false) S := rfl
theorem isi_int_dict (i : Int) (S : Store) : isiD (.int i) (.ty "dict") S = .ok (.bl false) S := rfl
theorem isi_int_tuple_list (i : Int) (S : Store) : isiD (.int i) (.tup [.ty "tuple", .ty "list"]) S = .ok (.bl false) S := rfl
theorem isi_int_list_tuple (i : Int) (S : Store) : isiD (.int i) (.tup [.ty "list", .ty "tuple"]) S = .ok (.bl false) S := rfl
theorem isi_str_int (z : Str) (S : Store) : isiD (.str z) (.ty "int") S = .ok (.bl false) S := rfl
theorem isi_str_bool (z : Str) (S : Store) : isiD (.str z) (.ty "bool") S = .ok (.bl false) S := rfl
theorem isi_str_str (z : Str) (S : Store) : isiD (.str z) (.ty "str") S = .ok (.bl true) S := rfl
theorem isi_str_tuple (z : Str) (S : Store) : isiD (.str z) (.ty "tuple") S = .ok (.bl false) S := rfl
theorem isi_str_list (z : Str) (S : Store) : isiD (.str z) (.ty "list") S = .ok (.bl false) S := rfl
theorem isi_str_dict (z : Str) (S : Store) : isiD (.str z) (.ty "dict") S = .ok (.bl false) S := rfl
theorem isi_str_tuple_list (z : Str) (S : Store) : isiD (.str z) (.tup [.ty "tuple", .ty "list"]) S = .ok (.bl false) S := rfl
theorem isi_str_list_tuple (z : Str) (S : Store) : isiD (.str z) (.tup [.ty "list", .ty "tuple"]) S = .ok (.bl false) S := rfl
theorem isi_tup_int (ds : List D) (S : Store) : isiD (.tup ds) (.ty "int") S = .ok (.bl false) S := rfl
theorem isi_tup_bool (ds : List D) (S : Store) : isiD (.tup ds) (.ty "bool") S = .ok (.bl false) S := rfl
theorem isi_tup_str (ds : List D) (S : Store) : isiD (.tup ds) (.ty "str") S = .ok (.bl false) S := rfl
theorem isi_tup_tuple (ds : List D) (S : Store) : isiD (.tup ds) (.ty "tuple") S = .ok (.bl true) S := rfl
theorem isi_tup_list (ds : List D) (S : Store) : isiD (.tup ds) (.ty "list") S = .ok (.bl false) S := rfl
theorem isi_tup_dict (ds : List D) (S : Store) : isiD (.tup ds) (.ty "dict") S = .ok (.bl false) S := rfl
theorem isi_tup_tuple_list (ds : List D) (S : Store) : isiD (.tup ds) (.tup [.ty "tuple", .ty "list"]) S = .ok (.bl true) S := rfl
theorem isi_tup_list_tuple (ds : List D) (S : Store) : isiD (.tup ds) (.tup [.ty "list", .ty "tuple"]) S = .ok (.bl true) S := rfl
theorem isi_lst_int (ds : List D) (S : Store) : isiD (.lst ds) (.ty "int") S = .ok (.bl false) S := rfl
theorem isi_lst_bool (ds : List D) (S : Store) : isiD (.lst ds) (.ty "bool") S = .ok (.bl false) S := rfl
theorem isi_lst_str (ds : List D) (S : Store) : isiD (.lst ds) (.ty "str") S = .ok (.bl false) S := rfl
theorem isi_lst_tuple (ds : List D) (S : Store) : isiD (.lst ds) (.ty "tuple") S = .ok (.bl false) S := rfl
theorem isi_lst_list (ds : List D) (S : Store) : isiD (.lst ds) (.ty "list") S = .ok (.bl true) S := rfl
theorem isi_lst_dict (ds : List D) (S : Store) : isiD (.lst ds) (.ty "dict") S = .ok (.bl false) S := rfl
theorem isi_lst_tuple_list (ds : List D) (S : Store) : isiD (.lst ds) (.tup [.ty "tuple", .ty "list"]) S = .ok (.bl true) S := rfl
theorem isi_lst_list_tuple (ds : List D) (S : Store) : isiD (.lst ds) (.tup [.ty "list", .ty "tuple"]) S = .ok (.bl true) S := rfl
theorem isi_frz_int (ds : List D) (S : Store) : isiD (.frz ds) (.ty "int") S = .ok (.bl false) S := rfl
theorem isi_frz_bool (ds : List D) (S : Store) : isiD (.frz ds) (.ty "bool") S = .ok (.bl false) S := rfl
theorem isi_frz_str (ds : List D) (S : Store) : isiD (.frz ds) (.ty "str") S = .ok (.bl false) S := rfl
theorem isi_frz_tuple (ds : List D) (S : Store) : isiD (.frz ds) (.ty "tuple") S = .ok (.bl false) S := rfl
theorem isi_frz_list (ds : List D) (S : Store) : isiD (.frz ds) (.ty "list") S = .ok (.bl true) S := rfl
theorem isi_frz_dict (ds : List D) (S : Store) : isiD (.frz ds) (.ty "dict") S = .ok (.bl false) S := rfl
theorem isi_frz_tuple_list (ds : List D) (S : Store) : isiD (.frz ds) (.tup [.ty "tuple", .ty "list"]) S = .ok (.bl true) S := rfl
theorem isi_frz_list_tuple (ds : List D) (S : Store) : isiD (.frz ds) (.tup [.ty "list", .ty "tuple"]) S = .ok (.bl true) S := rfl
theorem tru_bl (b : Bool) : truD (.bl b) = ret b := rfl
theorem tru_int (i : Int) : truD (.int i) = ret (i != 0) := rfl
theorem tru_non : truD .non = ret false := rfl
theorem tru_tup (ds : List D) (S : Store) : truD (.tup ds) S = .ok (!ds.isEmpty) S := rfl
theorem len_tup (ds : List D) (S : Store) : lenD (.tup ds) S = .ok (.int ds.length) S := rfl
theorem ix_tup (ds : List D) (i : Int) (S : Store) : ixD (.tup ds) (.int i) S = match at? ds i with
  | some d => .ok d S
  | none => .stuck := id rfl
theorem tru_lst (ds : List D) (S : Store) : truD (.lst ds) S = .ok (!ds.isEmpty) S := rfl
theorem len_lst (ds : List D) (S : Store) : lenD (.lst ds) S = .ok (.int ds.length) S := rfl
theorem ix_lst (ds : List D) (i : Int) (S : Store) : ixD (.lst ds) (.int i) S = match at? ds i with
  | some d => .ok d S
  | none => .stuck := id rfl
theorem tru_frz (ds : List D) (S : Store) : truD (.frz ds) S = .ok (!ds.isEmpty) S := rfl
theorem len_frz (ds : List D) (S : Store) : lenD (.frz ds) S = .ok (.int ds.length) S := rfl
theorem ix_frz (ds : List D) (i : Int) (S : Store) : ixD (.frz ds) (.int i) S = match at? ds i with
  | some d => .ok d S
  | none => .stuck := id rfl
theorem ix_ref (n : Nat) (i : Int) (S : Store) : ixD (.ref n) (.int i) S = ixS (.ref n) i S := rfl
theorem sl_lst (ds : List D) (lo hi : Option Int) (S : Store) : slD (.lst ds) lo hi S = .ok (.lst (cutD ds lo hi)) S := rfl
theorem sl_frz (ds : List D) (lo hi : Option Int) (S : Store) : slD (.frz ds) lo hi S = .ok (.lst (cutD ds lo hi)) S := rfl
theorem sl_tup (ds : List D) (lo hi : Option Int) : slD (.tup ds) lo hi = ret (.tup (cutD ds lo hi)) := rfl
theorem asInt_int (i : Int) : asInt (.int i) = ret (some i) := rfl
theorem at0 {α : Type} (x0 : α) (l : List α) : at? (x0 :: l) 0 = some x0 := at?_of _ 0 rfl
theorem at1 {α : Type} (x0 : α) (x1 : α) (l : List α) : at? (x0 :: x1 :: l) 1 = some x1 := at?_of _ 1 rfl
theorem at2 {α : Type} (x0 : α) (x1 : α) (x2 : α) (l : List α) : at? (x0 :: x1 :: x2 :: l) 2 = some x2 := at?_of _ 2 rfl
theorem at3 {α : Type} (x0 : α) (x1 : α) (x2 : α) (x3 : α) (l : List α) : at? (x0 :: x1 :: x2 :: x3 :: l) 3 = some x3 := at?_of _ 3 rfl
theorem at4 {α : Type} (x0 : α) (x1 : α) (x2 : α) (x3 : α) (x4 : α) (l : List α) : at? (x0 :: x1 :: x2 :: x3 :: x4 :: l) 4 = some x4 := at?_of _ 4 rfl
theorem add_int (i j : Int) : addD (.int i) (.int j) = ret (.int (i + j)) := rfl
theorem add_tup (a b : List D) (S : Store) : addD (.tup a) (.tup b) S = if a.length + b.length ≤ lineN then .ok (.tup (a ++ b)) S else .stuck := id rfl
theorem add_str (a b : Str) (S : Store) : addD (.str a) (.str b) S = if a.length + b.length ≤ lineN then .ok (.str (a ++ b)) S else .stuck := id rfl
theorem add_lst (a b : List D) (S : Store) : addD (.lst a) (.lst b) S = if a.length + b.length ≤ lineN then .ok (.lst (a ++ b)) S else .stuck := id rfl
theorem add_ref (n : Nat) (b : D) (S : Store) : addD (.ref n) b S = addL (.ref n) b S := rfl
theorem addC_lst (a b : List D) (S : Store) : addC (.lst a) (.lst b) S = if a.length + b.length ≤ lineN then .ok (.ref S.length) (S ++ [.lst (a ++ b)]) else .stuck := id rfl
theorem repC_lst (a : List D) (k : Int) (S : Store) : repC (.lst a) (.int k) S = if -(2 ^ 63) ≤ k ∧ k < 2 ^ 63 ∧ a.length * k.toNat ≤ lineN then .ok (.ref S.length) (S ++ [.lst (List.replicate k.toNat a).flatten]) else .stuck := id rfl
theorem sub_int (i j : Int) : subD (.int i) (.int j) = ret (.int (i - j)) := rfl
theorem mul_int (i j : Int) (S : Store) : mulD (.int i) (.int j) S = if mulOk i j then .ok (.int (i * j)) S else .stuck := id rfl
theorem mul_lst (a : List D) (k : Int) (S : Store) : mulD (.lst a) (.int k) S = if -(2 ^ 63) ≤ k ∧ k < 2 ^ 63 ∧ a.length * k.toNat ≤ lineN then .ok (.lst (List.replicate k.toNat a).flatten) S else .stuck := id rfl
theorem mul_tup (a : List D) (k : Int) (S : Store) : mulD (.tup a) (.int k) S = if a ≠ [] ∧ a.length ≤ 1000 ∧ 2 ≤ k ∧ k ≤ 1000 then .ok (.tup (List.replicate k.toNat a).flatten) S else .stuck := id rfl
theorem div_int (i j : Int) (S : Store) : divD (.int i) (.int j) S = if 0 < j ∧ j < 18446744073709551616 then .ok (.int (i / j)) S else .stuck := id rfl
theorem mod_int (i j : Int) (S : Store) : modD (.int i) (.int j) S = if 0 < j then .ok (.int (i % j)) S else .stuck := id rfl
theorem pow_int (i j : Int) (S : Store) : powD (.int i) (.int j) S = if 0 ≤ j ∧ j ≤ 1000000 ∧ i.natAbs < 18446744073709551616 then .ok (.int (i ^ j.toNat)) S else .stuck := id rfl
theorem neg_int (i : Int) : negD (.int i) = ret (.int (-i)) := rfl
theorem not_bl (b : Bool) : notD (.bl b) = ret (.bl (!b)) := rfl
theorem lt_int (i j : Int) : ltD (.int i) (.int j) = ret (.bl (decide (i < j))) := rfl
theorem le_int (i j : Int) : leD (.int i) (.int j) = ret (.bl (decide (i ≤ j))) := rfl
theorem gt_int (i j : Int) : gtD (.int i) (.int j) = ret (.bl (decide (j < i))) := rfl
theorem ge_int (i j : Int) : geD (.int i) (.int j) = ret (.bl (decide (j ≤ i))) := rfl
theorem eq_int (i j : Int) (S : Store) : eqM (.int i) (.int j) S = .ok (.bl (decide (i = j))) S := rfl
theorem eq_str (a b : Str) (S : Store) : eqM (.str a) (.str b) S = .ok (.bl (decide (a = b))) S := rfl
theorem eq_bl (a b : Bool) (S : Store) : eqM (.bl a) (.bl b) S = .ok (.bl ((a == b))) S := rfl
theorem eq_non (S : Store) : eqM .non .non S = .ok (.bl true) S := rfl
theorem eq_int_non (i : Int) (S : Store) : eqM (.int i) .non S = .ok (.bl false) S := rfl
theorem eq_non_int (i : Int) (S : Store) : eqM .non (.int i) S = .ok (.bl false) S := rfl
theorem eq_str_non (z : Str) (S : Store) : eqM (.str z) .non S = .ok (.bl false) S := rfl
theorem eq_non_str (z : Str) (S : Store) : eqM .non (.str z) S = .ok (.bl false) S := rfl
theorem eq_bl_non (b : Bool) (S : Store) : eqM (.bl b) .non S = .ok (.bl false) S := rfl
theorem eq_non_bl (b : Bool) (S : Store) : eqM .non (.bl b) S = .ok (.bl false) S := rfl
theorem ne_int (i j : Int) (S : Store) : neM (.int i) (.int j) S = .ok (.bl (!decide (i = j))) S := rfl
theorem ne_str (a b : Str) (S : Store) : neM (.str a) (.str b) S = .ok (.bl (!decide (a = b))) S := rfl
theorem ne_bl (a b : Bool) (S : Store) : neM (.bl a) (.bl b) S = .ok (.bl (!(a == b))) S := rfl
theorem ne_non (S : Store) : neM .non .non S = .ok (.bl false) S := rfl
theorem ne_int_non (i : Int) (S : Store) : neM (.int i) .non S = .ok (.bl true) S := rfl
theorem ne_non_int (i : Int) (S : Store) : neM .non (.int i) S = .ok (.bl true) S := rfl
theorem ne_str_non (z : Str) (S : Store) : neM (.str z) .non S = .ok (.bl true) S := rfl
theorem ne_non_str (z : Str) (S : Store) : neM .non (.str z) S = .ok (.bl true) S := rfl
theorem ne_bl_non (b : Bool) (S : Store) : neM (.bl b) .non S = .ok (.bl true) S := rfl
theorem ne_non_bl (b : Bool) (S : Store) : neM .non (.bl b) S = .ok (.bl true) S := rfl
theorem isNone_non (b : Bool) : noneOp b .non .non = ret (.bl (!b)) := by cases b <;> rfl
theorem isNone_int (k : Bool) (i : Int) : noneOp k (.int i) .non = ret (.bl k) := by cases k <;> rfl
theorem isNone_str (k : Bool) (z : Str) : noneOp k (.str z) .non = ret (.bl k) := by cases k <;> rfl
theorem isNone_bl (k : Bool) (b : Bool) : noneOp k (.bl b) .non = ret (.bl k) := by cases k <;> rfl
theorem isNone_tup (k : Bool) (ds : List D) : noneOp k (.tup ds) .non = ret (.bl k) := by cases k <;> rfl
theorem isNone_lst (k : Bool) (ds : List D) : noneOp k (.lst ds) .non = ret (.bl k) := by cases k <;> rfl
theorem isNone_frz (k : Bool) (ds : List D) : noneOp k (.frz ds) .non = ret (.bl k) := by cases k <;> rfl
theorem max2_int (i j : Int) : max2D (.int i) (.int j) = ret (.int (if j > i then j else i)) := rfl
theorem min2_int (i j : Int) : min2D (.int i) (.int j) = ret (.int (if j < i then j else i)) := rfl
theorem abs_int (i : Int) : absD (.int i) = ret (.int (if i < 0 then -i else i)) := rfl
theorem int_int (i : Int) : intD (.int i) = ret (.int i) := rfl
theorem int_bl (b : Bool) : intD (.bl b) = ret (.int (if b then 1 else 0)) := rfl
theorem still_tup (ds : List D) : still (.tup ds) = ret ds := rfl
theorem list_tup (ds : List D) (S : Store) : listD (.tup ds) S = .ok (.lst ds) S := rfl
theorem tuple_tup (ds : List D) (S : Store) : tupleD (.tup ds) S = .ok (.tup ds) S := rfl
theorem listC_tup (ds : List D) (S : Store) : listC (.tup ds) S = .ok (.ref S.length) (S ++ [.lst ds])  := rfl
theorem sv_tup (ds : List D) (S : Store) : sv S (.tup ds) = some ds := rfl
theorem still_lst (ds : List D) : still (.lst ds) = ret ds := rfl
theorem list_lst (ds : List D) (S : Store) : listD (.lst ds) S = .ok (.lst ds) S := rfl
theorem tuple_lst (ds : List D) (S : Store) : tupleD (.lst ds) S = .ok (.tup ds) S := rfl
theorem listC_lst (ds : List D) (S : Store) : listC (.lst ds) S = .ok (.ref S.length) (S ++ [.lst ds])  := rfl
theorem sv_lst (ds : List D) (S : Store) : sv S (.lst ds) = some ds := rfl
theorem still_frz (ds : List D) : still (.frz ds) = ret ds := rfl
theorem list_frz (ds : List D) (S : Store) : listD (.frz ds) S = .ok (.lst ds) S := rfl
theorem tuple_frz (ds : List D) (S : Store) : tupleD (.frz ds) S = .ok (.tup ds) S := rfl
theorem listC_frz (ds : List D) (S : Store) : listC (.frz ds) S = .ok (.ref S.length) (S ++ [.lst ds])  := rfl
theorem sv_frz (ds : List D) (S : Store) : sv S (.frz ds) = some ds := rfl
theorem r1_int (j : Int) (S : Store) : itR1 [.int j] S = if -(2 ^ 62) ≤ j ∧ j < 2 ^ 62 then .ok ((List.range j.toNat).map fun i => D.int (i : Nat)) S else .stuck := id rfl
theorem r2_int (i j : Int) (S : Store) : itR2 [.int i, .int j] S = if -(2 ^ 62) ≤ i ∧ i < 2 ^ 62 ∧ -(2 ^ 62) ≤ j ∧ j < 2 ^ 62 then .ok ((List.range (j - i).toNat).map fun k => D.int (i + (k : Nat))) S else .stuck := id rfl
theorem r3_int (i j : Int) (S : Store) : itR3 [.int i, .int j, .int (-1)] S = if -(2 ^ 62) ≤ i ∧ i < 2 ^ 62 ∧ -(2 ^ 62) ≤ j ∧ j < 2 ^ 62 then .ok ((List.range (i - j).toNat).map fun k => D.int (i - (k : Nat))) S else .stuck := id rfl
theorem tg_name (i : Nat) (d : D) (ρ : Env) : tgD (.name i) d ρ = some (ρ.set i (some d)) := rfl
theorem tg_tup (is : List Nat) (ds : List D) (ρ : Env) : tgD (.tup is) (.tup ds) ρ = if ds.length = is.length then some (setAll is ds ρ) else none := id rfl
theorem setAll_cons {α : Type} (i : Nat) (is : List Nat) (d : α) (ds : List α) (ρ : List (Option α)) : setAll (i :: is) (d :: ds) ρ = setAll is ds (ρ.set i (some d)) := rfl
theorem setAll_nil {α : Type} (ρ : List (Option α)) : setAll [] ([] : List α) ρ = ρ := rfl
theorem mtE_ref (fa : SE) (fs : SA) (g : D → D → M D) (ρ : Env) : mtE fa fs g ρ = bnd (fa ρ) fun x => bnd (chkL x) fun x => bnd (fs ρ) (g1 (g x)) := rfl
theorem g1_one (f : D → M D) (d : D) : g1 f [d] = f d := rfl
theorem g2_two (f : D → D → M D) (d e : D) : g2 f [d, e] = f d e := rfl
theorem mkL_S (ds : List D) (S : Store) : mkL ds S = if ds.length ≤ lineN then .ok (.lst ds) S else .stuck := id rfl
theorem mkT_S (ds : List D) (S : Store) : mkT ds S = if ds.length ≤ lineN then .ok (.tup ds) S else .stuck := id rfl
theorem mkC_S (ds : List D) (S : Store) : mkC ds S = if ds.length ≤ lineN then .ok (.ref S.length) (S ++ [.lst ds]) else .stuck := id rfl
theorem bnd_S {α β : Type} (m : M α) (f : α → M β) (S : Store) : bnd m f S = match m S with
  | .ok a S' => f a S'
  | .exn x S' => .exn x S'
  | .stuck => .stuck := id rfl
theorem ret_S {α : Type} (a : α) (S : Store) : ret a S = .ok a S := rfl
theorem lineN_eq2 : lineN = 16777216 := rfl
theorem wipe_nil (ρ : Env) : wipeD ρ [] = ρ := rfl
theorem wipe_cons (ρ : Env) (v : Nat) (vs : List Nat) : wipeD ρ (v :: vs) = (wipeD ρ vs).set v none := rfl
theorem r1_nat (n : Nat) (S : Store) (h : n ≤ 16777216) : itR1 [.int (n : Nat)] S = .ok ((List.range n).map fun i => D.int (i : Nat)) S := by
  rw [r1_int, if_pos (by omega), Int.toNat_natCast]
theorem mkL_0 (S : Store) : mkL [] S = .ok (.lst []) S := rfl
theorem mkT_0 (S : Store) : mkT [] S = .ok (.tup []) S := rfl
theorem mkC_0 (S : Store) : mkC [] S = .ok (.ref S.length) (S ++ [.lst []]) := rfl
theorem mkL_1 (x0 : D) (S : Store) : mkL [x0] S = .ok (.lst [x0]) S := rfl
theorem mkT_1 (x0 : D) (S : Store) : mkT [x0] S = .ok (.tup [x0]) S := rfl
theorem mkC_1 (x0 : D) (S : Store) : mkC [x0] S = .ok (.ref S.length) (S ++ [.lst [x0]]) := rfl
theorem mkL_2 (x0 x1 : D) (S : Store) : mkL [x0, x1] S = .ok (.lst [x0, x1]) S := rfl
theorem mkT_2 (x0 x1 : D) (S : Store) : mkT [x0, x1] S = .ok (.tup [x0, x1]) S := rfl
theorem mkC_2 (x0 x1 : D) (S : Store) : mkC [x0, x1] S = .ok (.ref S.length) (S ++ [.lst [x0, x1]]) := rfl
theorem mkL_3 (x0 x1 x2 : D) (S : Store) : mkL [x0, x1, x2] S = .ok (.lst [x0, x1, x2]) S := rfl
theorem mkT_3 (x0 x1 x2 : D) (S : Store) : mkT [x0, x1, x2] S = .ok (.tup [x0, x1, x2]) S := rfl
theorem mkC_3 (x0 x1 x2 : D) (S : Store) : mkC [x0, x1, x2] S = .ok (.ref S.length) (S ++ [.lst [x0, x1, x2]]) := rfl
theorem mkL_4 (x0 x1 x2 x3 : D) (S : Store) : mkL [x0, x1, x2, x3] S = .ok (.lst [x0, x1, x2, x3]) S := rfl
theorem mkT_4 (x0 x1 x2 x3 : D) (S : Store) : mkT [x0, x1, x2, x3] S = .ok (.tup [x0, x1, x2, x3]) S := rfl
theorem mkC_4 (x0 x1 x2 x3 : D) (S : Store) : mkC [x0, x1, x2, x3] S = .ok (.ref S.length) (S ++ [.lst [x0, x1, x2, x3]]) := rfl
theorem cal_1 (g : List D → M D) (x0 : D) (S : Store) : cal 1 g [x0] S = g [x0] S := id rfl
theorem cal_2 (g : List D → M D) (x0 x1 : D) (S : Store) : cal 2 g [x0, x1] S = g [x0, x1] S := id rfl
theorem cal_3 (g : List D → M D) (x0 x1 x2 : D) (S : Store) : cal 3 g [x0, x1, x2] S = g [x0, x1, x2] S := id rfl
theorem cal_4 (g : List D → M D) (x0 x1 x2 x3 : D) (S : Store) : cal 4 g [x0, x1, x2, x3] S = g [x0, x1, x2, x3] S := id rfl
theorem cal_5 (g : List D → M D) (x0 x1 x2 x3 x4 : D) (S : Store) : cal 5 g [x0, x1, x2, x3, x4] S = g [x0, x1, x2, x3, x4] S := id rfl
theorem cal_6 (g : List D → M D) (x0 x1 x2 x3 x4 x5 : D) (S : Store) : cal 6 g [x0, x1, x2, x3, x4, x5] S = g [x0, x1, x2, x3, x4, x5] S := id rfl
theorem cal_7 (g : List D → M D) (x0 x1 x2 x3 x4 x5 x6 : D) (S : Store) : cal 7 g [x0, x1, x2, x3, x4, x5, x6] S = g [x0, x1, x2, x3, x4, x5, x6] S := id rfl
theorem stillS_tup (ds : List D) : stillS (.tup ds) = ret ds := rfl
theorem stillS_lst (ds : List D) : stillS (.lst ds) = ret ds := rfl
theorem stillS_frz (ds : List D) : stillS (.frz ds) = ret ds := rfl
theorem stillS_str (z : Str) : stillS (.str z) = ret (z.cps.toList.map fun c => D.str ⟨#[c]⟩) := rfl
theorem nat10 : Int.natAbs 10 = 10 := rfl
theorem nat2 : Int.natAbs 2 = 2 := rfl
theorem bnd_ok {α β : Type} {m : M α} {f : α → M β} {S S1 : Store} {a : α} (h : m S = .ok a S1) : bnd m f S = f a S1 := by unfold bnd; rw [h]
/-! ### cells -/
theorem lv_cell {S : Store} {n : Nat} {ds : List D} (h : S[n]? = some (.lst ds)) : lv S (.ref n) = some ds := by
  show (match S[n]? with | some (C.lst ds) => some ds | _ => none) = some ds
  rw [h]
theorem len_cell {S : Store} {n : Nat} {ds : List D} (h : S[n]? = some (.lst ds)) : lenD (.ref n) S = .ok (.int ds.length) S := by
  show (match lv S (.ref n) with | some ds => Out.ok (D.int ds.length) S | none => .stuck) = _
  rw [lv_cell h]
theorem ix_cell {S : Store} {n : Nat} {ds : List D} (h : S[n]? = some (.lst ds)) {i : Int} {d : D} (hi : at? ds i = some d) : ixD (.ref n) (.int i) S = .ok d S := by
  show (match lv S (.ref n) with | some ds => (match at? ds i with | some d => Out.ok d S | none => .stuck) | none => .stuck) = _
  rw [lv_cell h]
  dsimp only
  rw [hi]
theorem app_cell {S : Store} {n : Nat} {ds : List D} {y : D} (h : S[n]? = some (.lst ds)) (hl : ds.length < lineN) : appD (.ref n) y S = .ok .non (S.set n (.lst (ds ++ [y]))) := by
  show (match S[n]? with | some (C.lst ds) => if ds.length < lineN then Out.ok D.non (S.set n (C.lst (ds ++ [y]))) else .stuck | _ => .stuck) = _
  rw [h]
  dsimp only
  rw [if_pos hl]
theorem chk_cell {S : Store} {n : Nat} {ds : List D} (h : S[n]? = some (.lst ds)) : chkL (.ref n) S = .ok (.ref n) S := by
  show (match lv S (.ref n) with | some _ => Out.ok (D.ref n) S | none => .stuck) = _
  rw [lv_cell h]
theorem addL_cell {S : Store} {n : Nat} {ds es : List D} (h : S[n]? = some (.lst ds)) (hl : ds.length + es.length ≤ lineN) : addL (.ref n) (.lst es) S = .ok (.lst (ds ++ es)) S := by
  show (match lv S (.ref n), (some es : Option (List D)) with | some a, some b => if a.length + b.length ≤ lineN then Out.ok (D.lst (a ++ b)) S else .stuck | _, _ => .stuck) = _
  rw [lv_cell h]
  dsimp only
  rw [if_pos hl]
theorem res_int (m : Nat) (S : Store) (i : Int) : (D.int i).res m S = some (.int i) := rfl
theorem res_cell {m n : Nat} {S : Store} {ds : List D} (hn : m ≤ n) (h : S[n]? = some (.lst ds)) (hb : belL m ds = true) : (D.ref n).res m S = some (.lst ds) := by
  unfold D.res
  rw [if_neg (by omega), h]
  dsimp only
  rw [if_pos hb]
theorem belL_ints {α : Type} (m : Nat) (f : α → Int) (xs : List α) : belL m (xs.map fun x => D.int (f x)) = true := belL_all m _ fun d hd => by
  obtain ⟨z, _, rfl⟩ := List.mem_map.mp hd
  rfl
theorem HI.two {S : Store} (h : HI S) : ∃ A B, S = [A, B] ∧ A.bel 2 = true ∧ B.bel 2 = true := by
  have hb := h.bel
  obtain ⟨zs, st, k, _, rfl⟩ := h
  rw [List.all_eq_true] at hb
  exact ⟨_, _, rfl, hb _ (by simp), hb _ (by simp)⟩
/-! ### one statement behind another -/
section
variable {f g : SS} {ρ ρ' : Env} {S S' : Store} {e : SE} {d : D} {t : Tg} {fi : SA} {ds : List D}
theorem seq_nx (h : f ρ S = .fl (.nx ρ') S') : seqS f g ρ S = g ρ' S' := by unfold seqS; rw [h]
theorem seq_rt (h : f ρ S = .fl (.rt d) S') : seqS f g ρ S = .fl (.rt d) S' := by unfold seqS; rw [h]
theorem for_ok (h : fi ρ S = .ok ds S') : forS t fi f ρ S = forGo t f ds ρ S' := by unfold forS exS; rw [h]
theorem asg_ok (h : e ρ S = .ok d S') (ht : tgD t d ρ = some ρ') : asgS e t ρ S = .fl (.nx ρ') S' := by unfold asgS exS; rw [h]; dsimp only; rw [ht]
theorem ret_ok (h : e ρ S = .ok d S') : retS e ρ S = .fl (.rt d) S' := by unfold retS exS; rw [h]
theorem drop_ok (h : e ρ S = .ok d S') : dropS e ρ S = .fl (.nx ρ) S' := by unfold dropS exS; rw [h]
theorem if_t {c : ST} (h : c ρ S = .ok true S') : ifS c f g ρ S = f ρ S' := by unfold ifS exS; rw [h]; rfl
theorem if_f {c : ST} (h : c ρ S = .ok false S') : ifS c f g ρ S = g ρ S' := by unfold ifS exS; rw [h]; rfl
theorem par_ok {fs : SA} {is : List Nat} (h : fs ρ S = .ok ds S') (hl : ds.length = is.length) : parS fs is ρ S = .fl (.nx (setAll is ds ρ)) S' := by unfold parS; rw [h]; dsimp only; rw [if_pos hl]
theorem run_rt {N : Nat} {as : List D} {ρ0 : Env} (h0 : as.map some ++ List.replicate (N - as.length) none = ρ0) (h : f ρ0 S = .fl (.rt d) S') : runB f N as S = .ok d S' := by unfold runB; rw [h0, h]
theorem run_nx {N : Nat} {as : List D} {ρ0 : Env} (h0 : as.map some ++ List.replicate (N - as.length) none = ρ0) (h : f ρ0 S = .fl (.nx ρ') S') : runB f N as S = .ok .non S' := by unfold runB; rw [h0, h]
end
end F

set_option linter.all false
set_option autoImplicit false
/-! == and in of data without truth values -/
namespace F
open PySem
mutual
/-- None, ints, texts, tuples and lists of them -/
def noB : D → Bool
  | .non => true
  | .int _ => true
  | .str _ => true
  | .tup ds => noBL ds
  | .lst ds => noBL ds
  | _ => false
def noBL : List D → Bool
  | [] => true
  | d :: ds => noB d && noBL ds
end
mutual
theorem eqv_of : ∀ (x y : D), noB x = true → noB y = true → (PyData.eqv x.toP y.toP = true ↔ x = y)
  | .non, y, _, h => by
    cases y <;> first | (simp [noB] at h; done) | simp [D.toP, PyData.eqv]
  | .int i, y, _, h => by
    cases y <;> first | (simp [noB] at h; done) | simp [D.toP, PyData.eqv]
  | .str i, y, _, h => by
    cases y <;> first | (simp [noB] at h; done) | simp [D.toP, PyData.eqv]
  | .tup xs, y, h1, h => by
    cases y <;> first | (simp [noB] at h; done) | skip
    case tup ys =>
      have := eqvL_of xs ys (by simpa [noB] using h1) (by simpa [noB] using h)
      simpa [D.toP, PyData.eqv] using this
    all_goals simp [D.toP, PyData.eqv]
  | .lst xs, y, h1, h => by
    cases y <;> first | (simp [noB] at h; done) | skip
    case lst ys =>
      have := eqvL_of xs ys (by simpa [noB] using h1) (by simpa [noB] using h)
      simpa [D.toP, PyData.eqv] using this
    all_goals simp [D.toP, PyData.eqv]
  | .bl _, _, h, _ => by simp [noB] at h
  | .ty _, _, h, _ => by simp [noB] at h
  | .frz _, _, h, _ => by simp [noB] at h
  | .ins _ _, _, h, _ => by simp [noB] at h
  | .ref _, _, h, _ => by simp [noB] at h
theorem eqvL_of : ∀ (xs ys : List D), noBL xs = true → noBL ys = true → (PyData.eqvAll (toPs xs) (toPs ys) = true ↔ xs = ys)
  | [], [], _, _ => by simp [toPs, PyData.eqvAll]
  | [], _ :: _, _, _ => by simp [toPs, PyData.eqvAll]
  | _ :: _, [], _, _ => by simp [toPs, PyData.eqvAll]
  | x :: xs, y :: ys, h1, h2 => by
    have a : noB x = true ∧ noBL xs = true := by simpa [noBL] using h1
    have b : noB y = true ∧ noBL ys = true := by simpa [noBL] using h2
    have e1 := eqv_of x y a.1 b.1
    have e2 := eqvL_of xs ys a.2 b.2
    simp only [toPs, PyData.eqvAll, Bool.and_eq_true, e1, e2, List.cons.injEq]
end
/-- such data, at most n deep, its texts sound -/
structure okD (n : Nat) (d : D) : Prop where
  nb : noB d = true
  lay : d.toP.canLay0 = true
  dep : d.toP.depth ≤ n
theorem okD.mono {n m : Nat} {d : D} (h : okD n d) (hm : n ≤ m) : okD m d := ⟨h.nb, h.lay, Nat.le_trans h.dep hm⟩
theorem okD_int (i : Int) : okD 0 (.int i) := ⟨rfl, rfl, Nat.le_refl _⟩
theorem okD_non : okD 0 .non := ⟨rfl, rfl, Nat.le_refl _⟩
theorem okD_str {z : Str} (h : PyData.canLay0 (.str z) = true) : okD 0 (.str z) := ⟨rfl, h, Nat.le_refl _⟩
theorem okL {n : Nat} : ∀ {ds : List D}, (∀ d ∈ ds, okD n d) → noBL ds = true ∧ PyData.canLayAll0 (toPs ds) = true ∧ PyData.depthAll (toPs ds) ≤ n
  | [], _ => ⟨rfl, rfl, by simp [toPs, PyData.depthAll]⟩
  | d :: ds, h => by
    obtain ⟨a, b, c⟩ := okL (n := n) (ds := ds) (fun e he => h e (by simp [he]))
    have q := h d (by simp)
    refine ⟨?_, ?_, ?_⟩
    · simp [noBL, q.nb, a]
    · simp [toPs, PyData.canLayAll0, q.lay, b]
    · have := q.dep
      simp only [toPs, PyData.depthAll]
      omega
theorem okD_tup {n : Nat} {ds : List D} (h : ∀ d ∈ ds, okD n d) : okD (n + 1) (.tup ds) := by
  obtain ⟨a, b, c⟩ := okL h
  refine ⟨by simpa [noB] using a, by simpa [D.toP, PyData.canLay0] using b, ?_⟩
  simp only [D.toP, PyData.depth]
  omega
theorem okD_lst {n : Nat} {ds : List D} (h : ∀ d ∈ ds, okD n d) : okD (n + 1) (.lst ds) := by
  obtain ⟨a, b, c⟩ := okL h
  refine ⟨by simpa [noB] using a, by simpa [D.toP, PyData.canLay0] using b, ?_⟩
  simp only [D.toP, PyData.depth]
  omega
theorem okD.shp {n : Nat} {d : D} (h : okD n d) (hn : n ≤ 64) : SeqAt.shaped d.toP = true := by
  unfold SeqAt.shaped
  have := h.dep
  simp [h.lay]
  omega
theorem vw_ok {S : Store} {d : D} (h : noB d = true) : vw S d = d := by
  cases d <;> first | rfl | (simp [noB] at h)
def dq (x y : D) : Bool := PyData.eqv x.toP y.toP
theorem dq_iff {n m : Nat} {x y : D} (hx : okD n x) (hy : okD m y) : dq x y = true ↔ x = y := eqv_of x y hx.nb hy.nb
theorem dq_self {n : Nat} {x : D} (hx : okD n x) : dq x x = true := (dq_iff hx hx).mpr rfl
theorem eqV_ok {n m : Nat} {x y : D} {S : Store} (hx : okD n x) (hy : okD m y) (hn : n ≤ 64) (hm : m ≤ 64) : eqV S x y = some (dq x y) := by
  unfold eqV
  by_cases hs : scalD x y = true
  · rw [if_pos hs]
    congr 1
    rw [Bool.eq_iff_iff, dq_iff hx hy]
    have h1 := hx.nb
    have h2 := hy.nb
    cases x <;> cases y <;> first | (simp [scalD, kind] at hs; done) | (simp [noB] at h1; done) | (simp [noB] at h2; done) | simp [scalEq]
  · rw [if_neg hs, vw_ok hx.nb, vw_ok hy.nb, hx.shp hn, hy.shp hm]
    rfl
theorem eqM_ok {n m : Nat} {x y : D} {S : Store} (hx : okD n x) (hy : okD m y) (hn : n ≤ 64) (hm : m ≤ 64) : eqM x y S = .ok (.bl (dq x y)) S := by
  unfold eqM; rw [eqV_ok hx hy hn hm]
theorem neM_ok {n m : Nat} {x y : D} {S : Store} (hx : okD n x) (hy : okD m y) (hn : n ≤ 64) (hm : m ≤ 64) : neM x y S = .ok (.bl (!dq x y)) S := by
  unfold neM; rw [eqV_ok hx hy hn hm]
theorem toPs_any (ds : List D) (x : D) : ((toPs ds).any fun z => PyData.eqv z x.toP) = ds.any fun z => dq z x := by
  induction ds with
  | nil => rfl
  | cons d ds ih => simp only [toPs, List.any_cons, ih, dq]
theorem inV_ok {n m : Nat} {x y : D} {S : Store} {ds : List D} (hy : sv S y = some ds) (hx : okD n x) (hd : ∀ d ∈ ds, okD m d) (hn : n ≤ 64) (hm : m < 64) : inV S x y = some (ds.any fun z => dq z x) := by
  have hs : SeqAt.shaped (.list (toPs ds)) = true := (okD_lst hd).shp (by omega)
  have e : inV S x y = (match sv S y with
    | some ds => if SeqAt.shaped x.toP && SeqAt.shaped (.list (toPs ds)) then some ((toPs ds).any fun z => PyData.eqv z x.toP) else none
    | none => none) := by
    cases y <;> first | rfl | cases hy
  rw [e, hy]
  dsimp only
  rw [hx.shp hn, hs, toPs_any]
  rfl
theorem inD_ok {n m : Nat} {x y : D} {S : Store} {ds : List D} (hy : sv S y = some ds) (hx : okD n x) (hd : ∀ d ∈ ds, okD m d) (hn : n ≤ 64) (hm : m < 64) : inD x y S = .ok (.bl (ds.any fun z => dq z x)) S := by
  unfold inD; rw [inV_ok hy hx hd hn hm]
theorem notInD_ok {n m : Nat} {x y : D} {S : Store} {ds : List D} (hy : sv S y = some ds) (hx : okD n x) (hd : ∀ d ∈ ds, okD m d) (hn : n ≤ 64) (hm : m < 64) : notInD x y S = .ok (.bl (!ds.any fun z => dq z x)) S := by
  unfold notInD; rw [inV_ok hy hx hd hn hm]
theorem any_dq {n m : Nat} {x : D} {ds : List D} (hx : okD n x) (hd : ∀ d ∈ ds, okD m d) : (ds.any fun z => dq z x) = true ↔ x ∈ ds := by
  rw [List.any_eq_true]
  constructor
  · rintro ⟨z, h1, h2⟩
    rw [(dq_iff (hd z h1) hx).mp h2] at h1
    exact h1
  · exact fun h => ⟨x, h, dq_self hx⟩
end F

set_option linter.all false
set_option autoImplicit false
namespace F
open PySem
def FUEL : Nat := 10000
def RECN : Nat := 8
def l__law_mix_1 : SS :=
  (asgS (op2 modD (appA (consA (op2 addD (op2 addD (op2 mulD (varD 2) (cD (.int 48271))) (op2 modD (appA (consA (varD 3) nilA) (g1 intD)) (cD (.int 2147483629)))) (cD (.int 1))) nilA) (g1 intD)) (cD (.int 2147483647))) (.name 2))
def b__law_mix : SS :=
  (seqS (asgS (varD 1) (.name 2))
  (seqS (forS (.name 3) (itE (varD 0)) l__law_mix_1)
  (retS (celE (consA (varD 2) (consA (appA (consA (varD 0) nilA) (g1 listC)) (consA (cD (.int 0)) nilA)))))))
def g__law_mix : List D → M D := runB b__law_mix 4

def b__law_next : SS :=
  (seqS (asgS (op2 ixD (op2 addD (op2 ixD (varD 0) (cD (.int 1))) (lstE (consA (cD (.int 0)) nilA))) (op2 modD (appA (consA (op2 ixD (varD 0) (cD (.int 2))) nilA) (g1 intD)) (appA (consA (cD (.int 1)) (consA (appA (consA (op2 ixD (varD 0) (cD (.int 1))) nilA) (g1 lenD)) nilA)) (g2 max2D)))) (.name 2))
  (seqS (ifS (boolT (op2 geD (varD 2) (op2 powD (cD (.int 10)) (cD (.int 18))))) (seqS (setItS (op2 divD (varD 2) (varD 1)) (op2 ixD (varD 0) (cD (.int 1))) (op2 modD (appA (consA (op2 ixD (varD 0) (cD (.int 2))) nilA) (g1 intD)) (appA (consA (op2 ixD (varD 0) (cD (.int 1))) nilA) (g1 lenD))))
  (retS (op2 modD (appA (consA (varD 2) nilA) (g1 intD)) (varD 1)))) nxS)
  (seqS (setItS (op2 modD (appA (consA (op2 addD (op2 addD (op2 mulD (op2 ixD (varD 0) (cD (.int 0))) (cD (.int 48271))) (op2 mulD (varD 2) (cD (.int 69621)))) (cD (.int 11))) nilA) (g1 intD)) (cD (.int 2147483647))) (varD 0) (cD (.int 0)))
  (seqS (setItS (op2 addD (op2 ixD (varD 0) (cD (.int 2))) (cD (.int 1))) (varD 0) (cD (.int 2)))
  (retS (op2 modD (appA (consA (op2 divD (op2 ixD (varD 0) (cD (.int 0))) (cD (.int 7))) nilA) (g1 intD)) (varD 1)))))))
def g__law_next : List D → M D := runB b__law_next 3

def b__law_pick : SS :=
  (retS (op2 ixD (varD 1) (appA (consA (varD 0) (consA (appA (consA (varD 1) nilA) (g1 lenD)) nilA)) (cal 2 g__law_next))))
def g__law_pick : List D → M D := runB b__law_pick 2

def c__law_base_1 : SE :=
  lcE [4] (.name 4) (itE (varD 1)) (boolT (op2 eqM (op2 ixD (varD 4) (cD (.int 1))) (tupE nilA))) (op2 ixD (varD 4) (cD (.int 0)))
def b__law_base : SS :=
  (seqS (asgS c__law_base_1 (.name 2))
  (seqS (ifS (orT (boolT (op2 eqM (varD 2) (lstE nilA))) (boolT (op2 eqM (appA (consA (varD 0) (consA (cD (.int 2)) nilA)) (cal 2 g__law_next)) (cD (.int 0))))) (retS (tupE nilA)) nxS)
  (seqS (asgS (appA (consA (varD 0) (consA (appA (consA (varD 2) nilA) (g1 lenD)) nilA)) (cal 2 g__law_next)) (.name 3))
  (retS (appA (consA (slE (op2 addD (slE (varD 2) (fun ρ => bnd ((varD 3) ρ) asInt) (fun _ => ret none)) (slE (varD 2) (fun _ => ret none) (fun ρ => bnd ((varD 3) ρ) asInt))) (fun _ => ret none) (fun ρ => bnd ((op2 addD (cD (.int 1)) (appA (consA (varD 0) (consA (appA (consA (varD 2) nilA) (g1 lenD)) nilA)) (cal 2 g__law_next))) ρ) asInt)) nilA) (g1 tupleD))))))
def g__law_base : List D → M D := runB b__law_base 5

def l__law_rows_1 : SS :=
  (seqS (parS (consA (appA (consA (varD 0) (consA (varD 5) nilA)) (cal 2 g__law_base)) (consA (appA (consA (varD 0) (consA (lstE (consA (cD (.int 0)) (consA (cD (.int 1)) (consA (cD (.int 1)) (consA (cD (.int 2)) (consA (cD (.int 3)) (consA (cD (.int 5)) (consA (appA (consA (varD 0) (consA (cD (.int 10)) nilA)) (cal 2 g__law_next)) nilA)))))))) nilA)) (cal 2 g__law_pick)) nilA)) [13, 14])
  (seqS (asgS (op2 addD (cD (.int 1)) (appA (consA (varD 0) (consA (ifE (truT (varD 1)) (cD (.int 3)) (cD (.int 4))) nilA)) (cal 2 g__law_next))) (.name 7))
  (seqS (asgS (appA (consA (varD 0) (consA (lstE (consA (cD (.int 0)) (consA (cD (.int 0)) (consA (appA (consA (varD 0) (consA (ifE (truT (varD 1)) (cD (.int 21)) (cD (.int 61))) nilA)) (cal 2 g__law_next)) nilA)))) nilA)) (cal 2 g__law_pick)) (.name 8))
  (seqS (asgS (appA (consA (varD 0) (consA (lstE (consA (cD (.str "up")) (consA (cD (.str "down")) (consA (cD (.str "near")) nilA)))) nilA)) (cal 2 g__law_pick)) (.name 9))
  (seqS (asgS (appA (consA (varD 0) (consA (ifE (truT (varD 1)) (lstE (consA (cD (.int 1)) (consA (cD (.int 2)) (consA (cD (.int 3)) (consA (cD (.int 6)) nilA))))) (lstE (consA (cD (.int 1)) (consA (cD (.int 2)) (consA (cD (.int 3)) (consA (cD (.int 4)) (consA (cD (.int 6)) (consA (cD (.int 12)) nilA)))))))) nilA)) (cal 2 g__law_pick)) (.name 10))
  (seqS (asgS (appA (consA (varD 0) (consA (lstE (consA (cD (.int 0)) (consA (cD (.int 0)) (consA (appA (consA (varD 0) (consA (ifE (truT (varD 1)) (cD (.int 21)) (cD (.int 61))) nilA)) (cal 2 g__law_next)) nilA)))) nilA)) (cal 2 g__law_pick)) (.name 11))
  (seqS (asgS (tupE (consA (op2 ixD (varD 3) (varD 4)) (consA (varD 13) (consA (varD 14) (consA (varD 7) (consA (varD 8) (consA (varD 9) (consA (varD 10) (consA (varD 11) nilA))))))))) (.name 12))
  (asgS (op2 addD (varD 5) (tupE (consA (varD 12) nilA))) (.name 5)))))))))
def b__law_rows : SS :=
  (seqS (parS (consA (lstE (consA (cD (.str "flour")) (consA (cD (.str "egg")) (consA (cD (.str "rice")) (consA (cD (.str "up")) (consA (cD (.str "tea")) (consA (cD (.str "least")) (consA (cD (.str "of")) nilA)))))))) (consA (tupE nilA) nilA)) [6, 5])
  (seqS (asgS (appA (consA (varD 0) (consA (appA (consA (varD 6) nilA) (g1 lenD)) nilA)) (cal 2 g__law_next)) (.name 2))
  (seqS (asgS (op2 addD (slE (varD 6) (fun ρ => bnd ((varD 2) ρ) asInt) (fun _ => ret none)) (slE (varD 6) (fun _ => ret none) (fun ρ => bnd ((varD 2) ρ) asInt))) (.name 3))
  (seqS (forS (.name 4) (appA (consA (op2 addD (cD (.int 1)) (appA (consA (varD 0) (consA (ifE (truT (varD 1)) (cD (.int 3)) (cD (.int 5))) nilA)) (cal 2 g__law_next))) nilA) itR1) l__law_rows_1)
  (retS (varD 5))))))
def g__law_rows : List D → M D := runB b__law_rows 15

def c_is_name_1 : SE :=
  lcE [1] (.name 1) (itE (varD 0)) yesT (op2 inD (varD 1) (cD (.str "abcdefghijklmnopqrstuvwxyz")))
def b_is_name : SS :=
  (seqS (ifS (orT (notT (truT (appA (consA (varD 0) (consA (cD (.ty "str")) nilA)) (g2 isiD)))) (orT (notT (boolT (chain leD leD (cD (.int 1)) (appA (consA (varD 0) nilA) (g1 lenD)) (cD (.int 8))))) (boolT (op2 eqM (varD 0) (cD (.str "eaters")))))) (retS (cD (.bl false))) nxS)
  (retS (appA (consA c_is_name_1 nilA) (g1 allD))))
def g_is_name : List D → M D := runB b_is_name 2

def c_is_base_1 : SE :=
  lcE [4] (.name 4) (itE (varD 0)) yesT (andE (appA (consA (varD 4) (consA (cD (.ty "str")) nilA)) (g2 isiD)) (op2 inD (varD 4) (varD 2)))
def c_is_base_2 : SE :=
  lcE [3] (.name 3) (itE (varD 1)) (boolT (op2 eqM (op2 ixD (varD 3) (cD (.int 1))) (tupE nilA))) (op2 ixD (varD 3) (cD (.int 0)))
def b_is_base : SS :=
  (seqS (asgS c_is_base_2 (.name 2))
  (seqS (ifS (orT (notT (truT (appA (consA (varD 0) (consA (cD (.ty "tuple")) nilA)) (g2 isiD)))) (notT (truT (appA (consA c_is_base_1 nilA) (g1 allD))))) (retS (cD (.bl false))) nxS)
  (retS (op2 eqM (op1 lenSetD (varD 0)) (appA (consA (varD 0) nilA) (g1 lenD))))))
def g_is_base : List D → M D := runB b_is_base 5

def b_is_integer : SS :=
  (retS (andE (appA (consA (varD 0) (consA (cD (.ty "int")) nilA)) (g2 isiD)) (andE (op1 notD (appA (consA (varD 0) (consA (cD (.ty "bool")) nilA)) (g2 isiD))) (chain leD leD (varD 1) (varD 0) (varD 2)))))
def g_is_integer : List D → M D := runB b_is_integer 3

def c_is_row_1 : SE :=
  lcE [3] (.name 3) (itE (varD 1)) yesT (op2 ixD (varD 3) (cD (.int 0)))
def c_is_row_2 : SE :=
  lcE [2] (.name 2) (itE (tupE (consA (op2 ixD (varD 0) (cD (.int 4))) (consA (op2 ixD (varD 0) (cD (.int 7))) nilA)))) yesT (appA (consA (varD 2) (consA (cD (.int 0)) (consA (cD (.int 60)) nilA))) (cal 3 g_is_integer))
def b_is_row : SS :=
  (seqS (ifS (orT (notT (truT (appA (consA (varD 0) (consA (cD (.ty "tuple")) nilA)) (g2 isiD)))) (orT (boolT (op2 neM (appA (consA (varD 0) nilA) (g1 lenD)) (cD (.int 8)))) (orT (notT (truT (appA (consA (op2 ixD (varD 0) (cD (.int 0))) nilA) (cal 1 g_is_name)))) (notT (truT (appA (consA (op2 ixD (varD 0) (cD (.int 1))) (consA (varD 1) nilA)) (cal 2 g_is_base))))))) (retS (cD (.bl false))) nxS)
  (seqS (ifS (orT (notT (truT (appA (consA (op2 ixD (varD 0) (cD (.int 2))) (consA (cD (.int 0)) (consA (cD (.int 9)) nilA))) (cal 3 g_is_integer)))) (notT (truT (appA (consA (op2 ixD (varD 0) (cD (.int 3))) (consA (cD (.int 1)) (consA (cD (.int 4)) nilA))) (cal 3 g_is_integer))))) (retS (cD (.bl false))) nxS)
  (seqS (ifS (notT (truT (appA (consA c_is_row_2 nilA) (g1 allD)))) (retS (cD (.bl false))) nxS)
  (seqS (ifS (orT (notT (truT (appA (consA (op2 ixD (varD 0) (cD (.int 5))) (consA (cD (.ty "str")) nilA)) (g2 isiD)))) (orT (boolT (op2 notInD (op2 ixD (varD 0) (cD (.int 5))) (cD (.tup [(.str "up"), (.str "down"), (.str "near")])))) (notT (truT (appA (consA (op2 ixD (varD 0) (cD (.int 6))) (consA (cD (.int 1)) (consA (op2 ixD (cD (.tup [(.int 1), (.int 2), (.int 3), (.int 4), (.int 6), (.int 12)])) (op1 negD (cD (.int 1)))) nilA))) (cal 3 g_is_integer)))))) (retS (cD (.bl false))) nxS)
  (retS (andE (op2 inD (op2 ixD (varD 0) (cD (.int 6))) (cD (.tup [(.int 1), (.int 2), (.int 3), (.int 4), (.int 6), (.int 12)]))) (op2 notInD (op2 ixD (varD 0) (cD (.int 0))) c_is_row_1)))))))
def g_is_row : List D → M D := runB b_is_row 4

def l_Recipe_init_1 : SS :=
  (ifS (notT (truT (appA (consA (varD 3) (consA (slE (varD 1) (fun _ => ret none) (fun ρ => bnd ((varD 2) ρ) asInt)) nilA)) (cal 2 g_is_row)))) nevS nxS)
def b_Recipe_init : SS :=
  (seqS (ifS (orT (notT (truT (appA (consA (varD 1) (consA (cD (.ty "tuple")) nilA)) (g2 isiD)))) (notT (boolT (chain leD leD (cD (.int 1)) (appA (consA (varD 1) nilA) (g1 lenD)) (cD (.int 5)))))) nevS nxS)
  (seqS (forS (.tup [2, 3]) (itEn (consA (varD 1) nilA)) l_Recipe_init_1)
  (setFS "Recipe" "table" (varD 1) (varD 0))))
def g_Recipe_init : List D → M D := runB b_Recipe_init 4

def c__law_at_1 : SE :=
  lcE [2] (.name 2) (itE (varD 0)) yesT (op2 ixD (varD 2) (cD (.int 0)))
def b__law_at : SS :=
  (retS (mtE c__law_at_1 (consA (varD 1) nilA) idxD))
def g__law_at : List D → M D := runB b__law_at 3

def b__law_amount (r : List D → M D) : SS :=
  (seqS (parS (consA (op2 ixD (varD 0) (varD 1)) (consA (appA (consA (varD 0) (consA (varD 1) (consA (varD 2) nilA))) (cal 3 r)) nilA)) [4, 5])
  (seqS (parS (consA (op2 mulD (op2 ixD (varD 4) (cD (.int 3))) (op2 ixD (varD 4) (cD (.int 6)))) (consA (op2 ixD (varD 4) (cD (.int 5))) nilA)) [6, 7])
  (seqS (parS (consA (op2 divD (varD 5) (varD 6)) (consA (op2 modD (varD 5) (varD 6)) nilA)) [8, 9])
  (seqS (asgS (orE (op2 eqM (varD 7) (cD (.str "up"))) (andE (op2 eqM (varD 7) (cD (.str "near"))) (op2 geD (op2 mulD (cD (.int 2)) (varD 9)) (varD 6)))) (.name 3))
  (seqS (ifS (andT (boolT (op2 gtD (varD 9) (cD (.int 0)))) (truT (varD 3))) (asgS (op2 addD (varD 8) (cD (.int 1))) (.name 8)) nxS)
  (retS (appA (consA (op2 mulD (varD 8) (op2 ixD (varD 4) (cD (.int 6)))) (consA (op2 ixD (varD 4) (cD (.int 7))) nilA)) (g2 max2D))))))))
def c__law_due_1 (r : List D → M D) : SE :=
  lcE [7] (.name 7) (itE (varD 5)) yesT (appA (consA (varD 0) (consA (varD 7) (consA (varD 2) nilA))) (cal 3 r))
def c__law_due_2 : SE :=
  lcE [6] (.name 6) (itE (op2 ixD (varD 3) (cD (.int 1)))) yesT (appA (consA (varD 0) (consA (varD 6) nilA)) (cal 2 g__law_at))
def b__law_due (r : List D → M D) : SS :=
  (seqS (asgS (op2 ixD (varD 0) (varD 1)) (.name 3))
  (seqS (asgS (varD 2) (.name 4))
  (seqS (ifS (boolT (op2 neM (op2 ixD (varD 3) (cD (.int 1))) (tupE nilA))) (seqS (asgS c__law_due_2 (.name 5))
  (asgS (appA (consA (c__law_due_1 r) nilA) (g1 sumD)) (.name 4))) nxS)
  (retS (op2 addD (op2 mulD (op2 ixD (varD 3) (cD (.int 4))) (op2 ixD (varD 3) (cD (.int 3)))) (op2 mulD (op2 ixD (varD 3) (cD (.int 2))) (varD 4)))))))
def r__law_amount : Nat → List D → M D
  | 0 => fun _ => stuck
  | n + 1 => runB (b__law_amount (runB (b__law_due (r__law_amount n)) 8)) 10
def g__law_amount : List D → M D := r__law_amount RECN
def g__law_due : List D → M D := runB (b__law_due g__law_amount) 8

def c__law_alike_1 (r : List D → M D) : SE :=
  lcE [2] (.name 2) (appA (consA (appA (consA (varD 1) nilA) (g1 lenD)) nilA) itR1) (notT (truT (appA (consA (op2 ixD (varD 0) (varD 2)) (consA (op2 ixD (varD 1) (varD 2)) nilA)) (cal 2 r)))) (varD 2)
def b__law_alike (r : List D → M D) : SS :=
  (seqS (ifS (truT (appA (consA (varD 1) (consA (cD (.ty "dict")) nilA)) (g2 isiD))) (retS (andE (appA (consA (varD 0) (consA (cD (.ty "dict")) nilA)) (g2 isiD)) (andE (appA (consA (appA (consA (varD 0) nilA) (g1 listD)) (consA (appA (consA (varD 1) nilA) (g1 listD)) nilA)) (cal 2 r)) (op2 eqM (varD 0) (varD 1))))) nxS)
  (seqS (ifS (truT (appA (consA (varD 1) (consA (tupE (consA (cD (.ty "tuple")) (consA (cD (.ty "list")) nilA))) nilA)) (g2 isiD))) (seqS (ifS (orT (notT (truT (appA (consA (varD 0) (consA (tupE (consA (cD (.ty "tuple")) (consA (cD (.ty "list")) nilA))) nilA)) (g2 isiD)))) (boolT (op2 neM (appA (consA (varD 0) (consA (cD (.ty "list")) nilA)) (g2 isiD)) (appA (consA (varD 1) (consA (cD (.ty "list")) nilA)) (g2 isiD))))) (retS (cD (.bl false))) nxS)
  (seqS (ifS (boolT (op2 neM (appA (consA (varD 0) nilA) (g1 lenD)) (appA (consA (varD 1) nilA) (g1 lenD)))) (retS (cD (.bl false))) nxS)
  (retS (op2 eqM (c__law_alike_1 r) (lstE nilA))))) nxS)
  (seqS (ifS (orT (boolT (op2 (noneOp false) (varD 1) (cD .non))) (truT (appA (consA (varD 1) (consA (cD (.ty "str")) nilA)) (g2 isiD)))) (retS (andE (op2 eqM (varD 0) (varD 1)) (op2 eqM (appA (consA (varD 0) (consA (cD (.ty "str")) nilA)) (g2 isiD)) (appA (consA (varD 1) (consA (cD (.ty "str")) nilA)) (g2 isiD))))) nxS)
  (retS (andE (appA (consA (varD 0) (consA (cD (.ty "int")) nilA)) (g2 isiD)) (andE (op2 eqM (appA (consA (varD 0) (consA (cD (.ty "bool")) nilA)) (g2 isiD)) (appA (consA (varD 1) (consA (cD (.ty "bool")) nilA)) (g2 isiD))) (op2 eqM (varD 0) (varD 1))))))))
def r__law_alike : Nat → List D → M D
  | 0 => fun _ => stuck
  | n + 1 => runB (b__law_alike (r__law_alike n)) 3
def g__law_alike : List D → M D := r__law_alike RECN

def l__law_part_1 : SS :=
  (parS (consA (varD 3) (consA (op2 modD (varD 2) (varD 3)) nilA)) [2, 3])
def w__law_part_1 : ST :=
  (boolT (op2 gtD (varD 3) (cD (.int 0))))
def b__law_part : SS :=
  (seqS (parS (consA (appA (consA (varD 0) nilA) (g1 absD)) (consA (varD 1) nilA)) [2, 3])
  (seqS (whGo w__law_part_1 l__law_part_1 FUEL)
  (retS (tupE (consA (op2 divD (varD 0) (varD 2)) (consA (op2 divD (varD 1) (varD 2)) nilA))))))
def g__law_part : List D → M D := runB b__law_part 4

def b_check_eaters : SS :=
  (ifS (notT (truT (appA (consA (varD 0) (consA (cD (.int 0)) (consA (cD (.int 1000000000000000000000000000000)) nilA))) (cal 3 g_is_integer)))) nevS nxS)
def g_check_eaters : List D → M D := runB b_check_eaters 1

def b_rounded : SS :=
  (seqS (asgS (op2 mulD (varD 1) (varD 3)) (.name 4))
  (seqS (ifS (boolT (op2 eqM (varD 2) (cD (.str "down")))) (retS (op2 mulD (op2 divD (varD 0) (varD 4)) (varD 3))) nxS)
  (seqS (ifS (boolT (op2 eqM (varD 2) (cD (.str "near")))) (retS (op2 mulD (op2 divD (op2 addD (op2 mulD (cD (.int 2)) (varD 0)) (varD 4)) (op2 mulD (cD (.int 2)) (varD 4))) (varD 3))) nxS)
  (retS (op2 mulD (op1 negD (op2 divD (op1 negD (varD 0)) (varD 4))) (varD 3))))))
def g_rounded : List D → M D := runB b_rounded 5

def l_row_of_1 : SS :=
  (ifS (boolT (op2 eqM (op2 ixD (varD 2) (cD (.int 0))) (varD 1))) (retS (varD 2)) nxS)
def b_row_of : SS :=
  (seqS (ifS (truT (appA (consA (varD 1) (consA (cD (.ty "str")) nilA)) (g2 isiD))) (forS (.name 2) (itE (op1 (getF "Recipe" "table") (varD 0))) l_row_of_1) nxS)
  nevS)
def g_row_of : List D → M D := runB b_row_of 3

def b_amount_by (r : List D → M D) : SS :=
  (retS (appA (consA (appA (consA (appA (consA (varD 0) (consA (varD 1) (consA (varD 2) nilA))) (cal 3 r)) (consA (op2 ixD (varD 1) (cD (.int 3))) (consA (op2 ixD (varD 1) (cD (.int 5))) (consA (op2 ixD (varD 1) (cD (.int 6))) nilA)))) (cal 4 g_rounded)) (consA (op2 ixD (varD 1) (cD (.int 7))) nilA)) (g2 max2D)))
def c_due_parts_1 (r : List D → M D) : SE :=
  lcE [4] (.name 4) (itE (op2 ixD (varD 1) (cD (.int 1)))) yesT (appA (consA (varD 0) (consA (appA (consA (varD 0) (consA (varD 4) nilA)) (cal 2 g_row_of)) (consA (varD 2) nilA))) (cal 3 r))
def b_due_parts (r : List D → M D) : SS :=
  (seqS (asgS (varD 2) (.name 3))
  (seqS (ifS (boolT (op2 neM (op2 ixD (varD 1) (cD (.int 1))) (tupE nilA))) (asgS (appA (consA (c_due_parts_1 r) nilA) (g1 sumD)) (.name 3)) nxS)
  (retS (op2 addD (op2 mulD (op2 ixD (varD 1) (cD (.int 4))) (op2 ixD (varD 1) (cD (.int 3)))) (op2 mulD (op2 ixD (varD 1) (cD (.int 2))) (varD 3))))))
def r_amount_by : Nat → List D → M D
  | 0 => fun _ => stuck
  | n + 1 => runB (b_amount_by (runB (b_due_parts (r_amount_by n)) 5)) 3
def g_amount_by : List D → M D := r_amount_by RECN
def g_due_parts : List D → M D := runB (b_due_parts g_amount_by) 5

def c_sheet_by_1 : SE :=
  lcE [2] (.name 2) (itE (op1 (getF "Recipe" "table") (varD 0))) yesT (appA (consA (varD 0) (consA (varD 2) (consA (varD 1) nilA))) (cal 3 g_amount_by))
def b_sheet_by : SS :=
  (retS c_sheet_by_1)
def g_sheet_by : List D → M D := runB b_sheet_by 3

def b_sheet : SS :=
  (seqS (dropS (appA (consA (varD 1) nilA) (cal 1 g_check_eaters)))
  (retS (appA (consA (varD 0) (consA (varD 1) nilA)) (cal 2 g_sheet_by))))
def g_sheet : List D → M D := runB b_sheet 2

def b_amount : SS :=
  (seqS (asgS (appA (consA (varD 0) (consA (varD 1) nilA)) (cal 2 g_row_of)) (.name 3))
  (seqS (dropS (appA (consA (varD 2) nilA) (cal 1 g_check_eaters)))
  (retS (appA (consA (varD 0) (consA (varD 3) (consA (varD 2) nilA))) (cal 3 g_amount_by)))))
def g_amount : List D → M D := runB b_amount 4

def l_divisor_1 : SS :=
  (parS (consA (varD 1) (consA (op2 modD (varD 0) (varD 1)) nilA)) [0, 1])
def w_divisor_1 : ST :=
  (boolT (op2 gtD (varD 1) (cD (.int 0))))
def b_divisor : SS :=
  (seqS (whGo w_divisor_1 l_divisor_1 FUEL)
  (retS (varD 0)))
def g_divisor : List D → M D := runB b_divisor 2

def b_fraction : SS :=
  (seqS (asgS (appA (consA (appA (consA (varD 0) nilA) (g1 absD)) (consA (varD 1) nilA)) (cal 2 g_divisor)) (.name 2))
  (retS (tupE (consA (op2 divD (varD 0) (varD 2)) (consA (op2 divD (varD 1) (varD 2)) nilA)))))
def g_fraction : List D → M D := runB b_fraction 3

def b_wanted : SS :=
  (seqS (asgS (appA (consA (varD 0) (consA (varD 1) nilA)) (cal 2 g_row_of)) (.name 3))
  (seqS (dropS (appA (consA (varD 2) nilA) (cal 1 g_check_eaters)))
  (retS (appA (consA (appA (consA (varD 0) (consA (varD 3) (consA (varD 2) nilA))) (cal 3 g_due_parts)) (consA (op2 ixD (varD 3) (cD (.int 3))) nilA)) (cal 2 g_fraction)))))
def g_wanted : List D → M D := runB b_wanted 4

def b_over_by : SS :=
  (retS (appA (consA (op2 subD (op2 mulD (appA (consA (varD 0) (consA (varD 1) (consA (varD 2) nilA))) (cal 3 g_amount_by)) (op2 ixD (varD 1) (cD (.int 3)))) (appA (consA (varD 0) (consA (varD 1) (consA (varD 2) nilA))) (cal 3 g_due_parts))) (consA (op2 ixD (varD 1) (cD (.int 3))) nilA)) (cal 2 g_fraction)))
def g_over_by : List D → M D := runB b_over_by 3

def b_over : SS :=
  (seqS (asgS (appA (consA (varD 0) (consA (varD 1) nilA)) (cal 2 g_row_of)) (.name 3))
  (seqS (dropS (appA (consA (varD 2) nilA) (cal 1 g_check_eaters)))
  (retS (appA (consA (varD 0) (consA (varD 3) (consA (varD 2) nilA))) (cal 3 g_over_by)))))
def g_over : List D → M D := runB b_over 4

def c__law_lists_1 : SE :=
  lcE [4] (.name 4) (appA (consA (varD 1) nilA) itR1) yesT (appA (consA (varD 0) (consA (varD 3) (consA (varD 4) nilA))) (cal 3 g__law_amount))
def l__law_lists_1 : SS :=
  (dropS (mtE (varD 2) (consA c__law_lists_1 nilA) appD))
def b__law_lists : SS :=
  (seqS (asgS (celE nilA) (.name 2))
  (seqS (forS (.name 3) (appA (consA (appA (consA (varD 0) nilA) (g1 lenD)) nilA) itR1) l__law_lists_1)
  (retS (varD 2))))
def g__law_lists : List D → M D := fun ds S => closeOut S.length (runB b__law_lists 5 ds S)

def l__law_goes_1 : SS :=
  (asgS (op2 addD (varD 5) (cD (.int 1))) (.name 5))
def w__law_goes_1 : ST :=
  (andT (boolT (op2 leD (varD 5) (op2 addD (varD 1) (varD 3)))) (boolT (op2 eqM (op2 subD (op2 ixD (varD 0) (op2 addD (varD 5) (varD 2))) (op2 ixD (varD 0) (varD 5))) (varD 4))))
def b__law_goes : SS :=
  (seqS (asgS (op2 subD (op2 ixD (varD 0) (op2 addD (varD 1) (varD 2))) (op2 ixD (varD 0) (varD 1))) (.name 4))
  (seqS (asgS (varD 1) (.name 5))
  (seqS (whGo w__law_goes_1 l__law_goes_1 FUEL)
  (retS (op2 gtD (varD 5) (op2 addD (varD 1) (varD 3)))))))
def g__law_goes : List D → M D := runB b__law_goes 6

def l__law_gains_1 : SS :=
  (asgS (op2 subD (varD 5) (cD (.int 1))) (.name 5))
def w__law_gains_1 : ST :=
  (andT (boolT (op2 gtD (varD 5) (cD (.int 0)))) (boolT (op2 eqM (op2 subD (op2 ixD (varD 0) (op2 addD (op2 subD (varD 5) (cD (.int 1))) (varD 3))) (op2 ixD (varD 0) (op2 subD (varD 5) (cD (.int 1))))) (varD 4))))
def l__law_gains_2 : SS :=
  (asgS (op2 addD (varD 3) (cD (.int 1))) (.name 3))
def w__law_gains_2 : ST :=
  (notT (truT (appA (consA (varD 0) (consA (varD 1) (consA (varD 3) (consA (varD 2) nilA)))) (cal 4 g__law_goes))))
def b__law_gains : SS :=
  (seqS (asgS (cD (.int 1)) (.name 3))
  (seqS (whGo w__law_gains_2 l__law_gains_2 FUEL)
  (seqS (parS (consA (op2 subD (op2 ixD (varD 0) (op2 addD (varD 1) (varD 3))) (op2 ixD (varD 0) (varD 1))) (consA (varD 1) nilA)) [4, 5])
  (seqS (whGo w__law_gains_1 l__law_gains_1 FUEL)
  (retS (tupE (consA (varD 5) (consA (varD 3) (consA (varD 4) (consA (appA (consA (slE (varD 0) (fun _ => ret none) (fun ρ => bnd ((op2 addD (varD 5) (varD 3)) ρ) asInt)) nilA) (g1 tupleD)) nilA))))))))))
def g__law_gains : List D → M D := runB b__law_gains 6

def c_parts_of_1 : SE :=
  lcE [1] (.name 1) (appA (consA (cD (.int 1)) (consA (op2 addD (varD 0) (cD (.int 1))) nilA)) itR2) (boolT (op2 eqM (op2 modD (varD 0) (varD 1)) (cD (.int 0)))) (varD 1)
def b_parts_of : SS :=
  (retS c_parts_of_1)
def g_parts_of : List D → M D := runB b_parts_of 2

def c_gains_alike_1 : SE :=
  lcE [5] (.name 5) (appA (consA (varD 1) (consA (op2 addD (varD 1) (varD 2)) nilA)) itR2) yesT (op2 eqM (op2 subD (op2 ixD (varD 0) (op2 addD (varD 5) (varD 3))) (op2 ixD (varD 0) (varD 5))) (varD 4))
def b_gains_alike : SS :=
  (seqS (asgS (op2 subD (op2 ixD (varD 0) (op2 addD (varD 1) (varD 3))) (op2 ixD (varD 0) (varD 1))) (.name 4))
  (retS (appA (consA c_gains_alike_1 nilA) (g1 allD))))
def g_gains_alike : List D → M D := runB b_gains_alike 6

def l_shortest_round_1 : SS :=
  (asgS (op2 subD (varD 1) (cD (.int 1))) (.name 1))
def w_shortest_round_1 : ST :=
  (andT (boolT (op2 gtD (varD 1) (cD (.int 0)))) (boolT (op2 eqM (op2 subD (op2 ixD (varD 0) (op2 addD (op2 subD (varD 1) (cD (.int 1))) (varD 3))) (op2 ixD (varD 0) (op2 subD (varD 1) (cD (.int 1))))) (varD 4))))
def c_shortest_round_1 : SE :=
  lcE [5] (.name 5) (itE (appA (consA (varD 2) nilA) (cal 1 g_parts_of))) (truT (appA (consA (varD 0) (consA (varD 1) (consA (varD 2) (consA (varD 5) nilA)))) (cal 4 g_gains_alike))) (varD 5)
def b_shortest_round : SS :=
  (seqS (asgS (op2 ixD c_shortest_round_1 (cD (.int 0))) (.name 3))
  (seqS (asgS (op2 subD (op2 ixD (varD 0) (op2 addD (varD 1) (varD 3))) (op2 ixD (varD 0) (varD 1))) (.name 4))
  (seqS (whGo w_shortest_round_1 l_shortest_round_1 FUEL)
  (retS (tupE (consA (varD 1) (consA (varD 3) (consA (varD 4) (consA (appA (consA (slE (varD 0) (fun _ => ret none) (fun ρ => bnd ((op2 addD (varD 1) (varD 3)) ρ) asInt)) nilA) (g1 tupleD)) nilA)))))))))
def g_shortest_round : List D → M D := runB b_shortest_round 6

def b_multiple : SS :=
  (retS (op2 mulD (op2 divD (varD 0) (appA (consA (varD 0) (consA (varD 1) nilA)) (cal 2 g_divisor))) (varD 1)))
def g_multiple : List D → M D := runB b_multiple 2

def c_round_of_1 : SE :=
  lcE [7, 8] (.tup [7, 8]) (itE (varD 6)) yesT (op2 mulD (varD 8) (op2 divD (varD 4) (varD 7)))
def l_round_of_1 : SS :=
  (asgS (appA (consA (varD 4) (consA (varD 7) nilA)) (cal 2 g_multiple)) (.name 4))
def c_round_of_2 (r : List D → M D) : SE :=
  lcE [9] (.name 9) (itE (op2 ixD (varD 1) (cD (.int 1)))) yesT (appA (consA (varD 0) (consA (appA (consA (varD 0) (consA (varD 9) nilA)) (cal 2 g_row_of)) nilA)) (cal 2 r))
def b_round_of (r : List D → M D) : SS :=
  (seqS (asgS (tupE (consA (op2 mulD (op2 ixD (varD 1) (cD (.int 3))) (op2 ixD (varD 1) (cD (.int 6)))) (consA (cD (.int 1)) (consA (cD (.int 1)) nilA)))) (.tup [3, 4, 5]))
  (seqS (ifS (boolT (op2 neM (op2 ixD (varD 1) (cD (.int 1))) (tupE nilA))) (seqS (asgS (c_round_of_2 r) (.name 6))
  (seqS (forS (.tup [7, 8]) (itE (varD 6)) l_round_of_1)
  (asgS (appA (consA c_round_of_1 nilA) (g1 sumD)) (.name 5)))) nxS)
  (seqS (asgS (op2 divD (varD 3) (appA (consA (op2 mulD (varD 5) (op2 ixD (varD 1) (cD (.int 2)))) (consA (varD 3) nilA)) (cal 2 g_divisor))) (.name 2))
  (retS (tupE (consA (op2 mulD (varD 4) (varD 2)) (consA (op2 divD (op2 mulD (op2 mulD (varD 5) (varD 2)) (op2 ixD (varD 1) (cD (.int 2)))) (op2 ixD (varD 1) (cD (.int 3)))) nilA)))))))
def r_round_of : Nat → List D → M D
  | 0 => fun _ => stuck
  | n + 1 => runB (b_round_of (r_round_of n)) 10
def g_round_of : List D → M D := r_round_of RECN

def c_pattern_1 : SE :=
  lcE [5] (.name 5) (appA (consA (op2 addD (op2 addD (cD (.int 1400)) (op2 mulD (cD (.int 2)) (varD 3))) (cD (.int 1))) nilA) itR1) yesT (appA (consA (varD 0) (consA (varD 2) (consA (varD 5) nilA))) (cal 3 g_amount_by))
def b_pattern : SS :=
  (seqS (asgS (appA (consA (varD 0) (consA (varD 1) nilA)) (cal 2 g_row_of)) (.name 2))
  (seqS (asgS (op2 ixD (appA (consA (varD 0) (consA (varD 2) nilA)) (cal 2 g_round_of)) (cD (.int 0))) (.name 3))
  (seqS (asgS c_pattern_1 (.name 4))
  (retS (appA (consA (varD 4) (consA (cD (.int 1400)) (consA (varD 3) nilA))) (cal 3 g_shortest_round))))))
def g_pattern : List D → M D := runB b_pattern 6

def b__law_over : SS :=
  (seqS (asgS (op2 divD (op2 mulD (appA (consA (varD 0) (consA (varD 1) (consA (varD 2) nilA))) (cal 3 g__law_due)) (cD (.int 12))) (op2 ixD (op2 ixD (varD 0) (varD 1)) (cD (.int 3)))) (.name 3))
  (retS (op2 subD (op2 mulD (cD (.int 12)) (appA (consA (varD 0) (consA (varD 1) (consA (varD 2) nilA))) (cal 3 g__law_amount))) (varD 3))))
def g__law_over : List D → M D := runB b__law_over 4

def b_is_less : SS :=
  (retS (op2 ltD (op2 mulD (op2 ixD (varD 0) (cD (.int 0))) (op2 ixD (varD 1) (cD (.int 1)))) (op2 mulD (op2 ixD (varD 1) (cD (.int 0))) (op2 ixD (varD 0) (cD (.int 1))))))
def g_is_less : List D → M D := runB b_is_less 2

def l_spread_1 : SS :=
  (seqS (asgS (appA (consA (varD 0) (consA (varD 2) (consA (varD 5) nilA))) (cal 3 g_over_by)) (.name 6))
  (seqS (ifS (truT (appA (consA (varD 6) (consA (op2 ixD (varD 3) (cD (.int 0))) nilA)) (cal 2 g_is_less))) (asgS (tupE (consA (varD 6) (consA (varD 5) nilA))) (.name 3)) nxS)
  (ifS (truT (appA (consA (op2 ixD (varD 4) (cD (.int 0))) (consA (varD 6) nilA)) (cal 2 g_is_less))) (asgS (tupE (consA (varD 6) (consA (varD 5) nilA))) (.name 4)) nxS)))
def b_spread : SS :=
  (seqS (asgS (appA (consA (varD 0) (consA (varD 1) nilA)) (cal 2 g_row_of)) (.name 2))
  (seqS (asg2S (tupE (consA (appA (consA (varD 0) (consA (varD 2) (consA (cD (.int 0)) nilA))) (cal 3 g_over_by)) (consA (cD (.int 0)) nilA))) (.name 3) (.name 4))
  (seqS (forS (.name 5) (appA (consA (op2 addD (cD (.int 1400)) (op2 ixD (appA (consA (varD 0) (consA (varD 2) nilA)) (cal 2 g_round_of)) (cD (.int 0)))) nilA) itR1) l_spread_1)
  (retS (tupE (consA (varD 3) (consA (varD 4) nilA)))))))
def g_spread : List D → M D := runB b_spread 7

def c_coming_round_1 : SE :=
  lcE [7] (.name 7) (appA (consA (varD 5) nilA) itR1) (truT (op2 ixD (varD 0) (varD 7))) (varD 7)
def l_coming_round_1 : SS :=
  (asgS (op2 subD (varD 5) (cD (.int 1))) (.name 5))
def w_coming_round_1 : ST :=
  (andT (boolT (op2 gtD (varD 5) (cD (.int 0)))) (boolT (op2 eqM (op2 ixD (varD 0) (op2 subD (varD 5) (cD (.int 1)))) (op2 inD (op2 modD (op2 subD (varD 5) (cD (.int 1))) (varD 3)) (varD 4)))))
def c_coming_round_2 : SE :=
  lcE [7] (.name 7) (appA (consA (cD (.int 1400)) (consA (op2 addD (cD (.int 1400)) (varD 3)) nilA)) itR2) (truT (op2 ixD (varD 0) (varD 7))) (op2 modD (varD 7) (varD 3))
def c_coming_round_3 : SE :=
  lcE [7] (.name 7) (itE (varD 2)) yesT (op2 eqM (op2 ixD (varD 0) (varD 7)) (op2 ixD (varD 0) (op2 addD (varD 7) (varD 6))))
def c_coming_round_4 : SE :=
  lcE [6] (.name 6) (itE (appA (consA (varD 1) nilA) (cal 1 g_parts_of))) (truT (appA (consA c_coming_round_3 nilA) (g1 allD))) (varD 6)
def b_coming_round : SS :=
  (seqS (asgS (lrgE (appA (consA (cD (.int 1400)) (consA (op2 addD (cD (.int 1400)) (varD 1)) nilA)) itR2)) (.name 2))
  (seqS (asgS (op2 ixD c_coming_round_4 (cD (.int 0))) (.name 3))
  (seqS (asgS (appA (consA c_coming_round_2 nilA) (g1 sortedD)) (.name 4))
  (seqS (asgS (cD (.int 1400)) (.name 5))
  (seqS (whGo w_coming_round_1 l_coming_round_1 FUEL)
  (retS (tupE (consA (varD 5) (consA (varD 3) (consA (appA (consA (varD 4) nilA) (g1 tupleD)) (consA (appA (consA c_coming_round_1 nilA) (g1 tupleD)) nilA)))))))))))
def g_coming_round : List D → M D := runB b_coming_round 8

def l_joint_period_1 : SS :=
  (asgS (appA (consA (varD 1) (consA (op2 ixD (appA (consA (varD 0) (consA (varD 2) nilA)) (cal 2 g_round_of)) (cD (.int 0))) nilA)) (cal 2 g_multiple)) (.name 1))
def b_joint_period : SS :=
  (seqS (asgS (cD (.int 1)) (.name 1))
  (seqS (forS (.name 2) (itE (op1 (getF "Recipe" "table") (varD 0))) l_joint_period_1)
  (retS (varD 1))))
def g_joint_period : List D → M D := runB b_joint_period 3

def c_is_fraction_1 : SE :=
  lcE [1] (.name 1) (itE (varD 0)) yesT (appA (consA (varD 1) (consA (cD (.ty "bool")) nilA)) (g2 isiD))
def c_is_fraction_2 : SE :=
  lcE [1] (.name 1) (itE (varD 0)) yesT (appA (consA (varD 1) (consA (cD (.ty "int")) nilA)) (g2 isiD))
def b_is_fraction : SS :=
  (seqS (ifS (orT (notT (truT (appA (consA (varD 0) (consA (cD (.ty "tuple")) nilA)) (g2 isiD)))) (orT (boolT (op2 neM (appA (consA (varD 0) nilA) (g1 lenD)) (cD (.int 2)))) (notT (truT (appA (consA c_is_fraction_2 nilA) (g1 allD)))))) (retS (cD (.bl false))) nxS)
  (seqS (ifS (orT (truT (appA (consA c_is_fraction_1 nilA) (g1 anyD))) (boolT (op2 ltD (op2 ixD (varD 0) (cD (.int 1))) (cD (.int 1))))) (retS (cD (.bl false))) nxS)
  (retS (op2 eqM (appA (consA (op2 ixD (varD 0) (cD (.int 0))) (consA (op2 ixD (varD 0) (cD (.int 1))) nilA)) (cal 2 g_fraction)) (varD 0)))))
def g_is_fraction : List D → M D := runB b_is_fraction 2

def c_Recipe_names_1 : SE :=
  lcE [1] (.name 1) (itE (op1 (getF "Recipe" "table") (varD 0))) yesT (op2 ixD (varD 1) (cD (.int 0)))
def b_Recipe_names : SS :=
  (retS (appA (consA c_Recipe_names_1 nilA) (g1 tupleD)))
def g_Recipe_names : List D → M D := runB b_Recipe_names 2

def b_is_seen : SS :=
  (seqS (ifS (orT (notT (truT (appA (consA (varD 1) (consA (cD (.ty "tuple")) nilA)) (g2 isiD)))) (orT (boolT (op2 neM (appA (consA (varD 1) nilA) (g1 lenD)) (cD (.int 2)))) (notT (truT (appA (consA (op2 ixD (varD 1) (cD (.int 0))) (consA (cD (.ty "str")) nilA)) (g2 isiD)))))) (retS (cD (.bl false))) nxS)
  (retS (andE (op2 inD (op2 ixD (varD 1) (cD (.int 0))) (op1 (prD "Recipe" "names" g_Recipe_names) (varD 0))) (appA (consA (op2 ixD (varD 1) (cD (.int 1))) nilA) (cal 1 g_is_fraction)))))
def g_is_seen : List D → M D := runB b_is_seen 2

def c_telling_1 : SE :=
  lcE [10, 8] (.tup [10, 8]) (itE (varD 6)) yesT (op2 eqM (appA (consA (varD 0) (consA (varD 10) (consA (varD 3) nilA))) (cal 3 g_over_by)) (varD 8))
def l_telling_1 : SS :=
  (dropS (mtE (varD 2) (consA (appA (consA c_telling_1 nilA) (g1 allD)) nilA) appD))
def c_telling_2 : SE :=
  lcE [9, 8] (.tup [9, 8]) (itE (varD 1)) yesT (tupE (consA (appA (consA (varD 0) (consA (varD 9) nilA)) (cal 2 g_row_of)) (consA (varD 8) nilA)))
def l_telling_2 : SS :=
  (ifS (notT (truT (appA (consA (varD 0) (consA (varD 5) nilA)) (cal 2 g_is_seen)))) nevS nxS)
def b_telling : SS :=
  (seqS (forS (.tup [4, 5]) (itEn (consA (varD 1) nilA)) l_telling_2)
  (seqS (parS (consA c_telling_2 (consA (appA (consA (varD 0) nilA) (cal 1 g_joint_period)) nilA)) [6, 7])
  (seqS (asgS (celE nilA) (.name 2))
  (seqS (forS (.name 3) (appA (consA (op2 addD (cD (.int 1400)) (op2 mulD (cD (.int 2)) (varD 7))) nilA) itR1) l_telling_1)
  (retS (appA (consA (varD 2) (consA (varD 7) nilA)) (cal 2 g_coming_round)))))))
def g_telling : List D → M D := fun ds S => closeOut S.length (runB b_telling 11 ds S)

def c_evens_1 : SE :=
  lcE [1] (.name 1) (itE (op1 (getF "Recipe" "table") (varD 0))) yesT (tupE (consA (op2 ixD (varD 1) (cD (.int 0))) (consA (cD (.tup [(.int 0), (.int 1)])) nilA)))
def b_evens : SS :=
  (retS (appA (consA (varD 0) (consA c_evens_1 nilA)) (cal 2 g_telling)))
def g_evens : List D → M D := runB b_evens 2

def l_parting_1 : SS :=
  (ifS (boolT (op2 neM (varD 4) (varD 5))) (retS (tupE (consA (varD 2) (consA (varD 3) nilA)))) nxS)
def l_parting_2 : SS :=
  (forS (.tup [3, 4, 5]) (itZ3 (consA (op1 (prD "Recipe" "names" g_Recipe_names) (varD 0)) (consA (appA (consA (varD 0) (consA (varD 2) nilA)) (cal 2 g_sheet_by)) (consA (appA (consA (varD 1) (consA (varD 2) nilA)) (cal 2 g_sheet_by)) nilA)))) l_parting_1)
def b_parting : SS :=
  (seqS (ifS (boolT (op2 neM (op1 (prD "Recipe" "names" g_Recipe_names) (varD 0)) (op1 (prD "Recipe" "names" g_Recipe_names) (varD 1)))) nevS nxS)
  (seqS (forS (.name 2) (appA (consA (op2 addD (op2 addD (cD (.int 1400)) (appA (consA (appA (consA (varD 0) nilA) (cal 1 g_joint_period)) (consA (appA (consA (varD 1) nilA) (cal 1 g_joint_period)) nilA)) (cal 2 g_multiple))) (cD (.int 1))) nilA) itR1) l_parting_2)
  (retS (cD .non))))
def g_parting : List D → M D := runB b_parting 6

def l_needless_1 : SS :=
  (seqS (asgS (appA (consA (tupE (starA (slE (op1 (getF "Recipe" "table") (varD 0)) (fun _ => ret none) (fun ρ => bnd ((varD 2) ρ) asInt)) (consA (tupE (starA (slE (varD 3) (fun _ => ret none) (fun ρ => bnd ((cD (.int 7)) ρ) asInt)) (consA (cD (.int 0)) nilA))) (starA (slE (op1 (getF "Recipe" "table") (varD 0)) (fun ρ => bnd ((op2 addD (varD 2) (cD (.int 1))) ρ) asInt) (fun _ => ret none)) nilA)))) nilA) (cal 1 (mkF "Recipe" g_Recipe_init))) (.name 4))
  (ifS (andT (boolT (op2 gtD (op2 ixD (varD 3) (cD (.int 7))) (cD (.int 0)))) (boolT (op2 (noneOp false) (appA (consA (varD 0) (consA (varD 4) nilA)) (cal 2 g_parting)) (cD .non)))) (dropS (mtE (varD 1) (consA (op2 ixD (varD 3) (cD (.int 0))) nilA) appD)) nxS))
def b_needless : SS :=
  (seqS (asgS (celE nilA) (.name 1))
  (seqS (forS (.tup [2, 3]) (itEn (consA (op1 (getF "Recipe" "table") (varD 0)) nilA)) l_needless_1)
  (retS (varD 1))))
def g_needless : List D → M D := fun ds S => closeOut S.length (runB b_needless 5 ds S)

def b_total : SS :=
  (retS (appA (consA (op2 addD (op2 mulD (op2 ixD (varD 0) (cD (.int 0))) (op2 ixD (varD 1) (cD (.int 1)))) (op2 mulD (op2 ixD (varD 1) (cD (.int 0))) (op2 ixD (varD 0) (cD (.int 1))))) (consA (op2 mulD (op2 ixD (varD 0) (cD (.int 1))) (op2 ixD (varD 1) (cD (.int 1)))) nilA)) (cal 2 g_fraction)))
def g_total : List D → M D := runB b_total 2

def l_waste_of_1 : SS :=
  (seqS (asgS (appA (consA (varD 0) (consA (varD 3) (consA (varD 1) nilA))) (cal 3 g_over_by)) (.name 4))
  (ifS (boolT (op2 gtD (op2 ixD (varD 4) (cD (.int 0))) (cD (.int 0)))) (asgS (appA (consA (varD 2) (consA (varD 4) nilA)) (cal 2 g_total)) (.name 2)) nxS))
def b_waste_of : SS :=
  (seqS (asgS (cD (.tup [(.int 0), (.int 1)])) (.name 2))
  (seqS (forS (.name 3) (itE (op1 (getF "Recipe" "table") (varD 0))) l_waste_of_1)
  (retS (varD 2))))
def g_waste_of : List D → M D := runB b_waste_of 5

def l_best_1 : SS :=
  (seqS (asgS (appA (consA (varD 0) (consA (varD 3) nilA)) (cal 2 g_waste_of)) (.name 4))
  (seqS (asgS (appA (consA (op2 ixD (varD 4) (cD (.int 0))) (consA (op2 mulD (op2 ixD (varD 4) (cD (.int 1))) (varD 3)) nilA)) (cal 2 g_fraction)) (.name 5))
  (ifS (truT (appA (consA (varD 5) (consA (op2 ixD (varD 2) (cD (.int 1))) nilA)) (cal 2 g_is_less))) (asgS (tupE (consA (varD 3) (consA (varD 5) nilA))) (.name 2)) nxS)))
def b_best : SS :=
  (seqS (ifS (notT (truT (appA (consA (varD 1) (consA (cD (.int 1)) (consA (cD (.int 10000)) nilA))) (cal 3 g_is_integer)))) nevS nxS)
  (seqS (asgS (tupE (consA (cD (.int 1)) (consA (appA (consA (varD 0) (consA (cD (.int 1)) nilA)) (cal 2 g_waste_of)) nilA))) (.name 2))
  (seqS (forS (.name 3) (appA (consA (cD (.int 2)) (consA (op2 addD (varD 1) (cD (.int 1))) nilA)) itR2) l_best_1)
  (retS (varD 2)))))
def g_best : List D → M D := runB b_best 6

def b_alike : SS :=
  (retS (op2 (noneOp false) (appA (consA (varD 0) (consA (varD 1) nilA)) (cal 2 g_parting)) (cD .non)))
def g_alike : List D → M D := runB b_alike 2

def b_is_pack : SS :=
  (seqS (ifS (orT (notT (truT (appA (consA (varD 0) (consA (cD (.ty "tuple")) nilA)) (g2 isiD)))) (boolT (op2 neM (appA (consA (varD 0) nilA) (g1 lenD)) (cD (.int 2))))) (retS (cD (.bl false))) nxS)
  (retS (andE (appA (consA (op2 ixD (varD 0) (cD (.int 0))) (consA (cD (.int 1)) (consA (cD (.int 12)) nilA))) (cal 3 g_is_integer)) (appA (consA (op2 ixD (varD 0) (cD (.int 1))) (consA (cD (.int 1)) (consA (cD (.int 99)) nilA))) (cal 3 g_is_integer)))))
def g_is_pack : List D → M D := runB b_is_pack 1

def l_check_packs_1 : SS :=
  (ifS (orT (notT (truT (appA (consA (varD 2) nilA) (cal 1 g_is_pack)))) (boolT (op2 inD (varD 2) (slE (varD 0) (fun _ => ret none) (fun ρ => bnd ((varD 1) ρ) asInt))))) nevS nxS)
def b_check_packs : SS :=
  (seqS (ifS (orT (notT (truT (appA (consA (varD 0) (consA (cD (.ty "tuple")) nilA)) (g2 isiD)))) (notT (boolT (chain leD leD (cD (.int 1)) (appA (consA (varD 0) nilA) (g1 lenD)) (cD (.int 4)))))) nevS nxS)
  (forS (.tup [1, 2]) (itEn (consA (varD 0) nilA)) l_check_packs_1))
def g_check_packs : List D → M D := runB b_check_packs 3

def b_check_amount : SS :=
  (ifS (notT (truT (appA (consA (varD 0) (consA (cD (.int 0)) (consA (cD (.int 1000000000000000000000000000000)) nilA))) (cal 3 g_is_integer)))) nevS nxS)
def g_check_amount : List D → M D := runB b_check_amount 1

def l_cheapest_1 : SS :=
  (ifS (boolT (op2 ltD (op2 mulD (op2 ixD (varD 3) (cD (.int 1))) (op2 ixD (op2 ixD (varD 0) (varD 1)) (cD (.int 0)))) (op2 mulD (op2 ixD (op2 ixD (varD 0) (varD 1)) (cD (.int 1))) (op2 ixD (varD 3) (cD (.int 0)))))) (asgS (varD 2) (.name 1)) nxS)
def b_cheapest : SS :=
  (seqS (asgS (cD (.int 0)) (.name 1))
  (seqS (forS (.tup [2, 3]) (itEn (consA (varD 0) nilA)) l_cheapest_1)
  (retS (varD 1))))
def g_cheapest : List D → M D := runB b_cheapest 4

def c_settled_amount_1 : SE :=
  lcE [1] (.name 1) (itE (varD 0)) yesT (op2 ixD (varD 1) (cD (.int 0)))
def b_settled_amount : SS :=
  (retS (op2 mulD (op2 subD (op2 ixD (op2 ixD (varD 0) (appA (consA (varD 0) nilA) (cal 1 g_cheapest))) (cD (.int 0))) (cD (.int 1))) (appA (consA c_settled_amount_1 nilA) (g1 maxLD))))
def g_settled_amount : List D → M D := runB b_settled_amount 2

def b_split_amount : SS :=
  (seqS (parS (consA (op2 ixD (op2 ixD (varD 0) (appA (consA (varD 0) nilA) (cal 1 g_cheapest))) (cD (.int 0))) (consA (appA (consA (varD 0) nilA) (cal 1 g_settled_amount)) nilA)) [3, 4])
  (seqS (asgS (appA (consA (cD (.int 0)) (consA (op2 divD (op2 subD (op2 addD (op2 subD (varD 1) (varD 4)) (varD 3)) (cD (.int 1))) (varD 3)) nilA)) (g2 max2D)) (.name 2))
  (retS (tupE (consA (varD 2) (consA (appA (consA (cD (.int 0)) (consA (op2 subD (varD 1) (op2 mulD (varD 2) (varD 3))) nilA)) (g2 max2D)) nilA))))))
def g_split_amount : List D → M D := runB b_split_amount 5

def c_prices_to_1 : SE :=
  lcE [8, 9] (.tup [8, 9]) (itEn (consA (varD 0) nilA)) yesT (tupE (consA (op2 addD (op2 ixD (varD 9) (cD (.int 1))) (op2 ixD (varD 3) (appA (consA (cD (.int 0)) (consA (op2 subD (varD 2) (op2 ixD (varD 9) (cD (.int 0)))) nilA)) (g2 max2D)))) (consA (varD 8) nilA)))
def l_prices_to_1 : SS :=
  (seqS (asgS c_prices_to_1 (.name 5))
  (seqS (asgS (appA (consA (varD 5) nilA) (g1 minPD)) (.tup [6, 7]))
  (seqS (dropS (mtE (varD 3) (consA (varD 6) nilA) appD))
  (dropS (mtE (varD 4) (consA (varD 7) nilA) appD)))))
def b_prices_to : SS :=
  (seqS (asgS (tupE (consA (celE (consA (cD (.int 0)) nilA)) (consA (celE (consA (cD .non) nilA)) nilA))) (.tup [3, 4]))
  (seqS (forS (.name 2) (appA (consA (cD (.int 1)) (consA (op2 addD (varD 1) (cD (.int 1))) nilA)) itR2) l_prices_to_1)
  (retS (tupE (consA (varD 3) (consA (varD 4) nilA))))))
def g_prices_to : List D → M D := fun ds S => closeOut S.length (runB b_prices_to 10 ds S)

def b_cost : SS :=
  (seqS (dropS (appA (consA (varD 0) nilA) (cal 1 g_check_packs)))
  (seqS (dropS (appA (consA (varD 1) nilA) (cal 1 g_check_amount)))
  (seqS (asgS (appA (consA (varD 0) (consA (varD 1) nilA)) (cal 2 g_split_amount)) (.tup [2, 3]))
  (retS (op2 addD (op2 mulD (varD 2) (op2 ixD (op2 ixD (varD 0) (appA (consA (varD 0) nilA) (cal 1 g_cheapest))) (cD (.int 1)))) (op2 ixD (op2 ixD (appA (consA (varD 0) (consA (varD 3) nilA)) (cal 2 g_prices_to)) (cD (.int 0))) (varD 3)))))))
def g_cost : List D → M D := runB b_cost 4

def l__law_packs_1 : SS :=
  (seqS (asgS (tupE (consA (op2 addD (cD (.int 1)) (appA (consA (varD 0) (consA (cD (.int 12)) nilA)) (cal 2 g__law_next))) (consA (op2 addD (cD (.int 1)) (appA (consA (varD 0) (consA (lstE (consA (appA (consA (varD 0) (consA (cD (.int 12)) nilA)) (cal 2 g__law_next)) (consA (appA (consA (varD 0) (consA (cD (.int 99)) nilA)) (cal 2 g__law_next)) nilA))) nilA)) (cal 2 g__law_pick))) nilA))) (.name 3))
  (ifS (boolT (op2 notInD (varD 3) (varD 1))) (asgS (op2 addD (varD 1) (tupE (consA (varD 3) nilA))) (.name 1)) nxS))
def b__law_packs : SS :=
  (seqS (asgS (tupE nilA) (.name 1))
  (seqS (forS (.name 2) (appA (consA (op2 addD (cD (.int 1)) (appA (consA (varD 0) (consA (cD (.int 4)) nilA)) (cal 2 g__law_next))) nilA) itR1) l__law_packs_1)
  (retS (varD 1))))
def g__law_packs : List D → M D := runB b__law_packs 4

def l__law_prices_1 : SS :=
  (seqS (ifS (andT (boolT (op2 (noneOp true) (op2 ixD (varD 2) (varD 3)) (cD .non))) (orT (boolT (op2 (noneOp false) (varD 5) (cD .non))) (boolT (op2 ltD (op2 ixD (varD 2) (varD 3)) (varD 5))))) (asgS (op2 ixD (varD 2) (varD 3)) (.name 5)) nxS)
  (asgS (ifE (boolT (op2 leD (varD 3) (varD 1))) (op2 addD (lstE (consA (varD 5) nilA)) (varD 4)) (varD 4)) (.name 4)))
def l__law_prices_2 : SS :=
  (ifS (andT (boolT (op2 leD (varD 6) (varD 3))) (boolT (op2 (noneOp true) (op2 ixD (varD 2) (op2 subD (varD 3) (varD 6))) (cD .non)))) (seqS (asgS (op2 addD (op2 ixD (varD 2) (op2 subD (varD 3) (varD 6))) (varD 7)) (.name 8))
  (setItS (ifE (boolT (op2 (noneOp false) (op2 ixD (varD 2) (varD 3)) (cD .non))) (varD 8) (appA (consA (varD 8) (consA (op2 ixD (varD 2) (varD 3)) nilA)) (g2 min2D))) (varD 2) (varD 3))) nxS)
def l__law_prices_3 : SS :=
  (forS (.tup [6, 7]) (itE (varD 0)) l__law_prices_2)
def b__law_prices : SS :=
  (seqS (asgS (op2 addC (lstE (consA (cD (.int 0)) nilA)) (op2 mulD (lstE (consA (cD .non) nilA)) (op2 addD (varD 1) (cD (.int 12))))) (.name 2))
  (seqS (forS (.name 3) (appA (consA (cD (.int 1)) (consA (appA (consA (varD 2) nilA) (g1 lenD)) nilA)) itR2) l__law_prices_3)
  (seqS (parS (consA (lstE nilA) (consA (cD .non) nilA)) [4, 5])
  (seqS (forS (.name 3) (appA (consA (op2 subD (appA (consA (varD 2) nilA) (g1 lenD)) (cD (.int 1))) (consA (op1 negD (cD (.int 1))) (consA (op1 negD (cD (.int 1))) nilA))) itR3) l__law_prices_1)
  (retS (varD 4))))))
def g__law_prices : List D → M D := fun ds S => closeOut S.length (runB b__law_prices 9 ds S)

def l_bought_1 : SS :=
  (seqS (asgS (op2 ixD (varD 4) (varD 3)) (.name 6))
  (seqS (setItS (op2 addD (op2 ixD (varD 5) (varD 6)) (cD (.int 1))) (varD 5) (varD 6))
  (asgS (appA (consA (cD (.int 0)) (consA (op2 subD (varD 3) (op2 ixD (op2 ixD (varD 0) (varD 6)) (cD (.int 0)))) nilA)) (g2 max2D)) (.name 3))))
def w_bought_1 : ST :=
  (boolT (op2 gtD (varD 3) (cD (.int 0))))
def b_bought : SS :=
  (seqS (dropS (appA (consA (varD 0) nilA) (cal 1 g_check_packs)))
  (seqS (dropS (appA (consA (varD 1) nilA) (cal 1 g_check_amount)))
  (seqS (asgS (appA (consA (varD 0) (consA (varD 1) nilA)) (cal 2 g_split_amount)) (.tup [2, 3]))
  (seqS (parS (consA (op2 ixD (appA (consA (varD 0) (consA (varD 3) nilA)) (cal 2 g_prices_to)) (cD (.int 1))) (consA (op2 repC (lstE (consA (cD (.int 0)) nilA)) (appA (consA (varD 0) nilA) (g1 lenD))) nilA)) [4, 5])
  (seqS (setItS (varD 2) (varD 5) (appA (consA (varD 0) nilA) (cal 1 g_cheapest)))
  (seqS (whGo w_bought_1 l_bought_1 FUEL)
  (retS (appA (consA (varD 5) nilA) (g1 tupleD)))))))))
def g_bought : List D → M D := fun ds S => closeOut S.length (runB b_bought 7 ds S)

def b_costs : SS :=
  (seqS (dropS (appA (consA (varD 0) nilA) (cal 1 g_check_packs)))
  (seqS (parS (consA (op2 ixD (op2 ixD (varD 0) (appA (consA (varD 0) nilA) (cal 1 g_cheapest))) (cD (.int 0))) (consA (appA (consA (varD 0) nilA) (cal 1 g_settled_amount)) nilA)) [2, 3])
  (seqS (asgS (op2 ixD (appA (consA (varD 0) (consA (op2 addD (op2 addD (varD 3) (op2 mulD (cD (.int 2)) (varD 2))) (cD (.int 1))) nilA)) (cal 2 g_prices_to)) (cD (.int 0))) (.name 1))
  (retS (appA (consA (varD 1) (consA (varD 3) (consA (varD 2) nilA))) (cal 3 g_shortest_round))))))
def g_costs : List D → M D := runB b_costs 4
end F

set_option linter.all false
set_option autoImplicit false
set_option maxRecDepth 100000
/-! What every law of this row begins with: mix, next, pick. -/
namespace F
open PySem
/-- the law's own makings: h is the second cell -/
def HS (T S : Store) : Prop := ∃ (zs : List Int) (st k : Int), zs.length ≤ 63 ∧ S = .lst (zs.map D.int) :: .lst [.int st, .ref 0, .int k] :: T
theorem HS.len {T S : Store} (h : HS T S) : S.length = T.length + 2 := by
  obtain ⟨_, _, _, _, rfl⟩ := h; rfl
theorem HS.two {T S : Store} (h : HS T S) : ∃ A B, S = A :: B :: T ∧ A.bel 2 = true ∧ B.bel 2 = true := by
  obtain ⟨zs, st, k, _, rfl⟩ := h
  have : belL 2 (zs.map D.int) = true := belL_all 2 _ (fun d hd => by
    obtain ⟨z, _, rfl⟩ := List.mem_map.mp hd
    rfl)
  exact ⟨_, _, rfl, this, rfl⟩
theorem close_HS {S U : Store} {d e : D} (h : HS [] S) (hd : d.res 2 (S ++ U) = some e) : closeOut S.length (.ok d (S ++ U)) = .ok e S := by
  obtain ⟨A, B, rfl, hA, hB⟩ := h.two
  have hl : [A, B].length = 2 := rfl
  unfold closeOut
  rw [hl]
  dsimp only
  have h1 : (([A, B] ++ U).take 2) = [A, B] := by simp
  rw [h1]
  have h2 : ([A, B].all (·.bel 2)) = true ∧ 2 ≤ ([A, B] ++ U).length := ⟨by simp [hA, hB], by simp⟩
  rw [if_pos h2, hd]
theorem law_next {T S : Store} (hS : HS T S) {cap : Int} (h0 : 0 < cap) (h1 : cap < 18446744073709551616) : ∃ (r : Int) (S' : Store), g__law_next [.ref 1, .int cap] S = .ok (.int r) S' ∧ 0 ≤ r ∧ r < cap ∧ HS T S' := by
  obtain ⟨zs, st, k, hz, rfl⟩ := hS
  -- the place
  have hpos : (0 : Int) < (if (zs.length : Int) > 1 then (zs.length : Int) else 1) := by split <;> omega
  obtain ⟨j, hj⟩ : ∃ j : Nat, k % (if (zs.length : Int) > 1 then (zs.length : Int) else 1) = j := ⟨_, (Int.toNat_of_nonneg (Int.emod_nonneg _ (by omega))).symm⟩
  have hj2 : j < zs.length + 1 := by
    have := Int.emod_lt_of_pos k hpos
    rw [hj] at this
    split at this <;> omega
  obtain ⟨x, hx⟩ : ∃ x : Int, (zs ++ [0])[j]? = some x := ⟨_, List.getElem?_eq_getElem (by simpa using hj2)⟩
  have hxD : at? (zs.map D.int ++ [.int 0]) (k % (if (zs.length : Int) > 1 then (zs.length : Int) else 1)) = some (.int x) := by
    rw [hj, at?_nat]
    have : zs.map D.int ++ [D.int 0] = (zs ++ [0]).map D.int := by simp
    rw [this, List.getElem?_map, hx]; rfl
  have hxz : x ≥ 1000000000000000000 → j < zs.length := fun hge => by
    by_cases hl : j < zs.length
    · exact hl
    · have : j = zs.length := by omega
      subst this
      rw [List.getElem?_append_right (Nat.le_refl _)] at hx
      simp at hx
      omega
  have c1 : ∀ s, ixD (.ref 1) (.int 1) (C.lst (zs.map D.int) :: .lst [.int s, .ref 0, .int k] :: T) = .ok (.ref 0) (C.lst (zs.map D.int) :: .lst [.int s, .ref 0, .int k] :: T) := fun s => ix_cell rfl (at1 _ _ _)
  have c2 : ∀ s, ixD (.ref 1) (.int 2) (C.lst (zs.map D.int) :: .lst [.int s, .ref 0, .int k] :: T) = .ok (.int k) (C.lst (zs.map D.int) :: .lst [.int s, .ref 0, .int k] :: T) := fun s => ix_cell rfl (at2 _ _ _ _)
  have c0 : ∀ s m, ixD (.ref 1) (.int 0) (C.lst (zs.map D.int) :: .lst [.int s, .ref 0, .int m] :: T) = .ok (.int s) (C.lst (zs.map D.int) :: .lst [.int s, .ref 0, .int m] :: T) := fun s m => ix_cell rfl (at0 _ _)
  have l0 : lenD (.ref 0) (C.lst (zs.map D.int) :: .lst [.int st, .ref 0, .int k] :: T) = .ok (.int zs.length) (C.lst (zs.map D.int) :: .lst [.int st, .ref 0, .int k] :: T) := by
    rw [len_cell (ds := zs.map D.int) rfl, List.length_map]
  have aL : addD (.ref 0) (.lst [.int 0]) (C.lst (zs.map D.int) :: .lst [.int st, .ref 0, .int k] :: T) = .ok (.lst (zs.map D.int ++ [.int 0])) (C.lst (zs.map D.int) :: .lst [.int st, .ref 0, .int k] :: T) :=
    (add_ref _ _ _).trans (addL_cell (ds := zs.map D.int) (es := [.int 0]) rfl (by rw [List.length_map, lineN_eq2]; simp; omega))
  have m0 : mkL [.int 0] (C.lst (zs.map D.int) :: .lst [.int st, .ref 0, .int k] :: T) = .ok (.lst [.int 0]) (C.lst (zs.map D.int) :: .lst [.int st, .ref 0, .int k] :: T) := rfl
  have hp1 : ∀ n : Int, n = (if (zs.length : Int) > 1 then (zs.length : Int) else 1) → 0 < n := fun n e => by rw [e]; exact hpos
  by_cases hge : x ≥ 1000000000000000000
  · have hjz := hxz hge
    have hl : (0 : Int) < zs.length := by omega
    have hjk : k % (zs.length : Int) = j := by
      by_cases h2 : (zs.length : Int) > 1
      · rw [if_pos h2] at hj; exact hj
      · rw [if_neg h2] at hj
        have : (zs.length : Int) = 1 := by omega
        rw [this]; exact hj
    have hp : pos? (zs.map D.int).length (k % (zs.length : Int)) = some j := by
      rw [hjk]; exact pos?_nat _ _ (by rw [List.length_map]; exact hjz)
    refine ⟨x % cap, (.lst ((zs.set j (x / cap)).map D.int) :: .lst [.int st, .ref 0, .int k] :: T), ?_, Int.emod_nonneg _ (by omega), Int.emod_lt_of_pos _ h0, ⟨_, _, _, by simpa using hz, rfl⟩⟩
    simp only [g__law_next, b__law_next, m0, stillS_tup, stillS_lst, stillS_frz, stillS_str, nat10, nat2, runB, seqS, exS, asgS, retS, retN, dropS, ifS, nxS, nevS, brkS, cntS, setItS, forS, parS, op1, op2, chain, boolT, truT, notT, andT, orT, andE, orE, ifE, nilA, consA, appA, varD, cD, lstE, celE, tupE, slE, itE, itEn, cal_1, cal_2, cal_3, cal_4, cal_5, cal_6, cal_7, yesT, mulOk, List.map_cons, List.map_nil, List.length_cons, List.length_nil, List.getElem?_cons_zero, List.getElem?_cons_succ, List.set_cons_zero, List.set_cons_succ, List.replicate_succ, List.replicate_zero, List.cons_append, List.nil_append, List.append_nil, List.isEmpty_cons, List.isEmpty_nil, Nat.reduceAdd, Nat.reduceSub, Nat.reduceMul, Nat.reduceLeDiff, Nat.reduceEqDiff, Nat.zero_add, Nat.sub_zero, Nat.sub_self, Bool.not_true, Bool.not_false, Bool.true_and, Bool.false_and, Bool.and_true, Bool.and_false, Bool.true_or, Bool.false_or, Bool.or_true, Bool.or_false, Bool.false_eq_true, Bool.not_eq_true, Bool.not_eq_false, Bool.not_not, decide_eq_true_eq, decide_eq_false_iff_not, decide_true, decide_false, if_true, if_false, reduceIte, reduceCtorEq, Nat.zero_le, and_self, and_true, true_and, or_true, true_or, or_false, false_or, not_true_eq_false, not_false_eq_true, Int.reduceLT, Int.reduceLE, Int.reduceNeg, Int.reduceAdd, Int.reduceMul, Int.reduceSub, Int.reducePow, Int.reduceEq, Int.reduceToNat, Nat.reduceLT, Nat.reducePow, Int.cast_ofNat_Int, isi_non_int, isi_non_bool, isi_non_str, isi_non_tuple, isi_non_list, isi_non_dict, isi_non_tuple_list, isi_non_list_tuple, isi_bl_int, isi_bl_bool, isi_bl_str, isi_bl_tuple, isi_bl_list, isi_bl_dict, isi_bl_tuple_list, isi_bl_list_tuple, isi_int_int, isi_int_bool, isi_int_str, isi_int_tuple, isi_int_list, isi_int_dict, isi_int_tuple_list, isi_int_list_tuple, isi_str_int, isi_str_bool, isi_str_str, isi_str_tuple, isi_str_list, isi_str_dict, isi_str_tuple_list, isi_str_list_tuple, isi_tup_int, isi_tup_bool, isi_tup_str, isi_tup_tuple, isi_tup_list, isi_tup_dict, isi_tup_tuple_list, isi_tup_list_tuple, isi_lst_int, isi_lst_bool, isi_lst_str, isi_lst_tuple, isi_lst_list, isi_lst_dict, isi_lst_tuple_list, isi_lst_list_tuple, isi_frz_int, isi_frz_bool, isi_frz_str, isi_frz_tuple, isi_frz_list, isi_frz_dict, isi_frz_tuple_list, isi_frz_list_tuple, tru_bl, tru_int, tru_non, tru_tup, len_tup, ix_tup, tru_lst, len_lst, ix_lst, tru_frz, len_frz, ix_frz, sl_lst, sl_frz, sl_tup, asInt_int, at0, at1, at2, at3, at4, add_int, add_tup, add_str, add_lst, addC_lst, repC_lst, sub_int, mul_int, mul_lst, mul_tup, div_int, mod_int, pow_int, neg_int, not_bl, lt_int, le_int, gt_int, ge_int, eq_int, eq_str, eq_bl, eq_non, eq_int_non, eq_non_int, eq_str_non, eq_non_str, eq_bl_non, eq_non_bl, ne_int, ne_str, ne_bl, ne_non, ne_int_non, ne_non_int, ne_str_non, ne_non_str, ne_bl_non, ne_non_bl, isNone_non, isNone_int, isNone_str, isNone_bl, isNone_tup, isNone_lst, isNone_frz, max2_int, min2_int, abs_int, int_int, int_bl, still_tup, list_tup, tuple_tup, listC_tup, sv_tup, still_lst, list_lst, tuple_lst, listC_lst, sv_lst, still_frz, list_frz, tuple_frz, listC_frz, sv_frz, r1_int, r2_int, r3_int, tg_name, tg_tup, setAll_cons, setAll_nil, mtE, g1_one, g2_two, mkL_0, mkT_0, mkC_0, mkL_1, mkT_1, mkC_1, mkL_2, mkT_2, mkC_2, mkL_3, mkT_3, mkC_3, mkL_4, mkT_4, mkC_4, bnd_S, ret_S, lineN_eq2, wipe_nil, wipe_cons, c1, c2, aL, l0, hpos, ix_lst, hxD, hge, h0, h1, hl, hp, Int.reducePow]
    rw [List.map_set]
  · refine ⟨((st * 48271 + x * 69621 + 11) % 2147483647) / 7 % cap, (.lst (zs.map D.int) :: .lst [.int ((st * 48271 + x * 69621 + 11) % 2147483647), .ref 0, .int (k + 1)] :: T), ?_, Int.emod_nonneg _ (by omega), Int.emod_lt_of_pos _ h0, ⟨_, _, _, hz, rfl⟩⟩
    have hp0 : ∀ a b : D, pos? [a, .ref 0, b].length 0 = some 0 := fun _ _ => rfl
    have hp2 : ∀ a b : D, pos? [a, .ref 0, b].length 2 = some 2 := fun _ _ => rfl
    have hp0' : pos? 3 0 = some 0 := rfl
    have hp2' : pos? 3 2 = some 2 := rfl
    simp only [g__law_next, b__law_next, m0, stillS_tup, stillS_lst, stillS_frz, stillS_str, nat10, nat2, runB, seqS, exS, asgS, retS, retN, dropS, ifS, nxS, nevS, brkS, cntS, setItS, forS, parS, op1, op2, chain, boolT, truT, notT, andT, orT, andE, orE, ifE, nilA, consA, appA, varD, cD, lstE, celE, tupE, slE, itE, itEn, cal_1, cal_2, cal_3, cal_4, cal_5, cal_6, cal_7, yesT, mulOk, List.map_cons, List.map_nil, List.length_cons, List.length_nil, List.getElem?_cons_zero, List.getElem?_cons_succ, List.set_cons_zero, List.set_cons_succ, List.replicate_succ, List.replicate_zero, List.cons_append, List.nil_append, List.append_nil, List.isEmpty_cons, List.isEmpty_nil, Nat.reduceAdd, Nat.reduceSub, Nat.reduceMul, Nat.reduceLeDiff, Nat.reduceEqDiff, Nat.zero_add, Nat.sub_zero, Nat.sub_self, Bool.not_true, Bool.not_false, Bool.true_and, Bool.false_and, Bool.and_true, Bool.and_false, Bool.true_or, Bool.false_or, Bool.or_true, Bool.or_false, Bool.false_eq_true, Bool.not_eq_true, Bool.not_eq_false, Bool.not_not, decide_eq_true_eq, decide_eq_false_iff_not, decide_true, decide_false, if_true, if_false, reduceIte, reduceCtorEq, Nat.zero_le, and_self, and_true, true_and, or_true, true_or, or_false, false_or, not_true_eq_false, not_false_eq_true, Int.reduceLT, Int.reduceLE, Int.reduceNeg, Int.reduceAdd, Int.reduceMul, Int.reduceSub, Int.reducePow, Int.reduceEq, Int.reduceToNat, Nat.reduceLT, Nat.reducePow, Int.cast_ofNat_Int, isi_non_int, isi_non_bool, isi_non_str, isi_non_tuple, isi_non_list, isi_non_dict, isi_non_tuple_list, isi_non_list_tuple, isi_bl_int, isi_bl_bool, isi_bl_str, isi_bl_tuple, isi_bl_list, isi_bl_dict, isi_bl_tuple_list, isi_bl_list_tuple, isi_int_int, isi_int_bool, isi_int_str, isi_int_tuple, isi_int_list, isi_int_dict, isi_int_tuple_list, isi_int_list_tuple, isi_str_int, isi_str_bool, isi_str_str, isi_str_tuple, isi_str_list, isi_str_dict, isi_str_tuple_list, isi_str_list_tuple, isi_tup_int, isi_tup_bool, isi_tup_str, isi_tup_tuple, isi_tup_list, isi_tup_dict, isi_tup_tuple_list, isi_tup_list_tuple, isi_lst_int, isi_lst_bool, isi_lst_str, isi_lst_tuple, isi_lst_list, isi_lst_dict, isi_lst_tuple_list, isi_lst_list_tuple, isi_frz_int, isi_frz_bool, isi_frz_str, isi_frz_tuple, isi_frz_list, isi_frz_dict, isi_frz_tuple_list, isi_frz_list_tuple, tru_bl, tru_int, tru_non, tru_tup, len_tup, ix_tup, tru_lst, len_lst, ix_lst, tru_frz, len_frz, ix_frz, sl_lst, sl_frz, sl_tup, asInt_int, at0, at1, at2, at3, at4, add_int, add_tup, add_str, add_lst, addC_lst, repC_lst, sub_int, mul_int, mul_lst, mul_tup, div_int, mod_int, pow_int, neg_int, not_bl, lt_int, le_int, gt_int, ge_int, eq_int, eq_str, eq_bl, eq_non, eq_int_non, eq_non_int, eq_str_non, eq_non_str, eq_bl_non, eq_non_bl, ne_int, ne_str, ne_bl, ne_non, ne_int_non, ne_non_int, ne_str_non, ne_non_str, ne_bl_non, ne_non_bl, isNone_non, isNone_int, isNone_str, isNone_bl, isNone_tup, isNone_lst, isNone_frz, max2_int, min2_int, abs_int, int_int, int_bl, still_tup, list_tup, tuple_tup, listC_tup, sv_tup, still_lst, list_lst, tuple_lst, listC_lst, sv_lst, still_frz, list_frz, tuple_frz, listC_frz, sv_frz, r1_int, r2_int, r3_int, tg_name, tg_tup, setAll_cons, setAll_nil, mtE, g1_one, g2_two, mkL_0, mkT_0, mkC_0, mkL_1, mkT_1, mkC_1, mkL_2, mkT_2, mkC_2, mkL_3, mkT_3, mkC_3, mkL_4, mkT_4, mkC_4, bnd_S, ret_S, lineN_eq2, wipe_nil, wipe_cons, c0, c1, c2, aL, l0, hpos, ix_lst, hxD, hge, h0, h1, hp0, hp2, hp0', hp2', Int.reducePow]
theorem law_mix (ns : List Int) (hn : ns.length ≤ 63) (seed : Int) : ∃ S, g__law_mix [.frz (ns.map .int), .int seed] [] = .ok (.ref 1) S ∧ HS [] S := by
  obtain ⟨ρ2, S2, e, o3, st, e1, e2⟩ := forGo_ind (t := .name 3) (f := l__law_mix_1) (ds := ns.map D.int)
    (fun k ρ S => ∃ o3 st, ρ = [some (.frz (ns.map .int)), some (.int seed), some (.int st), o3] ∧ S = [])
    (ρ := [some (.frz (ns.map .int)), some (.int seed), some (.int seed), none]) (S := []) ⟨none, seed, rfl, rfl⟩ (fun k hk ρ S ⟨o3, st, e1, e2⟩ => by
      subst e1 e2
      rw [List.length_map] at hk
      refine ⟨[some (.frz (ns.map .int)), some (.int seed), some (.int st), some (.int ns[k])], [some (.frz (ns.map .int)), some (.int seed), some (.int ((st * 48271 + ns[k] % 2147483629 + 1) % 2147483647)), some (.int ns[k])], [], ?_, .inl ?_, _, _, rfl, rfl⟩
      · rw [List.getElem_map]; rfl
      · simp only [l__law_mix_1, stillS_tup, stillS_lst, stillS_frz, stillS_str, nat10, nat2, runB, seqS, exS, asgS, retS, retN, dropS, ifS, nxS, nevS, brkS, cntS, setItS, forS, parS, op1, op2, chain, boolT, truT, notT, andT, orT, andE, orE, ifE, nilA, consA, appA, varD, cD, lstE, celE, tupE, slE, itE, itEn, cal_1, cal_2, cal_3, cal_4, cal_5, cal_6, cal_7, yesT, mulOk, List.map_cons, List.map_nil, List.length_cons, List.length_nil, List.getElem?_cons_zero, List.getElem?_cons_succ, List.set_cons_zero, List.set_cons_succ, List.replicate_succ, List.replicate_zero, List.cons_append, List.nil_append, List.append_nil, List.isEmpty_cons, List.isEmpty_nil, Nat.reduceAdd, Nat.reduceSub, Nat.reduceMul, Nat.reduceLeDiff, Nat.reduceEqDiff, Nat.zero_add, Nat.sub_zero, Nat.sub_self, Bool.not_true, Bool.not_false, Bool.true_and, Bool.false_and, Bool.and_true, Bool.and_false, Bool.true_or, Bool.false_or, Bool.or_true, Bool.or_false, Bool.false_eq_true, Bool.not_eq_true, Bool.not_eq_false, Bool.not_not, decide_eq_true_eq, decide_eq_false_iff_not, decide_true, decide_false, if_true, if_false, reduceIte, reduceCtorEq, Nat.zero_le, and_self, and_true, true_and, or_true, true_or, or_false, false_or, not_true_eq_false, not_false_eq_true, Int.reduceLT, Int.reduceLE, Int.reduceNeg, Int.reduceAdd, Int.reduceMul, Int.reduceSub, Int.reducePow, Int.reduceEq, Int.reduceToNat, Nat.reduceLT, Nat.reducePow, Int.cast_ofNat_Int, isi_non_int, isi_non_bool, isi_non_str, isi_non_tuple, isi_non_list, isi_non_dict, isi_non_tuple_list, isi_non_list_tuple, isi_bl_int, isi_bl_bool, isi_bl_str, isi_bl_tuple, isi_bl_list, isi_bl_dict, isi_bl_tuple_list, isi_bl_list_tuple, isi_int_int, isi_int_bool, isi_int_str, isi_int_tuple, isi_int_list, isi_int_dict, isi_int_tuple_list, isi_int_list_tuple, isi_str_int, isi_str_bool, isi_str_str, isi_str_tuple, isi_str_list, isi_str_dict, isi_str_tuple_list, isi_str_list_tuple, isi_tup_int, isi_tup_bool, isi_tup_str, isi_tup_tuple, isi_tup_list, isi_tup_dict, isi_tup_tuple_list, isi_tup_list_tuple, isi_lst_int, isi_lst_bool, isi_lst_str, isi_lst_tuple, isi_lst_list, isi_lst_dict, isi_lst_tuple_list, isi_lst_list_tuple, isi_frz_int, isi_frz_bool, isi_frz_str, isi_frz_tuple, isi_frz_list, isi_frz_dict, isi_frz_tuple_list, isi_frz_list_tuple, tru_bl, tru_int, tru_non, tru_tup, len_tup, ix_tup, tru_lst, len_lst, ix_lst, tru_frz, len_frz, ix_frz, sl_lst, sl_frz, sl_tup, asInt_int, at0, at1, at2, at3, at4, add_int, add_tup, add_str, add_lst, addC_lst, repC_lst, sub_int, mul_int, mul_lst, mul_tup, div_int, mod_int, pow_int, neg_int, not_bl, lt_int, le_int, gt_int, ge_int, eq_int, eq_str, eq_bl, eq_non, eq_int_non, eq_non_int, eq_str_non, eq_non_str, eq_bl_non, eq_non_bl, ne_int, ne_str, ne_bl, ne_non, ne_int_non, ne_non_int, ne_str_non, ne_non_str, ne_bl_non, ne_non_bl, isNone_non, isNone_int, isNone_str, isNone_bl, isNone_tup, isNone_lst, isNone_frz, max2_int, min2_int, abs_int, int_int, int_bl, still_tup, list_tup, tuple_tup, listC_tup, sv_tup, still_lst, list_lst, tuple_lst, listC_lst, sv_lst, still_frz, list_frz, tuple_frz, listC_frz, sv_frz, r1_int, r2_int, r3_int, tg_name, tg_tup, setAll_cons, setAll_nil, mtE, g1_one, g2_two, mkL_0, mkT_0, mkC_0, mkL_1, mkT_1, mkC_1, mkL_2, mkT_2, mkC_2, mkL_3, mkT_3, mkC_3, mkL_4, mkT_4, mkC_4, bnd_S, ret_S, lineN_eq2, wipe_nil, wipe_cons])
  subst e1 e2
  refine ⟨[.lst (ns.map .int), .lst [.int st, .ref 0, .int 0]], ?_, ⟨ns, st, 0, hn, rfl⟩⟩
  refine run_rt (ρ0 := [some (.frz (ns.map .int)), some (.int seed), none, none]) rfl ?_
  refine Eq.trans (seq_nx (asg_ok (d := .int seed) rfl rfl)) ?_
  refine Eq.trans (seq_nx ((for_ok (ds := ns.map D.int) rfl).trans e)) ?_
  rfl
theorem law_pick {T S : Store} (hS : HS T S) {xs : List D} (h0 : xs ≠ []) (h1 : xs.length ≤ 1000) : ∃ (d : D) (S' : Store), g__law_pick [.ref 1, .lst xs] S = .ok d S' ∧ d ∈ xs ∧ HS T S' := by
  have hl : 0 < xs.length := List.length_pos_iff.mpr h0
  obtain ⟨r, S', e, r0, r1, hI⟩ := law_next hS (cap := xs.length) (by omega) (by omega)
  obtain ⟨j, rfl⟩ : ∃ j : Nat, r = j := ⟨r.toNat, by omega⟩
  have hj : j < xs.length := by omega
  refine ⟨xs[j], S', ?_, List.getElem_mem hj, hI⟩
  simp only [g__law_pick, b__law_pick, stillS_tup, stillS_lst, stillS_frz, stillS_str, nat10, nat2, runB, seqS, exS, asgS, retS, retN, dropS, ifS, nxS, nevS, brkS, cntS, setItS, forS, parS, op1, op2, chain, boolT, truT, notT, andT, orT, andE, orE, ifE, nilA, consA, appA, varD, cD, lstE, celE, tupE, slE, itE, itEn, cal_1, cal_2, cal_3, cal_4, cal_5, cal_6, cal_7, yesT, mulOk, List.map_cons, List.map_nil, List.length_cons, List.length_nil, List.getElem?_cons_zero, List.getElem?_cons_succ, List.set_cons_zero, List.set_cons_succ, List.replicate_succ, List.replicate_zero, List.cons_append, List.nil_append, List.append_nil, List.isEmpty_cons, List.isEmpty_nil, Nat.reduceAdd, Nat.reduceSub, Nat.reduceMul, Nat.reduceLeDiff, Nat.reduceEqDiff, Nat.zero_add, Nat.sub_zero, Nat.sub_self, Bool.not_true, Bool.not_false, Bool.true_and, Bool.false_and, Bool.and_true, Bool.and_false, Bool.true_or, Bool.false_or, Bool.or_true, Bool.or_false, Bool.false_eq_true, Bool.not_eq_true, Bool.not_eq_false, Bool.not_not, decide_eq_true_eq, decide_eq_false_iff_not, decide_true, decide_false, if_true, if_false, reduceIte, reduceCtorEq, Nat.zero_le, and_self, and_true, true_and, or_true, true_or, or_false, false_or, not_true_eq_false, not_false_eq_true, Int.reduceLT, Int.reduceLE, Int.reduceNeg, Int.reduceAdd, Int.reduceMul, Int.reduceSub, Int.reducePow, Int.reduceEq, Int.reduceToNat, Nat.reduceLT, Nat.reducePow, Int.cast_ofNat_Int, isi_non_int, isi_non_bool, isi_non_str, isi_non_tuple, isi_non_list, isi_non_dict, isi_non_tuple_list, isi_non_list_tuple, isi_bl_int, isi_bl_bool, isi_bl_str, isi_bl_tuple, isi_bl_list, isi_bl_dict, isi_bl_tuple_list, isi_bl_list_tuple, isi_int_int, isi_int_bool, isi_int_str, isi_int_tuple, isi_int_list, isi_int_dict, isi_int_tuple_list, isi_int_list_tuple, isi_str_int, isi_str_bool, isi_str_str, isi_str_tuple, isi_str_list, isi_str_dict, isi_str_tuple_list, isi_str_list_tuple, isi_tup_int, isi_tup_bool, isi_tup_str, isi_tup_tuple, isi_tup_list, isi_tup_dict, isi_tup_tuple_list, isi_tup_list_tuple, isi_lst_int, isi_lst_bool, isi_lst_str, isi_lst_tuple, isi_lst_list, isi_lst_dict, isi_lst_tuple_list, isi_lst_list_tuple, isi_frz_int, isi_frz_bool, isi_frz_str, isi_frz_tuple, isi_frz_list, isi_frz_dict, isi_frz_tuple_list, isi_frz_list_tuple, tru_bl, tru_int, tru_non, tru_tup, len_tup, ix_tup, tru_lst, len_lst, ix_lst, tru_frz, len_frz, ix_frz, sl_lst, sl_frz, sl_tup, asInt_int, at0, at1, at2, at3, at4, add_int, add_tup, add_str, add_lst, addC_lst, repC_lst, sub_int, mul_int, mul_lst, mul_tup, div_int, mod_int, pow_int, neg_int, not_bl, lt_int, le_int, gt_int, ge_int, eq_int, eq_str, eq_bl, eq_non, eq_int_non, eq_non_int, eq_str_non, eq_non_str, eq_bl_non, eq_non_bl, ne_int, ne_str, ne_bl, ne_non, ne_int_non, ne_non_int, ne_str_non, ne_non_str, ne_bl_non, ne_non_bl, isNone_non, isNone_int, isNone_str, isNone_bl, isNone_tup, isNone_lst, isNone_frz, max2_int, min2_int, abs_int, int_int, int_bl, still_tup, list_tup, tuple_tup, listC_tup, sv_tup, still_lst, list_lst, tuple_lst, listC_lst, sv_lst, still_frz, list_frz, tuple_frz, listC_frz, sv_frz, r1_int, r2_int, r3_int, tg_name, tg_tup, setAll_cons, setAll_nil, mtE, g1_one, g2_two, mkL_0, mkT_0, mkC_0, mkL_1, mkT_1, mkC_1, mkL_2, mkT_2, mkC_2, mkL_3, mkT_3, mkC_3, mkL_4, mkT_4, mkC_4, bnd_S, ret_S, lineN_eq2, wipe_nil, wipe_cons, e, at?_nat, List.getElem?_eq_getElem hj]
/-! alike of the same -/
def alD : Nat → D → Prop
  | _, .non => True
  | _, .bl _ => True
  | _, .int _ => True
  | _, .str _ => True
  | n + 1, .tup ds => ds.length ≤ 1000000 ∧ ∀ d ∈ ds, alD n d
  | n + 1, .lst ds => ds.length ≤ 1000000 ∧ ∀ d ∈ ds, alD n d
  | _, _ => False
theorem eq_nil (S : Store) : eqM (.lst []) (.lst []) S = .ok (.bl true) S := by
  rw [eqM_ok (okD_lst (n := 0) (ds := []) (by simp)) (okD_lst (n := 0) (ds := []) (by simp)) (by omega) (by omega), dq_self (okD_lst (n := 0) (ds := []) (by simp))]
theorem r_succ (n : Nat) : r__law_alike (n + 1) = runB (b__law_alike (r__law_alike n)) 3 := rfl
theorem alike_self : ∀ (n : Nat) (x : D), alD n x → ∀ S, r__law_alike (n + 1) [x, x] S = .ok (.bl true) S := by
  intro n
  induction n with
  | zero =>
    intro x h S
    cases x <;> first | (simp [alD] at h; done) | skip
    all_goals simp only [r__law_alike, b__law_alike, stillS_tup, stillS_lst, stillS_frz, stillS_str, nat10, nat2, runB, seqS, exS, asgS, retS, retN, dropS, ifS, nxS, nevS, brkS, cntS, setItS, forS, parS, op1, op2, chain, boolT, truT, notT, andT, orT, andE, orE, ifE, nilA, consA, appA, varD, cD, lstE, celE, tupE, slE, itE, itEn, cal_1, cal_2, cal_3, cal_4, cal_5, cal_6, cal_7, yesT, mulOk, List.map_cons, List.map_nil, List.length_cons, List.length_nil, List.getElem?_cons_zero, List.getElem?_cons_succ, List.set_cons_zero, List.set_cons_succ, List.replicate_succ, List.replicate_zero, List.cons_append, List.nil_append, List.append_nil, List.isEmpty_cons, List.isEmpty_nil, Nat.reduceAdd, Nat.reduceSub, Nat.reduceMul, Nat.reduceLeDiff, Nat.reduceEqDiff, Nat.zero_add, Nat.sub_zero, Nat.sub_self, Bool.not_true, Bool.not_false, Bool.true_and, Bool.false_and, Bool.and_true, Bool.and_false, Bool.true_or, Bool.false_or, Bool.or_true, Bool.or_false, Bool.false_eq_true, Bool.not_eq_true, Bool.not_eq_false, Bool.not_not, decide_eq_true_eq, decide_eq_false_iff_not, decide_true, decide_false, if_true, if_false, reduceIte, reduceCtorEq, Nat.zero_le, and_self, and_true, true_and, or_true, true_or, or_false, false_or, not_true_eq_false, not_false_eq_true, Int.reduceLT, Int.reduceLE, Int.reduceNeg, Int.reduceAdd, Int.reduceMul, Int.reduceSub, Int.reducePow, Int.reduceEq, Int.reduceToNat, Nat.reduceLT, Nat.reducePow, Int.cast_ofNat_Int, isi_non_int, isi_non_bool, isi_non_str, isi_non_tuple, isi_non_list, isi_non_dict, isi_non_tuple_list, isi_non_list_tuple, isi_bl_int, isi_bl_bool, isi_bl_str, isi_bl_tuple, isi_bl_list, isi_bl_dict, isi_bl_tuple_list, isi_bl_list_tuple, isi_int_int, isi_int_bool, isi_int_str, isi_int_tuple, isi_int_list, isi_int_dict, isi_int_tuple_list, isi_int_list_tuple, isi_str_int, isi_str_bool, isi_str_str, isi_str_tuple, isi_str_list, isi_str_dict, isi_str_tuple_list, isi_str_list_tuple, isi_tup_int, isi_tup_bool, isi_tup_str, isi_tup_tuple, isi_tup_list, isi_tup_dict, isi_tup_tuple_list, isi_tup_list_tuple, isi_lst_int, isi_lst_bool, isi_lst_str, isi_lst_tuple, isi_lst_list, isi_lst_dict, isi_lst_tuple_list, isi_lst_list_tuple, isi_frz_int, isi_frz_bool, isi_frz_str, isi_frz_tuple, isi_frz_list, isi_frz_dict, isi_frz_tuple_list, isi_frz_list_tuple, tru_bl, tru_int, tru_non, tru_tup, len_tup, ix_tup, tru_lst, len_lst, ix_lst, tru_frz, len_frz, ix_frz, sl_lst, sl_frz, sl_tup, asInt_int, at0, at1, at2, at3, at4, add_int, add_tup, add_str, add_lst, addC_lst, repC_lst, sub_int, mul_int, mul_lst, mul_tup, div_int, mod_int, pow_int, neg_int, not_bl, lt_int, le_int, gt_int, ge_int, eq_int, eq_str, eq_bl, eq_non, eq_int_non, eq_non_int, eq_str_non, eq_non_str, eq_bl_non, eq_non_bl, ne_int, ne_str, ne_bl, ne_non, ne_int_non, ne_non_int, ne_str_non, ne_non_str, ne_bl_non, ne_non_bl, isNone_non, isNone_int, isNone_str, isNone_bl, isNone_tup, isNone_lst, isNone_frz, max2_int, min2_int, abs_int, int_int, int_bl, still_tup, list_tup, tuple_tup, listC_tup, sv_tup, still_lst, list_lst, tuple_lst, listC_lst, sv_lst, still_frz, list_frz, tuple_frz, listC_frz, sv_frz, r1_int, r2_int, r3_int, tg_name, tg_tup, setAll_cons, setAll_nil, mtE, g1_one, g2_two, mkL_0, mkT_0, mkC_0, mkL_1, mkT_1, mkC_1, mkL_2, mkT_2, mkC_2, mkL_3, mkT_3, mkC_3, mkL_4, mkT_4, mkC_4, bnd_S, ret_S, lineN_eq2, wipe_nil, wipe_cons, beq_self_eq_true]
  | succ n ih =>
    intro x h S
    have comp : ∀ (ds : List D) (x : D) (o : Option D), ds.length ≤ 1000000 → (∀ d ∈ ds, alD n d) → (∀ i : Nat, i < ds.length → ∀ S, ixD x (.int (i : Nat)) S = .ok (ds.getD i .non) S) → (∀ S, lenD x S = .ok (.int ds.length) S) → ∀ S,
        lcE [2] (.name 2) (appA (consA (appA (consA (varD 1) nilA) (g1 lenD)) nilA) itR1) (notT (truT (appA (consA (op2 ixD (varD 0) (varD 2)) (consA (op2 ixD (varD 1) (varD 2)) nilA)) (cal 2 (r__law_alike (n + 1)))))) (varD 2) [some x, some x, o] S = .ok (.lst []) S := by
      intro ds x o hl hd hi hln S
      have := lcE_of (own := [2]) (t := .name 2) (fi := appA (consA (appA (consA (varD 1) nilA) (g1 lenD)) nilA) itR1) (ft := notT (truT (appA (consA (op2 ixD (varD 0) (varD 2)) (consA (op2 ixD (varD 1) (varD 2)) nilA)) (cal 2 (r__law_alike (n + 1)))))) (fe := varD 2) (ρ := [some x, some x, o]) (S := S)
        (fun i : Nat => D.int (i : Nat)) (fun _ => false) (fun i => .int (i : Nat)) (List.range ds.length) (by
          have hr := fun S => r1_nat ds.length S (by omega)
          simp only [stillS_tup, stillS_lst, stillS_frz, stillS_str, nat10, nat2, runB, seqS, exS, asgS, retS, retN, dropS, ifS, nxS, nevS, brkS, cntS, setItS, forS, parS, op1, op2, chain, boolT, truT, notT, andT, orT, andE, orE, ifE, nilA, consA, appA, varD, cD, lstE, celE, tupE, slE, itE, itEn, cal_1, cal_2, cal_3, cal_4, cal_5, cal_6, cal_7, yesT, mulOk, List.map_cons, List.map_nil, List.length_cons, List.length_nil, List.getElem?_cons_zero, List.getElem?_cons_succ, List.set_cons_zero, List.set_cons_succ, List.replicate_succ, List.replicate_zero, List.cons_append, List.nil_append, List.append_nil, List.isEmpty_cons, List.isEmpty_nil, Nat.reduceAdd, Nat.reduceSub, Nat.reduceMul, Nat.reduceLeDiff, Nat.reduceEqDiff, Nat.zero_add, Nat.sub_zero, Nat.sub_self, Bool.not_true, Bool.not_false, Bool.true_and, Bool.false_and, Bool.and_true, Bool.and_false, Bool.true_or, Bool.false_or, Bool.or_true, Bool.or_false, Bool.false_eq_true, Bool.not_eq_true, Bool.not_eq_false, Bool.not_not, decide_eq_true_eq, decide_eq_false_iff_not, decide_true, decide_false, if_true, if_false, reduceIte, reduceCtorEq, Nat.zero_le, and_self, and_true, true_and, or_true, true_or, or_false, false_or, not_true_eq_false, not_false_eq_true, Int.reduceLT, Int.reduceLE, Int.reduceNeg, Int.reduceAdd, Int.reduceMul, Int.reduceSub, Int.reducePow, Int.reduceEq, Int.reduceToNat, Nat.reduceLT, Nat.reducePow, Int.cast_ofNat_Int, isi_non_int, isi_non_bool, isi_non_str, isi_non_tuple, isi_non_list, isi_non_dict, isi_non_tuple_list, isi_non_list_tuple, isi_bl_int, isi_bl_bool, isi_bl_str, isi_bl_tuple, isi_bl_list, isi_bl_dict, isi_bl_tuple_list, isi_bl_list_tuple, isi_int_int, isi_int_bool, isi_int_str, isi_int_tuple, isi_int_list, isi_int_dict, isi_int_tuple_list, isi_int_list_tuple, isi_str_int, isi_str_bool, isi_str_str, isi_str_tuple, isi_str_list, isi_str_dict, isi_str_tuple_list, isi_str_list_tuple, isi_tup_int, isi_tup_bool, isi_tup_str, isi_tup_tuple, isi_tup_list, isi_tup_dict, isi_tup_tuple_list, isi_tup_list_tuple, isi_lst_int, isi_lst_bool, isi_lst_str, isi_lst_tuple, isi_lst_list, isi_lst_dict, isi_lst_tuple_list, isi_lst_list_tuple, isi_frz_int, isi_frz_bool, isi_frz_str, isi_frz_tuple, isi_frz_list, isi_frz_dict, isi_frz_tuple_list, isi_frz_list_tuple, tru_bl, tru_int, tru_non, tru_tup, len_tup, ix_tup, tru_lst, len_lst, ix_lst, tru_frz, len_frz, ix_frz, sl_lst, sl_frz, sl_tup, asInt_int, at0, at1, at2, at3, at4, add_int, add_tup, add_str, add_lst, addC_lst, repC_lst, sub_int, mul_int, mul_lst, mul_tup, div_int, mod_int, pow_int, neg_int, not_bl, lt_int, le_int, gt_int, ge_int, eq_int, eq_str, eq_bl, eq_non, eq_int_non, eq_non_int, eq_str_non, eq_non_str, eq_bl_non, eq_non_bl, ne_int, ne_str, ne_bl, ne_non, ne_int_non, ne_non_int, ne_str_non, ne_non_str, ne_bl_non, ne_non_bl, isNone_non, isNone_int, isNone_str, isNone_bl, isNone_tup, isNone_lst, isNone_frz, max2_int, min2_int, abs_int, int_int, int_bl, still_tup, list_tup, tuple_tup, listC_tup, sv_tup, still_lst, list_lst, tuple_lst, listC_lst, sv_lst, still_frz, list_frz, tuple_frz, listC_frz, sv_frz, r1_int, r2_int, r3_int, tg_name, tg_tup, setAll_cons, setAll_nil, mtE, g1_one, g2_two, mkL_0, mkT_0, mkC_0, mkL_1, mkT_1, mkC_1, mkL_2, mkT_2, mkC_2, mkL_3, mkT_3, mkC_3, mkL_4, mkT_4, mkC_4, bnd_S, ret_S, lineN_eq2, wipe_nil, wipe_cons, hln, -r1_int, hr]) (by rw [List.length_range, lineN_eq2]; omega) (fun i hmem => by
          have hi2 : i < ds.length := List.mem_range.mp hmem
          have hg : ds.getD i .non ∈ ds := by rw [List.getD_eq_getElem?_getD, List.getElem?_eq_getElem hi2]; exact List.getElem_mem hi2
          refine ⟨[some x, some x, some (.int (i : Nat))], rfl, ?_, (fun h => by cases h)⟩
          simp only [stillS_tup, stillS_lst, stillS_frz, stillS_str, nat10, nat2, runB, seqS, exS, asgS, retS, retN, dropS, ifS, nxS, nevS, brkS, cntS, setItS, forS, parS, op1, op2, chain, boolT, truT, notT, andT, orT, andE, orE, ifE, nilA, consA, appA, varD, cD, lstE, celE, tupE, slE, itE, itEn, cal_1, cal_2, cal_3, cal_4, cal_5, cal_6, cal_7, yesT, mulOk, List.map_cons, List.map_nil, List.length_cons, List.length_nil, List.getElem?_cons_zero, List.getElem?_cons_succ, List.set_cons_zero, List.set_cons_succ, List.replicate_succ, List.replicate_zero, List.cons_append, List.nil_append, List.append_nil, List.isEmpty_cons, List.isEmpty_nil, Nat.reduceAdd, Nat.reduceSub, Nat.reduceMul, Nat.reduceLeDiff, Nat.reduceEqDiff, Nat.zero_add, Nat.sub_zero, Nat.sub_self, Bool.not_true, Bool.not_false, Bool.true_and, Bool.false_and, Bool.and_true, Bool.and_false, Bool.true_or, Bool.false_or, Bool.or_true, Bool.or_false, Bool.false_eq_true, Bool.not_eq_true, Bool.not_eq_false, Bool.not_not, decide_eq_true_eq, decide_eq_false_iff_not, decide_true, decide_false, if_true, if_false, reduceIte, reduceCtorEq, Nat.zero_le, and_self, and_true, true_and, or_true, true_or, or_false, false_or, not_true_eq_false, not_false_eq_true, Int.reduceLT, Int.reduceLE, Int.reduceNeg, Int.reduceAdd, Int.reduceMul, Int.reduceSub, Int.reducePow, Int.reduceEq, Int.reduceToNat, Nat.reduceLT, Nat.reducePow, Int.cast_ofNat_Int, isi_non_int, isi_non_bool, isi_non_str, isi_non_tuple, isi_non_list, isi_non_dict, isi_non_tuple_list, isi_non_list_tuple, isi_bl_int, isi_bl_bool, isi_bl_str, isi_bl_tuple, isi_bl_list, isi_bl_dict, isi_bl_tuple_list, isi_bl_list_tuple, isi_int_int, isi_int_bool, isi_int_str, isi_int_tuple, isi_int_list, isi_int_dict, isi_int_tuple_list, isi_int_list_tuple, isi_str_int, isi_str_bool, isi_str_str, isi_str_tuple, isi_str_list, isi_str_dict, isi_str_tuple_list, isi_str_list_tuple, isi_tup_int, isi_tup_bool, isi_tup_str, isi_tup_tuple, isi_tup_list, isi_tup_dict, isi_tup_tuple_list, isi_tup_list_tuple, isi_lst_int, isi_lst_bool, isi_lst_str, isi_lst_tuple, isi_lst_list, isi_lst_dict, isi_lst_tuple_list, isi_lst_list_tuple, isi_frz_int, isi_frz_bool, isi_frz_str, isi_frz_tuple, isi_frz_list, isi_frz_dict, isi_frz_tuple_list, isi_frz_list_tuple, tru_bl, tru_int, tru_non, tru_tup, len_tup, ix_tup, tru_lst, len_lst, ix_lst, tru_frz, len_frz, ix_frz, sl_lst, sl_frz, sl_tup, asInt_int, at0, at1, at2, at3, at4, add_int, add_tup, add_str, add_lst, addC_lst, repC_lst, sub_int, mul_int, mul_lst, mul_tup, div_int, mod_int, pow_int, neg_int, not_bl, lt_int, le_int, gt_int, ge_int, eq_int, eq_str, eq_bl, eq_non, eq_int_non, eq_non_int, eq_str_non, eq_non_str, eq_bl_non, eq_non_bl, ne_int, ne_str, ne_bl, ne_non, ne_int_non, ne_non_int, ne_str_non, ne_non_str, ne_bl_non, ne_non_bl, isNone_non, isNone_int, isNone_str, isNone_bl, isNone_tup, isNone_lst, isNone_frz, max2_int, min2_int, abs_int, int_int, int_bl, still_tup, list_tup, tuple_tup, listC_tup, sv_tup, still_lst, list_lst, tuple_lst, listC_lst, sv_lst, still_frz, list_frz, tuple_frz, listC_frz, sv_frz, r1_int, r2_int, r3_int, tg_name, tg_tup, setAll_cons, setAll_nil, mtE, g1_one, g2_two, mkL_0, mkT_0, mkC_0, mkL_1, mkT_1, mkC_1, mkL_2, mkT_2, mkC_2, mkL_3, mkT_3, mkC_3, mkL_4, mkT_4, mkC_4, bnd_S, ret_S, lineN_eq2, wipe_nil, wipe_cons, hi i hi2, ih _ (hd _ hg)])
      rw [this]
      simp
    cases x with
    | tup ds =>
      have h' : ds.length ≤ 1000000 ∧ ∀ d ∈ ds, alD n d := h
      have c := comp ds (.tup ds) none h'.1 h'.2 (fun i hi S => by rw [ix_tup, at?_nat, List.getD_eq_getElem?_getD, List.getElem?_eq_getElem hi]; rfl) (fun S => rfl) S
      rw [r_succ (n + 1)]
      refine run_rt (ρ0 := [some (.tup ds), some (.tup ds), none]) rfl ?_
      unfold b__law_alike
      refine Eq.trans (seq_nx (ρ' := [some (.tup ds), some (.tup ds), none]) (S' := S) (Eq.trans (if_f (S' := S) ?_) rfl)) ?_
      · simp only [stillS_tup, stillS_lst, stillS_frz, stillS_str, nat10, nat2, runB, seqS, exS, asgS, retS, retN, dropS, ifS, nxS, nevS, brkS, cntS, setItS, forS, parS, op1, op2, chain, boolT, truT, notT, andT, orT, andE, orE, ifE, nilA, consA, appA, varD, cD, lstE, celE, tupE, slE, itE, itEn, cal_1, cal_2, cal_3, cal_4, cal_5, cal_6, cal_7, yesT, mulOk, List.map_cons, List.map_nil, List.length_cons, List.length_nil, List.getElem?_cons_zero, List.getElem?_cons_succ, List.set_cons_zero, List.set_cons_succ, List.replicate_succ, List.replicate_zero, List.cons_append, List.nil_append, List.append_nil, List.isEmpty_cons, List.isEmpty_nil, Nat.reduceAdd, Nat.reduceSub, Nat.reduceMul, Nat.reduceLeDiff, Nat.reduceEqDiff, Nat.zero_add, Nat.sub_zero, Nat.sub_self, Bool.not_true, Bool.not_false, Bool.true_and, Bool.false_and, Bool.and_true, Bool.and_false, Bool.true_or, Bool.false_or, Bool.or_true, Bool.or_false, Bool.false_eq_true, Bool.not_eq_true, Bool.not_eq_false, Bool.not_not, decide_eq_true_eq, decide_eq_false_iff_not, decide_true, decide_false, if_true, if_false, reduceIte, reduceCtorEq, Nat.zero_le, and_self, and_true, true_and, or_true, true_or, or_false, false_or, not_true_eq_false, not_false_eq_true, Int.reduceLT, Int.reduceLE, Int.reduceNeg, Int.reduceAdd, Int.reduceMul, Int.reduceSub, Int.reducePow, Int.reduceEq, Int.reduceToNat, Nat.reduceLT, Nat.reducePow, Int.cast_ofNat_Int, isi_non_int, isi_non_bool, isi_non_str, isi_non_tuple, isi_non_list, isi_non_dict, isi_non_tuple_list, isi_non_list_tuple, isi_bl_int, isi_bl_bool, isi_bl_str, isi_bl_tuple, isi_bl_list, isi_bl_dict, isi_bl_tuple_list, isi_bl_list_tuple, isi_int_int, isi_int_bool, isi_int_str, isi_int_tuple, isi_int_list, isi_int_dict, isi_int_tuple_list, isi_int_list_tuple, isi_str_int, isi_str_bool, isi_str_str, isi_str_tuple, isi_str_list, isi_str_dict, isi_str_tuple_list, isi_str_list_tuple, isi_tup_int, isi_tup_bool, isi_tup_str, isi_tup_tuple, isi_tup_list, isi_tup_dict, isi_tup_tuple_list, isi_tup_list_tuple, isi_lst_int, isi_lst_bool, isi_lst_str, isi_lst_tuple, isi_lst_list, isi_lst_dict, isi_lst_tuple_list, isi_lst_list_tuple, isi_frz_int, isi_frz_bool, isi_frz_str, isi_frz_tuple, isi_frz_list, isi_frz_dict, isi_frz_tuple_list, isi_frz_list_tuple, tru_bl, tru_int, tru_non, tru_tup, len_tup, ix_tup, tru_lst, len_lst, ix_lst, tru_frz, len_frz, ix_frz, sl_lst, sl_frz, sl_tup, asInt_int, at0, at1, at2, at3, at4, add_int, add_tup, add_str, add_lst, addC_lst, repC_lst, sub_int, mul_int, mul_lst, mul_tup, div_int, mod_int, pow_int, neg_int, not_bl, lt_int, le_int, gt_int, ge_int, eq_int, eq_str, eq_bl, eq_non, eq_int_non, eq_non_int, eq_str_non, eq_non_str, eq_bl_non, eq_non_bl, ne_int, ne_str, ne_bl, ne_non, ne_int_non, ne_non_int, ne_str_non, ne_non_str, ne_bl_non, ne_non_bl, isNone_non, isNone_int, isNone_str, isNone_bl, isNone_tup, isNone_lst, isNone_frz, max2_int, min2_int, abs_int, int_int, int_bl, still_tup, list_tup, tuple_tup, listC_tup, sv_tup, still_lst, list_lst, tuple_lst, listC_lst, sv_lst, still_frz, list_frz, tuple_frz, listC_frz, sv_frz, r1_int, r2_int, r3_int, tg_name, tg_tup, setAll_cons, setAll_nil, mtE, g1_one, g2_two, mkL_0, mkT_0, mkC_0, mkL_1, mkT_1, mkC_1, mkL_2, mkT_2, mkC_2, mkL_3, mkT_3, mkC_3, mkL_4, mkT_4, mkC_4, bnd_S, ret_S, lineN_eq2, wipe_nil, wipe_cons]
      refine seq_rt (Eq.trans (if_t (S' := S) ?_) ?_)
      · simp only [stillS_tup, stillS_lst, stillS_frz, stillS_str, nat10, nat2, runB, seqS, exS, asgS, retS, retN, dropS, ifS, nxS, nevS, brkS, cntS, setItS, forS, parS, op1, op2, chain, boolT, truT, notT, andT, orT, andE, orE, ifE, nilA, consA, appA, varD, cD, lstE, celE, tupE, slE, itE, itEn, cal_1, cal_2, cal_3, cal_4, cal_5, cal_6, cal_7, yesT, mulOk, List.map_cons, List.map_nil, List.length_cons, List.length_nil, List.getElem?_cons_zero, List.getElem?_cons_succ, List.set_cons_zero, List.set_cons_succ, List.replicate_succ, List.replicate_zero, List.cons_append, List.nil_append, List.append_nil, List.isEmpty_cons, List.isEmpty_nil, Nat.reduceAdd, Nat.reduceSub, Nat.reduceMul, Nat.reduceLeDiff, Nat.reduceEqDiff, Nat.zero_add, Nat.sub_zero, Nat.sub_self, Bool.not_true, Bool.not_false, Bool.true_and, Bool.false_and, Bool.and_true, Bool.and_false, Bool.true_or, Bool.false_or, Bool.or_true, Bool.or_false, Bool.false_eq_true, Bool.not_eq_true, Bool.not_eq_false, Bool.not_not, decide_eq_true_eq, decide_eq_false_iff_not, decide_true, decide_false, if_true, if_false, reduceIte, reduceCtorEq, Nat.zero_le, and_self, and_true, true_and, or_true, true_or, or_false, false_or, not_true_eq_false, not_false_eq_true, Int.reduceLT, Int.reduceLE, Int.reduceNeg, Int.reduceAdd, Int.reduceMul, Int.reduceSub, Int.reducePow, Int.reduceEq, Int.reduceToNat, Nat.reduceLT, Nat.reducePow, Int.cast_ofNat_Int, isi_non_int, isi_non_bool, isi_non_str, isi_non_tuple, isi_non_list, isi_non_dict, isi_non_tuple_list, isi_non_list_tuple, isi_bl_int, isi_bl_bool, isi_bl_str, isi_bl_tuple, isi_bl_list, isi_bl_dict, isi_bl_tuple_list, isi_bl_list_tuple, isi_int_int, isi_int_bool, isi_int_str, isi_int_tuple, isi_int_list, isi_int_dict, isi_int_tuple_list, isi_int_list_tuple, isi_str_int, isi_str_bool, isi_str_str, isi_str_tuple, isi_str_list, isi_str_dict, isi_str_tuple_list, isi_str_list_tuple, isi_tup_int, isi_tup_bool, isi_tup_str, isi_tup_tuple, isi_tup_list, isi_tup_dict, isi_tup_tuple_list, isi_tup_list_tuple, isi_lst_int, isi_lst_bool, isi_lst_str, isi_lst_tuple, isi_lst_list, isi_lst_dict, isi_lst_tuple_list, isi_lst_list_tuple, isi_frz_int, isi_frz_bool, isi_frz_str, isi_frz_tuple, isi_frz_list, isi_frz_dict, isi_frz_tuple_list, isi_frz_list_tuple, tru_bl, tru_int, tru_non, tru_tup, len_tup, ix_tup, tru_lst, len_lst, ix_lst, tru_frz, len_frz, ix_frz, sl_lst, sl_frz, sl_tup, asInt_int, at0, at1, at2, at3, at4, add_int, add_tup, add_str, add_lst, addC_lst, repC_lst, sub_int, mul_int, mul_lst, mul_tup, div_int, mod_int, pow_int, neg_int, not_bl, lt_int, le_int, gt_int, ge_int, eq_int, eq_str, eq_bl, eq_non, eq_int_non, eq_non_int, eq_str_non, eq_non_str, eq_bl_non, eq_non_bl, ne_int, ne_str, ne_bl, ne_non, ne_int_non, ne_non_int, ne_str_non, ne_non_str, ne_bl_non, ne_non_bl, isNone_non, isNone_int, isNone_str, isNone_bl, isNone_tup, isNone_lst, isNone_frz, max2_int, min2_int, abs_int, int_int, int_bl, still_tup, list_tup, tuple_tup, listC_tup, sv_tup, still_lst, list_lst, tuple_lst, listC_lst, sv_lst, still_frz, list_frz, tuple_frz, listC_frz, sv_frz, r1_int, r2_int, r3_int, tg_name, tg_tup, setAll_cons, setAll_nil, mtE, g1_one, g2_two, mkL_0, mkT_0, mkC_0, mkL_1, mkT_1, mkC_1, mkL_2, mkT_2, mkC_2, mkL_3, mkT_3, mkC_3, mkL_4, mkT_4, mkC_4, bnd_S, ret_S, lineN_eq2, wipe_nil, wipe_cons]
      refine Eq.trans (seq_nx (ρ' := [some (.tup ds), some (.tup ds), none]) (S' := S) (Eq.trans (if_f (S' := S) ?_) rfl)) ?_
      · simp only [stillS_tup, stillS_lst, stillS_frz, stillS_str, nat10, nat2, runB, seqS, exS, asgS, retS, retN, dropS, ifS, nxS, nevS, brkS, cntS, setItS, forS, parS, op1, op2, chain, boolT, truT, notT, andT, orT, andE, orE, ifE, nilA, consA, appA, varD, cD, lstE, celE, tupE, slE, itE, itEn, cal_1, cal_2, cal_3, cal_4, cal_5, cal_6, cal_7, yesT, mulOk, List.map_cons, List.map_nil, List.length_cons, List.length_nil, List.getElem?_cons_zero, List.getElem?_cons_succ, List.set_cons_zero, List.set_cons_succ, List.replicate_succ, List.replicate_zero, List.cons_append, List.nil_append, List.append_nil, List.isEmpty_cons, List.isEmpty_nil, Nat.reduceAdd, Nat.reduceSub, Nat.reduceMul, Nat.reduceLeDiff, Nat.reduceEqDiff, Nat.zero_add, Nat.sub_zero, Nat.sub_self, Bool.not_true, Bool.not_false, Bool.true_and, Bool.false_and, Bool.and_true, Bool.and_false, Bool.true_or, Bool.false_or, Bool.or_true, Bool.or_false, Bool.false_eq_true, Bool.not_eq_true, Bool.not_eq_false, Bool.not_not, decide_eq_true_eq, decide_eq_false_iff_not, decide_true, decide_false, if_true, if_false, reduceIte, reduceCtorEq, Nat.zero_le, and_self, and_true, true_and, or_true, true_or, or_false, false_or, not_true_eq_false, not_false_eq_true, Int.reduceLT, Int.reduceLE, Int.reduceNeg, Int.reduceAdd, Int.reduceMul, Int.reduceSub, Int.reducePow, Int.reduceEq, Int.reduceToNat, Nat.reduceLT, Nat.reducePow, Int.cast_ofNat_Int, isi_non_int, isi_non_bool, isi_non_str, isi_non_tuple, isi_non_list, isi_non_dict, isi_non_tuple_list, isi_non_list_tuple, isi_bl_int, isi_bl_bool, isi_bl_str, isi_bl_tuple, isi_bl_list, isi_bl_dict, isi_bl_tuple_list, isi_bl_list_tuple, isi_int_int, isi_int_bool, isi_int_str, isi_int_tuple, isi_int_list, isi_int_dict, isi_int_tuple_list, isi_int_list_tuple, isi_str_int, isi_str_bool, isi_str_str, isi_str_tuple, isi_str_list, isi_str_dict, isi_str_tuple_list, isi_str_list_tuple, isi_tup_int, isi_tup_bool, isi_tup_str, isi_tup_tuple, isi_tup_list, isi_tup_dict, isi_tup_tuple_list, isi_tup_list_tuple, isi_lst_int, isi_lst_bool, isi_lst_str, isi_lst_tuple, isi_lst_list, isi_lst_dict, isi_lst_tuple_list, isi_lst_list_tuple, isi_frz_int, isi_frz_bool, isi_frz_str, isi_frz_tuple, isi_frz_list, isi_frz_dict, isi_frz_tuple_list, isi_frz_list_tuple, tru_bl, tru_int, tru_non, tru_tup, len_tup, ix_tup, tru_lst, len_lst, ix_lst, tru_frz, len_frz, ix_frz, sl_lst, sl_frz, sl_tup, asInt_int, at0, at1, at2, at3, at4, add_int, add_tup, add_str, add_lst, addC_lst, repC_lst, sub_int, mul_int, mul_lst, mul_tup, div_int, mod_int, pow_int, neg_int, not_bl, lt_int, le_int, gt_int, ge_int, eq_int, eq_str, eq_bl, eq_non, eq_int_non, eq_non_int, eq_str_non, eq_non_str, eq_bl_non, eq_non_bl, ne_int, ne_str, ne_bl, ne_non, ne_int_non, ne_non_int, ne_str_non, ne_non_str, ne_bl_non, ne_non_bl, isNone_non, isNone_int, isNone_str, isNone_bl, isNone_tup, isNone_lst, isNone_frz, max2_int, min2_int, abs_int, int_int, int_bl, still_tup, list_tup, tuple_tup, listC_tup, sv_tup, still_lst, list_lst, tuple_lst, listC_lst, sv_lst, still_frz, list_frz, tuple_frz, listC_frz, sv_frz, r1_int, r2_int, r3_int, tg_name, tg_tup, setAll_cons, setAll_nil, mtE, g1_one, g2_two, mkL_0, mkT_0, mkC_0, mkL_1, mkT_1, mkC_1, mkL_2, mkT_2, mkC_2, mkL_3, mkT_3, mkC_3, mkL_4, mkT_4, mkC_4, bnd_S, ret_S, lineN_eq2, wipe_nil, wipe_cons, beq_self_eq_true]
      refine Eq.trans (seq_nx (ρ' := [some (.tup ds), some (.tup ds), none]) (S' := S) (Eq.trans (if_f (S' := S) ?_) rfl)) ?_
      · simp only [stillS_tup, stillS_lst, stillS_frz, stillS_str, nat10, nat2, runB, seqS, exS, asgS, retS, retN, dropS, ifS, nxS, nevS, brkS, cntS, setItS, forS, parS, op1, op2, chain, boolT, truT, notT, andT, orT, andE, orE, ifE, nilA, consA, appA, varD, cD, lstE, celE, tupE, slE, itE, itEn, cal_1, cal_2, cal_3, cal_4, cal_5, cal_6, cal_7, yesT, mulOk, List.map_cons, List.map_nil, List.length_cons, List.length_nil, List.getElem?_cons_zero, List.getElem?_cons_succ, List.set_cons_zero, List.set_cons_succ, List.replicate_succ, List.replicate_zero, List.cons_append, List.nil_append, List.append_nil, List.isEmpty_cons, List.isEmpty_nil, Nat.reduceAdd, Nat.reduceSub, Nat.reduceMul, Nat.reduceLeDiff, Nat.reduceEqDiff, Nat.zero_add, Nat.sub_zero, Nat.sub_self, Bool.not_true, Bool.not_false, Bool.true_and, Bool.false_and, Bool.and_true, Bool.and_false, Bool.true_or, Bool.false_or, Bool.or_true, Bool.or_false, Bool.false_eq_true, Bool.not_eq_true, Bool.not_eq_false, Bool.not_not, decide_eq_true_eq, decide_eq_false_iff_not, decide_true, decide_false, if_true, if_false, reduceIte, reduceCtorEq, Nat.zero_le, and_self, and_true, true_and, or_true, true_or, or_false, false_or, not_true_eq_false, not_false_eq_true, Int.reduceLT, Int.reduceLE, Int.reduceNeg, Int.reduceAdd, Int.reduceMul, Int.reduceSub, Int.reducePow, Int.reduceEq, Int.reduceToNat, Nat.reduceLT, Nat.reducePow, Int.cast_ofNat_Int, isi_non_int, isi_non_bool, isi_non_str, isi_non_tuple, isi_non_list, isi_non_dict, isi_non_tuple_list, isi_non_list_tuple, isi_bl_int, isi_bl_bool, isi_bl_str, isi_bl_tuple, isi_bl_list, isi_bl_dict, isi_bl_tuple_list, isi_bl_list_tuple, isi_int_int, isi_int_bool, isi_int_str, isi_int_tuple, isi_int_list, isi_int_dict, isi_int_tuple_list, isi_int_list_tuple, isi_str_int, isi_str_bool, isi_str_str, isi_str_tuple, isi_str_list, isi_str_dict, isi_str_tuple_list, isi_str_list_tuple, isi_tup_int, isi_tup_bool, isi_tup_str, isi_tup_tuple, isi_tup_list, isi_tup_dict, isi_tup_tuple_list, isi_tup_list_tuple, isi_lst_int, isi_lst_bool, isi_lst_str, isi_lst_tuple, isi_lst_list, isi_lst_dict, isi_lst_tuple_list, isi_lst_list_tuple, isi_frz_int, isi_frz_bool, isi_frz_str, isi_frz_tuple, isi_frz_list, isi_frz_dict, isi_frz_tuple_list, isi_frz_list_tuple, tru_bl, tru_int, tru_non, tru_tup, len_tup, ix_tup, tru_lst, len_lst, ix_lst, tru_frz, len_frz, ix_frz, sl_lst, sl_frz, sl_tup, asInt_int, at0, at1, at2, at3, at4, add_int, add_tup, add_str, add_lst, addC_lst, repC_lst, sub_int, mul_int, mul_lst, mul_tup, div_int, mod_int, pow_int, neg_int, not_bl, lt_int, le_int, gt_int, ge_int, eq_int, eq_str, eq_bl, eq_non, eq_int_non, eq_non_int, eq_str_non, eq_non_str, eq_bl_non, eq_non_bl, ne_int, ne_str, ne_bl, ne_non, ne_int_non, ne_non_int, ne_str_non, ne_non_str, ne_bl_non, ne_non_bl, isNone_non, isNone_int, isNone_str, isNone_bl, isNone_tup, isNone_lst, isNone_frz, max2_int, min2_int, abs_int, int_int, int_bl, still_tup, list_tup, tuple_tup, listC_tup, sv_tup, still_lst, list_lst, tuple_lst, listC_lst, sv_lst, still_frz, list_frz, tuple_frz, listC_frz, sv_frz, r1_int, r2_int, r3_int, tg_name, tg_tup, setAll_cons, setAll_nil, mtE, g1_one, g2_two, mkL_0, mkT_0, mkC_0, mkL_1, mkT_1, mkC_1, mkL_2, mkT_2, mkC_2, mkL_3, mkT_3, mkC_3, mkL_4, mkT_4, mkC_4, bnd_S, ret_S, lineN_eq2, wipe_nil, wipe_cons]
      refine ret_ok ?_
      exact (bnd_ok c).trans (eq_nil S)
    | lst ds =>
      have h' : ds.length ≤ 1000000 ∧ ∀ d ∈ ds, alD n d := h
      have c := comp ds (.lst ds) none h'.1 h'.2 (fun i hi S => by rw [ix_lst, at?_nat, List.getD_eq_getElem?_getD, List.getElem?_eq_getElem hi]; rfl) (fun S => rfl) S
      rw [r_succ (n + 1)]
      refine run_rt (ρ0 := [some (.lst ds), some (.lst ds), none]) rfl ?_
      unfold b__law_alike
      refine Eq.trans (seq_nx (ρ' := [some (.lst ds), some (.lst ds), none]) (S' := S) (Eq.trans (if_f (S' := S) ?_) rfl)) ?_
      · simp only [stillS_tup, stillS_lst, stillS_frz, stillS_str, nat10, nat2, runB, seqS, exS, asgS, retS, retN, dropS, ifS, nxS, nevS, brkS, cntS, setItS, forS, parS, op1, op2, chain, boolT, truT, notT, andT, orT, andE, orE, ifE, nilA, consA, appA, varD, cD, lstE, celE, tupE, slE, itE, itEn, cal_1, cal_2, cal_3, cal_4, cal_5, cal_6, cal_7, yesT, mulOk, List.map_cons, List.map_nil, List.length_cons, List.length_nil, List.getElem?_cons_zero, List.getElem?_cons_succ, List.set_cons_zero, List.set_cons_succ, List.replicate_succ, List.replicate_zero, List.cons_append, List.nil_append, List.append_nil, List.isEmpty_cons, List.isEmpty_nil, Nat.reduceAdd, Nat.reduceSub, Nat.reduceMul, Nat.reduceLeDiff, Nat.reduceEqDiff, Nat.zero_add, Nat.sub_zero, Nat.sub_self, Bool.not_true, Bool.not_false, Bool.true_and, Bool.false_and, Bool.and_true, Bool.and_false, Bool.true_or, Bool.false_or, Bool.or_true, Bool.or_false, Bool.false_eq_true, Bool.not_eq_true, Bool.not_eq_false, Bool.not_not, decide_eq_true_eq, decide_eq_false_iff_not, decide_true, decide_false, if_true, if_false, reduceIte, reduceCtorEq, Nat.zero_le, and_self, and_true, true_and, or_true, true_or, or_false, false_or, not_true_eq_false, not_false_eq_true, Int.reduceLT, Int.reduceLE, Int.reduceNeg, Int.reduceAdd, Int.reduceMul, Int.reduceSub, Int.reducePow, Int.reduceEq, Int.reduceToNat, Nat.reduceLT, Nat.reducePow, Int.cast_ofNat_Int, isi_non_int, isi_non_bool, isi_non_str, isi_non_tuple, isi_non_list, isi_non_dict, isi_non_tuple_list, isi_non_list_tuple, isi_bl_int, isi_bl_bool, isi_bl_str, isi_bl_tuple, isi_bl_list, isi_bl_dict, isi_bl_tuple_list, isi_bl_list_tuple, isi_int_int, isi_int_bool, isi_int_str, isi_int_tuple, isi_int_list, isi_int_dict, isi_int_tuple_list, isi_int_list_tuple, isi_str_int, isi_str_bool, isi_str_str, isi_str_tuple, isi_str_list, isi_str_dict, isi_str_tuple_list, isi_str_list_tuple, isi_tup_int, isi_tup_bool, isi_tup_str, isi_tup_tuple, isi_tup_list, isi_tup_dict, isi_tup_tuple_list, isi_tup_list_tuple, isi_lst_int, isi_lst_bool, isi_lst_str, isi_lst_tuple, isi_lst_list, isi_lst_dict, isi_lst_tuple_list, isi_lst_list_tuple, isi_frz_int, isi_frz_bool, isi_frz_str, isi_frz_tuple, isi_frz_list, isi_frz_dict, isi_frz_tuple_list, isi_frz_list_tuple, tru_bl, tru_int, tru_non, tru_tup, len_tup, ix_tup, tru_lst, len_lst, ix_lst, tru_frz, len_frz, ix_frz, sl_lst, sl_frz, sl_tup, asInt_int, at0, at1, at2, at3, at4, add_int, add_tup, add_str, add_lst, addC_lst, repC_lst, sub_int, mul_int, mul_lst, mul_tup, div_int, mod_int, pow_int, neg_int, not_bl, lt_int, le_int, gt_int, ge_int, eq_int, eq_str, eq_bl, eq_non, eq_int_non, eq_non_int, eq_str_non, eq_non_str, eq_bl_non, eq_non_bl, ne_int, ne_str, ne_bl, ne_non, ne_int_non, ne_non_int, ne_str_non, ne_non_str, ne_bl_non, ne_non_bl, isNone_non, isNone_int, isNone_str, isNone_bl, isNone_tup, isNone_lst, isNone_frz, max2_int, min2_int, abs_int, int_int, int_bl, still_tup, list_tup, tuple_tup, listC_tup, sv_tup, still_lst, list_lst, tuple_lst, listC_lst, sv_lst, still_frz, list_frz, tuple_frz, listC_frz, sv_frz, r1_int, r2_int, r3_int, tg_name, tg_tup, setAll_cons, setAll_nil, mtE, g1_one, g2_two, mkL_0, mkT_0, mkC_0, mkL_1, mkT_1, mkC_1, mkL_2, mkT_2, mkC_2, mkL_3, mkT_3, mkC_3, mkL_4, mkT_4, mkC_4, bnd_S, ret_S, lineN_eq2, wipe_nil, wipe_cons]
      refine seq_rt (Eq.trans (if_t (S' := S) ?_) ?_)
      · simp only [stillS_tup, stillS_lst, stillS_frz, stillS_str, nat10, nat2, runB, seqS, exS, asgS, retS, retN, dropS, ifS, nxS, nevS, brkS, cntS, setItS, forS, parS, op1, op2, chain, boolT, truT, notT, andT, orT, andE, orE, ifE, nilA, consA, appA, varD, cD, lstE, celE, tupE, slE, itE, itEn, cal_1, cal_2, cal_3, cal_4, cal_5, cal_6, cal_7, yesT, mulOk, List.map_cons, List.map_nil, List.length_cons, List.length_nil, List.getElem?_cons_zero, List.getElem?_cons_succ, List.set_cons_zero, List.set_cons_succ, List.replicate_succ, List.replicate_zero, List.cons_append, List.nil_append, List.append_nil, List.isEmpty_cons, List.isEmpty_nil, Nat.reduceAdd, Nat.reduceSub, Nat.reduceMul, Nat.reduceLeDiff, Nat.reduceEqDiff, Nat.zero_add, Nat.sub_zero, Nat.sub_self, Bool.not_true, Bool.not_false, Bool.true_and, Bool.false_and, Bool.and_true, Bool.and_false, Bool.true_or, Bool.false_or, Bool.or_true, Bool.or_false, Bool.false_eq_true, Bool.not_eq_true, Bool.not_eq_false, Bool.not_not, decide_eq_true_eq, decide_eq_false_iff_not, decide_true, decide_false, if_true, if_false, reduceIte, reduceCtorEq, Nat.zero_le, and_self, and_true, true_and, or_true, true_or, or_false, false_or, not_true_eq_false, not_false_eq_true, Int.reduceLT, Int.reduceLE, Int.reduceNeg, Int.reduceAdd, Int.reduceMul, Int.reduceSub, Int.reducePow, Int.reduceEq, Int.reduceToNat, Nat.reduceLT, Nat.reducePow, Int.cast_ofNat_Int, isi_non_int, isi_non_bool, isi_non_str, isi_non_tuple, isi_non_list, isi_non_dict, isi_non_tuple_list, isi_non_list_tuple, isi_bl_int, isi_bl_bool, isi_bl_str, isi_bl_tuple, isi_bl_list, isi_bl_dict, isi_bl_tuple_list, isi_bl_list_tuple, isi_int_int, isi_int_bool, isi_int_str, isi_int_tuple, isi_int_list, isi_int_dict, isi_int_tuple_list, isi_int_list_tuple, isi_str_int, isi_str_bool, isi_str_str, isi_str_tuple, isi_str_list, isi_str_dict, isi_str_tuple_list, isi_str_list_tuple, isi_tup_int, isi_tup_bool, isi_tup_str, isi_tup_tuple, isi_tup_list, isi_tup_dict, isi_tup_tuple_list, isi_tup_list_tuple, isi_lst_int, isi_lst_bool, isi_lst_str, isi_lst_tuple, isi_lst_list, isi_lst_dict, isi_lst_tuple_list, isi_lst_list_tuple, isi_frz_int, isi_frz_bool, isi_frz_str, isi_frz_tuple, isi_frz_list, isi_frz_dict, isi_frz_tuple_list, isi_frz_list_tuple, tru_bl, tru_int, tru_non, tru_tup, len_tup, ix_tup, tru_lst, len_lst, ix_lst, tru_frz, len_frz, ix_frz, sl_lst, sl_frz, sl_tup, asInt_int, at0, at1, at2, at3, at4, add_int, add_tup, add_str, add_lst, addC_lst, repC_lst, sub_int, mul_int, mul_lst, mul_tup, div_int, mod_int, pow_int, neg_int, not_bl, lt_int, le_int, gt_int, ge_int, eq_int, eq_str, eq_bl, eq_non, eq_int_non, eq_non_int, eq_str_non, eq_non_str, eq_bl_non, eq_non_bl, ne_int, ne_str, ne_bl, ne_non, ne_int_non, ne_non_int, ne_str_non, ne_non_str, ne_bl_non, ne_non_bl, isNone_non, isNone_int, isNone_str, isNone_bl, isNone_tup, isNone_lst, isNone_frz, max2_int, min2_int, abs_int, int_int, int_bl, still_tup, list_tup, tuple_tup, listC_tup, sv_tup, still_lst, list_lst, tuple_lst, listC_lst, sv_lst, still_frz, list_frz, tuple_frz, listC_frz, sv_frz, r1_int, r2_int, r3_int, tg_name, tg_tup, setAll_cons, setAll_nil, mtE, g1_one, g2_two, mkL_0, mkT_0, mkC_0, mkL_1, mkT_1, mkC_1, mkL_2, mkT_2, mkC_2, mkL_3, mkT_3, mkC_3, mkL_4, mkT_4, mkC_4, bnd_S, ret_S, lineN_eq2, wipe_nil, wipe_cons]
      refine Eq.trans (seq_nx (ρ' := [some (.lst ds), some (.lst ds), none]) (S' := S) (Eq.trans (if_f (S' := S) ?_) rfl)) ?_
      · simp only [stillS_tup, stillS_lst, stillS_frz, stillS_str, nat10, nat2, runB, seqS, exS, asgS, retS, retN, dropS, ifS, nxS, nevS, brkS, cntS, setItS, forS, parS, op1, op2, chain, boolT, truT, notT, andT, orT, andE, orE, ifE, nilA, consA, appA, varD, cD, lstE, celE, tupE, slE, itE, itEn, cal_1, cal_2, cal_3, cal_4, cal_5, cal_6, cal_7, yesT, mulOk, List.map_cons, List.map_nil, List.length_cons, List.length_nil, List.getElem?_cons_zero, List.getElem?_cons_succ, List.set_cons_zero, List.set_cons_succ, List.replicate_succ, List.replicate_zero, List.cons_append, List.nil_append, List.append_nil, List.isEmpty_cons, List.isEmpty_nil, Nat.reduceAdd, Nat.reduceSub, Nat.reduceMul, Nat.reduceLeDiff, Nat.reduceEqDiff, Nat.zero_add, Nat.sub_zero, Nat.sub_self, Bool.not_true, Bool.not_false, Bool.true_and, Bool.false_and, Bool.and_true, Bool.and_false, Bool.true_or, Bool.false_or, Bool.or_true, Bool.or_false, Bool.false_eq_true, Bool.not_eq_true, Bool.not_eq_false, Bool.not_not, decide_eq_true_eq, decide_eq_false_iff_not, decide_true, decide_false, if_true, if_false, reduceIte, reduceCtorEq, Nat.zero_le, and_self, and_true, true_and, or_true, true_or, or_false, false_or, not_true_eq_false, not_false_eq_true, Int.reduceLT, Int.reduceLE, Int.reduceNeg, Int.reduceAdd, Int.reduceMul, Int.reduceSub, Int.reducePow, Int.reduceEq, Int.reduceToNat, Nat.reduceLT, Nat.reducePow, Int.cast_ofNat_Int, isi_non_int, isi_non_bool, isi_non_str, isi_non_tuple, isi_non_list, isi_non_dict, isi_non_tuple_list, isi_non_list_tuple, isi_bl_int, isi_bl_bool, isi_bl_str, isi_bl_tuple, isi_bl_list, isi_bl_dict, isi_bl_tuple_list, isi_bl_list_tuple, isi_int_int, isi_int_bool, isi_int_str, isi_int_tuple, isi_int_list, isi_int_dict, isi_int_tuple_list, isi_int_list_tuple, isi_str_int, isi_str_bool, isi_str_str, isi_str_tuple, isi_str_list, isi_str_dict, isi_str_tuple_list, isi_str_list_tuple, isi_tup_int, isi_tup_bool, isi_tup_str, isi_tup_tuple, isi_tup_list, isi_tup_dict, isi_tup_tuple_list, isi_tup_list_tuple, isi_lst_int, isi_lst_bool, isi_lst_str, isi_lst_tuple, isi_lst_list, isi_lst_dict, isi_lst_tuple_list, isi_lst_list_tuple, isi_frz_int, isi_frz_bool, isi_frz_str, isi_frz_tuple, isi_frz_list, isi_frz_dict, isi_frz_tuple_list, isi_frz_list_tuple, tru_bl, tru_int, tru_non, tru_tup, len_tup, ix_tup, tru_lst, len_lst, ix_lst, tru_frz, len_frz, ix_frz, sl_lst, sl_frz, sl_tup, asInt_int, at0, at1, at2, at3, at4, add_int, add_tup, add_str, add_lst, addC_lst, repC_lst, sub_int, mul_int, mul_lst, mul_tup, div_int, mod_int, pow_int, neg_int, not_bl, lt_int, le_int, gt_int, ge_int, eq_int, eq_str, eq_bl, eq_non, eq_int_non, eq_non_int, eq_str_non, eq_non_str, eq_bl_non, eq_non_bl, ne_int, ne_str, ne_bl, ne_non, ne_int_non, ne_non_int, ne_str_non, ne_non_str, ne_bl_non, ne_non_bl, isNone_non, isNone_int, isNone_str, isNone_bl, isNone_tup, isNone_lst, isNone_frz, max2_int, min2_int, abs_int, int_int, int_bl, still_tup, list_tup, tuple_tup, listC_tup, sv_tup, still_lst, list_lst, tuple_lst, listC_lst, sv_lst, still_frz, list_frz, tuple_frz, listC_frz, sv_frz, r1_int, r2_int, r3_int, tg_name, tg_tup, setAll_cons, setAll_nil, mtE, g1_one, g2_two, mkL_0, mkT_0, mkC_0, mkL_1, mkT_1, mkC_1, mkL_2, mkT_2, mkC_2, mkL_3, mkT_3, mkC_3, mkL_4, mkT_4, mkC_4, bnd_S, ret_S, lineN_eq2, wipe_nil, wipe_cons, beq_self_eq_true]
      refine Eq.trans (seq_nx (ρ' := [some (.lst ds), some (.lst ds), none]) (S' := S) (Eq.trans (if_f (S' := S) ?_) rfl)) ?_
      · simp only [stillS_tup, stillS_lst, stillS_frz, stillS_str, nat10, nat2, runB, seqS, exS, asgS, retS, retN, dropS, ifS, nxS, nevS, brkS, cntS, setItS, forS, parS, op1, op2, chain, boolT, truT, notT, andT, orT, andE, orE, ifE, nilA, consA, appA, varD, cD, lstE, celE, tupE, slE, itE, itEn, cal_1, cal_2, cal_3, cal_4, cal_5, cal_6, cal_7, yesT, mulOk, List.map_cons, List.map_nil, List.length_cons, List.length_nil, List.getElem?_cons_zero, List.getElem?_cons_succ, List.set_cons_zero, List.set_cons_succ, List.replicate_succ, List.replicate_zero, List.cons_append, List.nil_append, List.append_nil, List.isEmpty_cons, List.isEmpty_nil, Nat.reduceAdd, Nat.reduceSub, Nat.reduceMul, Nat.reduceLeDiff, Nat.reduceEqDiff, Nat.zero_add, Nat.sub_zero, Nat.sub_self, Bool.not_true, Bool.not_false, Bool.true_and, Bool.false_and, Bool.and_true, Bool.and_false, Bool.true_or, Bool.false_or, Bool.or_true, Bool.or_false, Bool.false_eq_true, Bool.not_eq_true, Bool.not_eq_false, Bool.not_not, decide_eq_true_eq, decide_eq_false_iff_not, decide_true, decide_false, if_true, if_false, reduceIte, reduceCtorEq, Nat.zero_le, and_self, and_true, true_and, or_true, true_or, or_false, false_or, not_true_eq_false, not_false_eq_true, Int.reduceLT, Int.reduceLE, Int.reduceNeg, Int.reduceAdd, Int.reduceMul, Int.reduceSub, Int.reducePow, Int.reduceEq, Int.reduceToNat, Nat.reduceLT, Nat.reducePow, Int.cast_ofNat_Int, isi_non_int, isi_non_bool, isi_non_str, isi_non_tuple, isi_non_list, isi_non_dict, isi_non_tuple_list, isi_non_list_tuple, isi_bl_int, isi_bl_bool, isi_bl_str, isi_bl_tuple, isi_bl_list, isi_bl_dict, isi_bl_tuple_list, isi_bl_list_tuple, isi_int_int, isi_int_bool, isi_int_str, isi_int_tuple, isi_int_list, isi_int_dict, isi_int_tuple_list, isi_int_list_tuple, isi_str_int, isi_str_bool, isi_str_str, isi_str_tuple, isi_str_list, isi_str_dict, isi_str_tuple_list, isi_str_list_tuple, isi_tup_int, isi_tup_bool, isi_tup_str, isi_tup_tuple, isi_tup_list, isi_tup_dict, isi_tup_tuple_list, isi_tup_list_tuple, isi_lst_int, isi_lst_bool, isi_lst_str, isi_lst_tuple, isi_lst_list, isi_lst_dict, isi_lst_tuple_list, isi_lst_list_tuple, isi_frz_int, isi_frz_bool, isi_frz_str, isi_frz_tuple, isi_frz_list, isi_frz_dict, isi_frz_tuple_list, isi_frz_list_tuple, tru_bl, tru_int, tru_non, tru_tup, len_tup, ix_tup, tru_lst, len_lst, ix_lst, tru_frz, len_frz, ix_frz, sl_lst, sl_frz, sl_tup, asInt_int, at0, at1, at2, at3, at4, add_int, add_tup, add_str, add_lst, addC_lst, repC_lst, sub_int, mul_int, mul_lst, mul_tup, div_int, mod_int, pow_int, neg_int, not_bl, lt_int, le_int, gt_int, ge_int, eq_int, eq_str, eq_bl, eq_non, eq_int_non, eq_non_int, eq_str_non, eq_non_str, eq_bl_non, eq_non_bl, ne_int, ne_str, ne_bl, ne_non, ne_int_non, ne_non_int, ne_str_non, ne_non_str, ne_bl_non, ne_non_bl, isNone_non, isNone_int, isNone_str, isNone_bl, isNone_tup, isNone_lst, isNone_frz, max2_int, min2_int, abs_int, int_int, int_bl, still_tup, list_tup, tuple_tup, listC_tup, sv_tup, still_lst, list_lst, tuple_lst, listC_lst, sv_lst, still_frz, list_frz, tuple_frz, listC_frz, sv_frz, r1_int, r2_int, r3_int, tg_name, tg_tup, setAll_cons, setAll_nil, mtE, g1_one, g2_two, mkL_0, mkT_0, mkC_0, mkL_1, mkT_1, mkC_1, mkL_2, mkT_2, mkC_2, mkL_3, mkT_3, mkC_3, mkL_4, mkT_4, mkC_4, bnd_S, ret_S, lineN_eq2, wipe_nil, wipe_cons]
      refine ret_ok ?_
      exact (bnd_ok c).trans (eq_nil S)
    | non => simp only [r__law_alike, b__law_alike, stillS_tup, stillS_lst, stillS_frz, stillS_str, nat10, nat2, runB, seqS, exS, asgS, retS, retN, dropS, ifS, nxS, nevS, brkS, cntS, setItS, forS, parS, op1, op2, chain, boolT, truT, notT, andT, orT, andE, orE, ifE, nilA, consA, appA, varD, cD, lstE, celE, tupE, slE, itE, itEn, cal_1, cal_2, cal_3, cal_4, cal_5, cal_6, cal_7, yesT, mulOk, List.map_cons, List.map_nil, List.length_cons, List.length_nil, List.getElem?_cons_zero, List.getElem?_cons_succ, List.set_cons_zero, List.set_cons_succ, List.replicate_succ, List.replicate_zero, List.cons_append, List.nil_append, List.append_nil, List.isEmpty_cons, List.isEmpty_nil, Nat.reduceAdd, Nat.reduceSub, Nat.reduceMul, Nat.reduceLeDiff, Nat.reduceEqDiff, Nat.zero_add, Nat.sub_zero, Nat.sub_self, Bool.not_true, Bool.not_false, Bool.true_and, Bool.false_and, Bool.and_true, Bool.and_false, Bool.true_or, Bool.false_or, Bool.or_true, Bool.or_false, Bool.false_eq_true, Bool.not_eq_true, Bool.not_eq_false, Bool.not_not, decide_eq_true_eq, decide_eq_false_iff_not, decide_true, decide_false, if_true, if_false, reduceIte, reduceCtorEq, Nat.zero_le, and_self, and_true, true_and, or_true, true_or, or_false, false_or, not_true_eq_false, not_false_eq_true, Int.reduceLT, Int.reduceLE, Int.reduceNeg, Int.reduceAdd, Int.reduceMul, Int.reduceSub, Int.reducePow, Int.reduceEq, Int.reduceToNat, Nat.reduceLT, Nat.reducePow, Int.cast_ofNat_Int, isi_non_int, isi_non_bool, isi_non_str, isi_non_tuple, isi_non_list, isi_non_dict, isi_non_tuple_list, isi_non_list_tuple, isi_bl_int, isi_bl_bool, isi_bl_str, isi_bl_tuple, isi_bl_list, isi_bl_dict, isi_bl_tuple_list, isi_bl_list_tuple, isi_int_int, isi_int_bool, isi_int_str, isi_int_tuple, isi_int_list, isi_int_dict, isi_int_tuple_list, isi_int_list_tuple, isi_str_int, isi_str_bool, isi_str_str, isi_str_tuple, isi_str_list, isi_str_dict, isi_str_tuple_list, isi_str_list_tuple, isi_tup_int, isi_tup_bool, isi_tup_str, isi_tup_tuple, isi_tup_list, isi_tup_dict, isi_tup_tuple_list, isi_tup_list_tuple, isi_lst_int, isi_lst_bool, isi_lst_str, isi_lst_tuple, isi_lst_list, isi_lst_dict, isi_lst_tuple_list, isi_lst_list_tuple, isi_frz_int, isi_frz_bool, isi_frz_str, isi_frz_tuple, isi_frz_list, isi_frz_dict, isi_frz_tuple_list, isi_frz_list_tuple, tru_bl, tru_int, tru_non, tru_tup, len_tup, ix_tup, tru_lst, len_lst, ix_lst, tru_frz, len_frz, ix_frz, sl_lst, sl_frz, sl_tup, asInt_int, at0, at1, at2, at3, at4, add_int, add_tup, add_str, add_lst, addC_lst, repC_lst, sub_int, mul_int, mul_lst, mul_tup, div_int, mod_int, pow_int, neg_int, not_bl, lt_int, le_int, gt_int, ge_int, eq_int, eq_str, eq_bl, eq_non, eq_int_non, eq_non_int, eq_str_non, eq_non_str, eq_bl_non, eq_non_bl, ne_int, ne_str, ne_bl, ne_non, ne_int_non, ne_non_int, ne_str_non, ne_non_str, ne_bl_non, ne_non_bl, isNone_non, isNone_int, isNone_str, isNone_bl, isNone_tup, isNone_lst, isNone_frz, max2_int, min2_int, abs_int, int_int, int_bl, still_tup, list_tup, tuple_tup, listC_tup, sv_tup, still_lst, list_lst, tuple_lst, listC_lst, sv_lst, still_frz, list_frz, tuple_frz, listC_frz, sv_frz, r1_int, r2_int, r3_int, tg_name, tg_tup, setAll_cons, setAll_nil, mtE, g1_one, g2_two, mkL_0, mkT_0, mkC_0, mkL_1, mkT_1, mkC_1, mkL_2, mkT_2, mkC_2, mkL_3, mkT_3, mkC_3, mkL_4, mkT_4, mkC_4, bnd_S, ret_S, lineN_eq2, wipe_nil, wipe_cons, beq_self_eq_true]
    | bl b => simp only [r__law_alike, b__law_alike, stillS_tup, stillS_lst, stillS_frz, stillS_str, nat10, nat2, runB, seqS, exS, asgS, retS, retN, dropS, ifS, nxS, nevS, brkS, cntS, setItS, forS, parS, op1, op2, chain, boolT, truT, notT, andT, orT, andE, orE, ifE, nilA, consA, appA, varD, cD, lstE, celE, tupE, slE, itE, itEn, cal_1, cal_2, cal_3, cal_4, cal_5, cal_6, cal_7, yesT, mulOk, List.map_cons, List.map_nil, List.length_cons, List.length_nil, List.getElem?_cons_zero, List.getElem?_cons_succ, List.set_cons_zero, List.set_cons_succ, List.replicate_succ, List.replicate_zero, List.cons_append, List.nil_append, List.append_nil, List.isEmpty_cons, List.isEmpty_nil, Nat.reduceAdd, Nat.reduceSub, Nat.reduceMul, Nat.reduceLeDiff, Nat.reduceEqDiff, Nat.zero_add, Nat.sub_zero, Nat.sub_self, Bool.not_true, Bool.not_false, Bool.true_and, Bool.false_and, Bool.and_true, Bool.and_false, Bool.true_or, Bool.false_or, Bool.or_true, Bool.or_false, Bool.false_eq_true, Bool.not_eq_true, Bool.not_eq_false, Bool.not_not, decide_eq_true_eq, decide_eq_false_iff_not, decide_true, decide_false, if_true, if_false, reduceIte, reduceCtorEq, Nat.zero_le, and_self, and_true, true_and, or_true, true_or, or_false, false_or, not_true_eq_false, not_false_eq_true, Int.reduceLT, Int.reduceLE, Int.reduceNeg, Int.reduceAdd, Int.reduceMul, Int.reduceSub, Int.reducePow, Int.reduceEq, Int.reduceToNat, Nat.reduceLT, Nat.reducePow, Int.cast_ofNat_Int, isi_non_int, isi_non_bool, isi_non_str, isi_non_tuple, isi_non_list, isi_non_dict, isi_non_tuple_list, isi_non_list_tuple, isi_bl_int, isi_bl_bool, isi_bl_str, isi_bl_tuple, isi_bl_list, isi_bl_dict, isi_bl_tuple_list, isi_bl_list_tuple, isi_int_int, isi_int_bool, isi_int_str, isi_int_tuple, isi_int_list, isi_int_dict, isi_int_tuple_list, isi_int_list_tuple, isi_str_int, isi_str_bool, isi_str_str, isi_str_tuple, isi_str_list, isi_str_dict, isi_str_tuple_list, isi_str_list_tuple, isi_tup_int, isi_tup_bool, isi_tup_str, isi_tup_tuple, isi_tup_list, isi_tup_dict, isi_tup_tuple_list, isi_tup_list_tuple, isi_lst_int, isi_lst_bool, isi_lst_str, isi_lst_tuple, isi_lst_list, isi_lst_dict, isi_lst_tuple_list, isi_lst_list_tuple, isi_frz_int, isi_frz_bool, isi_frz_str, isi_frz_tuple, isi_frz_list, isi_frz_dict, isi_frz_tuple_list, isi_frz_list_tuple, tru_bl, tru_int, tru_non, tru_tup, len_tup, ix_tup, tru_lst, len_lst, ix_lst, tru_frz, len_frz, ix_frz, sl_lst, sl_frz, sl_tup, asInt_int, at0, at1, at2, at3, at4, add_int, add_tup, add_str, add_lst, addC_lst, repC_lst, sub_int, mul_int, mul_lst, mul_tup, div_int, mod_int, pow_int, neg_int, not_bl, lt_int, le_int, gt_int, ge_int, eq_int, eq_str, eq_bl, eq_non, eq_int_non, eq_non_int, eq_str_non, eq_non_str, eq_bl_non, eq_non_bl, ne_int, ne_str, ne_bl, ne_non, ne_int_non, ne_non_int, ne_str_non, ne_non_str, ne_bl_non, ne_non_bl, isNone_non, isNone_int, isNone_str, isNone_bl, isNone_tup, isNone_lst, isNone_frz, max2_int, min2_int, abs_int, int_int, int_bl, still_tup, list_tup, tuple_tup, listC_tup, sv_tup, still_lst, list_lst, tuple_lst, listC_lst, sv_lst, still_frz, list_frz, tuple_frz, listC_frz, sv_frz, r1_int, r2_int, r3_int, tg_name, tg_tup, setAll_cons, setAll_nil, mtE, g1_one, g2_two, mkL_0, mkT_0, mkC_0, mkL_1, mkT_1, mkC_1, mkL_2, mkT_2, mkC_2, mkL_3, mkT_3, mkC_3, mkL_4, mkT_4, mkC_4, bnd_S, ret_S, lineN_eq2, wipe_nil, wipe_cons, beq_self_eq_true]
    | int b => simp only [r__law_alike, b__law_alike, stillS_tup, stillS_lst, stillS_frz, stillS_str, nat10, nat2, runB, seqS, exS, asgS, retS, retN, dropS, ifS, nxS, nevS, brkS, cntS, setItS, forS, parS, op1, op2, chain, boolT, truT, notT, andT, orT, andE, orE, ifE, nilA, consA, appA, varD, cD, lstE, celE, tupE, slE, itE, itEn, cal_1, cal_2, cal_3, cal_4, cal_5, cal_6, cal_7, yesT, mulOk, List.map_cons, List.map_nil, List.length_cons, List.length_nil, List.getElem?_cons_zero, List.getElem?_cons_succ, List.set_cons_zero, List.set_cons_succ, List.replicate_succ, List.replicate_zero, List.cons_append, List.nil_append, List.append_nil, List.isEmpty_cons, List.isEmpty_nil, Nat.reduceAdd, Nat.reduceSub, Nat.reduceMul, Nat.reduceLeDiff, Nat.reduceEqDiff, Nat.zero_add, Nat.sub_zero, Nat.sub_self, Bool.not_true, Bool.not_false, Bool.true_and, Bool.false_and, Bool.and_true, Bool.and_false, Bool.true_or, Bool.false_or, Bool.or_true, Bool.or_false, Bool.false_eq_true, Bool.not_eq_true, Bool.not_eq_false, Bool.not_not, decide_eq_true_eq, decide_eq_false_iff_not, decide_true, decide_false, if_true, if_false, reduceIte, reduceCtorEq, Nat.zero_le, and_self, and_true, true_and, or_true, true_or, or_false, false_or, not_true_eq_false, not_false_eq_true, Int.reduceLT, Int.reduceLE, Int.reduceNeg, Int.reduceAdd, Int.reduceMul, Int.reduceSub, Int.reducePow, Int.reduceEq, Int.reduceToNat, Nat.reduceLT, Nat.reducePow, Int.cast_ofNat_Int, isi_non_int, isi_non_bool, isi_non_str, isi_non_tuple, isi_non_list, isi_non_dict, isi_non_tuple_list, isi_non_list_tuple, isi_bl_int, isi_bl_bool, isi_bl_str, isi_bl_tuple, isi_bl_list, isi_bl_dict, isi_bl_tuple_list, isi_bl_list_tuple, isi_int_int, isi_int_bool, isi_int_str, isi_int_tuple, isi_int_list, isi_int_dict, isi_int_tuple_list, isi_int_list_tuple, isi_str_int, isi_str_bool, isi_str_str, isi_str_tuple, isi_str_list, isi_str_dict, isi_str_tuple_list, isi_str_list_tuple, isi_tup_int, isi_tup_bool, isi_tup_str, isi_tup_tuple, isi_tup_list, isi_tup_dict, isi_tup_tuple_list, isi_tup_list_tuple, isi_lst_int, isi_lst_bool, isi_lst_str, isi_lst_tuple, isi_lst_list, isi_lst_dict, isi_lst_tuple_list, isi_lst_list_tuple, isi_frz_int, isi_frz_bool, isi_frz_str, isi_frz_tuple, isi_frz_list, isi_frz_dict, isi_frz_tuple_list, isi_frz_list_tuple, tru_bl, tru_int, tru_non, tru_tup, len_tup, ix_tup, tru_lst, len_lst, ix_lst, tru_frz, len_frz, ix_frz, sl_lst, sl_frz, sl_tup, asInt_int, at0, at1, at2, at3, at4, add_int, add_tup, add_str, add_lst, addC_lst, repC_lst, sub_int, mul_int, mul_lst, mul_tup, div_int, mod_int, pow_int, neg_int, not_bl, lt_int, le_int, gt_int, ge_int, eq_int, eq_str, eq_bl, eq_non, eq_int_non, eq_non_int, eq_str_non, eq_non_str, eq_bl_non, eq_non_bl, ne_int, ne_str, ne_bl, ne_non, ne_int_non, ne_non_int, ne_str_non, ne_non_str, ne_bl_non, ne_non_bl, isNone_non, isNone_int, isNone_str, isNone_bl, isNone_tup, isNone_lst, isNone_frz, max2_int, min2_int, abs_int, int_int, int_bl, still_tup, list_tup, tuple_tup, listC_tup, sv_tup, still_lst, list_lst, tuple_lst, listC_lst, sv_lst, still_frz, list_frz, tuple_frz, listC_frz, sv_frz, r1_int, r2_int, r3_int, tg_name, tg_tup, setAll_cons, setAll_nil, mtE, g1_one, g2_two, mkL_0, mkT_0, mkC_0, mkL_1, mkT_1, mkC_1, mkL_2, mkT_2, mkC_2, mkL_3, mkT_3, mkC_3, mkL_4, mkT_4, mkC_4, bnd_S, ret_S, lineN_eq2, wipe_nil, wipe_cons, beq_self_eq_true]
    | str b => simp only [r__law_alike, b__law_alike, stillS_tup, stillS_lst, stillS_frz, stillS_str, nat10, nat2, runB, seqS, exS, asgS, retS, retN, dropS, ifS, nxS, nevS, brkS, cntS, setItS, forS, parS, op1, op2, chain, boolT, truT, notT, andT, orT, andE, orE, ifE, nilA, consA, appA, varD, cD, lstE, celE, tupE, slE, itE, itEn, cal_1, cal_2, cal_3, cal_4, cal_5, cal_6, cal_7, yesT, mulOk, List.map_cons, List.map_nil, List.length_cons, List.length_nil, List.getElem?_cons_zero, List.getElem?_cons_succ, List.set_cons_zero, List.set_cons_succ, List.replicate_succ, List.replicate_zero, List.cons_append, List.nil_append, List.append_nil, List.isEmpty_cons, List.isEmpty_nil, Nat.reduceAdd, Nat.reduceSub, Nat.reduceMul, Nat.reduceLeDiff, Nat.reduceEqDiff, Nat.zero_add, Nat.sub_zero, Nat.sub_self, Bool.not_true, Bool.not_false, Bool.true_and, Bool.false_and, Bool.and_true, Bool.and_false, Bool.true_or, Bool.false_or, Bool.or_true, Bool.or_false, Bool.false_eq_true, Bool.not_eq_true, Bool.not_eq_false, Bool.not_not, decide_eq_true_eq, decide_eq_false_iff_not, decide_true, decide_false, if_true, if_false, reduceIte, reduceCtorEq, Nat.zero_le, and_self, and_true, true_and, or_true, true_or, or_false, false_or, not_true_eq_false, not_false_eq_true, Int.reduceLT, Int.reduceLE, Int.reduceNeg, Int.reduceAdd, Int.reduceMul, Int.reduceSub, Int.reducePow, Int.reduceEq, Int.reduceToNat, Nat.reduceLT, Nat.reducePow, Int.cast_ofNat_Int, isi_non_int, isi_non_bool, isi_non_str, isi_non_tuple, isi_non_list, isi_non_dict, isi_non_tuple_list, isi_non_list_tuple, isi_bl_int, isi_bl_bool, isi_bl_str, isi_bl_tuple, isi_bl_list, isi_bl_dict, isi_bl_tuple_list, isi_bl_list_tuple, isi_int_int, isi_int_bool, isi_int_str, isi_int_tuple, isi_int_list, isi_int_dict, isi_int_tuple_list, isi_int_list_tuple, isi_str_int, isi_str_bool, isi_str_str, isi_str_tuple, isi_str_list, isi_str_dict, isi_str_tuple_list, isi_str_list_tuple, isi_tup_int, isi_tup_bool, isi_tup_str, isi_tup_tuple, isi_tup_list, isi_tup_dict, isi_tup_tuple_list, isi_tup_list_tuple, isi_lst_int, isi_lst_bool, isi_lst_str, isi_lst_tuple, isi_lst_list, isi_lst_dict, isi_lst_tuple_list, isi_lst_list_tuple, isi_frz_int, isi_frz_bool, isi_frz_str, isi_frz_tuple, isi_frz_list, isi_frz_dict, isi_frz_tuple_list, isi_frz_list_tuple, tru_bl, tru_int, tru_non, tru_tup, len_tup, ix_tup, tru_lst, len_lst, ix_lst, tru_frz, len_frz, ix_frz, sl_lst, sl_frz, sl_tup, asInt_int, at0, at1, at2, at3, at4, add_int, add_tup, add_str, add_lst, addC_lst, repC_lst, sub_int, mul_int, mul_lst, mul_tup, div_int, mod_int, pow_int, neg_int, not_bl, lt_int, le_int, gt_int, ge_int, eq_int, eq_str, eq_bl, eq_non, eq_int_non, eq_non_int, eq_str_non, eq_non_str, eq_bl_non, eq_non_bl, ne_int, ne_str, ne_bl, ne_non, ne_int_non, ne_non_int, ne_str_non, ne_non_str, ne_bl_non, ne_non_bl, isNone_non, isNone_int, isNone_str, isNone_bl, isNone_tup, isNone_lst, isNone_frz, max2_int, min2_int, abs_int, int_int, int_bl, still_tup, list_tup, tuple_tup, listC_tup, sv_tup, still_lst, list_lst, tuple_lst, listC_lst, sv_lst, still_frz, list_frz, tuple_frz, listC_frz, sv_frz, r1_int, r2_int, r3_int, tg_name, tg_tup, setAll_cons, setAll_nil, mtE, g1_one, g2_two, mkL_0, mkT_0, mkC_0, mkL_1, mkT_1, mkC_1, mkL_2, mkT_2, mkC_2, mkL_3, mkT_3, mkC_3, mkL_4, mkT_4, mkC_4, bnd_S, ret_S, lineN_eq2, wipe_nil, wipe_cons, beq_self_eq_true]
    | _ => simp [alD] at h
end F

set_option linter.all false
set_option autoImplicit false
set_option maxRecDepth 100000
set_option maxHeartbeats 1000000
/-! Rows, and how the laws draw them. -/
namespace F
open PySem
structure Row where
  nm : Str
  base : List Str
  top : Int
  bot : Int
  fix : Int
  way : Str
  unit : Int
  least : Int
def bsD (bs : List Str) : D := .tup (bs.map .str)
def rowD (r : Row) : D := .tup [.str r.nm, bsD r.base, .int r.top, .int r.bot, .int r.fix, .str r.way, .int r.unit, .int r.least]
def rowsD (rs : List Row) : D := .tup (rs.map rowD)
def menu : List Str := ["flour", "egg", "rice", "up", "tea", "least", "of"]
def ways : List Str := ["up", "down", "near"]
/-- the names of the rows without a base -/
def plain (rs : List Row) : List Str := (rs.filter fun r => r.base.isEmpty).map Row.nm
structure WRow (c : Bool) (rs : List Row) (r : Row) : Prop where
  nm : r.nm ∈ menu
  new : r.nm ∉ rs.map Row.nm
  base : ∀ b ∈ r.base, b ∈ plain rs
  nd : r.base.Nodup
  top : 0 ≤ r.top ∧ r.top ≤ 9
  bot : 1 ≤ r.bot ∧ r.bot ≤ 4
  fix : 0 ≤ r.fix ∧ r.fix ≤ 60
  way : r.way ∈ ways
  unit : r.unit ∈ [(1 : Int), 2, 3, 4, 6, 12]
  least : 0 ≤ r.least ∧ r.least ≤ 60
  calm : c = true → r.bot ≤ 3 ∧ r.fix ≤ 23 ∧ r.unit ∈ [(1 : Int), 2, 3, 6] ∧ r.least ≤ 20
def WRs (c : Bool) (rs : List Row) : Prop := ∀ (i : Nat) (h : i < rs.length), WRow c (rs.take i) rs[i]
theorem WRs.nil {c : Bool} : WRs c [] := fun i h => by simp at h
theorem WRs.snoc {c : Bool} {rs : List Row} {r : Row} (h : WRs c rs) (hr : WRow c rs r) : WRs c (rs ++ [r]) := fun i hi => by
  by_cases q : i < rs.length
  · rw [List.getElem_append_left q, List.take_append_of_le_length (by omega)]
    exact h i q
  · have : i = rs.length := by simp at hi; omega
    subst this
    rw [List.getElem_append_right (Nat.le_refl _), List.take_left']
    · simpa using hr
    · rfl
theorem WRs.pre {c : Bool} {rs : List Row} (h : WRs c rs) (n : Nat) : WRs c (rs.take n) := fun i hi => by
  have h1 : i < n ∧ i < rs.length := by simp at hi; omega
  have := h i h1.2
  rw [List.getElem_take, List.take_take, Nat.min_eq_left (by omega)]
  exact this
theorem menu_ok : ∀ z ∈ menu, PyData.strOk z = true := by decide +kernel
theorem ways_ok : ∀ z ∈ ways, PyData.strOk z = true := by decide +kernel
theorem plain_sub {rs : List Row} {b : Str} (h : b ∈ plain rs) : ∃ q ∈ rs, q.nm = b ∧ q.base = [] := by
  unfold plain at h
  obtain ⟨q, hq, e⟩ := List.mem_map.mp h
  obtain ⟨h1, h2⟩ := List.mem_filter.mp hq
  exact ⟨q, h1, e, by simpa using h2⟩
theorem WRs.mem {c : Bool} {rs : List Row} (h : WRs c rs) {r : Row} (hr : r ∈ rs) : ∃ i, ∃ hi : i < rs.length, rs[i] = r ∧ WRow c (rs.take i) r := by
  obtain ⟨i, hi, e⟩ := List.getElem_of_mem hr
  exact ⟨i, hi, e, e ▸ h i hi⟩
theorem WRs.menu {c : Bool} {rs : List Row} (h : WRs c rs) : ∀ r ∈ rs, r.nm ∈ menu := fun r hr => by
  obtain ⟨i, hi, e, w⟩ := h.mem hr
  exact w.nm
theorem WRs.names {c : Bool} {rs : List Row} (h : WRs c rs) : (rs.map Row.nm).Nodup := by
  rw [List.nodup_iff_pairwise_ne, List.pairwise_iff_getElem]
  intro i j hi hj hij e
  rw [List.length_map] at hi hj
  have := (h j hj).new
  apply this
  rw [List.getElem_map, List.getElem_map] at e
  rw [← e]
  exact List.mem_map.mpr ⟨rs[i], by rw [List.mem_take_iff_getElem]; exact ⟨i, by omega, rfl⟩, rfl⟩
theorem WRs.plain_nd {c : Bool} {rs : List Row} (h : WRs c rs) : (plain rs).Nodup := (List.filter_sublist.map _).nodup h.names
theorem WRs.baseMenu {c : Bool} {rs : List Row} (h : WRs c rs) {r : Row} (hr : r ∈ rs) : ∀ b ∈ r.base, b ∈ F.menu := fun b hb => by
  obtain ⟨i, hi, e, w⟩ := h.mem hr
  obtain ⟨q, hq, e2, _⟩ := plain_sub (w.base b hb)
  rw [← e2]
  exact h.menu q (List.mem_of_mem_take hq)
theorem okD_strs {zs : List Str} (h : ∀ z ∈ zs, PyData.strOk z = true) : ∀ d ∈ zs.map D.str, okD 0 d := fun d hd => by
  obtain ⟨z, hz, rfl⟩ := List.mem_map.mp hd
  exact okD_str (h z hz)
theorem okD_bs {zs : List Str} (h : ∀ z ∈ zs, PyData.strOk z = true) : okD 1 (bsD zs) := okD_tup (okD_strs h)
theorem okD_nil : okD 1 (.tup []) := okD_tup (n := 0) (ds := []) (fun d hd => by simp at hd)
theorem okD_nilL : okD 1 (.lst []) := okD_lst (n := 0) (ds := []) (fun d hd => by simp at hd)
theorem dq_nil (zs : List Str) : dq (bsD zs) (.tup []) = zs.isEmpty := by
  cases zs with
  | nil => rfl
  | cons z zs => rfl
theorem eq_bs {zs : List Str} (h : ∀ z ∈ zs, PyData.strOk z = true) (S : Store) : eqM (bsD zs) (.tup []) S = .ok (.bl zs.isEmpty) S := by
  rw [eqM_ok (okD_bs h) okD_nil (by omega) (by omega), dq_nil]
theorem ne_bs {zs : List Str} (h : ∀ z ∈ zs, PyData.strOk z = true) (S : Store) : neM (bsD zs) (.tup []) S = .ok (.bl (!zs.isEmpty)) S := by
  rw [neM_ok (okD_bs h) okD_nil (by omega) (by omega), dq_nil]
theorem dq_nilL (ds : List D) : dq (.lst ds) (.lst []) = ds.isEmpty := by
  cases ds with
  | nil => rfl
  | cons z zs => rfl
/-! the places of a row -/
section
variable (r : Row) (S : Store)
theorem row0 : ixD (rowD r) (.int 0) S = .ok (.str r.nm) S := rfl
theorem row1 : ixD (rowD r) (.int 1) S = .ok (bsD r.base) S := rfl
theorem row2 : ixD (rowD r) (.int 2) S = .ok (.int r.top) S := rfl
theorem row3 : ixD (rowD r) (.int 3) S = .ok (.int r.bot) S := rfl
theorem row4 : ixD (rowD r) (.int 4) S = .ok (.int r.fix) S := rfl
theorem row5 : ixD (rowD r) (.int 5) S = .ok (.str r.way) S := rfl
theorem row6 : ixD (rowD r) (.int 6) S = .ok (.int r.unit) S := rfl
theorem row7 : ixD (rowD r) (.int 7) S = .ok (.int r.least) S := rfl
theorem len_row : lenD (rowD r) S = .ok (.int 8) S := rfl
end
theorem len_rows (rs : List Row) (S : Store) : lenD (rowsD rs) S = .ok (.int rs.length) S := by
  show Out.ok (D.int (rs.map rowD).length) S = _
  rw [List.length_map]
theorem len_bs (zs : List Str) (S : Store) : lenD (bsD zs) S = .ok (.int zs.length) S := by
  show Out.ok (D.int (zs.map D.str).length) S = _
  rw [List.length_map]
theorem ix_rows (rs : List Row) (i : Nat) (h : i < rs.length) (S : Store) : ixD (rowsD rs) (.int (i : Nat)) S = .ok (rowD rs[i]) S := by
  unfold rowsD
  rw [ix_tup, at?_nat, List.getElem?_map, List.getElem?_eq_getElem h]
  rfl
theorem ix_strs (zs : List Str) (i : Nat) (h : i < zs.length) (S : Store) : ixD (.lst (zs.map .str)) (.int (i : Nat)) S = .ok (.str zs[i]) S := by
  rw [ix_lst, at?_nat, List.getElem?_map, List.getElem?_eq_getElem h]
  rfl
/-! ### drawing -/
def rot {α : Type} (xs : List α) (n : Nat) : List α := xs.drop n ++ xs.take n
theorem rot_perm {α : Type} (xs : List α) (n : Nat) : (rot xs n).Perm xs := by
  unfold rot
  have := List.perm_append_comm (l₁ := xs.drop n) (l₂ := xs.take n)
  rwa [List.take_append_drop] at this
theorem rot_len {α : Type} (xs : List α) (n : Nat) : (rot xs n).length = xs.length := (rot_perm xs n).length_eq
theorem plain_strOk {c : Bool} {rs : List Row} (h : WRs c rs) : ∀ z ∈ plain rs, PyData.strOk z = true := fun z hz => by
  obtain ⟨q, hq, e, _⟩ := plain_sub hz
  rw [← e]
  exact menu_ok _ (h.menu q hq)
theorem c_base {c : Bool} {rs : List Row} (h : WRs c rs) (hl : rs.length ≤ 5) (a b d e : Option D) (S : Store) : c__law_base_1 [a, some (rowsD rs), b, d, e] S = .ok (.lst ((plain rs).map .str)) S := by
  unfold c__law_base_1 plain
  rw [List.map_map]
  refine lcE_of rowD (fun r => r.base.isEmpty) (fun r => .str r.nm) rs rfl (by rw [lineN_eq2]; omega) fun r hr => ⟨[a, some (rowsD rs), b, d, some (rowD r)], rfl, ?_, fun _ => ?_⟩
  · have hb := fun S => eq_bs (S := S) (fun z hz => menu_ok z (h.baseMenu hr z hz))
    simp only [stillS_tup, stillS_lst, stillS_frz, stillS_str, nat10, nat2, runB, seqS, exS, asgS, retS, retN, dropS, ifS, nxS, nevS, brkS, cntS, setItS, forS, parS, op1, op2, chain, boolT, truT, notT, andT, orT, andE, orE, ifE, nilA, consA, appA, varD, cD, lstE, celE, tupE, slE, itE, itEn, cal_1, cal_2, cal_3, cal_4, cal_5, cal_6, cal_7, yesT, mulOk, List.map_cons, List.map_nil, List.length_cons, List.length_nil, List.getElem?_cons_zero, List.getElem?_cons_succ, List.set_cons_zero, List.set_cons_succ, List.replicate_succ, List.replicate_zero, List.cons_append, List.nil_append, List.append_nil, List.isEmpty_cons, List.isEmpty_nil, Nat.reduceAdd, Nat.reduceSub, Nat.reduceMul, Nat.reduceLeDiff, Nat.reduceEqDiff, Nat.zero_add, Nat.sub_zero, Nat.sub_self, Bool.not_true, Bool.not_false, Bool.true_and, Bool.false_and, Bool.and_true, Bool.and_false, Bool.true_or, Bool.false_or, Bool.or_true, Bool.or_false, Bool.false_eq_true, Bool.not_eq_true, Bool.not_eq_false, Bool.not_not, decide_eq_true_eq, decide_eq_false_iff_not, decide_true, decide_false, if_true, if_false, reduceIte, reduceCtorEq, Nat.zero_le, and_self, and_true, true_and, or_true, true_or, or_false, false_or, not_true_eq_false, not_false_eq_true, Int.reduceLT, Int.reduceLE, Int.reduceNeg, Int.reduceAdd, Int.reduceMul, Int.reduceSub, Int.reducePow, Int.reduceEq, Int.reduceToNat, Nat.reduceLT, Nat.reducePow, Int.cast_ofNat_Int, isi_non_int, isi_non_bool, isi_non_str, isi_non_tuple, isi_non_list, isi_non_dict, isi_non_tuple_list, isi_non_list_tuple, isi_bl_int, isi_bl_bool, isi_bl_str, isi_bl_tuple, isi_bl_list, isi_bl_dict, isi_bl_tuple_list, isi_bl_list_tuple, isi_int_int, isi_int_bool, isi_int_str, isi_int_tuple, isi_int_list, isi_int_dict, isi_int_tuple_list, isi_int_list_tuple, isi_str_int, isi_str_bool, isi_str_str, isi_str_tuple, isi_str_list, isi_str_dict, isi_str_tuple_list, isi_str_list_tuple, isi_tup_int, isi_tup_bool, isi_tup_str, isi_tup_tuple, isi_tup_list, isi_tup_dict, isi_tup_tuple_list, isi_tup_list_tuple, isi_lst_int, isi_lst_bool, isi_lst_str, isi_lst_tuple, isi_lst_list, isi_lst_dict, isi_lst_tuple_list, isi_lst_list_tuple, isi_frz_int, isi_frz_bool, isi_frz_str, isi_frz_tuple, isi_frz_list, isi_frz_dict, isi_frz_tuple_list, isi_frz_list_tuple, tru_bl, tru_int, tru_non, tru_tup, len_tup, ix_tup, tru_lst, len_lst, ix_lst, tru_frz, len_frz, ix_frz, sl_lst, sl_frz, sl_tup, asInt_int, at0, at1, at2, at3, at4, add_int, add_tup, add_str, add_lst, addC_lst, repC_lst, sub_int, mul_int, mul_lst, mul_tup, div_int, mod_int, pow_int, neg_int, not_bl, lt_int, le_int, gt_int, ge_int, eq_int, eq_str, eq_bl, eq_non, eq_int_non, eq_non_int, eq_str_non, eq_non_str, eq_bl_non, eq_non_bl, ne_int, ne_str, ne_bl, ne_non, ne_int_non, ne_non_int, ne_str_non, ne_non_str, ne_bl_non, ne_non_bl, isNone_non, isNone_int, isNone_str, isNone_bl, isNone_tup, isNone_lst, isNone_frz, max2_int, min2_int, abs_int, int_int, int_bl, still_tup, list_tup, tuple_tup, listC_tup, sv_tup, still_lst, list_lst, tuple_lst, listC_lst, sv_lst, still_frz, list_frz, tuple_frz, listC_frz, sv_frz, r1_int, r2_int, r3_int, tg_name, tg_tup, setAll_cons, setAll_nil, mtE, g1_one, g2_two, mkL_0, mkT_0, mkC_0, mkL_1, mkT_1, mkC_1, mkL_2, mkT_2, mkC_2, mkL_3, mkT_3, mkC_3, mkL_4, mkT_4, mkC_4, bnd_S, ret_S, lineN_eq2, wipe_nil, wipe_cons, row1, hb]
  · simp only [stillS_tup, stillS_lst, stillS_frz, stillS_str, nat10, nat2, runB, seqS, exS, asgS, retS, retN, dropS, ifS, nxS, nevS, brkS, cntS, setItS, forS, parS, op1, op2, chain, boolT, truT, notT, andT, orT, andE, orE, ifE, nilA, consA, appA, varD, cD, lstE, celE, tupE, slE, itE, itEn, cal_1, cal_2, cal_3, cal_4, cal_5, cal_6, cal_7, yesT, mulOk, List.map_cons, List.map_nil, List.length_cons, List.length_nil, List.getElem?_cons_zero, List.getElem?_cons_succ, List.set_cons_zero, List.set_cons_succ, List.replicate_succ, List.replicate_zero, List.cons_append, List.nil_append, List.append_nil, List.isEmpty_cons, List.isEmpty_nil, Nat.reduceAdd, Nat.reduceSub, Nat.reduceMul, Nat.reduceLeDiff, Nat.reduceEqDiff, Nat.zero_add, Nat.sub_zero, Nat.sub_self, Bool.not_true, Bool.not_false, Bool.true_and, Bool.false_and, Bool.and_true, Bool.and_false, Bool.true_or, Bool.false_or, Bool.or_true, Bool.or_false, Bool.false_eq_true, Bool.not_eq_true, Bool.not_eq_false, Bool.not_not, decide_eq_true_eq, decide_eq_false_iff_not, decide_true, decide_false, if_true, if_false, reduceIte, reduceCtorEq, Nat.zero_le, and_self, and_true, true_and, or_true, true_or, or_false, false_or, not_true_eq_false, not_false_eq_true, Int.reduceLT, Int.reduceLE, Int.reduceNeg, Int.reduceAdd, Int.reduceMul, Int.reduceSub, Int.reducePow, Int.reduceEq, Int.reduceToNat, Nat.reduceLT, Nat.reducePow, Int.cast_ofNat_Int, isi_non_int, isi_non_bool, isi_non_str, isi_non_tuple, isi_non_list, isi_non_dict, isi_non_tuple_list, isi_non_list_tuple, isi_bl_int, isi_bl_bool, isi_bl_str, isi_bl_tuple, isi_bl_list, isi_bl_dict, isi_bl_tuple_list, isi_bl_list_tuple, isi_int_int, isi_int_bool, isi_int_str, isi_int_tuple, isi_int_list, isi_int_dict, isi_int_tuple_list, isi_int_list_tuple, isi_str_int, isi_str_bool, isi_str_str, isi_str_tuple, isi_str_list, isi_str_dict, isi_str_tuple_list, isi_str_list_tuple, isi_tup_int, isi_tup_bool, isi_tup_str, isi_tup_tuple, isi_tup_list, isi_tup_dict, isi_tup_tuple_list, isi_tup_list_tuple, isi_lst_int, isi_lst_bool, isi_lst_str, isi_lst_tuple, isi_lst_list, isi_lst_dict, isi_lst_tuple_list, isi_lst_list_tuple, isi_frz_int, isi_frz_bool, isi_frz_str, isi_frz_tuple, isi_frz_list, isi_frz_dict, isi_frz_tuple_list, isi_frz_list_tuple, tru_bl, tru_int, tru_non, tru_tup, len_tup, ix_tup, tru_lst, len_lst, ix_lst, tru_frz, len_frz, ix_frz, sl_lst, sl_frz, sl_tup, asInt_int, at0, at1, at2, at3, at4, add_int, add_tup, add_str, add_lst, addC_lst, repC_lst, sub_int, mul_int, mul_lst, mul_tup, div_int, mod_int, pow_int, neg_int, not_bl, lt_int, le_int, gt_int, ge_int, eq_int, eq_str, eq_bl, eq_non, eq_int_non, eq_non_int, eq_str_non, eq_non_str, eq_bl_non, eq_non_bl, ne_int, ne_str, ne_bl, ne_non, ne_int_non, ne_non_int, ne_str_non, ne_non_str, ne_bl_non, ne_non_bl, isNone_non, isNone_int, isNone_str, isNone_bl, isNone_tup, isNone_lst, isNone_frz, max2_int, min2_int, abs_int, int_int, int_bl, still_tup, list_tup, tuple_tup, listC_tup, sv_tup, still_lst, list_lst, tuple_lst, listC_lst, sv_lst, still_frz, list_frz, tuple_frz, listC_frz, sv_frz, r1_int, r2_int, r3_int, tg_name, tg_tup, setAll_cons, setAll_nil, mtE, g1_one, g2_two, mkL_0, mkT_0, mkC_0, mkL_1, mkT_1, mkC_1, mkL_2, mkT_2, mkC_2, mkL_3, mkT_3, mkC_3, mkL_4, mkT_4, mkC_4, bnd_S, ret_S, lineN_eq2, wipe_nil, wipe_cons, row0]
theorem cut_rot {α : Type} (zs : List α) (f : α → D) (m : Nat) (S : Store) (h : zs.length ≤ 100) : addD (.lst (cutD (zs.map f) (some ((m : Nat) : Int)) none)) (.lst (cutD (zs.map f) none (some ((m : Nat) : Int)))) S = .ok (.lst ((rot zs m).map f)) S := by
  rw [cutD_from, cutD_upto, ← List.map_drop, ← List.map_take, add_lst, if_pos (by simp [lineN_eq2]; omega), ← List.map_append]
  rfl
theorem law_base {T S : Store} (hS : HS T S) {c : Bool} {rs : List Row} (h : WRs c rs) (hl : rs.length ≤ 5) : ∃ bs S', g__law_base [.ref 1, rowsD rs] S = .ok (bsD bs) S' ∧ (∀ b ∈ bs, b ∈ plain rs) ∧ bs.Nodup ∧ HS T S' := by
  have hc := fun S => c_base h hl (some (.ref 1)) none none none S
  have he : ∀ S, eqM (.lst ((plain rs).map .str)) (.lst []) S = .ok (.bl (plain rs).isEmpty) S := fun S => by
    rw [eqM_ok (okD_lst (okD_strs (plain_strOk h))) okD_nilL (by omega) (by omega), dq_nilL]
    simp
  have t0 : ∀ S, mkT [] S = .ok (.tup []) S := fun _ => rfl
  by_cases hp : plain rs = []
  · refine ⟨[], S, ?_, by simp, List.nodup_nil, hS⟩
    have he1 := he S
    rw [hp] at hc he1
    simp only [g__law_base, b__law_base, stillS_tup, stillS_lst, stillS_frz, stillS_str, nat10, nat2, runB, seqS, exS, asgS, retS, retN, dropS, ifS, nxS, nevS, brkS, cntS, setItS, forS, parS, op1, op2, chain, boolT, truT, notT, andT, orT, andE, orE, ifE, nilA, consA, appA, varD, cD, lstE, celE, tupE, slE, itE, itEn, cal_1, cal_2, cal_3, cal_4, cal_5, cal_6, cal_7, yesT, mulOk, List.map_cons, List.map_nil, List.length_cons, List.length_nil, List.getElem?_cons_zero, List.getElem?_cons_succ, List.set_cons_zero, List.set_cons_succ, List.replicate_succ, List.replicate_zero, List.cons_append, List.nil_append, List.append_nil, List.isEmpty_cons, List.isEmpty_nil, Nat.reduceAdd, Nat.reduceSub, Nat.reduceMul, Nat.reduceLeDiff, Nat.reduceEqDiff, Nat.zero_add, Nat.sub_zero, Nat.sub_self, Bool.not_true, Bool.not_false, Bool.true_and, Bool.false_and, Bool.and_true, Bool.and_false, Bool.true_or, Bool.false_or, Bool.or_true, Bool.or_false, Bool.false_eq_true, Bool.not_eq_true, Bool.not_eq_false, Bool.not_not, decide_eq_true_eq, decide_eq_false_iff_not, decide_true, decide_false, if_true, if_false, reduceIte, reduceCtorEq, Nat.zero_le, and_self, and_true, true_and, or_true, true_or, or_false, false_or, not_true_eq_false, not_false_eq_true, Int.reduceLT, Int.reduceLE, Int.reduceNeg, Int.reduceAdd, Int.reduceMul, Int.reduceSub, Int.reducePow, Int.reduceEq, Int.reduceToNat, Nat.reduceLT, Nat.reducePow, Int.cast_ofNat_Int, isi_non_int, isi_non_bool, isi_non_str, isi_non_tuple, isi_non_list, isi_non_dict, isi_non_tuple_list, isi_non_list_tuple, isi_bl_int, isi_bl_bool, isi_bl_str, isi_bl_tuple, isi_bl_list, isi_bl_dict, isi_bl_tuple_list, isi_bl_list_tuple, isi_int_int, isi_int_bool, isi_int_str, isi_int_tuple, isi_int_list, isi_int_dict, isi_int_tuple_list, isi_int_list_tuple, isi_str_int, isi_str_bool, isi_str_str, isi_str_tuple, isi_str_list, isi_str_dict, isi_str_tuple_list, isi_str_list_tuple, isi_tup_int, isi_tup_bool, isi_tup_str, isi_tup_tuple, isi_tup_list, isi_tup_dict, isi_tup_tuple_list, isi_tup_list_tuple, isi_lst_int, isi_lst_bool, isi_lst_str, isi_lst_tuple, isi_lst_list, isi_lst_dict, isi_lst_tuple_list, isi_lst_list_tuple, isi_frz_int, isi_frz_bool, isi_frz_str, isi_frz_tuple, isi_frz_list, isi_frz_dict, isi_frz_tuple_list, isi_frz_list_tuple, tru_bl, tru_int, tru_non, tru_tup, len_tup, ix_tup, tru_lst, len_lst, ix_lst, tru_frz, len_frz, ix_frz, sl_lst, sl_frz, sl_tup, asInt_int, at0, at1, at2, at3, at4, add_int, add_tup, add_str, add_lst, addC_lst, repC_lst, sub_int, mul_int, mul_lst, mul_tup, div_int, mod_int, pow_int, neg_int, not_bl, lt_int, le_int, gt_int, ge_int, eq_int, eq_str, eq_bl, eq_non, eq_int_non, eq_non_int, eq_str_non, eq_non_str, eq_bl_non, eq_non_bl, ne_int, ne_str, ne_bl, ne_non, ne_int_non, ne_non_int, ne_str_non, ne_non_str, ne_bl_non, ne_non_bl, isNone_non, isNone_int, isNone_str, isNone_bl, isNone_tup, isNone_lst, isNone_frz, max2_int, min2_int, abs_int, int_int, int_bl, still_tup, list_tup, tuple_tup, listC_tup, sv_tup, still_lst, list_lst, tuple_lst, listC_lst, sv_lst, still_frz, list_frz, tuple_frz, listC_frz, sv_frz, r1_int, r2_int, r3_int, tg_name, tg_tup, setAll_cons, setAll_nil, mtE, g1_one, g2_two, mkL_0, mkT_0, mkC_0, mkL_1, mkT_1, mkC_1, mkL_2, mkT_2, mkC_2, mkL_3, mkT_3, mkC_3, mkL_4, mkT_4, mkC_4, bnd_S, ret_S, lineN_eq2, wipe_nil, wipe_cons, hc, he1]
    rfl
  · obtain ⟨r, S1, e1, r0, r1, h1⟩ := law_next hS (cap := 2) (by omega) (by omega)
    have hne : (plain rs).isEmpty = false := by simpa using hp
    by_cases hr : r = 0
    · subst hr
      refine ⟨[], S1, ?_, by simp, List.nodup_nil, h1⟩
      simp only [g__law_base, b__law_base, stillS_tup, stillS_lst, stillS_frz, stillS_str, nat10, nat2, runB, seqS, exS, asgS, retS, retN, dropS, ifS, nxS, nevS, brkS, cntS, setItS, forS, parS, op1, op2, chain, boolT, truT, notT, andT, orT, andE, orE, ifE, nilA, consA, appA, varD, cD, lstE, celE, tupE, slE, itE, itEn, cal_1, cal_2, cal_3, cal_4, cal_5, cal_6, cal_7, yesT, mulOk, List.map_cons, List.map_nil, List.length_cons, List.length_nil, List.getElem?_cons_zero, List.getElem?_cons_succ, List.set_cons_zero, List.set_cons_succ, List.replicate_succ, List.replicate_zero, List.cons_append, List.nil_append, List.append_nil, List.isEmpty_cons, List.isEmpty_nil, Nat.reduceAdd, Nat.reduceSub, Nat.reduceMul, Nat.reduceLeDiff, Nat.reduceEqDiff, Nat.zero_add, Nat.sub_zero, Nat.sub_self, Bool.not_true, Bool.not_false, Bool.true_and, Bool.false_and, Bool.and_true, Bool.and_false, Bool.true_or, Bool.false_or, Bool.or_true, Bool.or_false, Bool.false_eq_true, Bool.not_eq_true, Bool.not_eq_false, Bool.not_not, decide_eq_true_eq, decide_eq_false_iff_not, decide_true, decide_false, if_true, if_false, reduceIte, reduceCtorEq, Nat.zero_le, and_self, and_true, true_and, or_true, true_or, or_false, false_or, not_true_eq_false, not_false_eq_true, Int.reduceLT, Int.reduceLE, Int.reduceNeg, Int.reduceAdd, Int.reduceMul, Int.reduceSub, Int.reducePow, Int.reduceEq, Int.reduceToNat, Nat.reduceLT, Nat.reducePow, Int.cast_ofNat_Int, isi_non_int, isi_non_bool, isi_non_str, isi_non_tuple, isi_non_list, isi_non_dict, isi_non_tuple_list, isi_non_list_tuple, isi_bl_int, isi_bl_bool, isi_bl_str, isi_bl_tuple, isi_bl_list, isi_bl_dict, isi_bl_tuple_list, isi_bl_list_tuple, isi_int_int, isi_int_bool, isi_int_str, isi_int_tuple, isi_int_list, isi_int_dict, isi_int_tuple_list, isi_int_list_tuple, isi_str_int, isi_str_bool, isi_str_str, isi_str_tuple, isi_str_list, isi_str_dict, isi_str_tuple_list, isi_str_list_tuple, isi_tup_int, isi_tup_bool, isi_tup_str, isi_tup_tuple, isi_tup_list, isi_tup_dict, isi_tup_tuple_list, isi_tup_list_tuple, isi_lst_int, isi_lst_bool, isi_lst_str, isi_lst_tuple, isi_lst_list, isi_lst_dict, isi_lst_tuple_list, isi_lst_list_tuple, isi_frz_int, isi_frz_bool, isi_frz_str, isi_frz_tuple, isi_frz_list, isi_frz_dict, isi_frz_tuple_list, isi_frz_list_tuple, tru_bl, tru_int, tru_non, tru_tup, len_tup, ix_tup, tru_lst, len_lst, ix_lst, tru_frz, len_frz, ix_frz, sl_lst, sl_frz, sl_tup, asInt_int, at0, at1, at2, at3, at4, add_int, add_tup, add_str, add_lst, addC_lst, repC_lst, sub_int, mul_int, mul_lst, mul_tup, div_int, mod_int, pow_int, neg_int, not_bl, lt_int, le_int, gt_int, ge_int, eq_int, eq_str, eq_bl, eq_non, eq_int_non, eq_non_int, eq_str_non, eq_non_str, eq_bl_non, eq_non_bl, ne_int, ne_str, ne_bl, ne_non, ne_int_non, ne_non_int, ne_str_non, ne_non_str, ne_bl_non, ne_non_bl, isNone_non, isNone_int, isNone_str, isNone_bl, isNone_tup, isNone_lst, isNone_frz, max2_int, min2_int, abs_int, int_int, int_bl, still_tup, list_tup, tuple_tup, listC_tup, sv_tup, still_lst, list_lst, tuple_lst, listC_lst, sv_lst, still_frz, list_frz, tuple_frz, listC_frz, sv_frz, r1_int, r2_int, r3_int, tg_name, tg_tup, setAll_cons, setAll_nil, mtE, g1_one, g2_two, mkL_0, mkT_0, mkC_0, mkL_1, mkT_1, mkC_1, mkL_2, mkT_2, mkC_2, mkL_3, mkT_3, mkC_3, mkL_4, mkT_4, mkC_4, bnd_S, ret_S, lineN_eq2, wipe_nil, wipe_cons, hc, he, hne, e1]
      rfl
    · have hlp : (plain rs).length ≤ 5 := by
        unfold plain
        rw [List.length_map]
        exact Nat.le_trans (List.length_filter_le _ _) hl
      have hpos : 0 < (plain rs).length := List.length_pos_iff.mpr hp
      obtain ⟨a, S2, e2, a0, a1, h2⟩ := law_next h1 (cap := (plain rs).length) (by omega) (by omega)
      obtain ⟨b, S3, e3, b0, b1, h3⟩ := law_next h2 (cap := (plain rs).length) (by omega) (by omega)
      obtain ⟨m, rfl⟩ : ∃ m : Nat, a = m := ⟨a.toNat, by omega⟩
      obtain ⟨n, rfl⟩ : ∃ n : Nat, b = n := ⟨b.toNat, by omega⟩
      have hrot := fun S => cut_rot (plain rs) D.str m S (by omega)
      have hlen : ∀ S, lenD (.lst ((plain rs).map .str)) S = .ok (.int (plain rs).length) S := fun S => by
        rw [len_lst, List.length_map]
      have hcut : cutD ((rot (plain rs) m).map D.str) none (some (1 + (n : Nat) : Int)) = ((rot (plain rs) m).take (1 + n)).map .str := by
        rw [show (1 + (n : Nat) : Int) = ((1 + n : Nat) : Int) by omega, cutD_upto, List.map_take]
      refine ⟨(rot (plain rs) m).take (1 + n), S3, ?_, fun b hb => ?_, ?_, h3⟩
      · simp only [g__law_base, b__law_base, stillS_tup, stillS_lst, stillS_frz, stillS_str, nat10, nat2, runB, seqS, exS, asgS, retS, retN, dropS, ifS, nxS, nevS, brkS, cntS, setItS, forS, parS, op1, op2, chain, boolT, truT, notT, andT, orT, andE, orE, ifE, nilA, consA, appA, varD, cD, lstE, celE, tupE, slE, itE, itEn, cal_1, cal_2, cal_3, cal_4, cal_5, cal_6, cal_7, yesT, mulOk, List.map_cons, List.map_nil, List.length_cons, List.length_nil, List.getElem?_cons_zero, List.getElem?_cons_succ, List.set_cons_zero, List.set_cons_succ, List.replicate_succ, List.replicate_zero, List.cons_append, List.nil_append, List.append_nil, List.isEmpty_cons, List.isEmpty_nil, Nat.reduceAdd, Nat.reduceSub, Nat.reduceMul, Nat.reduceLeDiff, Nat.reduceEqDiff, Nat.zero_add, Nat.sub_zero, Nat.sub_self, Bool.not_true, Bool.not_false, Bool.true_and, Bool.false_and, Bool.and_true, Bool.and_false, Bool.true_or, Bool.false_or, Bool.or_true, Bool.or_false, Bool.false_eq_true, Bool.not_eq_true, Bool.not_eq_false, Bool.not_not, decide_eq_true_eq, decide_eq_false_iff_not, decide_true, decide_false, if_true, if_false, reduceIte, reduceCtorEq, Nat.zero_le, and_self, and_true, true_and, or_true, true_or, or_false, false_or, not_true_eq_false, not_false_eq_true, Int.reduceLT, Int.reduceLE, Int.reduceNeg, Int.reduceAdd, Int.reduceMul, Int.reduceSub, Int.reducePow, Int.reduceEq, Int.reduceToNat, Nat.reduceLT, Nat.reducePow, Int.cast_ofNat_Int, isi_non_int, isi_non_bool, isi_non_str, isi_non_tuple, isi_non_list, isi_non_dict, isi_non_tuple_list, isi_non_list_tuple, isi_bl_int, isi_bl_bool, isi_bl_str, isi_bl_tuple, isi_bl_list, isi_bl_dict, isi_bl_tuple_list, isi_bl_list_tuple, isi_int_int, isi_int_bool, isi_int_str, isi_int_tuple, isi_int_list, isi_int_dict, isi_int_tuple_list, isi_int_list_tuple, isi_str_int, isi_str_bool, isi_str_str, isi_str_tuple, isi_str_list, isi_str_dict, isi_str_tuple_list, isi_str_list_tuple, isi_tup_int, isi_tup_bool, isi_tup_str, isi_tup_tuple, isi_tup_list, isi_tup_dict, isi_tup_tuple_list, isi_tup_list_tuple, isi_lst_int, isi_lst_bool, isi_lst_str, isi_lst_tuple, isi_lst_list, isi_lst_dict, isi_lst_tuple_list, isi_lst_list_tuple, isi_frz_int, isi_frz_bool, isi_frz_str, isi_frz_tuple, isi_frz_list, isi_frz_dict, isi_frz_tuple_list, isi_frz_list_tuple, tru_bl, tru_int, tru_non, tru_tup, len_tup, ix_tup, tru_lst, len_lst, ix_lst, tru_frz, len_frz, ix_frz, sl_lst, sl_frz, sl_tup, asInt_int, at0, at1, at2, at3, at4, add_int, add_tup, add_str, add_lst, addC_lst, repC_lst, sub_int, mul_int, mul_lst, mul_tup, div_int, mod_int, pow_int, neg_int, not_bl, lt_int, le_int, gt_int, ge_int, eq_int, eq_str, eq_bl, eq_non, eq_int_non, eq_non_int, eq_str_non, eq_non_str, eq_bl_non, eq_non_bl, ne_int, ne_str, ne_bl, ne_non, ne_int_non, ne_non_int, ne_str_non, ne_non_str, ne_bl_non, ne_non_bl, isNone_non, isNone_int, isNone_str, isNone_bl, isNone_tup, isNone_lst, isNone_frz, max2_int, min2_int, abs_int, int_int, int_bl, still_tup, list_tup, tuple_tup, listC_tup, sv_tup, still_lst, list_lst, tuple_lst, listC_lst, sv_lst, still_frz, list_frz, tuple_frz, listC_frz, sv_frz, r1_int, r2_int, r3_int, tg_name, tg_tup, setAll_cons, setAll_nil, mtE, g1_one, g2_two, mkL_0, mkT_0, mkC_0, mkL_1, mkT_1, mkC_1, mkL_2, mkT_2, mkC_2, mkL_3, mkT_3, mkC_3, mkL_4, mkT_4, mkC_4, bnd_S, ret_S, lineN_eq2, wipe_nil, wipe_cons, -len_lst, hlen, hc, he, hne, e1, hr, e2, e3, hrot, hcut]
        rfl
      · exact (rot_perm _ _).subset (List.mem_of_mem_take hb)
      · exact ((List.take_sublist _ _)).nodup ((rot_perm _ _).nodup_iff.mpr h.plain_nd)
/-- one of some ints -/
theorem pick_int {d : D} {ns : List Int} (h : d ∈ ns.map D.int) : ∃ i ∈ ns, d = .int i := by
  obtain ⟨i, hi, rfl⟩ := List.mem_map.mp h
  exact ⟨i, hi, rfl⟩
theorem pick_str {d : D} {ns : List Str} (h : d ∈ ns.map D.str) : ∃ i ∈ ns, d = .str i := by
  obtain ⟨i, hi, rfl⟩ := List.mem_map.mp h
  exact ⟨i, hi, rfl⟩
def units (c : Bool) : List Int := if c = true then [1, 2, 3, 6] else [1, 2, 3, 4, 6, 12]
theorem rows_turn {T S : Store} (hS : HS T S) {c : Bool} {rs : List Row} (h : WRs c rs) {names : List Str} (hn : names.length = 7) (hnm : ∀ z ∈ names, z ∈ menu) (hk : rs.length < 5)
    (hnew : names[rs.length]'(by omega) ∉ rs.map Row.nm) (at_ : D) (k : Nat) (ek : k = rs.length) (o7 o8 o9 o10 o11 o12 o13 o14 : Option D) (mn : Option D) :
    ∃ r S', WRow c rs r ∧ r.nm = names[rs.length]'(by omega) ∧ HS T S' ∧ ∃ p7 p8 p9 p10 p11 p12 p13 p14, l__law_rows_1 [some (.ref 1), some (.bl c), some at_, some (.lst (names.map .str)), some (.int (k : Nat)), some (rowsD rs), mn, o7, o8, o9, o10, o11, o12, o13, o14] S =
      .fl (.nx [some (.ref 1), some (.bl c), some at_, some (.lst (names.map .str)), some (.int (k : Nat)), some (rowsD (rs ++ [r])), mn, p7, p8, p9, p10, p11, p12, p13, p14]) S' := by
  subst ek
  obtain ⟨bs, S1, e1, b1, b2, h1⟩ := law_base hS h (by omega)
  obtain ⟨x, S2, e2, x0, x1, h2⟩ := law_next h1 (cap := 10) (by omega) (by omega)
  obtain ⟨d3, S3, e3, m3, h3⟩ := law_pick h2 (xs := ([0, 1, 1, 2, 3, 5, x] : List Int).map D.int) (by simp) (by simp)
  obtain ⟨top, t1, rfl⟩ := pick_int m3
  obtain ⟨bt, S4, e4, bt0, bt1, h4⟩ := law_next h3 (cap := if c = true then 3 else 4) (by split <;> omega) (by split <;> omega)
  obtain ⟨y, S5, e5, y0, y1, h5⟩ := law_next h4 (cap := if c = true then 21 else 61) (by split <;> omega) (by split <;> omega)
  obtain ⟨d6, S6, e6, m6, h6⟩ := law_pick h5 (xs := ([0, 0, y] : List Int).map D.int) (by simp) (by simp)
  obtain ⟨fx, f1, rfl⟩ := pick_int m6
  obtain ⟨d7, S7, e7, m7, h7⟩ := law_pick h6 (xs := ways.map D.str) (by simp [ways]) (by simp [ways])
  obtain ⟨way, w1, rfl⟩ := pick_str m7
  obtain ⟨d8, S8, e8, m8, h8⟩ := law_pick h7 (xs := (units c).map D.int) (by unfold units; split <;> simp) (by unfold units; split <;> simp)
  obtain ⟨un, u1, rfl⟩ := pick_int m8
  obtain ⟨z, S9, e9, z0, z1, h9⟩ := law_next h8 (cap := if c = true then 21 else 61) (by split <;> omega) (by split <;> omega)
  obtain ⟨d10, S10, e10, m10, h10⟩ := law_pick h9 (xs := ([0, 0, z] : List Int).map D.int) (by simp) (by simp)
  obtain ⟨ls, l1, rfl⟩ := pick_int m10
  refine ⟨⟨names[rs.length], bs, top, 1 + bt, fx, way, un, ls⟩, S10, ⟨?_, ?_, b1, b2, ?_, ?_, ?_, w1, ?_, ?_, ?_⟩, rfl, h10, ?_⟩
  · exact hnm _ (List.getElem_mem _)
  · exact hnew
  · simp only [List.mem_cons, List.not_mem_nil, or_false] at t1
    show 0 ≤ top ∧ top ≤ 9
    omega
  · show 1 ≤ 1 + bt ∧ 1 + bt ≤ 4
    split at bt1 <;> omega
  · simp only [List.mem_cons, List.not_mem_nil, or_false] at f1
    show 0 ≤ fx ∧ fx ≤ 60
    split at y1 <;> omega
  · show un ∈ [(1 : Int), 2, 3, 4, 6, 12]
    unfold units at u1
    split at u1
    · simp only [List.mem_cons, List.not_mem_nil, or_false] at u1 ⊢
      omega
    · exact u1
  · simp only [List.mem_cons, List.not_mem_nil, or_false] at l1
    show 0 ≤ ls ∧ ls ≤ 60
    split at z1 <;> omega
  · intro hc
    subst hc
    simp only [if_true] at bt1 y1 z1
    simp only [List.mem_cons, List.not_mem_nil, or_false] at f1 l1
    refine ⟨?_, ?_, u1, ?_⟩
    · show 1 + bt ≤ 3
      omega
    · show fx ≤ 23
      omega
    · show ls ≤ 20
      omega
  · refine ⟨some (.int (1 + bt)), some (.int fx), some (.str way), some (.int un), some (.int ls), some (rowD ⟨names[rs.length], bs, top, 1 + bt, fx, way, un, ls⟩), some (bsD bs), some (.int top), ?_⟩
    have ix := fun S => ix_strs names rs.length (by omega) S
    have l7 : ∀ S, mkL ([.int 0, .int 1, .int 1, .int 2, .int 3, .int 5, .int x]) S = .ok (.lst [.int 0, .int 1, .int 1, .int 2, .int 3, .int 5, .int x]) S := fun _ => rfl
    have e3 : g__law_pick [.ref 1, .lst [.int 0, .int 1, .int 1, .int 2, .int 3, .int 5, .int x]] S2 = .ok (.int top) S3 := e3
    have e6 : g__law_pick [.ref 1, .lst [.int 0, .int 0, .int y]] S5 = .ok (.int fx) S6 := e6
    have e7 : g__law_pick [.ref 1, .lst [.str "up", .str "down", .str "near"]] S6 = .ok (.str way) S7 := e7
    have e10 : g__law_pick [.ref 1, .lst [.int 0, .int 0, .int z]] S9 = .ok (.int ls) S10 := e10
    have t8 : ∀ S, mkT [.str names[rs.length], bsD bs, .int top, .int (1 + bt), .int fx, .str way, .int un, .int ls] S = .ok (rowD ⟨names[rs.length], bs, top, 1 + bt, fx, way, un, ls⟩) S := fun _ => rfl
    have t1 : ∀ d S, mkT [d] S = .ok (.tup [d]) S := fun _ _ => rfl
    have hadd : ∀ r S, addD (rowsD rs) (.tup [rowD r]) S = .ok (rowsD (rs ++ [r])) S := fun r S => by
      unfold rowsD
      rw [add_tup, if_pos (by simp [lineN_eq2]; omega), List.map_append]
      rfl
    cases c with
    | true =>
      have e8 : g__law_pick [.ref 1, .lst [.int 1, .int 2, .int 3, .int 6]] S7 = .ok (.int un) S8 := e8
      simp only [if_true] at e4 e5 e9
      simp only [l__law_rows_1, stillS_tup, stillS_lst, stillS_frz, stillS_str, nat10, nat2, runB, seqS, exS, asgS, retS, retN, dropS, ifS, nxS, nevS, brkS, cntS, setItS, forS, parS, op1, op2, chain, boolT, truT, notT, andT, orT, andE, orE, ifE, nilA, consA, appA, varD, cD, lstE, celE, tupE, slE, itE, itEn, cal_1, cal_2, cal_3, cal_4, cal_5, cal_6, cal_7, yesT, mulOk, List.map_cons, List.map_nil, List.length_cons, List.length_nil, List.getElem?_cons_zero, List.getElem?_cons_succ, List.set_cons_zero, List.set_cons_succ, List.replicate_succ, List.replicate_zero, List.cons_append, List.nil_append, List.append_nil, List.isEmpty_cons, List.isEmpty_nil, Nat.reduceAdd, Nat.reduceSub, Nat.reduceMul, Nat.reduceLeDiff, Nat.reduceEqDiff, Nat.zero_add, Nat.sub_zero, Nat.sub_self, Bool.not_true, Bool.not_false, Bool.true_and, Bool.false_and, Bool.and_true, Bool.and_false, Bool.true_or, Bool.false_or, Bool.or_true, Bool.or_false, Bool.false_eq_true, Bool.not_eq_true, Bool.not_eq_false, Bool.not_not, decide_eq_true_eq, decide_eq_false_iff_not, decide_true, decide_false, if_true, if_false, reduceIte, reduceCtorEq, Nat.zero_le, and_self, and_true, true_and, or_true, true_or, or_false, false_or, not_true_eq_false, not_false_eq_true, Int.reduceLT, Int.reduceLE, Int.reduceNeg, Int.reduceAdd, Int.reduceMul, Int.reduceSub, Int.reducePow, Int.reduceEq, Int.reduceToNat, Nat.reduceLT, Nat.reducePow, Int.cast_ofNat_Int, isi_non_int, isi_non_bool, isi_non_str, isi_non_tuple, isi_non_list, isi_non_dict, isi_non_tuple_list, isi_non_list_tuple, isi_bl_int, isi_bl_bool, isi_bl_str, isi_bl_tuple, isi_bl_list, isi_bl_dict, isi_bl_tuple_list, isi_bl_list_tuple, isi_int_int, isi_int_bool, isi_int_str, isi_int_tuple, isi_int_list, isi_int_dict, isi_int_tuple_list, isi_int_list_tuple, isi_str_int, isi_str_bool, isi_str_str, isi_str_tuple, isi_str_list, isi_str_dict, isi_str_tuple_list, isi_str_list_tuple, isi_tup_int, isi_tup_bool, isi_tup_str, isi_tup_tuple, isi_tup_list, isi_tup_dict, isi_tup_tuple_list, isi_tup_list_tuple, isi_lst_int, isi_lst_bool, isi_lst_str, isi_lst_tuple, isi_lst_list, isi_lst_dict, isi_lst_tuple_list, isi_lst_list_tuple, isi_frz_int, isi_frz_bool, isi_frz_str, isi_frz_tuple, isi_frz_list, isi_frz_dict, isi_frz_tuple_list, isi_frz_list_tuple, tru_bl, tru_int, tru_non, tru_tup, len_tup, ix_tup, tru_lst, len_lst, ix_lst, tru_frz, len_frz, ix_frz, sl_lst, sl_frz, sl_tup, asInt_int, at0, at1, at2, at3, at4, add_int, add_tup, add_str, add_lst, addC_lst, repC_lst, sub_int, mul_int, mul_lst, mul_tup, div_int, mod_int, pow_int, neg_int, not_bl, lt_int, le_int, gt_int, ge_int, eq_int, eq_str, eq_bl, eq_non, eq_int_non, eq_non_int, eq_str_non, eq_non_str, eq_bl_non, eq_non_bl, ne_int, ne_str, ne_bl, ne_non, ne_int_non, ne_non_int, ne_str_non, ne_non_str, ne_bl_non, ne_non_bl, isNone_non, isNone_int, isNone_str, isNone_bl, isNone_tup, isNone_lst, isNone_frz, max2_int, min2_int, abs_int, int_int, int_bl, still_tup, list_tup, tuple_tup, listC_tup, sv_tup, still_lst, list_lst, tuple_lst, listC_lst, sv_lst, still_frz, list_frz, tuple_frz, listC_frz, sv_frz, r1_int, r2_int, r3_int, tg_name, tg_tup, setAll_cons, setAll_nil, mtE, g1_one, g2_two, mkL_0, mkT_0, mkC_0, mkL_1, mkT_1, mkC_1, mkL_2, mkT_2, mkC_2, mkL_3, mkT_3, mkC_3, mkL_4, mkT_4, mkC_4, bnd_S, ret_S, lineN_eq2, wipe_nil, wipe_cons, e1, e2, l7, e3, e4, e5, e6, e7, e8, e9, e10, ix, t8, t1, hadd]
    | false =>
      have lu : ∀ S, mkL ([.int 1, .int 2, .int 3, .int 4, .int 6, .int 12]) S = .ok (.lst [.int 1, .int 2, .int 3, .int 4, .int 6, .int 12]) S := fun _ => rfl
      have e8 : g__law_pick [.ref 1, .lst [.int 1, .int 2, .int 3, .int 4, .int 6, .int 12]] S7 = .ok (.int un) S8 := e8
      simp only [Bool.false_eq_true, if_false] at e4 e5 e9
      simp only [l__law_rows_1, stillS_tup, stillS_lst, stillS_frz, stillS_str, nat10, nat2, runB, seqS, exS, asgS, retS, retN, dropS, ifS, nxS, nevS, brkS, cntS, setItS, forS, parS, op1, op2, chain, boolT, truT, notT, andT, orT, andE, orE, ifE, nilA, consA, appA, varD, cD, lstE, celE, tupE, slE, itE, itEn, cal_1, cal_2, cal_3, cal_4, cal_5, cal_6, cal_7, yesT, mulOk, List.map_cons, List.map_nil, List.length_cons, List.length_nil, List.getElem?_cons_zero, List.getElem?_cons_succ, List.set_cons_zero, List.set_cons_succ, List.replicate_succ, List.replicate_zero, List.cons_append, List.nil_append, List.append_nil, List.isEmpty_cons, List.isEmpty_nil, Nat.reduceAdd, Nat.reduceSub, Nat.reduceMul, Nat.reduceLeDiff, Nat.reduceEqDiff, Nat.zero_add, Nat.sub_zero, Nat.sub_self, Bool.not_true, Bool.not_false, Bool.true_and, Bool.false_and, Bool.and_true, Bool.and_false, Bool.true_or, Bool.false_or, Bool.or_true, Bool.or_false, Bool.false_eq_true, Bool.not_eq_true, Bool.not_eq_false, Bool.not_not, decide_eq_true_eq, decide_eq_false_iff_not, decide_true, decide_false, if_true, if_false, reduceIte, reduceCtorEq, Nat.zero_le, and_self, and_true, true_and, or_true, true_or, or_false, false_or, not_true_eq_false, not_false_eq_true, Int.reduceLT, Int.reduceLE, Int.reduceNeg, Int.reduceAdd, Int.reduceMul, Int.reduceSub, Int.reducePow, Int.reduceEq, Int.reduceToNat, Nat.reduceLT, Nat.reducePow, Int.cast_ofNat_Int, isi_non_int, isi_non_bool, isi_non_str, isi_non_tuple, isi_non_list, isi_non_dict, isi_non_tuple_list, isi_non_list_tuple, isi_bl_int, isi_bl_bool, isi_bl_str, isi_bl_tuple, isi_bl_list, isi_bl_dict, isi_bl_tuple_list, isi_bl_list_tuple, isi_int_int, isi_int_bool, isi_int_str, isi_int_tuple, isi_int_list, isi_int_dict, isi_int_tuple_list, isi_int_list_tuple, isi_str_int, isi_str_bool, isi_str_str, isi_str_tuple, isi_str_list, isi_str_dict, isi_str_tuple_list, isi_str_list_tuple, isi_tup_int, isi_tup_bool, isi_tup_str, isi_tup_tuple, isi_tup_list, isi_tup_dict, isi_tup_tuple_list, isi_tup_list_tuple, isi_lst_int, isi_lst_bool, isi_lst_str, isi_lst_tuple, isi_lst_list, isi_lst_dict, isi_lst_tuple_list, isi_lst_list_tuple, isi_frz_int, isi_frz_bool, isi_frz_str, isi_frz_tuple, isi_frz_list, isi_frz_dict, isi_frz_tuple_list, isi_frz_list_tuple, tru_bl, tru_int, tru_non, tru_tup, len_tup, ix_tup, tru_lst, len_lst, ix_lst, tru_frz, len_frz, ix_frz, sl_lst, sl_frz, sl_tup, asInt_int, at0, at1, at2, at3, at4, add_int, add_tup, add_str, add_lst, addC_lst, repC_lst, sub_int, mul_int, mul_lst, mul_tup, div_int, mod_int, pow_int, neg_int, not_bl, lt_int, le_int, gt_int, ge_int, eq_int, eq_str, eq_bl, eq_non, eq_int_non, eq_non_int, eq_str_non, eq_non_str, eq_bl_non, eq_non_bl, ne_int, ne_str, ne_bl, ne_non, ne_int_non, ne_non_int, ne_str_non, ne_non_str, ne_bl_non, ne_non_bl, isNone_non, isNone_int, isNone_str, isNone_bl, isNone_tup, isNone_lst, isNone_frz, max2_int, min2_int, abs_int, int_int, int_bl, still_tup, list_tup, tuple_tup, listC_tup, sv_tup, still_lst, list_lst, tuple_lst, listC_lst, sv_lst, still_frz, list_frz, tuple_frz, listC_frz, sv_frz, r1_int, r2_int, r3_int, tg_name, tg_tup, setAll_cons, setAll_nil, mtE, g1_one, g2_two, mkL_0, mkT_0, mkC_0, mkL_1, mkT_1, mkC_1, mkL_2, mkT_2, mkC_2, mkL_3, mkT_3, mkC_3, mkL_4, mkT_4, mkC_4, bnd_S, ret_S, lineN_eq2, wipe_nil, wipe_cons, e1, e2, l7, e3, e4, e5, e6, e7, lu, e8, e9, e10, ix, t8, t1, hadd]
theorem rot_menu (n : Nat) : (rot menu n).length = 7 ∧ (rot menu n).Nodup ∧ ∀ z ∈ rot menu n, z ∈ menu :=
  ⟨rot_len _ _, (rot_perm _ _).nodup_iff.mpr (by decide +kernel), fun z hz => (rot_perm _ _).subset hz⟩
def mostRows (c : Bool) : Nat := if c = true then 3 else 5
theorem law_rows {T S : Store} (hS : HS T S) (c : Bool) : ∃ rs S', g__law_rows [.ref 1, .bl c] S = .ok (rowsD rs) S' ∧ WRs c rs ∧ 1 ≤ rs.length ∧ rs.length ≤ mostRows c ∧ HS T S' := by
  obtain ⟨a, S1, e1, a0, a1, h1⟩ := law_next hS (cap := 7) (by omega) (by omega)
  obtain ⟨m, rfl⟩ : ∃ m : Nat, a = m := ⟨a.toNat, by omega⟩
  obtain ⟨b, S2, e2, b0, b1, h2⟩ := law_next h1 (cap := if c = true then 3 else 5) (by split <;> omega) (by split <;> omega)
  obtain ⟨n, rfl⟩ : ∃ n : Nat, b = n := ⟨b.toNat, by omega⟩
  have hn5 : n < mostRows c := by
    unfold mostRows
    split at b1 <;> split <;> first | omega | (exfalso; simp_all)
  have hm5 : mostRows c ≤ 5 := by unfold mostRows; split <;> omega
  obtain ⟨l7, nd, hmn⟩ := rot_menu m
  obtain ⟨ρ2, S3, e3, rs, p7, p8, p9, p10, p11, p12, p13, p14, o4, eρ, hlen, hW, hnames, hH⟩ := forGo_ind (t := .name 4) (f := l__law_rows_1) (ds := (List.range (1 + n)).map fun (i : Nat) => D.int (i : Nat))
    (fun k ρ S => ∃ rs p7 p8 p9 p10 p11 p12 p13 p14 o4, ρ = [some (.ref 1), some (.bl c), some (.int (m : Nat)), some (.lst ((rot menu m).map .str)), o4, some (rowsD rs), some (.lst (menu.map .str)), p7, p8, p9, p10, p11, p12, p13, p14] ∧ rs.length = k ∧ WRs c rs ∧
      rs.map Row.nm = (rot menu m).take k ∧ HS T S)
    (ρ := [some (.ref 1), some (.bl c), some (.int (m : Nat)), some (.lst ((rot menu m).map .str)), none, some (rowsD []), some (.lst (menu.map .str)), none, none, none, none, none, none, none, none]) (S := S2)
    ⟨[], none, none, none, none, none, none, none, none, none, rfl, rfl, WRs.nil, rfl, h2⟩
    (fun k hk ρ S ⟨rs, p7, p8, p9, p10, p11, p12, p13, p14, o4, eρ, hlen, hW, hnames, hH⟩ => by
      subst eρ
      rw [List.length_map, List.length_range] at hk
      have hnew : (rot menu m)[rs.length]'(by omega) ∉ rs.map Row.nm := by
        rw [hnames]
        intro hmem
        rw [List.mem_take_iff_getElem] at hmem
        obtain ⟨i, hi, e⟩ := hmem
        have := (List.getElem_inj nd).mp e
        omega
      obtain ⟨r, S', w, hnm, hH', q7, q8, q9, q10, q11, q12, q13, q14, e⟩ := rows_turn hH hW l7 hmn (by omega) hnew (.int (m : Nat)) k (by omega) p7 p8 p9 p10 p11 p12 p13 p14 (some (.lst (menu.map .str)))
      refine ⟨_, _, S', ?_, .inl e, rs ++ [r], q7, q8, q9, q10, q11, q12, q13, q14, _, rfl, by simp [hlen], hW.snoc w, ?_, hH'⟩
      · rw [List.getElem_map, List.getElem_range]; rfl
      · rw [List.map_append, hnames, List.map_singleton, hnm, List.take_add_one, List.getElem?_eq_getElem (by omega)]
        subst hlen
        rfl)
  subst eρ
  rw [List.length_map, List.length_range] at hlen
  refine ⟨rs, S3, ?_, hW, by omega, by omega, hH⟩
  refine run_rt (ρ0 := [some (.ref 1), some (.bl c), none, none, none, none, none, none, none, none, none, none, none, none, none]) rfl ?_
  unfold b__law_rows
  refine Eq.trans (seq_nx (ρ' := [some (.ref 1), some (.bl c), none, none, none, some (.tup []), some (.lst (menu.map .str)), none, none, none, none, none, none, none, none]) (S' := S) rfl) ?_
  refine Eq.trans (seq_nx (ρ' := [some (.ref 1), some (.bl c), some (.int (m : Nat)), none, none, some (.tup []), some (.lst (menu.map .str)), none, none, none, none, none, none, none, none]) (S' := S1) ?_) ?_
  · have hl : ∀ S, lenD (.lst (menu.map .str)) S = .ok (.int 7) S := fun _ => rfl
    simp only [stillS_tup, stillS_lst, stillS_frz, stillS_str, nat10, nat2, runB, seqS, exS, asgS, retS, retN, dropS, ifS, nxS, nevS, brkS, cntS, setItS, forS, parS, op1, op2, chain, boolT, truT, notT, andT, orT, andE, orE, ifE, nilA, consA, appA, varD, cD, lstE, celE, tupE, slE, itE, itEn, cal_1, cal_2, cal_3, cal_4, cal_5, cal_6, cal_7, yesT, mulOk, List.map_cons, List.map_nil, List.length_cons, List.length_nil, List.getElem?_cons_zero, List.getElem?_cons_succ, List.set_cons_zero, List.set_cons_succ, List.replicate_succ, List.replicate_zero, List.cons_append, List.nil_append, List.append_nil, List.isEmpty_cons, List.isEmpty_nil, Nat.reduceAdd, Nat.reduceSub, Nat.reduceMul, Nat.reduceLeDiff, Nat.reduceEqDiff, Nat.zero_add, Nat.sub_zero, Nat.sub_self, Bool.not_true, Bool.not_false, Bool.true_and, Bool.false_and, Bool.and_true, Bool.and_false, Bool.true_or, Bool.false_or, Bool.or_true, Bool.or_false, Bool.false_eq_true, Bool.not_eq_true, Bool.not_eq_false, Bool.not_not, decide_eq_true_eq, decide_eq_false_iff_not, decide_true, decide_false, if_true, if_false, reduceIte, reduceCtorEq, Nat.zero_le, and_self, and_true, true_and, or_true, true_or, or_false, false_or, not_true_eq_false, not_false_eq_true, Int.reduceLT, Int.reduceLE, Int.reduceNeg, Int.reduceAdd, Int.reduceMul, Int.reduceSub, Int.reducePow, Int.reduceEq, Int.reduceToNat, Nat.reduceLT, Nat.reducePow, Int.cast_ofNat_Int, isi_non_int, isi_non_bool, isi_non_str, isi_non_tuple, isi_non_list, isi_non_dict, isi_non_tuple_list, isi_non_list_tuple, isi_bl_int, isi_bl_bool, isi_bl_str, isi_bl_tuple, isi_bl_list, isi_bl_dict, isi_bl_tuple_list, isi_bl_list_tuple, isi_int_int, isi_int_bool, isi_int_str, isi_int_tuple, isi_int_list, isi_int_dict, isi_int_tuple_list, isi_int_list_tuple, isi_str_int, isi_str_bool, isi_str_str, isi_str_tuple, isi_str_list, isi_str_dict, isi_str_tuple_list, isi_str_list_tuple, isi_tup_int, isi_tup_bool, isi_tup_str, isi_tup_tuple, isi_tup_list, isi_tup_dict, isi_tup_tuple_list, isi_tup_list_tuple, isi_lst_int, isi_lst_bool, isi_lst_str, isi_lst_tuple, isi_lst_list, isi_lst_dict, isi_lst_tuple_list, isi_lst_list_tuple, isi_frz_int, isi_frz_bool, isi_frz_str, isi_frz_tuple, isi_frz_list, isi_frz_dict, isi_frz_tuple_list, isi_frz_list_tuple, tru_bl, tru_int, tru_non, tru_tup, len_tup, ix_tup, tru_lst, len_lst, ix_lst, tru_frz, len_frz, ix_frz, sl_lst, sl_frz, sl_tup, asInt_int, at0, at1, at2, at3, at4, add_int, add_tup, add_str, add_lst, addC_lst, repC_lst, sub_int, mul_int, mul_lst, mul_tup, div_int, mod_int, pow_int, neg_int, not_bl, lt_int, le_int, gt_int, ge_int, eq_int, eq_str, eq_bl, eq_non, eq_int_non, eq_non_int, eq_str_non, eq_non_str, eq_bl_non, eq_non_bl, ne_int, ne_str, ne_bl, ne_non, ne_int_non, ne_non_int, ne_str_non, ne_non_str, ne_bl_non, ne_non_bl, isNone_non, isNone_int, isNone_str, isNone_bl, isNone_tup, isNone_lst, isNone_frz, max2_int, min2_int, abs_int, int_int, int_bl, still_tup, list_tup, tuple_tup, listC_tup, sv_tup, still_lst, list_lst, tuple_lst, listC_lst, sv_lst, still_frz, list_frz, tuple_frz, listC_frz, sv_frz, r1_int, r2_int, r3_int, tg_name, tg_tup, setAll_cons, setAll_nil, mtE, g1_one, g2_two, mkL_0, mkT_0, mkC_0, mkL_1, mkT_1, mkC_1, mkL_2, mkT_2, mkC_2, mkL_3, mkT_3, mkC_3, mkL_4, mkT_4, mkC_4, bnd_S, ret_S, lineN_eq2, wipe_nil, wipe_cons, -len_lst, hl, e1]
  refine Eq.trans (seq_nx (ρ' := [some (.ref 1), some (.bl c), some (.int (m : Nat)), some (.lst ((rot menu m).map .str)), none, some (.tup []), some (.lst (menu.map .str)), none, none, none, none, none, none, none, none]) (S' := S1) ?_) ?_
  · have hr := fun S => cut_rot menu D.str m S (by decide)
    simp only [stillS_tup, stillS_lst, stillS_frz, stillS_str, nat10, nat2, runB, seqS, exS, asgS, retS, retN, dropS, ifS, nxS, nevS, brkS, cntS, setItS, forS, parS, op1, op2, chain, boolT, truT, notT, andT, orT, andE, orE, ifE, nilA, consA, appA, varD, cD, lstE, celE, tupE, slE, itE, itEn, cal_1, cal_2, cal_3, cal_4, cal_5, cal_6, cal_7, yesT, mulOk, List.map_cons, List.map_nil, List.length_cons, List.length_nil, List.getElem?_cons_zero, List.getElem?_cons_succ, List.set_cons_zero, List.set_cons_succ, List.replicate_succ, List.replicate_zero, List.cons_append, List.nil_append, List.append_nil, List.isEmpty_cons, List.isEmpty_nil, Nat.reduceAdd, Nat.reduceSub, Nat.reduceMul, Nat.reduceLeDiff, Nat.reduceEqDiff, Nat.zero_add, Nat.sub_zero, Nat.sub_self, Bool.not_true, Bool.not_false, Bool.true_and, Bool.false_and, Bool.and_true, Bool.and_false, Bool.true_or, Bool.false_or, Bool.or_true, Bool.or_false, Bool.false_eq_true, Bool.not_eq_true, Bool.not_eq_false, Bool.not_not, decide_eq_true_eq, decide_eq_false_iff_not, decide_true, decide_false, if_true, if_false, reduceIte, reduceCtorEq, Nat.zero_le, and_self, and_true, true_and, or_true, true_or, or_false, false_or, not_true_eq_false, not_false_eq_true, Int.reduceLT, Int.reduceLE, Int.reduceNeg, Int.reduceAdd, Int.reduceMul, Int.reduceSub, Int.reducePow, Int.reduceEq, Int.reduceToNat, Nat.reduceLT, Nat.reducePow, Int.cast_ofNat_Int, isi_non_int, isi_non_bool, isi_non_str, isi_non_tuple, isi_non_list, isi_non_dict, isi_non_tuple_list, isi_non_list_tuple, isi_bl_int, isi_bl_bool, isi_bl_str, isi_bl_tuple, isi_bl_list, isi_bl_dict, isi_bl_tuple_list, isi_bl_list_tuple, isi_int_int, isi_int_bool, isi_int_str, isi_int_tuple, isi_int_list, isi_int_dict, isi_int_tuple_list, isi_int_list_tuple, isi_str_int, isi_str_bool, isi_str_str, isi_str_tuple, isi_str_list, isi_str_dict, isi_str_tuple_list, isi_str_list_tuple, isi_tup_int, isi_tup_bool, isi_tup_str, isi_tup_tuple, isi_tup_list, isi_tup_dict, isi_tup_tuple_list, isi_tup_list_tuple, isi_lst_int, isi_lst_bool, isi_lst_str, isi_lst_tuple, isi_lst_list, isi_lst_dict, isi_lst_tuple_list, isi_lst_list_tuple, isi_frz_int, isi_frz_bool, isi_frz_str, isi_frz_tuple, isi_frz_list, isi_frz_dict, isi_frz_tuple_list, isi_frz_list_tuple, tru_bl, tru_int, tru_non, tru_tup, len_tup, ix_tup, tru_lst, len_lst, ix_lst, tru_frz, len_frz, ix_frz, sl_lst, sl_frz, sl_tup, asInt_int, at0, at1, at2, at3, at4, add_int, add_tup, add_str, add_lst, addC_lst, repC_lst, sub_int, mul_int, mul_lst, mul_tup, div_int, mod_int, pow_int, neg_int, not_bl, lt_int, le_int, gt_int, ge_int, eq_int, eq_str, eq_bl, eq_non, eq_int_non, eq_non_int, eq_str_non, eq_non_str, eq_bl_non, eq_non_bl, ne_int, ne_str, ne_bl, ne_non, ne_int_non, ne_non_int, ne_str_non, ne_non_str, ne_bl_non, ne_non_bl, isNone_non, isNone_int, isNone_str, isNone_bl, isNone_tup, isNone_lst, isNone_frz, max2_int, min2_int, abs_int, int_int, int_bl, still_tup, list_tup, tuple_tup, listC_tup, sv_tup, still_lst, list_lst, tuple_lst, listC_lst, sv_lst, still_frz, list_frz, tuple_frz, listC_frz, sv_frz, r1_int, r2_int, r3_int, tg_name, tg_tup, setAll_cons, setAll_nil, mtE, g1_one, g2_two, mkL_0, mkT_0, mkC_0, mkL_1, mkT_1, mkC_1, mkL_2, mkT_2, mkC_2, mkL_3, mkT_3, mkC_3, mkL_4, mkT_4, mkC_4, bnd_S, ret_S, lineN_eq2, wipe_nil, wipe_cons, hr]
  refine Eq.trans (seq_nx ((for_ok (ds := (List.range (1 + n)).map fun (i : Nat) => D.int (i : Nat)) (S' := S2) ?_).trans e3)) ?_
  · have hr : itR1 [.int (1 + (n : Nat) : Int)] S2 = .ok ((List.range (1 + n)).map fun (i : Nat) => D.int (i : Nat)) S2 := by
      rw [r1_int, if_pos (by omega), show (1 + (n : Nat) : Int).toNat = 1 + n by omega]
    cases c with
    | true =>
      simp only [if_true] at e2
      simp only [stillS_tup, stillS_lst, stillS_frz, stillS_str, nat10, nat2, runB, seqS, exS, asgS, retS, retN, dropS, ifS, nxS, nevS, brkS, cntS, setItS, forS, parS, op1, op2, chain, boolT, truT, notT, andT, orT, andE, orE, ifE, nilA, consA, appA, varD, cD, lstE, celE, tupE, slE, itE, itEn, cal_1, cal_2, cal_3, cal_4, cal_5, cal_6, cal_7, yesT, mulOk, List.map_cons, List.map_nil, List.length_cons, List.length_nil, List.getElem?_cons_zero, List.getElem?_cons_succ, List.set_cons_zero, List.set_cons_succ, List.replicate_succ, List.replicate_zero, List.cons_append, List.nil_append, List.append_nil, List.isEmpty_cons, List.isEmpty_nil, Nat.reduceAdd, Nat.reduceSub, Nat.reduceMul, Nat.reduceLeDiff, Nat.reduceEqDiff, Nat.zero_add, Nat.sub_zero, Nat.sub_self, Bool.not_true, Bool.not_false, Bool.true_and, Bool.false_and, Bool.and_true, Bool.and_false, Bool.true_or, Bool.false_or, Bool.or_true, Bool.or_false, Bool.false_eq_true, Bool.not_eq_true, Bool.not_eq_false, Bool.not_not, decide_eq_true_eq, decide_eq_false_iff_not, decide_true, decide_false, if_true, if_false, reduceIte, reduceCtorEq, Nat.zero_le, and_self, and_true, true_and, or_true, true_or, or_false, false_or, not_true_eq_false, not_false_eq_true, Int.reduceLT, Int.reduceLE, Int.reduceNeg, Int.reduceAdd, Int.reduceMul, Int.reduceSub, Int.reducePow, Int.reduceEq, Int.reduceToNat, Nat.reduceLT, Nat.reducePow, Int.cast_ofNat_Int, isi_non_int, isi_non_bool, isi_non_str, isi_non_tuple, isi_non_list, isi_non_dict, isi_non_tuple_list, isi_non_list_tuple, isi_bl_int, isi_bl_bool, isi_bl_str, isi_bl_tuple, isi_bl_list, isi_bl_dict, isi_bl_tuple_list, isi_bl_list_tuple, isi_int_int, isi_int_bool, isi_int_str, isi_int_tuple, isi_int_list, isi_int_dict, isi_int_tuple_list, isi_int_list_tuple, isi_str_int, isi_str_bool, isi_str_str, isi_str_tuple, isi_str_list, isi_str_dict, isi_str_tuple_list, isi_str_list_tuple, isi_tup_int, isi_tup_bool, isi_tup_str, isi_tup_tuple, isi_tup_list, isi_tup_dict, isi_tup_tuple_list, isi_tup_list_tuple, isi_lst_int, isi_lst_bool, isi_lst_str, isi_lst_tuple, isi_lst_list, isi_lst_dict, isi_lst_tuple_list, isi_lst_list_tuple, isi_frz_int, isi_frz_bool, isi_frz_str, isi_frz_tuple, isi_frz_list, isi_frz_dict, isi_frz_tuple_list, isi_frz_list_tuple, tru_bl, tru_int, tru_non, tru_tup, len_tup, ix_tup, tru_lst, len_lst, ix_lst, tru_frz, len_frz, ix_frz, sl_lst, sl_frz, sl_tup, asInt_int, at0, at1, at2, at3, at4, add_int, add_tup, add_str, add_lst, addC_lst, repC_lst, sub_int, mul_int, mul_lst, mul_tup, div_int, mod_int, pow_int, neg_int, not_bl, lt_int, le_int, gt_int, ge_int, eq_int, eq_str, eq_bl, eq_non, eq_int_non, eq_non_int, eq_str_non, eq_non_str, eq_bl_non, eq_non_bl, ne_int, ne_str, ne_bl, ne_non, ne_int_non, ne_non_int, ne_str_non, ne_non_str, ne_bl_non, ne_non_bl, isNone_non, isNone_int, isNone_str, isNone_bl, isNone_tup, isNone_lst, isNone_frz, max2_int, min2_int, abs_int, int_int, int_bl, still_tup, list_tup, tuple_tup, listC_tup, sv_tup, still_lst, list_lst, tuple_lst, listC_lst, sv_lst, still_frz, list_frz, tuple_frz, listC_frz, sv_frz, r1_int, r2_int, r3_int, tg_name, tg_tup, setAll_cons, setAll_nil, mtE, g1_one, g2_two, mkL_0, mkT_0, mkC_0, mkL_1, mkT_1, mkC_1, mkL_2, mkT_2, mkC_2, mkL_3, mkT_3, mkC_3, mkL_4, mkT_4, mkC_4, bnd_S, ret_S, lineN_eq2, wipe_nil, wipe_cons, -r1_int, e2, hr]
    | false =>
      simp only [Bool.false_eq_true, if_false] at e2
      simp only [stillS_tup, stillS_lst, stillS_frz, stillS_str, nat10, nat2, runB, seqS, exS, asgS, retS, retN, dropS, ifS, nxS, nevS, brkS, cntS, setItS, forS, parS, op1, op2, chain, boolT, truT, notT, andT, orT, andE, orE, ifE, nilA, consA, appA, varD, cD, lstE, celE, tupE, slE, itE, itEn, cal_1, cal_2, cal_3, cal_4, cal_5, cal_6, cal_7, yesT, mulOk, List.map_cons, List.map_nil, List.length_cons, List.length_nil, List.getElem?_cons_zero, List.getElem?_cons_succ, List.set_cons_zero, List.set_cons_succ, List.replicate_succ, List.replicate_zero, List.cons_append, List.nil_append, List.append_nil, List.isEmpty_cons, List.isEmpty_nil, Nat.reduceAdd, Nat.reduceSub, Nat.reduceMul, Nat.reduceLeDiff, Nat.reduceEqDiff, Nat.zero_add, Nat.sub_zero, Nat.sub_self, Bool.not_true, Bool.not_false, Bool.true_and, Bool.false_and, Bool.and_true, Bool.and_false, Bool.true_or, Bool.false_or, Bool.or_true, Bool.or_false, Bool.false_eq_true, Bool.not_eq_true, Bool.not_eq_false, Bool.not_not, decide_eq_true_eq, decide_eq_false_iff_not, decide_true, decide_false, if_true, if_false, reduceIte, reduceCtorEq, Nat.zero_le, and_self, and_true, true_and, or_true, true_or, or_false, false_or, not_true_eq_false, not_false_eq_true, Int.reduceLT, Int.reduceLE, Int.reduceNeg, Int.reduceAdd, Int.reduceMul, Int.reduceSub, Int.reducePow, Int.reduceEq, Int.reduceToNat, Nat.reduceLT, Nat.reducePow, Int.cast_ofNat_Int, isi_non_int, isi_non_bool, isi_non_str, isi_non_tuple, isi_non_list, isi_non_dict, isi_non_tuple_list, isi_non_list_tuple, isi_bl_int, isi_bl_bool, isi_bl_str, isi_bl_tuple, isi_bl_list, isi_bl_dict, isi_bl_tuple_list, isi_bl_list_tuple, isi_int_int, isi_int_bool, isi_int_str, isi_int_tuple, isi_int_list, isi_int_dict, isi_int_tuple_list, isi_int_list_tuple, isi_str_int, isi_str_bool, isi_str_str, isi_str_tuple, isi_str_list, isi_str_dict, isi_str_tuple_list, isi_str_list_tuple, isi_tup_int, isi_tup_bool, isi_tup_str, isi_tup_tuple, isi_tup_list, isi_tup_dict, isi_tup_tuple_list, isi_tup_list_tuple, isi_lst_int, isi_lst_bool, isi_lst_str, isi_lst_tuple, isi_lst_list, isi_lst_dict, isi_lst_tuple_list, isi_lst_list_tuple, isi_frz_int, isi_frz_bool, isi_frz_str, isi_frz_tuple, isi_frz_list, isi_frz_dict, isi_frz_tuple_list, isi_frz_list_tuple, tru_bl, tru_int, tru_non, tru_tup, len_tup, ix_tup, tru_lst, len_lst, ix_lst, tru_frz, len_frz, ix_frz, sl_lst, sl_frz, sl_tup, asInt_int, at0, at1, at2, at3, at4, add_int, add_tup, add_str, add_lst, addC_lst, repC_lst, sub_int, mul_int, mul_lst, mul_tup, div_int, mod_int, pow_int, neg_int, not_bl, lt_int, le_int, gt_int, ge_int, eq_int, eq_str, eq_bl, eq_non, eq_int_non, eq_non_int, eq_str_non, eq_non_str, eq_bl_non, eq_non_bl, ne_int, ne_str, ne_bl, ne_non, ne_int_non, ne_non_int, ne_str_non, ne_non_str, ne_bl_non, ne_non_bl, isNone_non, isNone_int, isNone_str, isNone_bl, isNone_tup, isNone_lst, isNone_frz, max2_int, min2_int, abs_int, int_int, int_bl, still_tup, list_tup, tuple_tup, listC_tup, sv_tup, still_lst, list_lst, tuple_lst, listC_lst, sv_lst, still_frz, list_frz, tuple_frz, listC_frz, sv_frz, r1_int, r2_int, r3_int, tg_name, tg_tup, setAll_cons, setAll_nil, mtE, g1_one, g2_two, mkL_0, mkT_0, mkC_0, mkL_1, mkT_1, mkC_1, mkL_2, mkT_2, mkC_2, mkL_3, mkT_3, mkC_3, mkL_4, mkT_4, mkC_4, bnd_S, ret_S, lineN_eq2, wipe_nil, wipe_cons, -r1_int, e2, hr]
  rfl
end F

set_option linter.all false
set_option autoImplicit false
set_option maxRecDepth 100000
set_option maxHeartbeats 1000000
/-! Recipes of such rows are made; their rows are found. -/
namespace F
open PySem
def recD (rs : List Row) : D := .ins "Recipe" [("table", rowsD rs)]
theorem is_int_int (i a b : Int) (S : Store) : g_is_integer [.int i, .int a, .int b] S = .ok (.bl (decide (a ≤ i) && decide (i ≤ b))) S := by
  by_cases h : a ≤ i
  · simp only [g_is_integer, b_is_integer, stillS_tup, stillS_lst, stillS_frz, stillS_str, nat10, nat2, runB, seqS, exS, asgS, retS, retN, dropS, ifS, nxS, nevS, brkS, cntS, setItS, forS, parS, op1, op2, chain, boolT, truT, notT, andT, orT, andE, orE, ifE, nilA, consA, appA, varD, cD, lstE, celE, tupE, slE, itE, itEn, cal_1, cal_2, cal_3, cal_4, cal_5, cal_6, cal_7, yesT, mulOk, List.map_cons, List.map_nil, List.length_cons, List.length_nil, List.getElem?_cons_zero, List.getElem?_cons_succ, List.set_cons_zero, List.set_cons_succ, List.replicate_succ, List.replicate_zero, List.cons_append, List.nil_append, List.append_nil, List.isEmpty_cons, List.isEmpty_nil, Nat.reduceAdd, Nat.reduceSub, Nat.reduceMul, Nat.reduceLeDiff, Nat.reduceEqDiff, Nat.zero_add, Nat.sub_zero, Nat.sub_self, Bool.not_true, Bool.not_false, Bool.true_and, Bool.false_and, Bool.and_true, Bool.and_false, Bool.true_or, Bool.false_or, Bool.or_true, Bool.or_false, Bool.false_eq_true, Bool.not_eq_true, Bool.not_eq_false, Bool.not_not, decide_eq_true_eq, decide_eq_false_iff_not, decide_true, decide_false, if_true, if_false, reduceIte, reduceCtorEq, Nat.zero_le, and_self, and_true, true_and, or_true, true_or, or_false, false_or, not_true_eq_false, not_false_eq_true, Int.reduceLT, Int.reduceLE, Int.reduceNeg, Int.reduceAdd, Int.reduceMul, Int.reduceSub, Int.reducePow, Int.reduceEq, Int.reduceToNat, Nat.reduceLT, Nat.reducePow, Int.cast_ofNat_Int, isi_non_int, isi_non_bool, isi_non_str, isi_non_tuple, isi_non_list, isi_non_dict, isi_non_tuple_list, isi_non_list_tuple, isi_bl_int, isi_bl_bool, isi_bl_str, isi_bl_tuple, isi_bl_list, isi_bl_dict, isi_bl_tuple_list, isi_bl_list_tuple, isi_int_int, isi_int_bool, isi_int_str, isi_int_tuple, isi_int_list, isi_int_dict, isi_int_tuple_list, isi_int_list_tuple, isi_str_int, isi_str_bool, isi_str_str, isi_str_tuple, isi_str_list, isi_str_dict, isi_str_tuple_list, isi_str_list_tuple, isi_tup_int, isi_tup_bool, isi_tup_str, isi_tup_tuple, isi_tup_list, isi_tup_dict, isi_tup_tuple_list, isi_tup_list_tuple, isi_lst_int, isi_lst_bool, isi_lst_str, isi_lst_tuple, isi_lst_list, isi_lst_dict, isi_lst_tuple_list, isi_lst_list_tuple, isi_frz_int, isi_frz_bool, isi_frz_str, isi_frz_tuple, isi_frz_list, isi_frz_dict, isi_frz_tuple_list, isi_frz_list_tuple, tru_bl, tru_int, tru_non, tru_tup, len_tup, ix_tup, tru_lst, len_lst, ix_lst, tru_frz, len_frz, ix_frz, sl_lst, sl_frz, sl_tup, asInt_int, at0, at1, at2, at3, at4, add_int, add_tup, add_str, add_lst, addC_lst, repC_lst, sub_int, mul_int, mul_lst, mul_tup, div_int, mod_int, pow_int, neg_int, not_bl, lt_int, le_int, gt_int, ge_int, eq_int, eq_str, eq_bl, eq_non, eq_int_non, eq_non_int, eq_str_non, eq_non_str, eq_bl_non, eq_non_bl, ne_int, ne_str, ne_bl, ne_non, ne_int_non, ne_non_int, ne_str_non, ne_non_str, ne_bl_non, ne_non_bl, isNone_non, isNone_int, isNone_str, isNone_bl, isNone_tup, isNone_lst, isNone_frz, max2_int, min2_int, abs_int, int_int, int_bl, still_tup, list_tup, tuple_tup, listC_tup, sv_tup, still_lst, list_lst, tuple_lst, listC_lst, sv_lst, still_frz, list_frz, tuple_frz, listC_frz, sv_frz, r1_int, r2_int, r3_int, tg_name, tg_tup, setAll_cons, setAll_nil, mtE, g1_one, g2_two, mkL_0, mkT_0, mkC_0, mkL_1, mkT_1, mkC_1, mkL_2, mkT_2, mkC_2, mkL_3, mkT_3, mkC_3, mkL_4, mkT_4, mkC_4, bnd_S, ret_S, lineN_eq2, wipe_nil, wipe_cons, h]
  · simp only [g_is_integer, b_is_integer, stillS_tup, stillS_lst, stillS_frz, stillS_str, nat10, nat2, runB, seqS, exS, asgS, retS, retN, dropS, ifS, nxS, nevS, brkS, cntS, setItS, forS, parS, op1, op2, chain, boolT, truT, notT, andT, orT, andE, orE, ifE, nilA, consA, appA, varD, cD, lstE, celE, tupE, slE, itE, itEn, cal_1, cal_2, cal_3, cal_4, cal_5, cal_6, cal_7, yesT, mulOk, List.map_cons, List.map_nil, List.length_cons, List.length_nil, List.getElem?_cons_zero, List.getElem?_cons_succ, List.set_cons_zero, List.set_cons_succ, List.replicate_succ, List.replicate_zero, List.cons_append, List.nil_append, List.append_nil, List.isEmpty_cons, List.isEmpty_nil, Nat.reduceAdd, Nat.reduceSub, Nat.reduceMul, Nat.reduceLeDiff, Nat.reduceEqDiff, Nat.zero_add, Nat.sub_zero, Nat.sub_self, Bool.not_true, Bool.not_false, Bool.true_and, Bool.false_and, Bool.and_true, Bool.and_false, Bool.true_or, Bool.false_or, Bool.or_true, Bool.or_false, Bool.false_eq_true, Bool.not_eq_true, Bool.not_eq_false, Bool.not_not, decide_eq_true_eq, decide_eq_false_iff_not, decide_true, decide_false, if_true, if_false, reduceIte, reduceCtorEq, Nat.zero_le, and_self, and_true, true_and, or_true, true_or, or_false, false_or, not_true_eq_false, not_false_eq_true, Int.reduceLT, Int.reduceLE, Int.reduceNeg, Int.reduceAdd, Int.reduceMul, Int.reduceSub, Int.reducePow, Int.reduceEq, Int.reduceToNat, Nat.reduceLT, Nat.reducePow, Int.cast_ofNat_Int, isi_non_int, isi_non_bool, isi_non_str, isi_non_tuple, isi_non_list, isi_non_dict, isi_non_tuple_list, isi_non_list_tuple, isi_bl_int, isi_bl_bool, isi_bl_str, isi_bl_tuple, isi_bl_list, isi_bl_dict, isi_bl_tuple_list, isi_bl_list_tuple, isi_int_int, isi_int_bool, isi_int_str, isi_int_tuple, isi_int_list, isi_int_dict, isi_int_tuple_list, isi_int_list_tuple, isi_str_int, isi_str_bool, isi_str_str, isi_str_tuple, isi_str_list, isi_str_dict, isi_str_tuple_list, isi_str_list_tuple, isi_tup_int, isi_tup_bool, isi_tup_str, isi_tup_tuple, isi_tup_list, isi_tup_dict, isi_tup_tuple_list, isi_tup_list_tuple, isi_lst_int, isi_lst_bool, isi_lst_str, isi_lst_tuple, isi_lst_list, isi_lst_dict, isi_lst_tuple_list, isi_lst_list_tuple, isi_frz_int, isi_frz_bool, isi_frz_str, isi_frz_tuple, isi_frz_list, isi_frz_dict, isi_frz_tuple_list, isi_frz_list_tuple, tru_bl, tru_int, tru_non, tru_tup, len_tup, ix_tup, tru_lst, len_lst, ix_lst, tru_frz, len_frz, ix_frz, sl_lst, sl_frz, sl_tup, asInt_int, at0, at1, at2, at3, at4, add_int, add_tup, add_str, add_lst, addC_lst, repC_lst, sub_int, mul_int, mul_lst, mul_tup, div_int, mod_int, pow_int, neg_int, not_bl, lt_int, le_int, gt_int, ge_int, eq_int, eq_str, eq_bl, eq_non, eq_int_non, eq_non_int, eq_str_non, eq_non_str, eq_bl_non, eq_non_bl, ne_int, ne_str, ne_bl, ne_non, ne_int_non, ne_non_int, ne_str_non, ne_non_str, ne_bl_non, ne_non_bl, isNone_non, isNone_int, isNone_str, isNone_bl, isNone_tup, isNone_lst, isNone_frz, max2_int, min2_int, abs_int, int_int, int_bl, still_tup, list_tup, tuple_tup, listC_tup, sv_tup, still_lst, list_lst, tuple_lst, listC_lst, sv_lst, still_frz, list_frz, tuple_frz, listC_frz, sv_frz, r1_int, r2_int, r3_int, tg_name, tg_tup, setAll_cons, setAll_nil, mtE, g1_one, g2_two, mkL_0, mkT_0, mkC_0, mkL_1, mkT_1, mkC_1, mkL_2, mkT_2, mkC_2, mkL_3, mkT_3, mkC_3, mkL_4, mkT_4, mkC_4, bnd_S, ret_S, lineN_eq2, wipe_nil, wipe_cons, h]
theorem is_int_t {i a b : Int} (h : a ≤ i ∧ i ≤ b) (S : Store) : g_is_integer [.int i, .int a, .int b] S = .ok (.bl true) S := by
  rw [is_int_int, decide_eq_true h.1, decide_eq_true h.2]; rfl
theorem is_name_menu : ∀ z ∈ menu, ∀ S, g_is_name [.str z] S = .ok (.bl true) S := by
  intro z hz S
  simp only [menu, List.mem_cons, List.not_mem_nil, or_false] at hz
  rcases hz with rfl | rfl | rfl | rfl | rfl | rfl | rfl <;> rfl
theorem addS_new {acc : List Str} {v : Str} (h : v ∉ acc) : addS acc v = acc ++ [v] := by
  unfold addS
  rw [if_neg]
  rw [List.any_eq_true]
  rintro ⟨x, hx, e⟩
  rw [beq_iff_eq.mp e] at hx
  exact h hx
theorem foldl_addS : ∀ (xs acc : List Str), (acc ++ xs).Nodup → xs.foldl addS acc = acc ++ xs
  | [], acc, _ => by simp
  | x :: xs, acc, h => by
    have hx : x ∉ acc := fun hx => by
      rw [List.nodup_append] at h
      exact h.2.2 x hx x (by simp) rfl
    rw [List.foldl_cons, addS_new hx, foldl_addS xs (acc ++ [x]) (by simpa using h)]
    simp
theorem metS_nd {xs : List Str} (h : xs.Nodup) : (metS xs xs.length).length = xs.length := by
  unfold metS
  rw [List.take_length, foldl_addS xs [] (by simpa using h)]
  simp
theorem strs?_map : ∀ zs : List Str, strs? (zs.map .str) = some zs
  | [] => rfl
  | z :: zs => by
    rw [List.map_cons]
    unfold strs?
    rw [strs?_map zs]
theorem lenSet_nd {zs : List Str} (h : zs.Nodup) (hl : zs.length ≤ 1000) (S : Store) : lenSetD (bsD zs) S = .ok (.int zs.length) S := by
  show (match strs? (zs.map .str) with | some ss => if ss.length ≤ 1000 then Out.ok (D.int (metS ss ss.length).length) S else .stuck | none => .stuck) = _
  rw [strs?_map]
  dsimp only
  rw [if_pos hl, metS_nd h]
theorem bls_true {α : Type} (xs : List α) : bls? (xs.map fun _ => D.bl true) = some (xs.map fun _ => true) := bls?_map (fun _ => true) xs
theorem all_true {α : Type} (xs : List α) (S : Store) : allD (.lst (xs.map fun _ => D.bl true)) S = .ok (.bl true) S := by
  show (match bls? (xs.map fun _ => D.bl true) with | some ns => Out.ok (D.bl (ns.all id)) S | none => .stuck) = _
  rw [bls_true]
  dsimp only
  have : (xs.map fun _ => true).all id = true := by simp
  rw [this]
theorem all_bls {α : Type} (xs : List α) (f : α → Bool) (S : Store) : allD (.lst (xs.map fun x => D.bl (f x))) S = .ok (.bl (xs.all f)) S := by
  show (match bls? (xs.map fun x => D.bl (f x)) with | some ns => Out.ok (D.bl (ns.all id)) S | none => .stuck) = _
  rw [bls?_map]
  dsimp only
  have : (xs.map f).all id = xs.all f := by simp [List.all_map]
  rw [this]
theorem in_strs {z : Str} {zs : List Str} (hz : PyData.strOk z = true) (h : ∀ x ∈ zs, PyData.strOk x = true) (S : Store) : inD (.str z) (.lst (zs.map .str)) S = .ok (.bl (decide (z ∈ zs))) S := by
  rw [inD_ok (n := 0) (m := 0) rfl (okD_str hz) (okD_strs h) (by omega) (by omega)]
  congr 2
  rw [Bool.eq_iff_iff, any_dq (n := 0) (m := 0) (okD_str hz) (okD_strs h), decide_eq_true_iff]
  simp
theorem in_bs {z : Str} {zs : List Str} (hz : PyData.strOk z = true) (h : ∀ x ∈ zs, PyData.strOk x = true) (S : Store) : inD (.str z) (bsD zs) S = .ok (.bl (decide (z ∈ zs))) S := by
  unfold bsD
  rw [inD_ok (n := 0) (m := 0) rfl (okD_str hz) (okD_strs h) (by omega) (by omega)]
  congr 2
  rw [Bool.eq_iff_iff, any_dq (n := 0) (m := 0) (okD_str hz) (okD_strs h), decide_eq_true_iff]
  simp
theorem notIn_strs {z : Str} {zs : List Str} (hz : PyData.strOk z = true) (h : ∀ x ∈ zs, PyData.strOk x = true) (S : Store) : notInD (.str z) (.lst (zs.map .str)) S = .ok (.bl (!decide (z ∈ zs))) S := by
  rw [notInD_ok (n := 0) (m := 0) rfl (okD_str hz) (okD_strs h) (by omega) (by omega)]
  congr 3
  rw [Bool.eq_iff_iff, any_dq (n := 0) (m := 0) (okD_str hz) (okD_strs h), decide_eq_true_iff]
  simp
theorem notIn_bs {z : Str} {zs : List Str} (hz : PyData.strOk z = true) (h : ∀ x ∈ zs, PyData.strOk x = true) (S : Store) : notInD (.str z) (bsD zs) S = .ok (.bl (!decide (z ∈ zs))) S := by
  unfold bsD
  rw [notInD_ok (n := 0) (m := 0) rfl (okD_str hz) (okD_strs h) (by omega) (by omega)]
  congr 3
  rw [Bool.eq_iff_iff, any_dq (n := 0) (m := 0) (okD_str hz) (okD_strs h), decide_eq_true_iff]
  simp
theorem in_ints {i : Int} {ns : List Int} (S : Store) : inD (.int i) (.tup (ns.map .int)) S = .ok (.bl (decide (i ∈ ns))) S := by
  have hk : ∀ d ∈ ns.map D.int, okD 0 d := fun d hd => by
    obtain ⟨z, hz, rfl⟩ := List.mem_map.mp hd
    exact okD_int z
  rw [inD_ok (n := 0) (m := 0) rfl (okD_int i) hk (by omega) (by omega)]
  congr 2
  rw [Bool.eq_iff_iff, any_dq (n := 0) (m := 0) (okD_int i) hk, decide_eq_true_iff]
  simp
theorem c_isb2 {c : Bool} {rs : List Row} (h : WRs c rs) (hl : rs.length ≤ 5) (a b d e : Option D) (S : Store) : c_is_base_2 [a, some (rowsD rs), b, d, e] S = .ok (.lst ((plain rs).map .str)) S := by
  unfold c_is_base_2 plain
  rw [List.map_map]
  refine lcE_of rowD (fun r => r.base.isEmpty) (fun r => .str r.nm) rs rfl (by rw [lineN_eq2]; omega) fun r hr => ⟨[a, some (rowsD rs), b, some (rowD r), e], rfl, ?_, fun _ => ?_⟩
  · have hb := fun S => eq_bs (S := S) (fun z hz => menu_ok z (h.baseMenu hr z hz))
    simp only [stillS_tup, stillS_lst, stillS_frz, stillS_str, nat10, nat2, runB, seqS, exS, asgS, retS, retN, dropS, ifS, nxS, nevS, brkS, cntS, setItS, forS, parS, op1, op2, chain, boolT, truT, notT, andT, orT, andE, orE, ifE, nilA, consA, appA, varD, cD, lstE, celE, tupE, slE, itE, itEn, cal_1, cal_2, cal_3, cal_4, cal_5, cal_6, cal_7, yesT, mulOk, List.map_cons, List.map_nil, List.length_cons, List.length_nil, List.getElem?_cons_zero, List.getElem?_cons_succ, List.set_cons_zero, List.set_cons_succ, List.replicate_succ, List.replicate_zero, List.cons_append, List.nil_append, List.append_nil, List.isEmpty_cons, List.isEmpty_nil, Nat.reduceAdd, Nat.reduceSub, Nat.reduceMul, Nat.reduceLeDiff, Nat.reduceEqDiff, Nat.zero_add, Nat.sub_zero, Nat.sub_self, Bool.not_true, Bool.not_false, Bool.true_and, Bool.false_and, Bool.and_true, Bool.and_false, Bool.true_or, Bool.false_or, Bool.or_true, Bool.or_false, Bool.false_eq_true, Bool.not_eq_true, Bool.not_eq_false, Bool.not_not, decide_eq_true_eq, decide_eq_false_iff_not, decide_true, decide_false, if_true, if_false, reduceIte, reduceCtorEq, Nat.zero_le, and_self, and_true, true_and, or_true, true_or, or_false, false_or, not_true_eq_false, not_false_eq_true, Int.reduceLT, Int.reduceLE, Int.reduceNeg, Int.reduceAdd, Int.reduceMul, Int.reduceSub, Int.reducePow, Int.reduceEq, Int.reduceToNat, Nat.reduceLT, Nat.reducePow, Int.cast_ofNat_Int, isi_non_int, isi_non_bool, isi_non_str, isi_non_tuple, isi_non_list, isi_non_dict, isi_non_tuple_list, isi_non_list_tuple, isi_bl_int, isi_bl_bool, isi_bl_str, isi_bl_tuple, isi_bl_list, isi_bl_dict, isi_bl_tuple_list, isi_bl_list_tuple, isi_int_int, isi_int_bool, isi_int_str, isi_int_tuple, isi_int_list, isi_int_dict, isi_int_tuple_list, isi_int_list_tuple, isi_str_int, isi_str_bool, isi_str_str, isi_str_tuple, isi_str_list, isi_str_dict, isi_str_tuple_list, isi_str_list_tuple, isi_tup_int, isi_tup_bool, isi_tup_str, isi_tup_tuple, isi_tup_list, isi_tup_dict, isi_tup_tuple_list, isi_tup_list_tuple, isi_lst_int, isi_lst_bool, isi_lst_str, isi_lst_tuple, isi_lst_list, isi_lst_dict, isi_lst_tuple_list, isi_lst_list_tuple, isi_frz_int, isi_frz_bool, isi_frz_str, isi_frz_tuple, isi_frz_list, isi_frz_dict, isi_frz_tuple_list, isi_frz_list_tuple, tru_bl, tru_int, tru_non, tru_tup, len_tup, ix_tup, tru_lst, len_lst, ix_lst, tru_frz, len_frz, ix_frz, sl_lst, sl_frz, sl_tup, asInt_int, at0, at1, at2, at3, at4, add_int, add_tup, add_str, add_lst, addC_lst, repC_lst, sub_int, mul_int, mul_lst, mul_tup, div_int, mod_int, pow_int, neg_int, not_bl, lt_int, le_int, gt_int, ge_int, eq_int, eq_str, eq_bl, eq_non, eq_int_non, eq_non_int, eq_str_non, eq_non_str, eq_bl_non, eq_non_bl, ne_int, ne_str, ne_bl, ne_non, ne_int_non, ne_non_int, ne_str_non, ne_non_str, ne_bl_non, ne_non_bl, isNone_non, isNone_int, isNone_str, isNone_bl, isNone_tup, isNone_lst, isNone_frz, max2_int, min2_int, abs_int, int_int, int_bl, still_tup, list_tup, tuple_tup, listC_tup, sv_tup, still_lst, list_lst, tuple_lst, listC_lst, sv_lst, still_frz, list_frz, tuple_frz, listC_frz, sv_frz, r1_int, r2_int, r3_int, tg_name, tg_tup, setAll_cons, setAll_nil, mtE, g1_one, g2_two, mkL_0, mkT_0, mkC_0, mkL_1, mkT_1, mkC_1, mkL_2, mkT_2, mkC_2, mkL_3, mkT_3, mkC_3, mkL_4, mkT_4, mkC_4, bnd_S, ret_S, lineN_eq2, wipe_nil, wipe_cons, row1, hb]
  · simp only [stillS_tup, stillS_lst, stillS_frz, stillS_str, nat10, nat2, runB, seqS, exS, asgS, retS, retN, dropS, ifS, nxS, nevS, brkS, cntS, setItS, forS, parS, op1, op2, chain, boolT, truT, notT, andT, orT, andE, orE, ifE, nilA, consA, appA, varD, cD, lstE, celE, tupE, slE, itE, itEn, cal_1, cal_2, cal_3, cal_4, cal_5, cal_6, cal_7, yesT, mulOk, List.map_cons, List.map_nil, List.length_cons, List.length_nil, List.getElem?_cons_zero, List.getElem?_cons_succ, List.set_cons_zero, List.set_cons_succ, List.replicate_succ, List.replicate_zero, List.cons_append, List.nil_append, List.append_nil, List.isEmpty_cons, List.isEmpty_nil, Nat.reduceAdd, Nat.reduceSub, Nat.reduceMul, Nat.reduceLeDiff, Nat.reduceEqDiff, Nat.zero_add, Nat.sub_zero, Nat.sub_self, Bool.not_true, Bool.not_false, Bool.true_and, Bool.false_and, Bool.and_true, Bool.and_false, Bool.true_or, Bool.false_or, Bool.or_true, Bool.or_false, Bool.false_eq_true, Bool.not_eq_true, Bool.not_eq_false, Bool.not_not, decide_eq_true_eq, decide_eq_false_iff_not, decide_true, decide_false, if_true, if_false, reduceIte, reduceCtorEq, Nat.zero_le, and_self, and_true, true_and, or_true, true_or, or_false, false_or, not_true_eq_false, not_false_eq_true, Int.reduceLT, Int.reduceLE, Int.reduceNeg, Int.reduceAdd, Int.reduceMul, Int.reduceSub, Int.reducePow, Int.reduceEq, Int.reduceToNat, Nat.reduceLT, Nat.reducePow, Int.cast_ofNat_Int, isi_non_int, isi_non_bool, isi_non_str, isi_non_tuple, isi_non_list, isi_non_dict, isi_non_tuple_list, isi_non_list_tuple, isi_bl_int, isi_bl_bool, isi_bl_str, isi_bl_tuple, isi_bl_list, isi_bl_dict, isi_bl_tuple_list, isi_bl_list_tuple, isi_int_int, isi_int_bool, isi_int_str, isi_int_tuple, isi_int_list, isi_int_dict, isi_int_tuple_list, isi_int_list_tuple, isi_str_int, isi_str_bool, isi_str_str, isi_str_tuple, isi_str_list, isi_str_dict, isi_str_tuple_list, isi_str_list_tuple, isi_tup_int, isi_tup_bool, isi_tup_str, isi_tup_tuple, isi_tup_list, isi_tup_dict, isi_tup_tuple_list, isi_tup_list_tuple, isi_lst_int, isi_lst_bool, isi_lst_str, isi_lst_tuple, isi_lst_list, isi_lst_dict, isi_lst_tuple_list, isi_lst_list_tuple, isi_frz_int, isi_frz_bool, isi_frz_str, isi_frz_tuple, isi_frz_list, isi_frz_dict, isi_frz_tuple_list, isi_frz_list_tuple, tru_bl, tru_int, tru_non, tru_tup, len_tup, ix_tup, tru_lst, len_lst, ix_lst, tru_frz, len_frz, ix_frz, sl_lst, sl_frz, sl_tup, asInt_int, at0, at1, at2, at3, at4, add_int, add_tup, add_str, add_lst, addC_lst, repC_lst, sub_int, mul_int, mul_lst, mul_tup, div_int, mod_int, pow_int, neg_int, not_bl, lt_int, le_int, gt_int, ge_int, eq_int, eq_str, eq_bl, eq_non, eq_int_non, eq_non_int, eq_str_non, eq_non_str, eq_bl_non, eq_non_bl, ne_int, ne_str, ne_bl, ne_non, ne_int_non, ne_non_int, ne_str_non, ne_non_str, ne_bl_non, ne_non_bl, isNone_non, isNone_int, isNone_str, isNone_bl, isNone_tup, isNone_lst, isNone_frz, max2_int, min2_int, abs_int, int_int, int_bl, still_tup, list_tup, tuple_tup, listC_tup, sv_tup, still_lst, list_lst, tuple_lst, listC_lst, sv_lst, still_frz, list_frz, tuple_frz, listC_frz, sv_frz, r1_int, r2_int, r3_int, tg_name, tg_tup, setAll_cons, setAll_nil, mtE, g1_one, g2_two, mkL_0, mkT_0, mkC_0, mkL_1, mkT_1, mkC_1, mkL_2, mkT_2, mkC_2, mkL_3, mkT_3, mkC_3, mkL_4, mkT_4, mkC_4, bnd_S, ret_S, lineN_eq2, wipe_nil, wipe_cons, row0]
theorem nodup_len {α : Type} [DecidableEq α] : ∀ (l m : List α), l.Nodup → (∀ x ∈ l, x ∈ m) → l.length ≤ m.length
  | [], m, _, _ => by simp
  | x :: l, m, hn, hs => by
    rw [List.nodup_cons] at hn
    have hx : x ∈ m := hs x (by simp)
    have := nodup_len l (m.erase x) hn.2 (fun y hy => by
      have hne : y ≠ x := fun z => hn.1 (z ▸ hy)
      exact (List.mem_erase_of_ne hne).mpr (hs y (by simp [hy])))
    rw [List.length_erase_of_mem hx] at this
    have hpos := List.length_pos_of_mem hx
    rw [List.length_cons]
    omega
theorem is_base_ok {c : Bool} {rs : List Row} (h : WRs c rs) (hl : rs.length ≤ 5) {bs : List Str} (hb : ∀ b ∈ bs, b ∈ plain rs) (hn : bs.Nodup) (S : Store) : g_is_base [bsD bs, rowsD rs] S = .ok (.bl true) S := by
  have h2 := fun S => c_isb2 h hl (some (bsD bs)) none none none S
  have hlen : bs.length ≤ 5 := by
    have h1 : bs.length ≤ (plain rs).length := nodup_len _ _ hn hb
    have h2 : (plain rs).length ≤ rs.length := by
      unfold plain
      rw [List.length_map]
      exact List.length_filter_le _ _
    omega
  have h1 : ∀ S, c_is_base_1 [some (bsD bs), some (rowsD rs), some (.lst ((plain rs).map .str)), none, none] S = .ok (.lst (bs.map fun _ => .bl true)) S := fun S => by
    unfold c_is_base_1
    refine lcE_all D.str (fun _ => .bl true) bs rfl (by rw [lineN_eq2]; omega) fun z hz => ⟨[some (bsD bs), some (rowsD rs), some (.lst ((plain rs).map .str)), none, some (.str z)], rfl, rfl, ?_⟩
    have hi := fun S => in_strs (S := S) (plain_strOk h z (hb z hz)) (plain_strOk h)
    have hd : decide (z ∈ plain rs) = true := decide_eq_true (hb z hz)
    simp only [stillS_tup, stillS_lst, stillS_frz, stillS_str, nat10, nat2, runB, seqS, exS, asgS, retS, retN, dropS, ifS, nxS, nevS, brkS, cntS, setItS, forS, parS, op1, op2, chain, boolT, truT, notT, andT, orT, andE, orE, ifE, nilA, consA, appA, varD, cD, lstE, celE, tupE, slE, itE, itEn, cal_1, cal_2, cal_3, cal_4, cal_5, cal_6, cal_7, yesT, mulOk, List.map_cons, List.map_nil, List.length_cons, List.length_nil, List.getElem?_cons_zero, List.getElem?_cons_succ, List.set_cons_zero, List.set_cons_succ, List.replicate_succ, List.replicate_zero, List.cons_append, List.nil_append, List.append_nil, List.isEmpty_cons, List.isEmpty_nil, Nat.reduceAdd, Nat.reduceSub, Nat.reduceMul, Nat.reduceLeDiff, Nat.reduceEqDiff, Nat.zero_add, Nat.sub_zero, Nat.sub_self, Bool.not_true, Bool.not_false, Bool.true_and, Bool.false_and, Bool.and_true, Bool.and_false, Bool.true_or, Bool.false_or, Bool.or_true, Bool.or_false, Bool.false_eq_true, Bool.not_eq_true, Bool.not_eq_false, Bool.not_not, decide_eq_true_eq, decide_eq_false_iff_not, decide_true, decide_false, if_true, if_false, reduceIte, reduceCtorEq, Nat.zero_le, and_self, and_true, true_and, or_true, true_or, or_false, false_or, not_true_eq_false, not_false_eq_true, Int.reduceLT, Int.reduceLE, Int.reduceNeg, Int.reduceAdd, Int.reduceMul, Int.reduceSub, Int.reducePow, Int.reduceEq, Int.reduceToNat, Nat.reduceLT, Nat.reducePow, Int.cast_ofNat_Int, isi_non_int, isi_non_bool, isi_non_str, isi_non_tuple, isi_non_list, isi_non_dict, isi_non_tuple_list, isi_non_list_tuple, isi_bl_int, isi_bl_bool, isi_bl_str, isi_bl_tuple, isi_bl_list, isi_bl_dict, isi_bl_tuple_list, isi_bl_list_tuple, isi_int_int, isi_int_bool, isi_int_str, isi_int_tuple, isi_int_list, isi_int_dict, isi_int_tuple_list, isi_int_list_tuple, isi_str_int, isi_str_bool, isi_str_str, isi_str_tuple, isi_str_list, isi_str_dict, isi_str_tuple_list, isi_str_list_tuple, isi_tup_int, isi_tup_bool, isi_tup_str, isi_tup_tuple, isi_tup_list, isi_tup_dict, isi_tup_tuple_list, isi_tup_list_tuple, isi_lst_int, isi_lst_bool, isi_lst_str, isi_lst_tuple, isi_lst_list, isi_lst_dict, isi_lst_tuple_list, isi_lst_list_tuple, isi_frz_int, isi_frz_bool, isi_frz_str, isi_frz_tuple, isi_frz_list, isi_frz_dict, isi_frz_tuple_list, isi_frz_list_tuple, tru_bl, tru_int, tru_non, tru_tup, len_tup, ix_tup, tru_lst, len_lst, ix_lst, tru_frz, len_frz, ix_frz, sl_lst, sl_frz, sl_tup, asInt_int, at0, at1, at2, at3, at4, add_int, add_tup, add_str, add_lst, addC_lst, repC_lst, sub_int, mul_int, mul_lst, mul_tup, div_int, mod_int, pow_int, neg_int, not_bl, lt_int, le_int, gt_int, ge_int, eq_int, eq_str, eq_bl, eq_non, eq_int_non, eq_non_int, eq_str_non, eq_non_str, eq_bl_non, eq_non_bl, ne_int, ne_str, ne_bl, ne_non, ne_int_non, ne_non_int, ne_str_non, ne_non_str, ne_bl_non, ne_non_bl, isNone_non, isNone_int, isNone_str, isNone_bl, isNone_tup, isNone_lst, isNone_frz, max2_int, min2_int, abs_int, int_int, int_bl, still_tup, list_tup, tuple_tup, listC_tup, sv_tup, still_lst, list_lst, tuple_lst, listC_lst, sv_lst, still_frz, list_frz, tuple_frz, listC_frz, sv_frz, r1_int, r2_int, r3_int, tg_name, tg_tup, setAll_cons, setAll_nil, mtE, g1_one, g2_two, mkL_0, mkT_0, mkC_0, mkL_1, mkT_1, mkC_1, mkL_2, mkT_2, mkC_2, mkL_3, mkT_3, mkC_3, mkL_4, mkT_4, mkC_4, bnd_S, ret_S, lineN_eq2, wipe_nil, wipe_cons, hi, hd]
  have ha := fun S => all_true bs S
  have hs := fun S => lenSet_nd hn (by omega) S
  have hi : ∀ S, isiD (bsD bs) (.ty "tuple") S = .ok (.bl true) S := fun _ => rfl
  have hle := fun S => len_bs bs S
  simp only [g_is_base, b_is_base, stillS_tup, stillS_lst, stillS_frz, stillS_str, nat10, nat2, runB, seqS, exS, asgS, retS, retN, dropS, ifS, nxS, nevS, brkS, cntS, setItS, forS, parS, op1, op2, chain, boolT, truT, notT, andT, orT, andE, orE, ifE, nilA, consA, appA, varD, cD, lstE, celE, tupE, slE, itE, itEn, cal_1, cal_2, cal_3, cal_4, cal_5, cal_6, cal_7, yesT, mulOk, List.map_cons, List.map_nil, List.length_cons, List.length_nil, List.getElem?_cons_zero, List.getElem?_cons_succ, List.set_cons_zero, List.set_cons_succ, List.replicate_succ, List.replicate_zero, List.cons_append, List.nil_append, List.append_nil, List.isEmpty_cons, List.isEmpty_nil, Nat.reduceAdd, Nat.reduceSub, Nat.reduceMul, Nat.reduceLeDiff, Nat.reduceEqDiff, Nat.zero_add, Nat.sub_zero, Nat.sub_self, Bool.not_true, Bool.not_false, Bool.true_and, Bool.false_and, Bool.and_true, Bool.and_false, Bool.true_or, Bool.false_or, Bool.or_true, Bool.or_false, Bool.false_eq_true, Bool.not_eq_true, Bool.not_eq_false, Bool.not_not, decide_eq_true_eq, decide_eq_false_iff_not, decide_true, decide_false, if_true, if_false, reduceIte, reduceCtorEq, Nat.zero_le, and_self, and_true, true_and, or_true, true_or, or_false, false_or, not_true_eq_false, not_false_eq_true, Int.reduceLT, Int.reduceLE, Int.reduceNeg, Int.reduceAdd, Int.reduceMul, Int.reduceSub, Int.reducePow, Int.reduceEq, Int.reduceToNat, Nat.reduceLT, Nat.reducePow, Int.cast_ofNat_Int, isi_non_int, isi_non_bool, isi_non_str, isi_non_tuple, isi_non_list, isi_non_dict, isi_non_tuple_list, isi_non_list_tuple, isi_bl_int, isi_bl_bool, isi_bl_str, isi_bl_tuple, isi_bl_list, isi_bl_dict, isi_bl_tuple_list, isi_bl_list_tuple, isi_int_int, isi_int_bool, isi_int_str, isi_int_tuple, isi_int_list, isi_int_dict, isi_int_tuple_list, isi_int_list_tuple, isi_str_int, isi_str_bool, isi_str_str, isi_str_tuple, isi_str_list, isi_str_dict, isi_str_tuple_list, isi_str_list_tuple, isi_tup_int, isi_tup_bool, isi_tup_str, isi_tup_tuple, isi_tup_list, isi_tup_dict, isi_tup_tuple_list, isi_tup_list_tuple, isi_lst_int, isi_lst_bool, isi_lst_str, isi_lst_tuple, isi_lst_list, isi_lst_dict, isi_lst_tuple_list, isi_lst_list_tuple, isi_frz_int, isi_frz_bool, isi_frz_str, isi_frz_tuple, isi_frz_list, isi_frz_dict, isi_frz_tuple_list, isi_frz_list_tuple, tru_bl, tru_int, tru_non, tru_tup, len_tup, ix_tup, tru_lst, len_lst, ix_lst, tru_frz, len_frz, ix_frz, sl_lst, sl_frz, sl_tup, asInt_int, at0, at1, at2, at3, at4, add_int, add_tup, add_str, add_lst, addC_lst, repC_lst, sub_int, mul_int, mul_lst, mul_tup, div_int, mod_int, pow_int, neg_int, not_bl, lt_int, le_int, gt_int, ge_int, eq_int, eq_str, eq_bl, eq_non, eq_int_non, eq_non_int, eq_str_non, eq_non_str, eq_bl_non, eq_non_bl, ne_int, ne_str, ne_bl, ne_non, ne_int_non, ne_non_int, ne_str_non, ne_non_str, ne_bl_non, ne_non_bl, isNone_non, isNone_int, isNone_str, isNone_bl, isNone_tup, isNone_lst, isNone_frz, max2_int, min2_int, abs_int, int_int, int_bl, still_tup, list_tup, tuple_tup, listC_tup, sv_tup, still_lst, list_lst, tuple_lst, listC_lst, sv_lst, still_frz, list_frz, tuple_frz, listC_frz, sv_frz, r1_int, r2_int, r3_int, tg_name, tg_tup, setAll_cons, setAll_nil, mtE, g1_one, g2_two, mkL_0, mkT_0, mkC_0, mkL_1, mkT_1, mkC_1, mkL_2, mkT_2, mkC_2, mkL_3, mkT_3, mkC_3, mkL_4, mkT_4, mkC_4, bnd_S, ret_S, lineN_eq2, wipe_nil, wipe_cons, h2, h1, ha, hs, hi, hle]
theorem c_isr1 {rs : List Row} (hl : rs.length ≤ 5) (a b d : Option D) (S : Store) : c_is_row_1 [a, some (rowsD rs), b, d] S = .ok (.lst ((rs.map Row.nm).map .str)) S := by
  unfold c_is_row_1
  rw [List.map_map]
  refine lcE_all rowD (fun r => .str r.nm) rs rfl (by rw [lineN_eq2]; omega) fun r hr => ⟨[a, some (rowsD rs), b, some (rowD r)], rfl, rfl, ?_⟩
  simp only [stillS_tup, stillS_lst, stillS_frz, stillS_str, nat10, nat2, runB, seqS, exS, asgS, retS, retN, dropS, ifS, nxS, nevS, brkS, cntS, setItS, forS, parS, op1, op2, chain, boolT, truT, notT, andT, orT, andE, orE, ifE, nilA, consA, appA, varD, cD, lstE, celE, tupE, slE, itE, itEn, cal_1, cal_2, cal_3, cal_4, cal_5, cal_6, cal_7, yesT, mulOk, List.map_cons, List.map_nil, List.length_cons, List.length_nil, List.getElem?_cons_zero, List.getElem?_cons_succ, List.set_cons_zero, List.set_cons_succ, List.replicate_succ, List.replicate_zero, List.cons_append, List.nil_append, List.append_nil, List.isEmpty_cons, List.isEmpty_nil, Nat.reduceAdd, Nat.reduceSub, Nat.reduceMul, Nat.reduceLeDiff, Nat.reduceEqDiff, Nat.zero_add, Nat.sub_zero, Nat.sub_self, Bool.not_true, Bool.not_false, Bool.true_and, Bool.false_and, Bool.and_true, Bool.and_false, Bool.true_or, Bool.false_or, Bool.or_true, Bool.or_false, Bool.false_eq_true, Bool.not_eq_true, Bool.not_eq_false, Bool.not_not, decide_eq_true_eq, decide_eq_false_iff_not, decide_true, decide_false, if_true, if_false, reduceIte, reduceCtorEq, Nat.zero_le, and_self, and_true, true_and, or_true, true_or, or_false, false_or, not_true_eq_false, not_false_eq_true, Int.reduceLT, Int.reduceLE, Int.reduceNeg, Int.reduceAdd, Int.reduceMul, Int.reduceSub, Int.reducePow, Int.reduceEq, Int.reduceToNat, Nat.reduceLT, Nat.reducePow, Int.cast_ofNat_Int, isi_non_int, isi_non_bool, isi_non_str, isi_non_tuple, isi_non_list, isi_non_dict, isi_non_tuple_list, isi_non_list_tuple, isi_bl_int, isi_bl_bool, isi_bl_str, isi_bl_tuple, isi_bl_list, isi_bl_dict, isi_bl_tuple_list, isi_bl_list_tuple, isi_int_int, isi_int_bool, isi_int_str, isi_int_tuple, isi_int_list, isi_int_dict, isi_int_tuple_list, isi_int_list_tuple, isi_str_int, isi_str_bool, isi_str_str, isi_str_tuple, isi_str_list, isi_str_dict, isi_str_tuple_list, isi_str_list_tuple, isi_tup_int, isi_tup_bool, isi_tup_str, isi_tup_tuple, isi_tup_list, isi_tup_dict, isi_tup_tuple_list, isi_tup_list_tuple, isi_lst_int, isi_lst_bool, isi_lst_str, isi_lst_tuple, isi_lst_list, isi_lst_dict, isi_lst_tuple_list, isi_lst_list_tuple, isi_frz_int, isi_frz_bool, isi_frz_str, isi_frz_tuple, isi_frz_list, isi_frz_dict, isi_frz_tuple_list, isi_frz_list_tuple, tru_bl, tru_int, tru_non, tru_tup, len_tup, ix_tup, tru_lst, len_lst, ix_lst, tru_frz, len_frz, ix_frz, sl_lst, sl_frz, sl_tup, asInt_int, at0, at1, at2, at3, at4, add_int, add_tup, add_str, add_lst, addC_lst, repC_lst, sub_int, mul_int, mul_lst, mul_tup, div_int, mod_int, pow_int, neg_int, not_bl, lt_int, le_int, gt_int, ge_int, eq_int, eq_str, eq_bl, eq_non, eq_int_non, eq_non_int, eq_str_non, eq_non_str, eq_bl_non, eq_non_bl, ne_int, ne_str, ne_bl, ne_non, ne_int_non, ne_non_int, ne_str_non, ne_non_str, ne_bl_non, ne_non_bl, isNone_non, isNone_int, isNone_str, isNone_bl, isNone_tup, isNone_lst, isNone_frz, max2_int, min2_int, abs_int, int_int, int_bl, still_tup, list_tup, tuple_tup, listC_tup, sv_tup, still_lst, list_lst, tuple_lst, listC_lst, sv_lst, still_frz, list_frz, tuple_frz, listC_frz, sv_frz, r1_int, r2_int, r3_int, tg_name, tg_tup, setAll_cons, setAll_nil, mtE, g1_one, g2_two, mkL_0, mkT_0, mkC_0, mkL_1, mkT_1, mkC_1, mkL_2, mkT_2, mkC_2, mkL_3, mkT_3, mkC_3, mkL_4, mkT_4, mkC_4, bnd_S, ret_S, lineN_eq2, wipe_nil, wipe_cons, row0]
theorem is_row_ok {c : Bool} {rs : List Row} (h : WRs c rs) (hl : rs.length ≤ 5) {r : Row} (w : WRow c rs r) (S : Store) : g_is_row [rowD r, rowsD rs] S = .ok (.bl true) S := by
  have r0 := fun S => row0 r S
  have r1 := fun S => row1 r S
  have r2 := fun S => row2 r S
  have r3 := fun S => row3 r S
  have r4 := fun S => row4 r S
  have r5 := fun S => row5 r S
  have r6 := fun S => row6 r S
  have r7 := fun S => row7 r S
  have rl := fun S => len_row r S
  have nm := fun S => is_name_menu r.nm w.nm S
  have bs := fun S => is_base_ok h hl w.base w.nd S
  have i2 := fun S => is_int_t w.top S
  have i3 := fun S => is_int_t w.bot S
  have hu : 1 ≤ r.unit ∧ r.unit ≤ 12 := by
    have := w.unit
    simp only [List.mem_cons, List.not_mem_nil, or_false] at this
    omega
  have i6 := fun S => is_int_t hu S
  have hi : ∀ S, isiD (rowD r) (.ty "tuple") S = .ok (.bl true) S := fun _ => rfl
  have c2 : ∀ S, c_is_row_2 [some (rowD r), some (rowsD rs), none, none] S = .ok (.lst [.bl true, .bl true]) S := fun S => by
    unfold c_is_row_2
    have := lcE_all (own := [2]) (t := .name 2) (fi := itE (tupE (consA (op2 ixD (varD 0) (cD (.int 4))) (consA (op2 ixD (varD 0) (cD (.int 7))) nilA)))) (ft := yesT) (fe := appA (consA (varD 2) (consA (cD (.int 0)) (consA (cD (.int 60)) nilA))) (cal 3 g_is_integer)) (ρ := [some (rowD r), some (rowsD rs), none, none]) (S := S)
      D.int (fun _ => .bl true) [r.fix, r.least] rfl (by rw [lineN_eq2]; simp) (fun i hi => ⟨[some (rowD r), some (rowsD rs), some (.int i), none], rfl, rfl, by
        have : 0 ≤ i ∧ i ≤ 60 := by
          simp only [List.mem_cons, List.not_mem_nil, or_false] at hi
          rcases hi with rfl | rfl
          · exact w.fix
          · exact w.least
        have h2 := fun S => is_int_t this S
        simp only [stillS_tup, stillS_lst, stillS_frz, stillS_str, nat10, nat2, runB, seqS, exS, asgS, retS, retN, dropS, ifS, nxS, nevS, brkS, cntS, setItS, forS, parS, op1, op2, chain, boolT, truT, notT, andT, orT, andE, orE, ifE, nilA, consA, appA, varD, cD, lstE, celE, tupE, slE, itE, itEn, cal_1, cal_2, cal_3, cal_4, cal_5, cal_6, cal_7, yesT, mulOk, List.map_cons, List.map_nil, List.length_cons, List.length_nil, List.getElem?_cons_zero, List.getElem?_cons_succ, List.set_cons_zero, List.set_cons_succ, List.replicate_succ, List.replicate_zero, List.cons_append, List.nil_append, List.append_nil, List.isEmpty_cons, List.isEmpty_nil, Nat.reduceAdd, Nat.reduceSub, Nat.reduceMul, Nat.reduceLeDiff, Nat.reduceEqDiff, Nat.zero_add, Nat.sub_zero, Nat.sub_self, Bool.not_true, Bool.not_false, Bool.true_and, Bool.false_and, Bool.and_true, Bool.and_false, Bool.true_or, Bool.false_or, Bool.or_true, Bool.or_false, Bool.false_eq_true, Bool.not_eq_true, Bool.not_eq_false, Bool.not_not, decide_eq_true_eq, decide_eq_false_iff_not, decide_true, decide_false, if_true, if_false, reduceIte, reduceCtorEq, Nat.zero_le, and_self, and_true, true_and, or_true, true_or, or_false, false_or, not_true_eq_false, not_false_eq_true, Int.reduceLT, Int.reduceLE, Int.reduceNeg, Int.reduceAdd, Int.reduceMul, Int.reduceSub, Int.reducePow, Int.reduceEq, Int.reduceToNat, Nat.reduceLT, Nat.reducePow, Int.cast_ofNat_Int, isi_non_int, isi_non_bool, isi_non_str, isi_non_tuple, isi_non_list, isi_non_dict, isi_non_tuple_list, isi_non_list_tuple, isi_bl_int, isi_bl_bool, isi_bl_str, isi_bl_tuple, isi_bl_list, isi_bl_dict, isi_bl_tuple_list, isi_bl_list_tuple, isi_int_int, isi_int_bool, isi_int_str, isi_int_tuple, isi_int_list, isi_int_dict, isi_int_tuple_list, isi_int_list_tuple, isi_str_int, isi_str_bool, isi_str_str, isi_str_tuple, isi_str_list, isi_str_dict, isi_str_tuple_list, isi_str_list_tuple, isi_tup_int, isi_tup_bool, isi_tup_str, isi_tup_tuple, isi_tup_list, isi_tup_dict, isi_tup_tuple_list, isi_tup_list_tuple, isi_lst_int, isi_lst_bool, isi_lst_str, isi_lst_tuple, isi_lst_list, isi_lst_dict, isi_lst_tuple_list, isi_lst_list_tuple, isi_frz_int, isi_frz_bool, isi_frz_str, isi_frz_tuple, isi_frz_list, isi_frz_dict, isi_frz_tuple_list, isi_frz_list_tuple, tru_bl, tru_int, tru_non, tru_tup, len_tup, ix_tup, tru_lst, len_lst, ix_lst, tru_frz, len_frz, ix_frz, sl_lst, sl_frz, sl_tup, asInt_int, at0, at1, at2, at3, at4, add_int, add_tup, add_str, add_lst, addC_lst, repC_lst, sub_int, mul_int, mul_lst, mul_tup, div_int, mod_int, pow_int, neg_int, not_bl, lt_int, le_int, gt_int, ge_int, eq_int, eq_str, eq_bl, eq_non, eq_int_non, eq_non_int, eq_str_non, eq_non_str, eq_bl_non, eq_non_bl, ne_int, ne_str, ne_bl, ne_non, ne_int_non, ne_non_int, ne_str_non, ne_non_str, ne_bl_non, ne_non_bl, isNone_non, isNone_int, isNone_str, isNone_bl, isNone_tup, isNone_lst, isNone_frz, max2_int, min2_int, abs_int, int_int, int_bl, still_tup, list_tup, tuple_tup, listC_tup, sv_tup, still_lst, list_lst, tuple_lst, listC_lst, sv_lst, still_frz, list_frz, tuple_frz, listC_frz, sv_frz, r1_int, r2_int, r3_int, tg_name, tg_tup, setAll_cons, setAll_nil, mtE, g1_one, g2_two, mkL_0, mkT_0, mkC_0, mkL_1, mkT_1, mkC_1, mkL_2, mkT_2, mkC_2, mkL_3, mkT_3, mkC_3, mkL_4, mkT_4, mkC_4, bnd_S, ret_S, lineN_eq2, wipe_nil, wipe_cons, h2]⟩)
    exact this
  have ha : ∀ S, allD (.lst [.bl true, .bl true]) S = .ok (.bl true) S := fun _ => rfl
  have c1 := fun S => c_isr1 hl (some (rowD r)) none none S
  have hw : ∀ S, notInD (.str r.way) (.tup [.str "up", .str "down", .str "near"]) S = .ok (.bl false) S := fun S => by
    have := notIn_bs (zs := ways) (ways_ok _ w.way) ways_ok S
    rw [decide_eq_true w.way] at this
    exact this
  have hun : ∀ S, inD (.int r.unit) (.tup [.int 1, .int 2, .int 3, .int 4, .int 6, .int 12]) S = .ok (.bl true) S := fun S => by
    have := in_ints (i := r.unit) (ns := [1, 2, 3, 4, 6, 12]) S
    rw [decide_eq_true w.unit] at this
    exact this
  have hnew : ∀ S, notInD (.str r.nm) (.lst ((rs.map Row.nm).map .str)) S = .ok (.bl true) S := fun S => by
    have := notIn_strs (z := r.nm) (zs := rs.map Row.nm) (menu_ok _ w.nm) (fun x hx => by
      obtain ⟨q, hq, rfl⟩ := List.mem_map.mp hx
      exact menu_ok _ (h.menu q hq)) S
    rw [decide_eq_false w.new] at this
    exact this
  have hlast : ∀ S, ixD (.tup [.int 1, .int 2, .int 3, .int 4, .int 6, .int 12]) (.int (-1)) S = .ok (.int 12) S := fun _ => rfl
  simp only [g_is_row, b_is_row, stillS_tup, stillS_lst, stillS_frz, stillS_str, nat10, nat2, runB, seqS, exS, asgS, retS, retN, dropS, ifS, nxS, nevS, brkS, cntS, setItS, forS, parS, op1, op2, chain, boolT, truT, notT, andT, orT, andE, orE, ifE, nilA, consA, appA, varD, cD, lstE, celE, tupE, slE, itE, itEn, cal_1, cal_2, cal_3, cal_4, cal_5, cal_6, cal_7, yesT, mulOk, List.map_cons, List.map_nil, List.length_cons, List.length_nil, List.getElem?_cons_zero, List.getElem?_cons_succ, List.set_cons_zero, List.set_cons_succ, List.replicate_succ, List.replicate_zero, List.cons_append, List.nil_append, List.append_nil, List.isEmpty_cons, List.isEmpty_nil, Nat.reduceAdd, Nat.reduceSub, Nat.reduceMul, Nat.reduceLeDiff, Nat.reduceEqDiff, Nat.zero_add, Nat.sub_zero, Nat.sub_self, Bool.not_true, Bool.not_false, Bool.true_and, Bool.false_and, Bool.and_true, Bool.and_false, Bool.true_or, Bool.false_or, Bool.or_true, Bool.or_false, Bool.false_eq_true, Bool.not_eq_true, Bool.not_eq_false, Bool.not_not, decide_eq_true_eq, decide_eq_false_iff_not, decide_true, decide_false, if_true, if_false, reduceIte, reduceCtorEq, Nat.zero_le, and_self, and_true, true_and, or_true, true_or, or_false, false_or, not_true_eq_false, not_false_eq_true, Int.reduceLT, Int.reduceLE, Int.reduceNeg, Int.reduceAdd, Int.reduceMul, Int.reduceSub, Int.reducePow, Int.reduceEq, Int.reduceToNat, Nat.reduceLT, Nat.reducePow, Int.cast_ofNat_Int, isi_non_int, isi_non_bool, isi_non_str, isi_non_tuple, isi_non_list, isi_non_dict, isi_non_tuple_list, isi_non_list_tuple, isi_bl_int, isi_bl_bool, isi_bl_str, isi_bl_tuple, isi_bl_list, isi_bl_dict, isi_bl_tuple_list, isi_bl_list_tuple, isi_int_int, isi_int_bool, isi_int_str, isi_int_tuple, isi_int_list, isi_int_dict, isi_int_tuple_list, isi_int_list_tuple, isi_str_int, isi_str_bool, isi_str_str, isi_str_tuple, isi_str_list, isi_str_dict, isi_str_tuple_list, isi_str_list_tuple, isi_tup_int, isi_tup_bool, isi_tup_str, isi_tup_tuple, isi_tup_list, isi_tup_dict, isi_tup_tuple_list, isi_tup_list_tuple, isi_lst_int, isi_lst_bool, isi_lst_str, isi_lst_tuple, isi_lst_list, isi_lst_dict, isi_lst_tuple_list, isi_lst_list_tuple, isi_frz_int, isi_frz_bool, isi_frz_str, isi_frz_tuple, isi_frz_list, isi_frz_dict, isi_frz_tuple_list, isi_frz_list_tuple, tru_bl, tru_int, tru_non, tru_tup, len_tup, ix_tup, tru_lst, len_lst, ix_lst, tru_frz, len_frz, ix_frz, sl_lst, sl_frz, sl_tup, asInt_int, at0, at1, at2, at3, at4, add_int, add_tup, add_str, add_lst, addC_lst, repC_lst, sub_int, mul_int, mul_lst, mul_tup, div_int, mod_int, pow_int, neg_int, not_bl, lt_int, le_int, gt_int, ge_int, eq_int, eq_str, eq_bl, eq_non, eq_int_non, eq_non_int, eq_str_non, eq_non_str, eq_bl_non, eq_non_bl, ne_int, ne_str, ne_bl, ne_non, ne_int_non, ne_non_int, ne_str_non, ne_non_str, ne_bl_non, ne_non_bl, isNone_non, isNone_int, isNone_str, isNone_bl, isNone_tup, isNone_lst, isNone_frz, max2_int, min2_int, abs_int, int_int, int_bl, still_tup, list_tup, tuple_tup, listC_tup, sv_tup, still_lst, list_lst, tuple_lst, listC_lst, sv_lst, still_frz, list_frz, tuple_frz, listC_frz, sv_frz, r1_int, r2_int, r3_int, tg_name, tg_tup, setAll_cons, setAll_nil, mtE, g1_one, g2_two, mkL_0, mkT_0, mkC_0, mkL_1, mkT_1, mkC_1, mkL_2, mkT_2, mkC_2, mkL_3, mkT_3, mkC_3, mkL_4, mkT_4, mkC_4, bnd_S, ret_S, lineN_eq2, wipe_nil, wipe_cons, -ix_tup, hi, rl, r0, r1, r2, r3, r5, r6, nm, bs, i2, i3, c2, ha, hw, hlast, i6, hun, c1, hnew]
/-! ### making -/
theorem bel_row (m : Nat) (r : Row) : (rowD r).bel m = true := by
  have : belL m (r.base.map .str) = true := belL_all m _ fun d hd => by
    obtain ⟨z, _, rfl⟩ := List.mem_map.mp hd
    rfl
  simp [rowD, bsD, D.bel, belL, this]
theorem bel_rows (m : Nat) (rs : List Row) : (rowsD rs).bel m = true := by
  have : belL m (rs.map rowD) = true := belL_all m _ fun d hd => by
    obtain ⟨z, _, rfl⟩ := List.mem_map.mp hd
    exact bel_row m z
  simp [rowsD, D.bel, this]
/-- nothing leans on cells beyond -/
def SB (S : Store) : Prop := S.all (·.bel S.length) = true
theorem HS.sb {S : Store} (h : HS [] S) : SB S := by
  obtain ⟨A, B, rfl, hA, hB⟩ := h.two
  simp [SB, hA, hB]
theorem rec_ok {c : Bool} {rs : List Row} (h : WRs c rs) (h1 : 1 ≤ rs.length) (hl : rs.length ≤ 5) {S : Store} (hS : SB S) : cal 1 (mkF "Recipe" g_Recipe_init) [rowsD rs] S = .ok (recD rs) S := by
  have hn : (S ++ [C.ins "Recipe" []])[S.length]? = some (C.ins "Recipe" []) := by simp
  have hset : (S ++ [C.ins "Recipe" []]).set S.length (C.ins "Recipe" [("table", rowsD rs)]) = S ++ [C.ins "Recipe" [("table", rowsD rs)]] := by simp
  have hinit : g_Recipe_init [.ref S.length, rowsD rs] (S ++ [C.ins "Recipe" []]) = .ok .non (S ++ [C.ins "Recipe" [("table", rowsD rs)]]) := by
    obtain ⟨ρ2, S2, e, o2, o3, e1, e2⟩ := forGo_ind (t := .tup [2, 3]) (f := l_Recipe_init_1) (ds := enumL (rs.map rowD)) (fun k ρ S' => ∃ o2 o3, ρ = [some (.ref S.length), some (rowsD rs), o2, o3] ∧ S' = S ++ [C.ins "Recipe" []])
      (ρ := [some (.ref S.length), some (rowsD rs), none, none]) (S := S ++ [C.ins "Recipe" []]) ⟨none, none, rfl, rfl⟩ (fun k hk ρ S' ⟨o2, o3, e1, e2⟩ => by
        subst e1 e2
        have hk2 : k < rs.length := by
          rw [enumL_map] at hk
          simpa using hk
        have hd : (enumL (rs.map rowD))[k] = .tup [.int (k : Nat), rowD rs[k]] := by
          simp only [enumL_map, List.getElem_map, List.getElem_range]
          rw [List.getD_eq_getElem?_getD, List.getElem?_map, List.getElem?_eq_getElem hk2]
          rfl
        have hcut : cutD (rs.map rowD) none (some ((k : Nat) : Int)) = (rs.take k).map rowD := by rw [cutD_upto, List.map_take]
        have hrow := fun S => is_row_ok (h.pre k) (by rw [List.length_take]; omega) (h k hk2) S
        have hsl : ∀ S, slD (rowsD rs) none (some ((k : Nat) : Int)) S = .ok (rowsD (rs.take k)) S := fun S => by
          show Out.ok (D.tup (cutD (rs.map rowD) none (some ((k : Nat) : Int)))) S = _
          rw [hcut]; rfl
        refine ⟨[some (.ref S.length), some (rowsD rs), some (.int (k : Nat)), some (rowD rs[k])], [some (.ref S.length), some (rowsD rs), some (.int (k : Nat)), some (rowD rs[k])], S ++ [C.ins "Recipe" []], by rw [hd]; rfl, .inl ?_, _, _, rfl, rfl⟩
        simp only [l_Recipe_init_1, stillS_tup, stillS_lst, stillS_frz, stillS_str, nat10, nat2, runB, seqS, exS, asgS, retS, retN, dropS, ifS, nxS, nevS, brkS, cntS, setItS, forS, parS, op1, op2, chain, boolT, truT, notT, andT, orT, andE, orE, ifE, nilA, consA, appA, varD, cD, lstE, celE, tupE, slE, itE, itEn, cal_1, cal_2, cal_3, cal_4, cal_5, cal_6, cal_7, yesT, mulOk, List.map_cons, List.map_nil, List.length_cons, List.length_nil, List.getElem?_cons_zero, List.getElem?_cons_succ, List.set_cons_zero, List.set_cons_succ, List.replicate_succ, List.replicate_zero, List.cons_append, List.nil_append, List.append_nil, List.isEmpty_cons, List.isEmpty_nil, Nat.reduceAdd, Nat.reduceSub, Nat.reduceMul, Nat.reduceLeDiff, Nat.reduceEqDiff, Nat.zero_add, Nat.sub_zero, Nat.sub_self, Bool.not_true, Bool.not_false, Bool.true_and, Bool.false_and, Bool.and_true, Bool.and_false, Bool.true_or, Bool.false_or, Bool.or_true, Bool.or_false, Bool.false_eq_true, Bool.not_eq_true, Bool.not_eq_false, Bool.not_not, decide_eq_true_eq, decide_eq_false_iff_not, decide_true, decide_false, if_true, if_false, reduceIte, reduceCtorEq, Nat.zero_le, and_self, and_true, true_and, or_true, true_or, or_false, false_or, not_true_eq_false, not_false_eq_true, Int.reduceLT, Int.reduceLE, Int.reduceNeg, Int.reduceAdd, Int.reduceMul, Int.reduceSub, Int.reducePow, Int.reduceEq, Int.reduceToNat, Nat.reduceLT, Nat.reducePow, Int.cast_ofNat_Int, isi_non_int, isi_non_bool, isi_non_str, isi_non_tuple, isi_non_list, isi_non_dict, isi_non_tuple_list, isi_non_list_tuple, isi_bl_int, isi_bl_bool, isi_bl_str, isi_bl_tuple, isi_bl_list, isi_bl_dict, isi_bl_tuple_list, isi_bl_list_tuple, isi_int_int, isi_int_bool, isi_int_str, isi_int_tuple, isi_int_list, isi_int_dict, isi_int_tuple_list, isi_int_list_tuple, isi_str_int, isi_str_bool, isi_str_str, isi_str_tuple, isi_str_list, isi_str_dict, isi_str_tuple_list, isi_str_list_tuple, isi_tup_int, isi_tup_bool, isi_tup_str, isi_tup_tuple, isi_tup_list, isi_tup_dict, isi_tup_tuple_list, isi_tup_list_tuple, isi_lst_int, isi_lst_bool, isi_lst_str, isi_lst_tuple, isi_lst_list, isi_lst_dict, isi_lst_tuple_list, isi_lst_list_tuple, isi_frz_int, isi_frz_bool, isi_frz_str, isi_frz_tuple, isi_frz_list, isi_frz_dict, isi_frz_tuple_list, isi_frz_list_tuple, tru_bl, tru_int, tru_non, tru_tup, len_tup, ix_tup, tru_lst, len_lst, ix_lst, tru_frz, len_frz, ix_frz, sl_lst, sl_frz, sl_tup, asInt_int, at0, at1, at2, at3, at4, add_int, add_tup, add_str, add_lst, addC_lst, repC_lst, sub_int, mul_int, mul_lst, mul_tup, div_int, mod_int, pow_int, neg_int, not_bl, lt_int, le_int, gt_int, ge_int, eq_int, eq_str, eq_bl, eq_non, eq_int_non, eq_non_int, eq_str_non, eq_non_str, eq_bl_non, eq_non_bl, ne_int, ne_str, ne_bl, ne_non, ne_int_non, ne_non_int, ne_str_non, ne_non_str, ne_bl_non, ne_non_bl, isNone_non, isNone_int, isNone_str, isNone_bl, isNone_tup, isNone_lst, isNone_frz, max2_int, min2_int, abs_int, int_int, int_bl, still_tup, list_tup, tuple_tup, listC_tup, sv_tup, still_lst, list_lst, tuple_lst, listC_lst, sv_lst, still_frz, list_frz, tuple_frz, listC_frz, sv_frz, r1_int, r2_int, r3_int, tg_name, tg_tup, setAll_cons, setAll_nil, mtE, g1_one, g2_two, mkL_0, mkT_0, mkC_0, mkL_1, mkT_1, mkC_1, mkL_2, mkT_2, mkC_2, mkL_3, mkT_3, mkC_3, mkL_4, mkT_4, mkC_4, bnd_S, ret_S, lineN_eq2, wipe_nil, wipe_cons, hsl, hrow])
    subst e1 e2
    unfold g_Recipe_init b_Recipe_init
    refine run_nx (ρ' := [some (.ref S.length), some (rowsD rs), o2, o3]) (ρ0 := [some (.ref S.length), some (rowsD rs), none, none]) rfl ?_
    have hi : ∀ S, isiD (rowsD rs) (.ty "tuple") S = .ok (.bl true) S := fun _ => rfl
    have hle := fun S => len_rows rs S
    have a1 : (1 : Int) ≤ (rs.length : Nat) := by omega
    have a2 : ((rs.length : Nat) : Int) ≤ 5 := by omega
    refine Eq.trans (seq_nx (ρ' := [some (.ref S.length), some (rowsD rs), none, none]) (S' := S ++ [C.ins "Recipe" []]) ?_) ?_
    · simp only [stillS_tup, stillS_lst, stillS_frz, stillS_str, nat10, nat2, runB, seqS, exS, asgS, retS, retN, dropS, ifS, nxS, nevS, brkS, cntS, setItS, forS, parS, op1, op2, chain, boolT, truT, notT, andT, orT, andE, orE, ifE, nilA, consA, appA, varD, cD, lstE, celE, tupE, slE, itE, itEn, cal_1, cal_2, cal_3, cal_4, cal_5, cal_6, cal_7, yesT, mulOk, List.map_cons, List.map_nil, List.length_cons, List.length_nil, List.getElem?_cons_zero, List.getElem?_cons_succ, List.set_cons_zero, List.set_cons_succ, List.replicate_succ, List.replicate_zero, List.cons_append, List.nil_append, List.append_nil, List.isEmpty_cons, List.isEmpty_nil, Nat.reduceAdd, Nat.reduceSub, Nat.reduceMul, Nat.reduceLeDiff, Nat.reduceEqDiff, Nat.zero_add, Nat.sub_zero, Nat.sub_self, Bool.not_true, Bool.not_false, Bool.true_and, Bool.false_and, Bool.and_true, Bool.and_false, Bool.true_or, Bool.false_or, Bool.or_true, Bool.or_false, Bool.false_eq_true, Bool.not_eq_true, Bool.not_eq_false, Bool.not_not, decide_eq_true_eq, decide_eq_false_iff_not, decide_true, decide_false, if_true, if_false, reduceIte, reduceCtorEq, Nat.zero_le, and_self, and_true, true_and, or_true, true_or, or_false, false_or, not_true_eq_false, not_false_eq_true, Int.reduceLT, Int.reduceLE, Int.reduceNeg, Int.reduceAdd, Int.reduceMul, Int.reduceSub, Int.reducePow, Int.reduceEq, Int.reduceToNat, Nat.reduceLT, Nat.reducePow, Int.cast_ofNat_Int, isi_non_int, isi_non_bool, isi_non_str, isi_non_tuple, isi_non_list, isi_non_dict, isi_non_tuple_list, isi_non_list_tuple, isi_bl_int, isi_bl_bool, isi_bl_str, isi_bl_tuple, isi_bl_list, isi_bl_dict, isi_bl_tuple_list, isi_bl_list_tuple, isi_int_int, isi_int_bool, isi_int_str, isi_int_tuple, isi_int_list, isi_int_dict, isi_int_tuple_list, isi_int_list_tuple, isi_str_int, isi_str_bool, isi_str_str, isi_str_tuple, isi_str_list, isi_str_dict, isi_str_tuple_list, isi_str_list_tuple, isi_tup_int, isi_tup_bool, isi_tup_str, isi_tup_tuple, isi_tup_list, isi_tup_dict, isi_tup_tuple_list, isi_tup_list_tuple, isi_lst_int, isi_lst_bool, isi_lst_str, isi_lst_tuple, isi_lst_list, isi_lst_dict, isi_lst_tuple_list, isi_lst_list_tuple, isi_frz_int, isi_frz_bool, isi_frz_str, isi_frz_tuple, isi_frz_list, isi_frz_dict, isi_frz_tuple_list, isi_frz_list_tuple, tru_bl, tru_int, tru_non, tru_tup, len_tup, ix_tup, tru_lst, len_lst, ix_lst, tru_frz, len_frz, ix_frz, sl_lst, sl_frz, sl_tup, asInt_int, at0, at1, at2, at3, at4, add_int, add_tup, add_str, add_lst, addC_lst, repC_lst, sub_int, mul_int, mul_lst, mul_tup, div_int, mod_int, pow_int, neg_int, not_bl, lt_int, le_int, gt_int, ge_int, eq_int, eq_str, eq_bl, eq_non, eq_int_non, eq_non_int, eq_str_non, eq_non_str, eq_bl_non, eq_non_bl, ne_int, ne_str, ne_bl, ne_non, ne_int_non, ne_non_int, ne_str_non, ne_non_str, ne_bl_non, ne_non_bl, isNone_non, isNone_int, isNone_str, isNone_bl, isNone_tup, isNone_lst, isNone_frz, max2_int, min2_int, abs_int, int_int, int_bl, still_tup, list_tup, tuple_tup, listC_tup, sv_tup, still_lst, list_lst, tuple_lst, listC_lst, sv_lst, still_frz, list_frz, tuple_frz, listC_frz, sv_frz, r1_int, r2_int, r3_int, tg_name, tg_tup, setAll_cons, setAll_nil, mtE, g1_one, g2_two, mkL_0, mkT_0, mkC_0, mkL_1, mkT_1, mkC_1, mkL_2, mkT_2, mkC_2, mkL_3, mkT_3, mkC_3, mkL_4, mkT_4, mkC_4, bnd_S, ret_S, lineN_eq2, wipe_nil, wipe_cons, hi, hle, a1, a2]
    refine Eq.trans (seq_nx ((for_ok (ds := enumL (rs.map rowD)) rfl).trans e)) ?_
    unfold setFS exS varD
    dsimp only [List.getElem?_cons_zero, List.getElem?_cons_succ]
    rw [hn]
    dsimp only
    rw [if_pos ⟨rfl, by simp⟩]
    show OS.fl _ ((S ++ [C.ins "Recipe" []]).set S.length (C.ins "Recipe" [("table", rowsD rs)])) = _
    rw [hset]
  rw [cal_1]
  unfold mkF mkI
  rw [hinit]
  dsimp only
  unfold closeOut
  have h2 : (S ++ [C.ins "Recipe" [("table", rowsD rs)]]).take S.length = S := List.take_left' rfl
  have hSB : S.all (·.bel S.length) = true := hS
  dsimp only
  rw [h2, if_pos ⟨hSB, by simp⟩]
  have hres : D.res S.length (S ++ [C.ins "Recipe" [("table", rowsD rs)]]) (.ref S.length) = some (recD rs) := by
    unfold D.res
    rw [if_neg (by omega)]
    simp only [List.getElem?_append_right (Nat.le_refl _), Nat.sub_self, List.getElem?_cons_zero]
    rw [if_pos (by simp [belF, bel_rows])]
    rfl
  rw [hres]
/-! ### finding -/
theorem tab_ok (rs : List Row) (S : Store) : getF "Recipe" "table" (recD rs) S = .ok (rowsD rs) S := rfl
theorem row_of_ok {c : Bool} {rs : List Row} (h : WRs c rs) (i : Nat) (hi : i < rs.length) (S : Store) : g_row_of [recD rs, .str rs[i].nm] S = .ok (rowD rs[i]) S := by
  have e : forGo (.name 2) l_row_of_1 (rs.map rowD) [some (recD rs), some (.str rs[i].nm), none] S = .fl (.rt (rowD rs[i])) S := by
    refine forGo_ret (fun k ρ S' => ∃ o, ρ = [some (recD rs), some (.str rs[i].nm), o] ∧ S' = S) (m := i) (by simpa using hi) ⟨none, rfl, rfl⟩ (fun k hk ρ S' hki ⟨o, e1, e2⟩ => ?_) (fun ρ S' ⟨o, e1, e2⟩ => ?_)
    · subst e1 e2
      have hk2 : k < rs.length := by omega
      have hne : ¬ rs[k].nm = rs[i].nm := fun z => by
        have := (List.getElem_inj (h₀ := by simpa using hk2) (h₁ := by simpa using hi) h.names).mp (by simpa using z)
        omega
      have hr := fun S => row0 rs[k] S
      refine ⟨[some (recD rs), some (.str rs[i].nm), some (rowD rs[k])], [some (recD rs), some (.str rs[i].nm), some (rowD rs[k])], S', by rw [List.getElem_map]; rfl, .inl ?_, _, rfl, rfl⟩
      simp only [l_row_of_1, stillS_tup, stillS_lst, stillS_frz, stillS_str, nat10, nat2, runB, seqS, exS, asgS, retS, retN, dropS, ifS, nxS, nevS, brkS, cntS, setItS, forS, parS, op1, op2, chain, boolT, truT, notT, andT, orT, andE, orE, ifE, nilA, consA, appA, varD, cD, lstE, celE, tupE, slE, itE, itEn, cal_1, cal_2, cal_3, cal_4, cal_5, cal_6, cal_7, yesT, mulOk, List.map_cons, List.map_nil, List.length_cons, List.length_nil, List.getElem?_cons_zero, List.getElem?_cons_succ, List.set_cons_zero, List.set_cons_succ, List.replicate_succ, List.replicate_zero, List.cons_append, List.nil_append, List.append_nil, List.isEmpty_cons, List.isEmpty_nil, Nat.reduceAdd, Nat.reduceSub, Nat.reduceMul, Nat.reduceLeDiff, Nat.reduceEqDiff, Nat.zero_add, Nat.sub_zero, Nat.sub_self, Bool.not_true, Bool.not_false, Bool.true_and, Bool.false_and, Bool.and_true, Bool.and_false, Bool.true_or, Bool.false_or, Bool.or_true, Bool.or_false, Bool.false_eq_true, Bool.not_eq_true, Bool.not_eq_false, Bool.not_not, decide_eq_true_eq, decide_eq_false_iff_not, decide_true, decide_false, if_true, if_false, reduceIte, reduceCtorEq, Nat.zero_le, and_self, and_true, true_and, or_true, true_or, or_false, false_or, not_true_eq_false, not_false_eq_true, Int.reduceLT, Int.reduceLE, Int.reduceNeg, Int.reduceAdd, Int.reduceMul, Int.reduceSub, Int.reducePow, Int.reduceEq, Int.reduceToNat, Nat.reduceLT, Nat.reducePow, Int.cast_ofNat_Int, isi_non_int, isi_non_bool, isi_non_str, isi_non_tuple, isi_non_list, isi_non_dict, isi_non_tuple_list, isi_non_list_tuple, isi_bl_int, isi_bl_bool, isi_bl_str, isi_bl_tuple, isi_bl_list, isi_bl_dict, isi_bl_tuple_list, isi_bl_list_tuple, isi_int_int, isi_int_bool, isi_int_str, isi_int_tuple, isi_int_list, isi_int_dict, isi_int_tuple_list, isi_int_list_tuple, isi_str_int, isi_str_bool, isi_str_str, isi_str_tuple, isi_str_list, isi_str_dict, isi_str_tuple_list, isi_str_list_tuple, isi_tup_int, isi_tup_bool, isi_tup_str, isi_tup_tuple, isi_tup_list, isi_tup_dict, isi_tup_tuple_list, isi_tup_list_tuple, isi_lst_int, isi_lst_bool, isi_lst_str, isi_lst_tuple, isi_lst_list, isi_lst_dict, isi_lst_tuple_list, isi_lst_list_tuple, isi_frz_int, isi_frz_bool, isi_frz_str, isi_frz_tuple, isi_frz_list, isi_frz_dict, isi_frz_tuple_list, isi_frz_list_tuple, tru_bl, tru_int, tru_non, tru_tup, len_tup, ix_tup, tru_lst, len_lst, ix_lst, tru_frz, len_frz, ix_frz, sl_lst, sl_frz, sl_tup, asInt_int, at0, at1, at2, at3, at4, add_int, add_tup, add_str, add_lst, addC_lst, repC_lst, sub_int, mul_int, mul_lst, mul_tup, div_int, mod_int, pow_int, neg_int, not_bl, lt_int, le_int, gt_int, ge_int, eq_int, eq_str, eq_bl, eq_non, eq_int_non, eq_non_int, eq_str_non, eq_non_str, eq_bl_non, eq_non_bl, ne_int, ne_str, ne_bl, ne_non, ne_int_non, ne_non_int, ne_str_non, ne_non_str, ne_bl_non, ne_non_bl, isNone_non, isNone_int, isNone_str, isNone_bl, isNone_tup, isNone_lst, isNone_frz, max2_int, min2_int, abs_int, int_int, int_bl, still_tup, list_tup, tuple_tup, listC_tup, sv_tup, still_lst, list_lst, tuple_lst, listC_lst, sv_lst, still_frz, list_frz, tuple_frz, listC_frz, sv_frz, r1_int, r2_int, r3_int, tg_name, tg_tup, setAll_cons, setAll_nil, mtE, g1_one, g2_two, mkL_0, mkT_0, mkC_0, mkL_1, mkT_1, mkC_1, mkL_2, mkT_2, mkC_2, mkL_3, mkT_3, mkC_3, mkL_4, mkT_4, mkC_4, bnd_S, ret_S, lineN_eq2, wipe_nil, wipe_cons, hr, hne]
    · subst e1 e2
      have hr := fun S => row0 rs[i] S
      refine ⟨[some (recD rs), some (.str rs[i].nm), some (rowD rs[i])], rowD rs[i], S', by rw [List.getElem_map]; rfl, ?_, rfl⟩
      simp only [l_row_of_1, stillS_tup, stillS_lst, stillS_frz, stillS_str, nat10, nat2, runB, seqS, exS, asgS, retS, retN, dropS, ifS, nxS, nevS, brkS, cntS, setItS, forS, parS, op1, op2, chain, boolT, truT, notT, andT, orT, andE, orE, ifE, nilA, consA, appA, varD, cD, lstE, celE, tupE, slE, itE, itEn, cal_1, cal_2, cal_3, cal_4, cal_5, cal_6, cal_7, yesT, mulOk, List.map_cons, List.map_nil, List.length_cons, List.length_nil, List.getElem?_cons_zero, List.getElem?_cons_succ, List.set_cons_zero, List.set_cons_succ, List.replicate_succ, List.replicate_zero, List.cons_append, List.nil_append, List.append_nil, List.isEmpty_cons, List.isEmpty_nil, Nat.reduceAdd, Nat.reduceSub, Nat.reduceMul, Nat.reduceLeDiff, Nat.reduceEqDiff, Nat.zero_add, Nat.sub_zero, Nat.sub_self, Bool.not_true, Bool.not_false, Bool.true_and, Bool.false_and, Bool.and_true, Bool.and_false, Bool.true_or, Bool.false_or, Bool.or_true, Bool.or_false, Bool.false_eq_true, Bool.not_eq_true, Bool.not_eq_false, Bool.not_not, decide_eq_true_eq, decide_eq_false_iff_not, decide_true, decide_false, if_true, if_false, reduceIte, reduceCtorEq, Nat.zero_le, and_self, and_true, true_and, or_true, true_or, or_false, false_or, not_true_eq_false, not_false_eq_true, Int.reduceLT, Int.reduceLE, Int.reduceNeg, Int.reduceAdd, Int.reduceMul, Int.reduceSub, Int.reducePow, Int.reduceEq, Int.reduceToNat, Nat.reduceLT, Nat.reducePow, Int.cast_ofNat_Int, isi_non_int, isi_non_bool, isi_non_str, isi_non_tuple, isi_non_list, isi_non_dict, isi_non_tuple_list, isi_non_list_tuple, isi_bl_int, isi_bl_bool, isi_bl_str, isi_bl_tuple, isi_bl_list, isi_bl_dict, isi_bl_tuple_list, isi_bl_list_tuple, isi_int_int, isi_int_bool, isi_int_str, isi_int_tuple, isi_int_list, isi_int_dict, isi_int_tuple_list, isi_int_list_tuple, isi_str_int, isi_str_bool, isi_str_str, isi_str_tuple, isi_str_list, isi_str_dict, isi_str_tuple_list, isi_str_list_tuple, isi_tup_int, isi_tup_bool, isi_tup_str, isi_tup_tuple, isi_tup_list, isi_tup_dict, isi_tup_tuple_list, isi_tup_list_tuple, isi_lst_int, isi_lst_bool, isi_lst_str, isi_lst_tuple, isi_lst_list, isi_lst_dict, isi_lst_tuple_list, isi_lst_list_tuple, isi_frz_int, isi_frz_bool, isi_frz_str, isi_frz_tuple, isi_frz_list, isi_frz_dict, isi_frz_tuple_list, isi_frz_list_tuple, tru_bl, tru_int, tru_non, tru_tup, len_tup, ix_tup, tru_lst, len_lst, ix_lst, tru_frz, len_frz, ix_frz, sl_lst, sl_frz, sl_tup, asInt_int, at0, at1, at2, at3, at4, add_int, add_tup, add_str, add_lst, addC_lst, repC_lst, sub_int, mul_int, mul_lst, mul_tup, div_int, mod_int, pow_int, neg_int, not_bl, lt_int, le_int, gt_int, ge_int, eq_int, eq_str, eq_bl, eq_non, eq_int_non, eq_non_int, eq_str_non, eq_non_str, eq_bl_non, eq_non_bl, ne_int, ne_str, ne_bl, ne_non, ne_int_non, ne_non_int, ne_str_non, ne_non_str, ne_bl_non, ne_non_bl, isNone_non, isNone_int, isNone_str, isNone_bl, isNone_tup, isNone_lst, isNone_frz, max2_int, min2_int, abs_int, int_int, int_bl, still_tup, list_tup, tuple_tup, listC_tup, sv_tup, still_lst, list_lst, tuple_lst, listC_lst, sv_lst, still_frz, list_frz, tuple_frz, listC_frz, sv_frz, r1_int, r2_int, r3_int, tg_name, tg_tup, setAll_cons, setAll_nil, mtE, g1_one, g2_two, mkL_0, mkT_0, mkC_0, mkL_1, mkT_1, mkC_1, mkL_2, mkT_2, mkC_2, mkL_3, mkT_3, mkC_3, mkL_4, mkT_4, mkC_4, bnd_S, ret_S, lineN_eq2, wipe_nil, wipe_cons, hr]
  unfold g_row_of b_row_of
  refine run_rt (ρ0 := [some (recD rs), some (.str rs[i].nm), none]) rfl ?_
  refine seq_rt (Eq.trans (if_t (S' := S) ?_) ?_)
  · simp only [stillS_tup, stillS_lst, stillS_frz, stillS_str, nat10, nat2, runB, seqS, exS, asgS, retS, retN, dropS, ifS, nxS, nevS, brkS, cntS, setItS, forS, parS, op1, op2, chain, boolT, truT, notT, andT, orT, andE, orE, ifE, nilA, consA, appA, varD, cD, lstE, celE, tupE, slE, itE, itEn, cal_1, cal_2, cal_3, cal_4, cal_5, cal_6, cal_7, yesT, mulOk, List.map_cons, List.map_nil, List.length_cons, List.length_nil, List.getElem?_cons_zero, List.getElem?_cons_succ, List.set_cons_zero, List.set_cons_succ, List.replicate_succ, List.replicate_zero, List.cons_append, List.nil_append, List.append_nil, List.isEmpty_cons, List.isEmpty_nil, Nat.reduceAdd, Nat.reduceSub, Nat.reduceMul, Nat.reduceLeDiff, Nat.reduceEqDiff, Nat.zero_add, Nat.sub_zero, Nat.sub_self, Bool.not_true, Bool.not_false, Bool.true_and, Bool.false_and, Bool.and_true, Bool.and_false, Bool.true_or, Bool.false_or, Bool.or_true, Bool.or_false, Bool.false_eq_true, Bool.not_eq_true, Bool.not_eq_false, Bool.not_not, decide_eq_true_eq, decide_eq_false_iff_not, decide_true, decide_false, if_true, if_false, reduceIte, reduceCtorEq, Nat.zero_le, and_self, and_true, true_and, or_true, true_or, or_false, false_or, not_true_eq_false, not_false_eq_true, Int.reduceLT, Int.reduceLE, Int.reduceNeg, Int.reduceAdd, Int.reduceMul, Int.reduceSub, Int.reducePow, Int.reduceEq, Int.reduceToNat, Nat.reduceLT, Nat.reducePow, Int.cast_ofNat_Int, isi_non_int, isi_non_bool, isi_non_str, isi_non_tuple, isi_non_list, isi_non_dict, isi_non_tuple_list, isi_non_list_tuple, isi_bl_int, isi_bl_bool, isi_bl_str, isi_bl_tuple, isi_bl_list, isi_bl_dict, isi_bl_tuple_list, isi_bl_list_tuple, isi_int_int, isi_int_bool, isi_int_str, isi_int_tuple, isi_int_list, isi_int_dict, isi_int_tuple_list, isi_int_list_tuple, isi_str_int, isi_str_bool, isi_str_str, isi_str_tuple, isi_str_list, isi_str_dict, isi_str_tuple_list, isi_str_list_tuple, isi_tup_int, isi_tup_bool, isi_tup_str, isi_tup_tuple, isi_tup_list, isi_tup_dict, isi_tup_tuple_list, isi_tup_list_tuple, isi_lst_int, isi_lst_bool, isi_lst_str, isi_lst_tuple, isi_lst_list, isi_lst_dict, isi_lst_tuple_list, isi_lst_list_tuple, isi_frz_int, isi_frz_bool, isi_frz_str, isi_frz_tuple, isi_frz_list, isi_frz_dict, isi_frz_tuple_list, isi_frz_list_tuple, tru_bl, tru_int, tru_non, tru_tup, len_tup, ix_tup, tru_lst, len_lst, ix_lst, tru_frz, len_frz, ix_frz, sl_lst, sl_frz, sl_tup, asInt_int, at0, at1, at2, at3, at4, add_int, add_tup, add_str, add_lst, addC_lst, repC_lst, sub_int, mul_int, mul_lst, mul_tup, div_int, mod_int, pow_int, neg_int, not_bl, lt_int, le_int, gt_int, ge_int, eq_int, eq_str, eq_bl, eq_non, eq_int_non, eq_non_int, eq_str_non, eq_non_str, eq_bl_non, eq_non_bl, ne_int, ne_str, ne_bl, ne_non, ne_int_non, ne_non_int, ne_str_non, ne_non_str, ne_bl_non, ne_non_bl, isNone_non, isNone_int, isNone_str, isNone_bl, isNone_tup, isNone_lst, isNone_frz, max2_int, min2_int, abs_int, int_int, int_bl, still_tup, list_tup, tuple_tup, listC_tup, sv_tup, still_lst, list_lst, tuple_lst, listC_lst, sv_lst, still_frz, list_frz, tuple_frz, listC_frz, sv_frz, r1_int, r2_int, r3_int, tg_name, tg_tup, setAll_cons, setAll_nil, mtE, g1_one, g2_two, mkL_0, mkT_0, mkC_0, mkL_1, mkT_1, mkC_1, mkL_2, mkT_2, mkC_2, mkL_3, mkT_3, mkC_3, mkL_4, mkT_4, mkC_4, bnd_S, ret_S, lineN_eq2, wipe_nil, wipe_cons]
  exact (for_ok (ds := rs.map rowD) rfl).trans e
theorem row_of_mem {c : Bool} {rs : List Row} (h : WRs c rs) {r : Row} (hr : r ∈ rs) (S : Store) : g_row_of [recD rs, .str r.nm] S = .ok (rowD r) S := by
  obtain ⟨i, hi, rfl⟩ := List.getElem_of_mem hr
  exact row_of_ok h i hi S
end F

set_option linter.all false
set_option autoImplicit false
set_option maxRecDepth 100000
set_option maxHeartbeats 1000000
/-! What is due of a row, its amount: the program's and the law's are the same numbers. -/
namespace F
open PySem
def rnd (way : Str) (unit bot d : Int) : Int :=
  if way = "down" then d / (bot * unit) * unit else if way = "near" then (2 * d + bot * unit) / (2 * (bot * unit)) * unit else -(-d / (bot * unit)) * unit
def mx (a b : Int) : Int := if b > a then b else a
def due1 (r : Row) (x : Int) : Int := r.fix * r.bot + r.top * x
def am (r : Row) (x : Int) : Int := mx (rnd r.way r.unit r.bot (due1 r x)) r.least
def dfltRow : Row := ⟨"", [], 0, 1, 0, "up", 1, 0⟩
def rowBy (rs : List Row) (b : Str) : Row := (rs.find? fun q => decide (q.nm = b)).getD dfltRow
def num (rs : List Row) (r : Row) (n : Int) : Int := if r.base.isEmpty then n else (r.base.map fun b => am (rowBy rs b) n).sum
def due (rs : List Row) (r : Row) (n : Int) : Int := due1 r (num rs r n)
def amt (rs : List Row) (r : Row) (n : Int) : Int := am r (num rs r n)
theorem rowBy_of {c : Bool} {rs : List Row} (h : WRs c rs) {q : Row} (hq : q ∈ rs) : rowBy rs q.nm = q := by
  unfold rowBy
  cases e : rs.find? fun p => decide (p.nm = q.nm) with
  | none =>
    have := List.find?_eq_none.mp e q hq
    simp at this
  | some p =>
    have h1 := List.find?_some e
    have h2 := List.mem_of_find?_eq_some e
    have hnm : p.nm = q.nm := by simpa using h1
    obtain ⟨i, hi, rfl⟩ := List.getElem_of_mem h2
    obtain ⟨j, hj, rfl⟩ := List.getElem_of_mem hq
    have := (List.getElem_inj (h₀ := by simpa using hi) (h₁ := by simpa using hj) h.names).mp (by simpa using hnm)
    subst this
    rfl
theorem rowBy_plain {c : Bool} {rs : List Row} (h : WRs c rs) {b : Str} (hb : b ∈ plain rs) : rowBy rs b ∈ rs ∧ (rowBy rs b).nm = b ∧ (rowBy rs b).base = [] := by
  obtain ⟨q, hq, e, e2⟩ := plain_sub hb
  subst e
  rw [rowBy_of h hq]
  exact ⟨hq, rfl, e2⟩
theorem plain_pre {rs : List Row} {n : Nat} {b : Str} (h : b ∈ plain (rs.take n)) : b ∈ plain rs := by
  unfold plain at h ⊢
  obtain ⟨q, hq, e⟩ := List.mem_map.mp h
  obtain ⟨h1, h2⟩ := List.mem_filter.mp hq
  exact List.mem_map.mpr ⟨q, List.mem_filter.mpr ⟨List.mem_of_mem_take h1, h2⟩, e⟩
theorem WRs.basePlain {c : Bool} {rs : List Row} (h : WRs c rs) {r : Row} (hr : r ∈ rs) : ∀ b ∈ r.base, b ∈ plain rs := fun b hb => by
  obtain ⟨i, hi, e, w⟩ := h.mem hr
  exact plain_pre (w.base b hb)
/-- the numbers of a row alone -/
structure WNum (r : Row) : Prop where
  top : 0 ≤ r.top ∧ r.top ≤ 9
  bot : 1 ≤ r.bot ∧ r.bot ≤ 4
  fix : 0 ≤ r.fix ∧ r.fix ≤ 60
  way : r.way ∈ ways
  unit : 1 ≤ r.unit ∧ r.unit ≤ 12
  least : 0 ≤ r.least ∧ r.least ≤ 60
theorem WRow.num {c : Bool} {rs : List Row} {r : Row} (w : WRow c rs r) : WNum r := ⟨w.top, w.bot, w.fix, w.way, by
  have := w.unit
  simp only [List.mem_cons, List.not_mem_nil, or_false] at this
  omega, w.least⟩
theorem WRs.num {c : Bool} {rs : List Row} (h : WRs c rs) {r : Row} (hr : r ∈ rs) : WNum r := by
  obtain ⟨i, hi, e, w⟩ := h.mem hr
  exact w.num
theorem WNum.whole {r : Row} (w : WNum r) : 1 ≤ r.bot * r.unit ∧ r.bot * r.unit ≤ 48 := by
  have h1 := w.bot
  have h2 := w.unit
  have a : 1 * 1 ≤ r.bot * r.unit := Int.mul_le_mul (by omega) (by omega) (by omega) (by omega)
  have b : r.bot * r.unit ≤ 4 * 12 := Int.mul_le_mul (by omega) (by omega) (by omega) (by omega)
  omega
theorem mul_l {i j : Int} (h : -1000 ≤ i ∧ i ≤ 1000) (S : Store) : mulD (.int i) (.int j) S = .ok (.int (i * j)) S := by
  rw [mul_int, if_pos (.inl ⟨by omega, by omega⟩)]
theorem mul_r {i j : Int} (h : -1000 ≤ j ∧ j ≤ 1000) (S : Store) : mulD (.int i) (.int j) S = .ok (.int (i * j)) S := by
  rw [mul_int, if_pos (.inr ⟨by omega, by omega⟩)]
theorem div_s {i j : Int} (h : 1 ≤ j ∧ j ≤ 1000000000) (S : Store) : divD (.int i) (.int j) S = .ok (.int (i / j)) S := by
  rw [div_int, if_pos ⟨by omega, by omega⟩]
theorem mod_s {i j : Int} (h : 1 ≤ j) (S : Store) : modD (.int i) (.int j) S = .ok (.int (i % j)) S := by
  rw [mod_int, if_pos (by omega)]
theorem nd_up : ¬ (("up" : Str) = "down") := by decide +kernel
theorem nd_near : ¬ (("near" : Str) = "down") := by decide +kernel
theorem nn_up : ¬ (("up" : Str) = "near") := by decide +kernel
theorem nn_down : ¬ (("down" : Str) = "near") := by decide +kernel
theorem nu_down : ¬ (("down" : Str) = "up") := by decide +kernel
theorem nu_near : ¬ (("near" : Str) = "up") := by decide +kernel
theorem rounded_ok {r : Row} (w : WNum r) (d : Int) (S : Store) : g_rounded [.int d, .int r.bot, .str r.way, .int r.unit] S = .ok (.int (rnd r.way r.unit r.bot d)) S := by
  have m1 := fun S => mul_l (i := r.bot) (j := r.unit) (by have := w.bot; omega) S
  have m2 := fun i S => mul_r (i := i) (j := r.unit) (by have := w.unit; omega) S
  have m3 := fun j S => mul_l (i := 2) (j := j) (by omega) S
  have hw := w.whole
  have d1 := fun i S => div_s (i := i) (j := r.bot * r.unit) (by omega) S
  have d2 := fun i S => div_s (i := i) (j := 2 * (r.bot * r.unit)) (by omega) S
  have hway := w.way
  simp only [ways, List.mem_cons, List.not_mem_nil, or_false] at hway
  rcases hway with e | e | e
  · simp only [g_rounded, b_rounded, stillS_tup, stillS_lst, stillS_frz, stillS_str, nat10, nat2, runB, seqS, exS, asgS, retS, retN, dropS, ifS, nxS, nevS, brkS, cntS, setItS, forS, parS, op1, op2, chain, boolT, truT, notT, andT, orT, andE, orE, ifE, nilA, consA, appA, varD, cD, lstE, celE, tupE, slE, itE, itEn, cal_1, cal_2, cal_3, cal_4, cal_5, cal_6, cal_7, yesT, mulOk, List.map_cons, List.map_nil, List.length_cons, List.length_nil, List.getElem?_cons_zero, List.getElem?_cons_succ, List.set_cons_zero, List.set_cons_succ, List.replicate_succ, List.replicate_zero, List.cons_append, List.nil_append, List.append_nil, List.isEmpty_cons, List.isEmpty_nil, Nat.reduceAdd, Nat.reduceSub, Nat.reduceMul, Nat.reduceLeDiff, Nat.reduceEqDiff, Nat.zero_add, Nat.sub_zero, Nat.sub_self, Bool.not_true, Bool.not_false, Bool.true_and, Bool.false_and, Bool.and_true, Bool.and_false, Bool.true_or, Bool.false_or, Bool.or_true, Bool.or_false, Bool.false_eq_true, Bool.not_eq_true, Bool.not_eq_false, Bool.not_not, decide_eq_true_eq, decide_eq_false_iff_not, decide_true, decide_false, if_true, if_false, reduceIte, reduceCtorEq, Nat.zero_le, and_self, and_true, true_and, or_true, true_or, or_false, false_or, not_true_eq_false, not_false_eq_true, Int.reduceLT, Int.reduceLE, Int.reduceNeg, Int.reduceAdd, Int.reduceMul, Int.reduceSub, Int.reducePow, Int.reduceEq, Int.reduceToNat, Nat.reduceLT, Nat.reducePow, Int.cast_ofNat_Int, isi_non_int, isi_non_bool, isi_non_str, isi_non_tuple, isi_non_list, isi_non_dict, isi_non_tuple_list, isi_non_list_tuple, isi_bl_int, isi_bl_bool, isi_bl_str, isi_bl_tuple, isi_bl_list, isi_bl_dict, isi_bl_tuple_list, isi_bl_list_tuple, isi_int_int, isi_int_bool, isi_int_str, isi_int_tuple, isi_int_list, isi_int_dict, isi_int_tuple_list, isi_int_list_tuple, isi_str_int, isi_str_bool, isi_str_str, isi_str_tuple, isi_str_list, isi_str_dict, isi_str_tuple_list, isi_str_list_tuple, isi_tup_int, isi_tup_bool, isi_tup_str, isi_tup_tuple, isi_tup_list, isi_tup_dict, isi_tup_tuple_list, isi_tup_list_tuple, isi_lst_int, isi_lst_bool, isi_lst_str, isi_lst_tuple, isi_lst_list, isi_lst_dict, isi_lst_tuple_list, isi_lst_list_tuple, isi_frz_int, isi_frz_bool, isi_frz_str, isi_frz_tuple, isi_frz_list, isi_frz_dict, isi_frz_tuple_list, isi_frz_list_tuple, tru_bl, tru_int, tru_non, tru_tup, len_tup, ix_tup, tru_lst, len_lst, ix_lst, tru_frz, len_frz, ix_frz, sl_lst, sl_frz, sl_tup, asInt_int, at0, at1, at2, at3, at4, add_int, add_tup, add_str, add_lst, addC_lst, repC_lst, sub_int, mul_int, mul_lst, mul_tup, div_int, mod_int, pow_int, neg_int, not_bl, lt_int, le_int, gt_int, ge_int, eq_int, eq_str, eq_bl, eq_non, eq_int_non, eq_non_int, eq_str_non, eq_non_str, eq_bl_non, eq_non_bl, ne_int, ne_str, ne_bl, ne_non, ne_int_non, ne_non_int, ne_str_non, ne_non_str, ne_bl_non, ne_non_bl, isNone_non, isNone_int, isNone_str, isNone_bl, isNone_tup, isNone_lst, isNone_frz, max2_int, min2_int, abs_int, int_int, int_bl, still_tup, list_tup, tuple_tup, listC_tup, sv_tup, still_lst, list_lst, tuple_lst, listC_lst, sv_lst, still_frz, list_frz, tuple_frz, listC_frz, sv_frz, r1_int, r2_int, r3_int, tg_name, tg_tup, setAll_cons, setAll_nil, mtE, g1_one, g2_two, mkL_0, mkT_0, mkC_0, mkL_1, mkT_1, mkC_1, mkL_2, mkT_2, mkC_2, mkL_3, mkT_3, mkC_3, mkL_4, mkT_4, mkC_4, bnd_S, ret_S, lineN_eq2, wipe_nil, wipe_cons, -mul_int, -div_int, m1, e, nd_up, nn_up, d1, m2, rnd]
  · simp only [g_rounded, b_rounded, stillS_tup, stillS_lst, stillS_frz, stillS_str, nat10, nat2, runB, seqS, exS, asgS, retS, retN, dropS, ifS, nxS, nevS, brkS, cntS, setItS, forS, parS, op1, op2, chain, boolT, truT, notT, andT, orT, andE, orE, ifE, nilA, consA, appA, varD, cD, lstE, celE, tupE, slE, itE, itEn, cal_1, cal_2, cal_3, cal_4, cal_5, cal_6, cal_7, yesT, mulOk, List.map_cons, List.map_nil, List.length_cons, List.length_nil, List.getElem?_cons_zero, List.getElem?_cons_succ, List.set_cons_zero, List.set_cons_succ, List.replicate_succ, List.replicate_zero, List.cons_append, List.nil_append, List.append_nil, List.isEmpty_cons, List.isEmpty_nil, Nat.reduceAdd, Nat.reduceSub, Nat.reduceMul, Nat.reduceLeDiff, Nat.reduceEqDiff, Nat.zero_add, Nat.sub_zero, Nat.sub_self, Bool.not_true, Bool.not_false, Bool.true_and, Bool.false_and, Bool.and_true, Bool.and_false, Bool.true_or, Bool.false_or, Bool.or_true, Bool.or_false, Bool.false_eq_true, Bool.not_eq_true, Bool.not_eq_false, Bool.not_not, decide_eq_true_eq, decide_eq_false_iff_not, decide_true, decide_false, if_true, if_false, reduceIte, reduceCtorEq, Nat.zero_le, and_self, and_true, true_and, or_true, true_or, or_false, false_or, not_true_eq_false, not_false_eq_true, Int.reduceLT, Int.reduceLE, Int.reduceNeg, Int.reduceAdd, Int.reduceMul, Int.reduceSub, Int.reducePow, Int.reduceEq, Int.reduceToNat, Nat.reduceLT, Nat.reducePow, Int.cast_ofNat_Int, isi_non_int, isi_non_bool, isi_non_str, isi_non_tuple, isi_non_list, isi_non_dict, isi_non_tuple_list, isi_non_list_tuple, isi_bl_int, isi_bl_bool, isi_bl_str, isi_bl_tuple, isi_bl_list, isi_bl_dict, isi_bl_tuple_list, isi_bl_list_tuple, isi_int_int, isi_int_bool, isi_int_str, isi_int_tuple, isi_int_list, isi_int_dict, isi_int_tuple_list, isi_int_list_tuple, isi_str_int, isi_str_bool, isi_str_str, isi_str_tuple, isi_str_list, isi_str_dict, isi_str_tuple_list, isi_str_list_tuple, isi_tup_int, isi_tup_bool, isi_tup_str, isi_tup_tuple, isi_tup_list, isi_tup_dict, isi_tup_tuple_list, isi_tup_list_tuple, isi_lst_int, isi_lst_bool, isi_lst_str, isi_lst_tuple, isi_lst_list, isi_lst_dict, isi_lst_tuple_list, isi_lst_list_tuple, isi_frz_int, isi_frz_bool, isi_frz_str, isi_frz_tuple, isi_frz_list, isi_frz_dict, isi_frz_tuple_list, isi_frz_list_tuple, tru_bl, tru_int, tru_non, tru_tup, len_tup, ix_tup, tru_lst, len_lst, ix_lst, tru_frz, len_frz, ix_frz, sl_lst, sl_frz, sl_tup, asInt_int, at0, at1, at2, at3, at4, add_int, add_tup, add_str, add_lst, addC_lst, repC_lst, sub_int, mul_int, mul_lst, mul_tup, div_int, mod_int, pow_int, neg_int, not_bl, lt_int, le_int, gt_int, ge_int, eq_int, eq_str, eq_bl, eq_non, eq_int_non, eq_non_int, eq_str_non, eq_non_str, eq_bl_non, eq_non_bl, ne_int, ne_str, ne_bl, ne_non, ne_int_non, ne_non_int, ne_str_non, ne_non_str, ne_bl_non, ne_non_bl, isNone_non, isNone_int, isNone_str, isNone_bl, isNone_tup, isNone_lst, isNone_frz, max2_int, min2_int, abs_int, int_int, int_bl, still_tup, list_tup, tuple_tup, listC_tup, sv_tup, still_lst, list_lst, tuple_lst, listC_lst, sv_lst, still_frz, list_frz, tuple_frz, listC_frz, sv_frz, r1_int, r2_int, r3_int, tg_name, tg_tup, setAll_cons, setAll_nil, mtE, g1_one, g2_two, mkL_0, mkT_0, mkC_0, mkL_1, mkT_1, mkC_1, mkL_2, mkT_2, mkC_2, mkL_3, mkT_3, mkC_3, mkL_4, mkT_4, mkC_4, bnd_S, ret_S, lineN_eq2, wipe_nil, wipe_cons, -mul_int, -div_int, m1, e, d1, m2, rnd]
  · simp only [g_rounded, b_rounded, stillS_tup, stillS_lst, stillS_frz, stillS_str, nat10, nat2, runB, seqS, exS, asgS, retS, retN, dropS, ifS, nxS, nevS, brkS, cntS, setItS, forS, parS, op1, op2, chain, boolT, truT, notT, andT, orT, andE, orE, ifE, nilA, consA, appA, varD, cD, lstE, celE, tupE, slE, itE, itEn, cal_1, cal_2, cal_3, cal_4, cal_5, cal_6, cal_7, yesT, mulOk, List.map_cons, List.map_nil, List.length_cons, List.length_nil, List.getElem?_cons_zero, List.getElem?_cons_succ, List.set_cons_zero, List.set_cons_succ, List.replicate_succ, List.replicate_zero, List.cons_append, List.nil_append, List.append_nil, List.isEmpty_cons, List.isEmpty_nil, Nat.reduceAdd, Nat.reduceSub, Nat.reduceMul, Nat.reduceLeDiff, Nat.reduceEqDiff, Nat.zero_add, Nat.sub_zero, Nat.sub_self, Bool.not_true, Bool.not_false, Bool.true_and, Bool.false_and, Bool.and_true, Bool.and_false, Bool.true_or, Bool.false_or, Bool.or_true, Bool.or_false, Bool.false_eq_true, Bool.not_eq_true, Bool.not_eq_false, Bool.not_not, decide_eq_true_eq, decide_eq_false_iff_not, decide_true, decide_false, if_true, if_false, reduceIte, reduceCtorEq, Nat.zero_le, and_self, and_true, true_and, or_true, true_or, or_false, false_or, not_true_eq_false, not_false_eq_true, Int.reduceLT, Int.reduceLE, Int.reduceNeg, Int.reduceAdd, Int.reduceMul, Int.reduceSub, Int.reducePow, Int.reduceEq, Int.reduceToNat, Nat.reduceLT, Nat.reducePow, Int.cast_ofNat_Int, isi_non_int, isi_non_bool, isi_non_str, isi_non_tuple, isi_non_list, isi_non_dict, isi_non_tuple_list, isi_non_list_tuple, isi_bl_int, isi_bl_bool, isi_bl_str, isi_bl_tuple, isi_bl_list, isi_bl_dict, isi_bl_tuple_list, isi_bl_list_tuple, isi_int_int, isi_int_bool, isi_int_str, isi_int_tuple, isi_int_list, isi_int_dict, isi_int_tuple_list, isi_int_list_tuple, isi_str_int, isi_str_bool, isi_str_str, isi_str_tuple, isi_str_list, isi_str_dict, isi_str_tuple_list, isi_str_list_tuple, isi_tup_int, isi_tup_bool, isi_tup_str, isi_tup_tuple, isi_tup_list, isi_tup_dict, isi_tup_tuple_list, isi_tup_list_tuple, isi_lst_int, isi_lst_bool, isi_lst_str, isi_lst_tuple, isi_lst_list, isi_lst_dict, isi_lst_tuple_list, isi_lst_list_tuple, isi_frz_int, isi_frz_bool, isi_frz_str, isi_frz_tuple, isi_frz_list, isi_frz_dict, isi_frz_tuple_list, isi_frz_list_tuple, tru_bl, tru_int, tru_non, tru_tup, len_tup, ix_tup, tru_lst, len_lst, ix_lst, tru_frz, len_frz, ix_frz, sl_lst, sl_frz, sl_tup, asInt_int, at0, at1, at2, at3, at4, add_int, add_tup, add_str, add_lst, addC_lst, repC_lst, sub_int, mul_int, mul_lst, mul_tup, div_int, mod_int, pow_int, neg_int, not_bl, lt_int, le_int, gt_int, ge_int, eq_int, eq_str, eq_bl, eq_non, eq_int_non, eq_non_int, eq_str_non, eq_non_str, eq_bl_non, eq_non_bl, ne_int, ne_str, ne_bl, ne_non, ne_int_non, ne_non_int, ne_str_non, ne_non_str, ne_bl_non, ne_non_bl, isNone_non, isNone_int, isNone_str, isNone_bl, isNone_tup, isNone_lst, isNone_frz, max2_int, min2_int, abs_int, int_int, int_bl, still_tup, list_tup, tuple_tup, listC_tup, sv_tup, still_lst, list_lst, tuple_lst, listC_lst, sv_lst, still_frz, list_frz, tuple_frz, listC_frz, sv_frz, r1_int, r2_int, r3_int, tg_name, tg_tup, setAll_cons, setAll_nil, mtE, g1_one, g2_two, mkL_0, mkT_0, mkC_0, mkL_1, mkT_1, mkC_1, mkL_2, mkT_2, mkC_2, mkL_3, mkT_3, mkC_3, mkL_4, mkT_4, mkC_4, bnd_S, ret_S, lineN_eq2, wipe_nil, wipe_cons, -mul_int, -div_int, m1, e, nd_near, m3, d2, m2, rnd]
theorem sum_ints {α : Type} (xs : List α) (f : α → Int) (S : Store) : sumD (.lst (xs.map fun x => D.int (f x))) S = .ok (.int (xs.map f).sum) S := by
  show (match ints? (xs.map fun x => D.int (f x)) with | some ns => Out.ok (D.int ns.sum) S | none => .stuck) = _
  rw [ints?_map]
theorem r_amt_succ (n : Nat) : r_amount_by (n + 1) = runB (b_amount_by (runB (b_due_parts (r_amount_by n)) 5)) 3 := rfl
theorem due_run {rs : List Row} {r : Row} (w : WNum r) (hz : ∀ z ∈ r.base, PyData.strOk z = true) (rr : List D → M D) (n : Int) (x : D)
    (hx : r.base.isEmpty = false → ∀ S, c_due_parts_1 rr [some x, some (rowD r), some (.int n), some (.int n), none] S = .ok (.lst (r.base.map fun b => .int (am (rowBy rs b) n))) S) (S : Store) :
    runB (b_due_parts rr) 5 [x, rowD r, .int n] S = .ok (.int (due rs r n)) S := by
  have r1 := fun S => row1 r S
  have r2 := fun S => row2 r S
  have r3 := fun S => row3 r S
  have r4 := fun S => row4 r S
  have hne := fun S => ne_bs hz S
  have m1 := fun S => mul_l (i := r.fix) (j := r.bot) (by have := w.fix; omega) S
  have m2 := fun j S => mul_l (i := r.top) (j := j) (by have := w.top; omega) S
  cases hb : r.base.isEmpty with
  | true => simp only [b_due_parts, stillS_tup, stillS_lst, stillS_frz, stillS_str, nat10, nat2, runB, seqS, exS, asgS, retS, retN, dropS, ifS, nxS, nevS, brkS, cntS, setItS, forS, parS, op1, op2, chain, boolT, truT, notT, andT, orT, andE, orE, ifE, nilA, consA, appA, varD, cD, lstE, celE, tupE, slE, itE, itEn, cal_1, cal_2, cal_3, cal_4, cal_5, cal_6, cal_7, yesT, mulOk, List.map_cons, List.map_nil, List.length_cons, List.length_nil, List.getElem?_cons_zero, List.getElem?_cons_succ, List.set_cons_zero, List.set_cons_succ, List.replicate_succ, List.replicate_zero, List.cons_append, List.nil_append, List.append_nil, List.isEmpty_cons, List.isEmpty_nil, Nat.reduceAdd, Nat.reduceSub, Nat.reduceMul, Nat.reduceLeDiff, Nat.reduceEqDiff, Nat.zero_add, Nat.sub_zero, Nat.sub_self, Bool.not_true, Bool.not_false, Bool.true_and, Bool.false_and, Bool.and_true, Bool.and_false, Bool.true_or, Bool.false_or, Bool.or_true, Bool.or_false, Bool.false_eq_true, Bool.not_eq_true, Bool.not_eq_false, Bool.not_not, decide_eq_true_eq, decide_eq_false_iff_not, decide_true, decide_false, if_true, if_false, reduceIte, reduceCtorEq, Nat.zero_le, and_self, and_true, true_and, or_true, true_or, or_false, false_or, not_true_eq_false, not_false_eq_true, Int.reduceLT, Int.reduceLE, Int.reduceNeg, Int.reduceAdd, Int.reduceMul, Int.reduceSub, Int.reducePow, Int.reduceEq, Int.reduceToNat, Nat.reduceLT, Nat.reducePow, Int.cast_ofNat_Int, isi_non_int, isi_non_bool, isi_non_str, isi_non_tuple, isi_non_list, isi_non_dict, isi_non_tuple_list, isi_non_list_tuple, isi_bl_int, isi_bl_bool, isi_bl_str, isi_bl_tuple, isi_bl_list, isi_bl_dict, isi_bl_tuple_list, isi_bl_list_tuple, isi_int_int, isi_int_bool, isi_int_str, isi_int_tuple, isi_int_list, isi_int_dict, isi_int_tuple_list, isi_int_list_tuple, isi_str_int, isi_str_bool, isi_str_str, isi_str_tuple, isi_str_list, isi_str_dict, isi_str_tuple_list, isi_str_list_tuple, isi_tup_int, isi_tup_bool, isi_tup_str, isi_tup_tuple, isi_tup_list, isi_tup_dict, isi_tup_tuple_list, isi_tup_list_tuple, isi_lst_int, isi_lst_bool, isi_lst_str, isi_lst_tuple, isi_lst_list, isi_lst_dict, isi_lst_tuple_list, isi_lst_list_tuple, isi_frz_int, isi_frz_bool, isi_frz_str, isi_frz_tuple, isi_frz_list, isi_frz_dict, isi_frz_tuple_list, isi_frz_list_tuple, tru_bl, tru_int, tru_non, tru_tup, len_tup, ix_tup, tru_lst, len_lst, ix_lst, tru_frz, len_frz, ix_frz, sl_lst, sl_frz, sl_tup, asInt_int, at0, at1, at2, at3, at4, add_int, add_tup, add_str, add_lst, addC_lst, repC_lst, sub_int, mul_int, mul_lst, mul_tup, div_int, mod_int, pow_int, neg_int, not_bl, lt_int, le_int, gt_int, ge_int, eq_int, eq_str, eq_bl, eq_non, eq_int_non, eq_non_int, eq_str_non, eq_non_str, eq_bl_non, eq_non_bl, ne_int, ne_str, ne_bl, ne_non, ne_int_non, ne_non_int, ne_str_non, ne_non_str, ne_bl_non, ne_non_bl, isNone_non, isNone_int, isNone_str, isNone_bl, isNone_tup, isNone_lst, isNone_frz, max2_int, min2_int, abs_int, int_int, int_bl, still_tup, list_tup, tuple_tup, listC_tup, sv_tup, still_lst, list_lst, tuple_lst, listC_lst, sv_lst, still_frz, list_frz, tuple_frz, listC_frz, sv_frz, r1_int, r2_int, r3_int, tg_name, tg_tup, setAll_cons, setAll_nil, mtE, g1_one, g2_two, mkL_0, mkT_0, mkC_0, mkL_1, mkT_1, mkC_1, mkL_2, mkT_2, mkC_2, mkL_3, mkT_3, mkC_3, mkL_4, mkT_4, mkC_4, bnd_S, ret_S, lineN_eq2, wipe_nil, wipe_cons, -mul_int, r1, r2, r3, r4, hne, m1, m2, hb, due, due1, num]
  | false =>
    have hx := hx hb
    have hs := fun S => sum_ints r.base (fun b => am (rowBy rs b) n) S
    simp only [b_due_parts, stillS_tup, stillS_lst, stillS_frz, stillS_str, nat10, nat2, runB, seqS, exS, asgS, retS, retN, dropS, ifS, nxS, nevS, brkS, cntS, setItS, forS, parS, op1, op2, chain, boolT, truT, notT, andT, orT, andE, orE, ifE, nilA, consA, appA, varD, cD, lstE, celE, tupE, slE, itE, itEn, cal_1, cal_2, cal_3, cal_4, cal_5, cal_6, cal_7, yesT, mulOk, List.map_cons, List.map_nil, List.length_cons, List.length_nil, List.getElem?_cons_zero, List.getElem?_cons_succ, List.set_cons_zero, List.set_cons_succ, List.replicate_succ, List.replicate_zero, List.cons_append, List.nil_append, List.append_nil, List.isEmpty_cons, List.isEmpty_nil, Nat.reduceAdd, Nat.reduceSub, Nat.reduceMul, Nat.reduceLeDiff, Nat.reduceEqDiff, Nat.zero_add, Nat.sub_zero, Nat.sub_self, Bool.not_true, Bool.not_false, Bool.true_and, Bool.false_and, Bool.and_true, Bool.and_false, Bool.true_or, Bool.false_or, Bool.or_true, Bool.or_false, Bool.false_eq_true, Bool.not_eq_true, Bool.not_eq_false, Bool.not_not, decide_eq_true_eq, decide_eq_false_iff_not, decide_true, decide_false, if_true, if_false, reduceIte, reduceCtorEq, Nat.zero_le, and_self, and_true, true_and, or_true, true_or, or_false, false_or, not_true_eq_false, not_false_eq_true, Int.reduceLT, Int.reduceLE, Int.reduceNeg, Int.reduceAdd, Int.reduceMul, Int.reduceSub, Int.reducePow, Int.reduceEq, Int.reduceToNat, Nat.reduceLT, Nat.reducePow, Int.cast_ofNat_Int, isi_non_int, isi_non_bool, isi_non_str, isi_non_tuple, isi_non_list, isi_non_dict, isi_non_tuple_list, isi_non_list_tuple, isi_bl_int, isi_bl_bool, isi_bl_str, isi_bl_tuple, isi_bl_list, isi_bl_dict, isi_bl_tuple_list, isi_bl_list_tuple, isi_int_int, isi_int_bool, isi_int_str, isi_int_tuple, isi_int_list, isi_int_dict, isi_int_tuple_list, isi_int_list_tuple, isi_str_int, isi_str_bool, isi_str_str, isi_str_tuple, isi_str_list, isi_str_dict, isi_str_tuple_list, isi_str_list_tuple, isi_tup_int, isi_tup_bool, isi_tup_str, isi_tup_tuple, isi_tup_list, isi_tup_dict, isi_tup_tuple_list, isi_tup_list_tuple, isi_lst_int, isi_lst_bool, isi_lst_str, isi_lst_tuple, isi_lst_list, isi_lst_dict, isi_lst_tuple_list, isi_lst_list_tuple, isi_frz_int, isi_frz_bool, isi_frz_str, isi_frz_tuple, isi_frz_list, isi_frz_dict, isi_frz_tuple_list, isi_frz_list_tuple, tru_bl, tru_int, tru_non, tru_tup, len_tup, ix_tup, tru_lst, len_lst, ix_lst, tru_frz, len_frz, ix_frz, sl_lst, sl_frz, sl_tup, asInt_int, at0, at1, at2, at3, at4, add_int, add_tup, add_str, add_lst, addC_lst, repC_lst, sub_int, mul_int, mul_lst, mul_tup, div_int, mod_int, pow_int, neg_int, not_bl, lt_int, le_int, gt_int, ge_int, eq_int, eq_str, eq_bl, eq_non, eq_int_non, eq_non_int, eq_str_non, eq_non_str, eq_bl_non, eq_non_bl, ne_int, ne_str, ne_bl, ne_non, ne_int_non, ne_non_int, ne_str_non, ne_non_str, ne_bl_non, ne_non_bl, isNone_non, isNone_int, isNone_str, isNone_bl, isNone_tup, isNone_lst, isNone_frz, max2_int, min2_int, abs_int, int_int, int_bl, still_tup, list_tup, tuple_tup, listC_tup, sv_tup, still_lst, list_lst, tuple_lst, listC_lst, sv_lst, still_frz, list_frz, tuple_frz, listC_frz, sv_frz, r1_int, r2_int, r3_int, tg_name, tg_tup, setAll_cons, setAll_nil, mtE, g1_one, g2_two, mkL_0, mkT_0, mkC_0, mkL_1, mkT_1, mkC_1, mkL_2, mkT_2, mkC_2, mkL_3, mkT_3, mkC_3, mkL_4, mkT_4, mkC_4, bnd_S, ret_S, lineN_eq2, wipe_nil, wipe_cons, -mul_int, r1, r2, r3, r4, hne, m1, m2, hb, hx, hs, due, due1, num]
theorem amt_run {rs : List Row} {r : Row} (w : WNum r) (rr : List D → M D) (n : Int) (x : D) (hd : ∀ S, rr [x, rowD r, .int n] S = .ok (.int (due rs r n)) S) (S : Store) :
    runB (b_amount_by rr) 3 [x, rowD r, .int n] S = .ok (.int (amt rs r n)) S := by
  have r3 := fun S => row3 r S
  have r5 := fun S => row5 r S
  have r6 := fun S => row6 r S
  have r7 := fun S => row7 r S
  have hr := fun S => rounded_ok w (due rs r n) S
  unfold amt am mx
  rw [show due1 r (num rs r n) = due rs r n from rfl]
  simp only [b_amount_by, stillS_tup, stillS_lst, stillS_frz, stillS_str, nat10, nat2, runB, seqS, exS, asgS, retS, retN, dropS, ifS, nxS, nevS, brkS, cntS, setItS, forS, parS, op1, op2, chain, boolT, truT, notT, andT, orT, andE, orE, ifE, nilA, consA, appA, varD, cD, lstE, celE, tupE, slE, itE, itEn, cal_1, cal_2, cal_3, cal_4, cal_5, cal_6, cal_7, yesT, mulOk, List.map_cons, List.map_nil, List.length_cons, List.length_nil, List.getElem?_cons_zero, List.getElem?_cons_succ, List.set_cons_zero, List.set_cons_succ, List.replicate_succ, List.replicate_zero, List.cons_append, List.nil_append, List.append_nil, List.isEmpty_cons, List.isEmpty_nil, Nat.reduceAdd, Nat.reduceSub, Nat.reduceMul, Nat.reduceLeDiff, Nat.reduceEqDiff, Nat.zero_add, Nat.sub_zero, Nat.sub_self, Bool.not_true, Bool.not_false, Bool.true_and, Bool.false_and, Bool.and_true, Bool.and_false, Bool.true_or, Bool.false_or, Bool.or_true, Bool.or_false, Bool.false_eq_true, Bool.not_eq_true, Bool.not_eq_false, Bool.not_not, decide_eq_true_eq, decide_eq_false_iff_not, decide_true, decide_false, if_true, if_false, reduceIte, reduceCtorEq, Nat.zero_le, and_self, and_true, true_and, or_true, true_or, or_false, false_or, not_true_eq_false, not_false_eq_true, Int.reduceLT, Int.reduceLE, Int.reduceNeg, Int.reduceAdd, Int.reduceMul, Int.reduceSub, Int.reducePow, Int.reduceEq, Int.reduceToNat, Nat.reduceLT, Nat.reducePow, Int.cast_ofNat_Int, isi_non_int, isi_non_bool, isi_non_str, isi_non_tuple, isi_non_list, isi_non_dict, isi_non_tuple_list, isi_non_list_tuple, isi_bl_int, isi_bl_bool, isi_bl_str, isi_bl_tuple, isi_bl_list, isi_bl_dict, isi_bl_tuple_list, isi_bl_list_tuple, isi_int_int, isi_int_bool, isi_int_str, isi_int_tuple, isi_int_list, isi_int_dict, isi_int_tuple_list, isi_int_list_tuple, isi_str_int, isi_str_bool, isi_str_str, isi_str_tuple, isi_str_list, isi_str_dict, isi_str_tuple_list, isi_str_list_tuple, isi_tup_int, isi_tup_bool, isi_tup_str, isi_tup_tuple, isi_tup_list, isi_tup_dict, isi_tup_tuple_list, isi_tup_list_tuple, isi_lst_int, isi_lst_bool, isi_lst_str, isi_lst_tuple, isi_lst_list, isi_lst_dict, isi_lst_tuple_list, isi_lst_list_tuple, isi_frz_int, isi_frz_bool, isi_frz_str, isi_frz_tuple, isi_frz_list, isi_frz_dict, isi_frz_tuple_list, isi_frz_list_tuple, tru_bl, tru_int, tru_non, tru_tup, len_tup, ix_tup, tru_lst, len_lst, ix_lst, tru_frz, len_frz, ix_frz, sl_lst, sl_frz, sl_tup, asInt_int, at0, at1, at2, at3, at4, add_int, add_tup, add_str, add_lst, addC_lst, repC_lst, sub_int, mul_int, mul_lst, mul_tup, div_int, mod_int, pow_int, neg_int, not_bl, lt_int, le_int, gt_int, ge_int, eq_int, eq_str, eq_bl, eq_non, eq_int_non, eq_non_int, eq_str_non, eq_non_str, eq_bl_non, eq_non_bl, ne_int, ne_str, ne_bl, ne_non, ne_int_non, ne_non_int, ne_str_non, ne_non_str, ne_bl_non, ne_non_bl, isNone_non, isNone_int, isNone_str, isNone_bl, isNone_tup, isNone_lst, isNone_frz, max2_int, min2_int, abs_int, int_int, int_bl, still_tup, list_tup, tuple_tup, listC_tup, sv_tup, still_lst, list_lst, tuple_lst, listC_lst, sv_lst, still_frz, list_frz, tuple_frz, listC_frz, sv_frz, r1_int, r2_int, r3_int, tg_name, tg_tup, setAll_cons, setAll_nil, mtE, g1_one, g2_two, mkL_0, mkT_0, mkC_0, mkL_1, mkT_1, mkC_1, mkL_2, mkT_2, mkC_2, mkL_3, mkT_3, mkC_3, mkL_4, mkT_4, mkC_4, bnd_S, ret_S, lineN_eq2, wipe_nil, wipe_cons, hd, r3, r5, r6, r7, hr]
theorem amt_lv {c : Bool} {rs : List Row} (h : WRs c rs) {r : Row} (hr : r ∈ rs) (n : Int) (k : Nat) (hk : r.base = [] ∨ 1 ≤ k) (S : Store) :
    (∀ S, runB (b_due_parts (r_amount_by k)) 5 [recD rs, rowD r, .int n] S = .ok (.int (due rs r n)) S) ∧ r_amount_by (k + 1) [recD rs, rowD r, .int n] S = .ok (.int (amt rs r n)) S := by
  have plainC : ∀ (k : Nat) (q : Row), q ∈ rs → q.base = [] → (∀ S, runB (b_due_parts (r_amount_by k)) 5 [recD rs, rowD q, .int n] S = .ok (.int (due rs q n)) S) ∧ ∀ S, r_amount_by (k + 1) [recD rs, rowD q, .int n] S = .ok (.int (amt rs q n)) S := fun k q hq hb => by
    have hd : ∀ S, runB (b_due_parts (r_amount_by k)) 5 [recD rs, rowD q, .int n] S = .ok (.int (due rs q n)) S := fun S => due_run (h.num hq) (by rw [hb]; simp) _ n _ (fun z => by rw [hb] at z; cases z) S
    refine ⟨hd, fun S => ?_⟩
    rw [r_amt_succ]
    exact amt_run (h.num hq) _ n _ hd S
  rcases hk with hb | hk
  · exact ⟨(plainC k r hr hb).1, (plainC k r hr hb).2 S⟩
  · obtain ⟨j, rfl⟩ : ∃ j, k = j + 1 := ⟨k - 1, by omega⟩
    have hz : ∀ z ∈ r.base, PyData.strOk z = true := fun z hz => menu_ok z (h.baseMenu hr z hz)
    have hd : ∀ S, runB (b_due_parts (r_amount_by (j + 1))) 5 [recD rs, rowD r, .int n] S = .ok (.int (due rs r n)) S := fun S => due_run (h.num hr) hz _ n _ (fun _ S => by
      unfold c_due_parts_1
      have hlen : r.base.length ≤ 5 + 100 := by
        obtain ⟨i, hi, e, w⟩ := h.mem hr
        have h1 : r.base.length ≤ menu.length := nodup_len _ _ w.nd (h.baseMenu hr)
        have : menu.length = 7 := rfl
        omega
      refine lcE_all D.str (fun b => .int (am (rowBy rs b) n)) r.base rfl (by rw [lineN_eq2]; omega) fun b hb => ⟨[some (recD rs), some (rowD r), some (.int n), some (.int n), some (.str b)], rfl, rfl, ?_⟩
      obtain ⟨hq, hnm, hbase⟩ := rowBy_plain h (h.basePlain hr b hb)
      have e1 : ∀ S, g_row_of [recD rs, .str b] S = .ok (rowD (rowBy rs b)) S := fun S => by
        have := row_of_mem h hq S
        rw [hnm] at this
        exact this
      have e2 : ∀ S, r_amount_by (j + 1) [recD rs, rowD (rowBy rs b), .int n] S = .ok (.int (am (rowBy rs b) n)) S := fun S => by
        rw [(plainC j _ hq hbase).2 S]
        unfold amt num
        rw [hbase]
        rfl
      simp only [stillS_tup, stillS_lst, stillS_frz, stillS_str, nat10, nat2, runB, seqS, exS, asgS, retS, retN, dropS, ifS, nxS, nevS, brkS, cntS, setItS, forS, parS, op1, op2, chain, boolT, truT, notT, andT, orT, andE, orE, ifE, nilA, consA, appA, varD, cD, lstE, celE, tupE, slE, itE, itEn, cal_1, cal_2, cal_3, cal_4, cal_5, cal_6, cal_7, yesT, mulOk, List.map_cons, List.map_nil, List.length_cons, List.length_nil, List.getElem?_cons_zero, List.getElem?_cons_succ, List.set_cons_zero, List.set_cons_succ, List.replicate_succ, List.replicate_zero, List.cons_append, List.nil_append, List.append_nil, List.isEmpty_cons, List.isEmpty_nil, Nat.reduceAdd, Nat.reduceSub, Nat.reduceMul, Nat.reduceLeDiff, Nat.reduceEqDiff, Nat.zero_add, Nat.sub_zero, Nat.sub_self, Bool.not_true, Bool.not_false, Bool.true_and, Bool.false_and, Bool.and_true, Bool.and_false, Bool.true_or, Bool.false_or, Bool.or_true, Bool.or_false, Bool.false_eq_true, Bool.not_eq_true, Bool.not_eq_false, Bool.not_not, decide_eq_true_eq, decide_eq_false_iff_not, decide_true, decide_false, if_true, if_false, reduceIte, reduceCtorEq, Nat.zero_le, and_self, and_true, true_and, or_true, true_or, or_false, false_or, not_true_eq_false, not_false_eq_true, Int.reduceLT, Int.reduceLE, Int.reduceNeg, Int.reduceAdd, Int.reduceMul, Int.reduceSub, Int.reducePow, Int.reduceEq, Int.reduceToNat, Nat.reduceLT, Nat.reducePow, Int.cast_ofNat_Int, isi_non_int, isi_non_bool, isi_non_str, isi_non_tuple, isi_non_list, isi_non_dict, isi_non_tuple_list, isi_non_list_tuple, isi_bl_int, isi_bl_bool, isi_bl_str, isi_bl_tuple, isi_bl_list, isi_bl_dict, isi_bl_tuple_list, isi_bl_list_tuple, isi_int_int, isi_int_bool, isi_int_str, isi_int_tuple, isi_int_list, isi_int_dict, isi_int_tuple_list, isi_int_list_tuple, isi_str_int, isi_str_bool, isi_str_str, isi_str_tuple, isi_str_list, isi_str_dict, isi_str_tuple_list, isi_str_list_tuple, isi_tup_int, isi_tup_bool, isi_tup_str, isi_tup_tuple, isi_tup_list, isi_tup_dict, isi_tup_tuple_list, isi_tup_list_tuple, isi_lst_int, isi_lst_bool, isi_lst_str, isi_lst_tuple, isi_lst_list, isi_lst_dict, isi_lst_tuple_list, isi_lst_list_tuple, isi_frz_int, isi_frz_bool, isi_frz_str, isi_frz_tuple, isi_frz_list, isi_frz_dict, isi_frz_tuple_list, isi_frz_list_tuple, tru_bl, tru_int, tru_non, tru_tup, len_tup, ix_tup, tru_lst, len_lst, ix_lst, tru_frz, len_frz, ix_frz, sl_lst, sl_frz, sl_tup, asInt_int, at0, at1, at2, at3, at4, add_int, add_tup, add_str, add_lst, addC_lst, repC_lst, sub_int, mul_int, mul_lst, mul_tup, div_int, mod_int, pow_int, neg_int, not_bl, lt_int, le_int, gt_int, ge_int, eq_int, eq_str, eq_bl, eq_non, eq_int_non, eq_non_int, eq_str_non, eq_non_str, eq_bl_non, eq_non_bl, ne_int, ne_str, ne_bl, ne_non, ne_int_non, ne_non_int, ne_str_non, ne_non_str, ne_bl_non, ne_non_bl, isNone_non, isNone_int, isNone_str, isNone_bl, isNone_tup, isNone_lst, isNone_frz, max2_int, min2_int, abs_int, int_int, int_bl, still_tup, list_tup, tuple_tup, listC_tup, sv_tup, still_lst, list_lst, tuple_lst, listC_lst, sv_lst, still_frz, list_frz, tuple_frz, listC_frz, sv_frz, r1_int, r2_int, r3_int, tg_name, tg_tup, setAll_cons, setAll_nil, mtE, g1_one, g2_two, mkL_0, mkT_0, mkC_0, mkL_1, mkT_1, mkC_1, mkL_2, mkT_2, mkC_2, mkL_3, mkT_3, mkC_3, mkL_4, mkT_4, mkC_4, bnd_S, ret_S, lineN_eq2, wipe_nil, wipe_cons, e1, e2]) S
    refine ⟨hd, ?_⟩
    rw [r_amt_succ]
    exact amt_run (h.num hr) _ n _ hd S
theorem amount_by_ok {c : Bool} {rs : List Row} (h : WRs c rs) {r : Row} (hr : r ∈ rs) (n : Int) (S : Store) : g_amount_by [recD rs, rowD r, .int n] S = .ok (.int (amt rs r n)) S :=
  (amt_lv h hr n 7 (.inr (by omega)) S).2
theorem due_parts_ok {c : Bool} {rs : List Row} (h : WRs c rs) {r : Row} (hr : r ∈ rs) (n : Int) (S : Store) : g_due_parts [recD rs, rowD r, .int n] S = .ok (.int (due rs r n)) S :=
  (amt_lv h hr n 8 (.inr (by omega)) S).1 S
/-! ### the law's -/
theorem div_split (d w : Int) (hw : 0 < w) : -(-d / w) = d / w + (if 0 < d % w then 1 else 0) ∧ (2 * d + w) / (2 * w) = d / w + (if w ≤ 2 * (d % w) then 1 else 0) := by
  have h0 := Int.emod_nonneg d (show w ≠ 0 by omega)
  have h1 := Int.emod_lt_of_pos d hw
  have h2 := Int.emod_add_mul_ediv d w
  generalize d / w = q at *
  generalize d % w = r at *
  subst h2
  constructor
  · by_cases hr : 0 < r
    · rw [if_pos hr]
      have : -(r + w * q) / w = -q - 1 ∧ -(r + w * q) % w = w - r := by
        rw [Int.ediv_emod_unique hw]
        refine ⟨?_, by omega, by omega⟩
        rw [Int.mul_sub, Int.mul_neg]; omega
      rw [this.1]; omega
    · have : r = 0 := by omega
      subst this
      rw [if_neg (by omega)]
      have : -(0 + w * q) / w = -q ∧ -(0 + w * q) % w = 0 := by
        rw [Int.ediv_emod_unique hw]
        refine ⟨?_, by omega, by omega⟩
        rw [Int.mul_neg]; omega
      rw [this.1]; omega
  · by_cases hr : w ≤ 2 * r
    · rw [if_pos hr]
      have : (2 * (r + w * q) + w) / (2 * w) = q + 1 ∧ (2 * (r + w * q) + w) % (2 * w) = 2 * r - w := by
        rw [Int.ediv_emod_unique (by omega)]
        refine ⟨?_, by omega, by omega⟩
        rw [Int.mul_add, Int.mul_add, Int.mul_assoc]; omega
      exact this.1
    · rw [if_neg hr]
      have : (2 * (r + w * q) + w) / (2 * w) = q ∧ (2 * (r + w * q) + w) % (2 * w) = 2 * r + w := by
        rw [Int.ediv_emod_unique (by omega)]
        refine ⟨?_, by omega, by omega⟩
        rw [Int.mul_add, Int.mul_assoc]; omega
      rw [this.1]; omega
theorem r_lamt_succ (n : Nat) : r__law_amount (n + 1) = runB (b__law_amount (runB (b__law_due (r__law_amount n)) 8)) 10 := rfl
theorem law_at_ok {c : Bool} {rs : List Row} (h : WRs c rs) (hl : rs.length ≤ 5) (i : Nat) (hi : i < rs.length) (S : Store) : g__law_at [rowsD rs, .str rs[i].nm] S = .ok (.int (i : Nat)) S := by
  have hc : ∀ S, c__law_at_1 [some (rowsD rs), some (.str rs[i].nm), none] S = .ok (.lst ((rs.map Row.nm).map .str)) S := fun S => by
    unfold c__law_at_1
    rw [List.map_map]
    refine lcE_all rowD (fun r => .str r.nm) rs rfl (by rw [lineN_eq2]; omega) fun r hr => ⟨[some (rowsD rs), some (.str rs[i].nm), some (rowD r)], rfl, rfl, ?_⟩
    have r0 := fun S => row0 r S
    simp only [stillS_tup, stillS_lst, stillS_frz, stillS_str, nat10, nat2, runB, seqS, exS, asgS, retS, retN, dropS, ifS, nxS, nevS, brkS, cntS, setItS, forS, parS, op1, op2, chain, boolT, truT, notT, andT, orT, andE, orE, ifE, nilA, consA, appA, varD, cD, lstE, celE, tupE, slE, itE, itEn, cal_1, cal_2, cal_3, cal_4, cal_5, cal_6, cal_7, yesT, mulOk, List.map_cons, List.map_nil, List.length_cons, List.length_nil, List.getElem?_cons_zero, List.getElem?_cons_succ, List.set_cons_zero, List.set_cons_succ, List.replicate_succ, List.replicate_zero, List.cons_append, List.nil_append, List.append_nil, List.isEmpty_cons, List.isEmpty_nil, Nat.reduceAdd, Nat.reduceSub, Nat.reduceMul, Nat.reduceLeDiff, Nat.reduceEqDiff, Nat.zero_add, Nat.sub_zero, Nat.sub_self, Bool.not_true, Bool.not_false, Bool.true_and, Bool.false_and, Bool.and_true, Bool.and_false, Bool.true_or, Bool.false_or, Bool.or_true, Bool.or_false, Bool.false_eq_true, Bool.not_eq_true, Bool.not_eq_false, Bool.not_not, decide_eq_true_eq, decide_eq_false_iff_not, decide_true, decide_false, if_true, if_false, reduceIte, reduceCtorEq, Nat.zero_le, and_self, and_true, true_and, or_true, true_or, or_false, false_or, not_true_eq_false, not_false_eq_true, Int.reduceLT, Int.reduceLE, Int.reduceNeg, Int.reduceAdd, Int.reduceMul, Int.reduceSub, Int.reducePow, Int.reduceEq, Int.reduceToNat, Nat.reduceLT, Nat.reducePow, Int.cast_ofNat_Int, isi_non_int, isi_non_bool, isi_non_str, isi_non_tuple, isi_non_list, isi_non_dict, isi_non_tuple_list, isi_non_list_tuple, isi_bl_int, isi_bl_bool, isi_bl_str, isi_bl_tuple, isi_bl_list, isi_bl_dict, isi_bl_tuple_list, isi_bl_list_tuple, isi_int_int, isi_int_bool, isi_int_str, isi_int_tuple, isi_int_list, isi_int_dict, isi_int_tuple_list, isi_int_list_tuple, isi_str_int, isi_str_bool, isi_str_str, isi_str_tuple, isi_str_list, isi_str_dict, isi_str_tuple_list, isi_str_list_tuple, isi_tup_int, isi_tup_bool, isi_tup_str, isi_tup_tuple, isi_tup_list, isi_tup_dict, isi_tup_tuple_list, isi_tup_list_tuple, isi_lst_int, isi_lst_bool, isi_lst_str, isi_lst_tuple, isi_lst_list, isi_lst_dict, isi_lst_tuple_list, isi_lst_list_tuple, isi_frz_int, isi_frz_bool, isi_frz_str, isi_frz_tuple, isi_frz_list, isi_frz_dict, isi_frz_tuple_list, isi_frz_list_tuple, tru_bl, tru_int, tru_non, tru_tup, len_tup, ix_tup, tru_lst, len_lst, ix_lst, tru_frz, len_frz, ix_frz, sl_lst, sl_frz, sl_tup, asInt_int, at0, at1, at2, at3, at4, add_int, add_tup, add_str, add_lst, addC_lst, repC_lst, sub_int, mul_int, mul_lst, mul_tup, div_int, mod_int, pow_int, neg_int, not_bl, lt_int, le_int, gt_int, ge_int, eq_int, eq_str, eq_bl, eq_non, eq_int_non, eq_non_int, eq_str_non, eq_non_str, eq_bl_non, eq_non_bl, ne_int, ne_str, ne_bl, ne_non, ne_int_non, ne_non_int, ne_str_non, ne_non_str, ne_bl_non, ne_non_bl, isNone_non, isNone_int, isNone_str, isNone_bl, isNone_tup, isNone_lst, isNone_frz, max2_int, min2_int, abs_int, int_int, int_bl, still_tup, list_tup, tuple_tup, listC_tup, sv_tup, still_lst, list_lst, tuple_lst, listC_lst, sv_lst, still_frz, list_frz, tuple_frz, listC_frz, sv_frz, r1_int, r2_int, r3_int, tg_name, tg_tup, setAll_cons, setAll_nil, mtE, g1_one, g2_two, mkL_0, mkT_0, mkC_0, mkL_1, mkT_1, mkC_1, mkL_2, mkT_2, mkC_2, mkL_3, mkT_3, mkC_3, mkL_4, mkT_4, mkC_4, bnd_S, ret_S, lineN_eq2, wipe_nil, wipe_cons, r0]
  have hok : ∀ z ∈ rs.map Row.nm, PyData.strOk z = true := fun z hz => by
    obtain ⟨q, hq, rfl⟩ := List.mem_map.mp hz
    exact menu_ok _ (h.menu q hq)
  have hi2 : ∀ S, idxD (.lst ((rs.map Row.nm).map .str)) (.str rs[i].nm) S = .ok (.int (i : Nat)) S := fun S => by
    have s1 : SeqAt.shaped (D.str rs[i].nm).toP = true := (okD_str (hok _ (List.mem_map.mpr ⟨rs[i], List.getElem_mem hi, rfl⟩))).shp (by omega)
    have s2 : SeqAt.shaped (PyData.list (toPs ((rs.map Row.nm).map .str))) = true := (okD_lst (okD_strs hok)).shp (by omega)
    have s3 : idx? ((rs.map Row.nm).map .str) (.str rs[i].nm) = some i := by
      unfold idx?
      rw [List.findIdx?_eq_some_iff_getElem]
      refine ⟨by simpa using hi, ?_, fun j hj => ?_⟩
      · simp only [List.getElem_map]
        exact dq_self (okD_str (hok _ (List.mem_map.mpr ⟨rs[i], List.getElem_mem hi, rfl⟩)))
      · have hj2 : j < rs.length := by omega
        simp only [List.getElem_map]
        intro z
        have z2 := (dq_iff (okD_str (hok _ (List.mem_map.mpr ⟨rs[j], List.getElem_mem hj2, rfl⟩))) (okD_str (hok _ (List.mem_map.mpr ⟨rs[i], List.getElem_mem hi, rfl⟩)))).mp z
        injection z2 with z2
        have := (List.getElem_inj (h₀ := by simpa using hj2) (h₁ := by simpa using hi) h.names).mp (by simpa using z2)
        omega
    show (if (SeqAt.shaped (D.str rs[i].nm).toP && SeqAt.shaped (PyData.list (toPs ((rs.map Row.nm).map .str)))) = true then (match idx? ((rs.map Row.nm).map .str) (.str rs[i].nm) with | some j => Out.ok (D.int (j : Nat)) S | none => .stuck) else .stuck) = _
    rw [s1, s2, s3]
    rfl
  have hk : ∀ S, chkL (.lst ((rs.map Row.nm).map .str)) S = .ok (.lst ((rs.map Row.nm).map .str)) S := fun _ => rfl
  simp only [g__law_at, b__law_at, stillS_tup, stillS_lst, stillS_frz, stillS_str, nat10, nat2, runB, seqS, exS, asgS, retS, retN, dropS, ifS, nxS, nevS, brkS, cntS, setItS, forS, parS, op1, op2, chain, boolT, truT, notT, andT, orT, andE, orE, ifE, nilA, consA, appA, varD, cD, lstE, celE, tupE, slE, itE, itEn, cal_1, cal_2, cal_3, cal_4, cal_5, cal_6, cal_7, yesT, mulOk, List.map_cons, List.map_nil, List.length_cons, List.length_nil, List.getElem?_cons_zero, List.getElem?_cons_succ, List.set_cons_zero, List.set_cons_succ, List.replicate_succ, List.replicate_zero, List.cons_append, List.nil_append, List.append_nil, List.isEmpty_cons, List.isEmpty_nil, Nat.reduceAdd, Nat.reduceSub, Nat.reduceMul, Nat.reduceLeDiff, Nat.reduceEqDiff, Nat.zero_add, Nat.sub_zero, Nat.sub_self, Bool.not_true, Bool.not_false, Bool.true_and, Bool.false_and, Bool.and_true, Bool.and_false, Bool.true_or, Bool.false_or, Bool.or_true, Bool.or_false, Bool.false_eq_true, Bool.not_eq_true, Bool.not_eq_false, Bool.not_not, decide_eq_true_eq, decide_eq_false_iff_not, decide_true, decide_false, if_true, if_false, reduceIte, reduceCtorEq, Nat.zero_le, and_self, and_true, true_and, or_true, true_or, or_false, false_or, not_true_eq_false, not_false_eq_true, Int.reduceLT, Int.reduceLE, Int.reduceNeg, Int.reduceAdd, Int.reduceMul, Int.reduceSub, Int.reducePow, Int.reduceEq, Int.reduceToNat, Nat.reduceLT, Nat.reducePow, Int.cast_ofNat_Int, isi_non_int, isi_non_bool, isi_non_str, isi_non_tuple, isi_non_list, isi_non_dict, isi_non_tuple_list, isi_non_list_tuple, isi_bl_int, isi_bl_bool, isi_bl_str, isi_bl_tuple, isi_bl_list, isi_bl_dict, isi_bl_tuple_list, isi_bl_list_tuple, isi_int_int, isi_int_bool, isi_int_str, isi_int_tuple, isi_int_list, isi_int_dict, isi_int_tuple_list, isi_int_list_tuple, isi_str_int, isi_str_bool, isi_str_str, isi_str_tuple, isi_str_list, isi_str_dict, isi_str_tuple_list, isi_str_list_tuple, isi_tup_int, isi_tup_bool, isi_tup_str, isi_tup_tuple, isi_tup_list, isi_tup_dict, isi_tup_tuple_list, isi_tup_list_tuple, isi_lst_int, isi_lst_bool, isi_lst_str, isi_lst_tuple, isi_lst_list, isi_lst_dict, isi_lst_tuple_list, isi_lst_list_tuple, isi_frz_int, isi_frz_bool, isi_frz_str, isi_frz_tuple, isi_frz_list, isi_frz_dict, isi_frz_tuple_list, isi_frz_list_tuple, tru_bl, tru_int, tru_non, tru_tup, len_tup, ix_tup, tru_lst, len_lst, ix_lst, tru_frz, len_frz, ix_frz, sl_lst, sl_frz, sl_tup, asInt_int, at0, at1, at2, at3, at4, add_int, add_tup, add_str, add_lst, addC_lst, repC_lst, sub_int, mul_int, mul_lst, mul_tup, div_int, mod_int, pow_int, neg_int, not_bl, lt_int, le_int, gt_int, ge_int, eq_int, eq_str, eq_bl, eq_non, eq_int_non, eq_non_int, eq_str_non, eq_non_str, eq_bl_non, eq_non_bl, ne_int, ne_str, ne_bl, ne_non, ne_int_non, ne_non_int, ne_str_non, ne_non_str, ne_bl_non, ne_non_bl, isNone_non, isNone_int, isNone_str, isNone_bl, isNone_tup, isNone_lst, isNone_frz, max2_int, min2_int, abs_int, int_int, int_bl, still_tup, list_tup, tuple_tup, listC_tup, sv_tup, still_lst, list_lst, tuple_lst, listC_lst, sv_lst, still_frz, list_frz, tuple_frz, listC_frz, sv_frz, r1_int, r2_int, r3_int, tg_name, tg_tup, setAll_cons, setAll_nil, mtE, g1_one, g2_two, mkL_0, mkT_0, mkC_0, mkL_1, mkT_1, mkC_1, mkL_2, mkT_2, mkC_2, mkL_3, mkT_3, mkC_3, mkL_4, mkT_4, mkC_4, bnd_S, ret_S, lineN_eq2, wipe_nil, wipe_cons, hc, hk, hi2]
theorem lamt_run {rs : List Row} (i : Nat) (hi : i < rs.length) (w : WNum rs[i]) (rr : List D → M D) (n : Int) (hd : ∀ S, rr [rowsD rs, .int (i : Nat), .int n] S = .ok (.int (due rs rs[i] n)) S) (S : Store) :
    runB (b__law_amount rr) 10 [rowsD rs, .int (i : Nat), .int n] S = .ok (.int (amt rs rs[i] n)) S := by
  have ix := fun S => ix_rows rs i hi S
  have r3 := fun S => row3 rs[i] S
  have r5 := fun S => row5 rs[i] S
  have r6 := fun S => row6 rs[i] S
  have r7 := fun S => row7 rs[i] S
  have hw := w.whole
  have m1 := fun S => mul_l (i := rs[i].bot) (j := rs[i].unit) (by have := w.bot; omega) S
  have m2 := fun i' S => mul_r (i := i') (j := rs[i].unit) (by have := w.unit; omega) S
  have m3 := fun j S => mul_l (i := 2) (j := j) (by omega) S
  have d1 := fun i' S => div_s (i := i') (j := rs[i].bot * rs[i].unit) (by omega) S
  have d2 := fun i' S => mod_s (i := i') (j := rs[i].bot * rs[i].unit) (by omega) S
  obtain ⟨s1, s2⟩ := div_split (due rs rs[i] n) (rs[i].bot * rs[i].unit) (by omega)
  have hway := w.way
  simp only [ways, List.mem_cons, List.not_mem_nil, or_false] at hway
  unfold amt am rnd
  rw [show due1 rs[i] (num rs rs[i] n) = due rs rs[i] n from rfl]
  rcases hway with e | e | e
  · rw [if_neg (by rw [e]; exact nd_up), if_neg (by rw [e]; exact nn_up), s1]
    by_cases hp : 0 < due rs rs[i] n % (rs[i].bot * rs[i].unit)
    · simp only [b__law_amount, stillS_tup, stillS_lst, stillS_frz, stillS_str, nat10, nat2, runB, seqS, exS, asgS, retS, retN, dropS, ifS, nxS, nevS, brkS, cntS, setItS, forS, parS, op1, op2, chain, boolT, truT, notT, andT, orT, andE, orE, ifE, nilA, consA, appA, varD, cD, lstE, celE, tupE, slE, itE, itEn, cal_1, cal_2, cal_3, cal_4, cal_5, cal_6, cal_7, yesT, mulOk, List.map_cons, List.map_nil, List.length_cons, List.length_nil, List.getElem?_cons_zero, List.getElem?_cons_succ, List.set_cons_zero, List.set_cons_succ, List.replicate_succ, List.replicate_zero, List.cons_append, List.nil_append, List.append_nil, List.isEmpty_cons, List.isEmpty_nil, Nat.reduceAdd, Nat.reduceSub, Nat.reduceMul, Nat.reduceLeDiff, Nat.reduceEqDiff, Nat.zero_add, Nat.sub_zero, Nat.sub_self, Bool.not_true, Bool.not_false, Bool.true_and, Bool.false_and, Bool.and_true, Bool.and_false, Bool.true_or, Bool.false_or, Bool.or_true, Bool.or_false, Bool.false_eq_true, Bool.not_eq_true, Bool.not_eq_false, Bool.not_not, decide_eq_true_eq, decide_eq_false_iff_not, decide_true, decide_false, if_true, if_false, reduceIte, reduceCtorEq, Nat.zero_le, and_self, and_true, true_and, or_true, true_or, or_false, false_or, not_true_eq_false, not_false_eq_true, Int.reduceLT, Int.reduceLE, Int.reduceNeg, Int.reduceAdd, Int.reduceMul, Int.reduceSub, Int.reducePow, Int.reduceEq, Int.reduceToNat, Nat.reduceLT, Nat.reducePow, Int.cast_ofNat_Int, isi_non_int, isi_non_bool, isi_non_str, isi_non_tuple, isi_non_list, isi_non_dict, isi_non_tuple_list, isi_non_list_tuple, isi_bl_int, isi_bl_bool, isi_bl_str, isi_bl_tuple, isi_bl_list, isi_bl_dict, isi_bl_tuple_list, isi_bl_list_tuple, isi_int_int, isi_int_bool, isi_int_str, isi_int_tuple, isi_int_list, isi_int_dict, isi_int_tuple_list, isi_int_list_tuple, isi_str_int, isi_str_bool, isi_str_str, isi_str_tuple, isi_str_list, isi_str_dict, isi_str_tuple_list, isi_str_list_tuple, isi_tup_int, isi_tup_bool, isi_tup_str, isi_tup_tuple, isi_tup_list, isi_tup_dict, isi_tup_tuple_list, isi_tup_list_tuple, isi_lst_int, isi_lst_bool, isi_lst_str, isi_lst_tuple, isi_lst_list, isi_lst_dict, isi_lst_tuple_list, isi_lst_list_tuple, isi_frz_int, isi_frz_bool, isi_frz_str, isi_frz_tuple, isi_frz_list, isi_frz_dict, isi_frz_tuple_list, isi_frz_list_tuple, tru_bl, tru_int, tru_non, tru_tup, len_tup, ix_tup, tru_lst, len_lst, ix_lst, tru_frz, len_frz, ix_frz, sl_lst, sl_frz, sl_tup, asInt_int, at0, at1, at2, at3, at4, add_int, add_tup, add_str, add_lst, addC_lst, repC_lst, sub_int, mul_int, mul_lst, mul_tup, div_int, mod_int, pow_int, neg_int, not_bl, lt_int, le_int, gt_int, ge_int, eq_int, eq_str, eq_bl, eq_non, eq_int_non, eq_non_int, eq_str_non, eq_non_str, eq_bl_non, eq_non_bl, ne_int, ne_str, ne_bl, ne_non, ne_int_non, ne_non_int, ne_str_non, ne_non_str, ne_bl_non, ne_non_bl, isNone_non, isNone_int, isNone_str, isNone_bl, isNone_tup, isNone_lst, isNone_frz, max2_int, min2_int, abs_int, int_int, int_bl, still_tup, list_tup, tuple_tup, listC_tup, sv_tup, still_lst, list_lst, tuple_lst, listC_lst, sv_lst, still_frz, list_frz, tuple_frz, listC_frz, sv_frz, r1_int, r2_int, r3_int, tg_name, tg_tup, setAll_cons, setAll_nil, mtE, g1_one, g2_two, mkL_0, mkT_0, mkC_0, mkL_1, mkT_1, mkC_1, mkL_2, mkT_2, mkC_2, mkL_3, mkT_3, mkC_3, mkL_4, mkT_4, mkC_4, bnd_S, ret_S, lineN_eq2, wipe_nil, wipe_cons, -mul_int, -div_int, -mod_int, ix, r3, r5, r6, r7, hd, m1, d1, d2, e, hp, m2, mx]
    · simp only [b__law_amount, stillS_tup, stillS_lst, stillS_frz, stillS_str, nat10, nat2, runB, seqS, exS, asgS, retS, retN, dropS, ifS, nxS, nevS, brkS, cntS, setItS, forS, parS, op1, op2, chain, boolT, truT, notT, andT, orT, andE, orE, ifE, nilA, consA, appA, varD, cD, lstE, celE, tupE, slE, itE, itEn, cal_1, cal_2, cal_3, cal_4, cal_5, cal_6, cal_7, yesT, mulOk, List.map_cons, List.map_nil, List.length_cons, List.length_nil, List.getElem?_cons_zero, List.getElem?_cons_succ, List.set_cons_zero, List.set_cons_succ, List.replicate_succ, List.replicate_zero, List.cons_append, List.nil_append, List.append_nil, List.isEmpty_cons, List.isEmpty_nil, Nat.reduceAdd, Nat.reduceSub, Nat.reduceMul, Nat.reduceLeDiff, Nat.reduceEqDiff, Nat.zero_add, Nat.sub_zero, Nat.sub_self, Bool.not_true, Bool.not_false, Bool.true_and, Bool.false_and, Bool.and_true, Bool.and_false, Bool.true_or, Bool.false_or, Bool.or_true, Bool.or_false, Bool.false_eq_true, Bool.not_eq_true, Bool.not_eq_false, Bool.not_not, decide_eq_true_eq, decide_eq_false_iff_not, decide_true, decide_false, if_true, if_false, reduceIte, reduceCtorEq, Nat.zero_le, and_self, and_true, true_and, or_true, true_or, or_false, false_or, not_true_eq_false, not_false_eq_true, Int.reduceLT, Int.reduceLE, Int.reduceNeg, Int.reduceAdd, Int.reduceMul, Int.reduceSub, Int.reducePow, Int.reduceEq, Int.reduceToNat, Nat.reduceLT, Nat.reducePow, Int.cast_ofNat_Int, isi_non_int, isi_non_bool, isi_non_str, isi_non_tuple, isi_non_list, isi_non_dict, isi_non_tuple_list, isi_non_list_tuple, isi_bl_int, isi_bl_bool, isi_bl_str, isi_bl_tuple, isi_bl_list, isi_bl_dict, isi_bl_tuple_list, isi_bl_list_tuple, isi_int_int, isi_int_bool, isi_int_str, isi_int_tuple, isi_int_list, isi_int_dict, isi_int_tuple_list, isi_int_list_tuple, isi_str_int, isi_str_bool, isi_str_str, isi_str_tuple, isi_str_list, isi_str_dict, isi_str_tuple_list, isi_str_list_tuple, isi_tup_int, isi_tup_bool, isi_tup_str, isi_tup_tuple, isi_tup_list, isi_tup_dict, isi_tup_tuple_list, isi_tup_list_tuple, isi_lst_int, isi_lst_bool, isi_lst_str, isi_lst_tuple, isi_lst_list, isi_lst_dict, isi_lst_tuple_list, isi_lst_list_tuple, isi_frz_int, isi_frz_bool, isi_frz_str, isi_frz_tuple, isi_frz_list, isi_frz_dict, isi_frz_tuple_list, isi_frz_list_tuple, tru_bl, tru_int, tru_non, tru_tup, len_tup, ix_tup, tru_lst, len_lst, ix_lst, tru_frz, len_frz, ix_frz, sl_lst, sl_frz, sl_tup, asInt_int, at0, at1, at2, at3, at4, add_int, add_tup, add_str, add_lst, addC_lst, repC_lst, sub_int, mul_int, mul_lst, mul_tup, div_int, mod_int, pow_int, neg_int, not_bl, lt_int, le_int, gt_int, ge_int, eq_int, eq_str, eq_bl, eq_non, eq_int_non, eq_non_int, eq_str_non, eq_non_str, eq_bl_non, eq_non_bl, ne_int, ne_str, ne_bl, ne_non, ne_int_non, ne_non_int, ne_str_non, ne_non_str, ne_bl_non, ne_non_bl, isNone_non, isNone_int, isNone_str, isNone_bl, isNone_tup, isNone_lst, isNone_frz, max2_int, min2_int, abs_int, int_int, int_bl, still_tup, list_tup, tuple_tup, listC_tup, sv_tup, still_lst, list_lst, tuple_lst, listC_lst, sv_lst, still_frz, list_frz, tuple_frz, listC_frz, sv_frz, r1_int, r2_int, r3_int, tg_name, tg_tup, setAll_cons, setAll_nil, mtE, g1_one, g2_two, mkL_0, mkT_0, mkC_0, mkL_1, mkT_1, mkC_1, mkL_2, mkT_2, mkC_2, mkL_3, mkT_3, mkC_3, mkL_4, mkT_4, mkC_4, bnd_S, ret_S, lineN_eq2, wipe_nil, wipe_cons, -mul_int, -div_int, -mod_int, ix, r3, r5, r6, r7, hd, m1, d1, d2, e, hp, m2, mx, Int.add_zero]
  · rw [if_pos e]
    by_cases hp : 0 < due rs rs[i] n % (rs[i].bot * rs[i].unit)
    · simp only [b__law_amount, stillS_tup, stillS_lst, stillS_frz, stillS_str, nat10, nat2, runB, seqS, exS, asgS, retS, retN, dropS, ifS, nxS, nevS, brkS, cntS, setItS, forS, parS, op1, op2, chain, boolT, truT, notT, andT, orT, andE, orE, ifE, nilA, consA, appA, varD, cD, lstE, celE, tupE, slE, itE, itEn, cal_1, cal_2, cal_3, cal_4, cal_5, cal_6, cal_7, yesT, mulOk, List.map_cons, List.map_nil, List.length_cons, List.length_nil, List.getElem?_cons_zero, List.getElem?_cons_succ, List.set_cons_zero, List.set_cons_succ, List.replicate_succ, List.replicate_zero, List.cons_append, List.nil_append, List.append_nil, List.isEmpty_cons, List.isEmpty_nil, Nat.reduceAdd, Nat.reduceSub, Nat.reduceMul, Nat.reduceLeDiff, Nat.reduceEqDiff, Nat.zero_add, Nat.sub_zero, Nat.sub_self, Bool.not_true, Bool.not_false, Bool.true_and, Bool.false_and, Bool.and_true, Bool.and_false, Bool.true_or, Bool.false_or, Bool.or_true, Bool.or_false, Bool.false_eq_true, Bool.not_eq_true, Bool.not_eq_false, Bool.not_not, decide_eq_true_eq, decide_eq_false_iff_not, decide_true, decide_false, if_true, if_false, reduceIte, reduceCtorEq, Nat.zero_le, and_self, and_true, true_and, or_true, true_or, or_false, false_or, not_true_eq_false, not_false_eq_true, Int.reduceLT, Int.reduceLE, Int.reduceNeg, Int.reduceAdd, Int.reduceMul, Int.reduceSub, Int.reducePow, Int.reduceEq, Int.reduceToNat, Nat.reduceLT, Nat.reducePow, Int.cast_ofNat_Int, isi_non_int, isi_non_bool, isi_non_str, isi_non_tuple, isi_non_list, isi_non_dict, isi_non_tuple_list, isi_non_list_tuple, isi_bl_int, isi_bl_bool, isi_bl_str, isi_bl_tuple, isi_bl_list, isi_bl_dict, isi_bl_tuple_list, isi_bl_list_tuple, isi_int_int, isi_int_bool, isi_int_str, isi_int_tuple, isi_int_list, isi_int_dict, isi_int_tuple_list, isi_int_list_tuple, isi_str_int, isi_str_bool, isi_str_str, isi_str_tuple, isi_str_list, isi_str_dict, isi_str_tuple_list, isi_str_list_tuple, isi_tup_int, isi_tup_bool, isi_tup_str, isi_tup_tuple, isi_tup_list, isi_tup_dict, isi_tup_tuple_list, isi_tup_list_tuple, isi_lst_int, isi_lst_bool, isi_lst_str, isi_lst_tuple, isi_lst_list, isi_lst_dict, isi_lst_tuple_list, isi_lst_list_tuple, isi_frz_int, isi_frz_bool, isi_frz_str, isi_frz_tuple, isi_frz_list, isi_frz_dict, isi_frz_tuple_list, isi_frz_list_tuple, tru_bl, tru_int, tru_non, tru_tup, len_tup, ix_tup, tru_lst, len_lst, ix_lst, tru_frz, len_frz, ix_frz, sl_lst, sl_frz, sl_tup, asInt_int, at0, at1, at2, at3, at4, add_int, add_tup, add_str, add_lst, addC_lst, repC_lst, sub_int, mul_int, mul_lst, mul_tup, div_int, mod_int, pow_int, neg_int, not_bl, lt_int, le_int, gt_int, ge_int, eq_int, eq_str, eq_bl, eq_non, eq_int_non, eq_non_int, eq_str_non, eq_non_str, eq_bl_non, eq_non_bl, ne_int, ne_str, ne_bl, ne_non, ne_int_non, ne_non_int, ne_str_non, ne_non_str, ne_bl_non, ne_non_bl, isNone_non, isNone_int, isNone_str, isNone_bl, isNone_tup, isNone_lst, isNone_frz, max2_int, min2_int, abs_int, int_int, int_bl, still_tup, list_tup, tuple_tup, listC_tup, sv_tup, still_lst, list_lst, tuple_lst, listC_lst, sv_lst, still_frz, list_frz, tuple_frz, listC_frz, sv_frz, r1_int, r2_int, r3_int, tg_name, tg_tup, setAll_cons, setAll_nil, mtE, g1_one, g2_two, mkL_0, mkT_0, mkC_0, mkL_1, mkT_1, mkC_1, mkL_2, mkT_2, mkC_2, mkL_3, mkT_3, mkC_3, mkL_4, mkT_4, mkC_4, bnd_S, ret_S, lineN_eq2, wipe_nil, wipe_cons, -mul_int, -div_int, -mod_int, ix, r3, r5, r6, r7, hd, m1, d1, d2, e, nu_down, nn_down, hp, m2, mx]
    · simp only [b__law_amount, stillS_tup, stillS_lst, stillS_frz, stillS_str, nat10, nat2, runB, seqS, exS, asgS, retS, retN, dropS, ifS, nxS, nevS, brkS, cntS, setItS, forS, parS, op1, op2, chain, boolT, truT, notT, andT, orT, andE, orE, ifE, nilA, consA, appA, varD, cD, lstE, celE, tupE, slE, itE, itEn, cal_1, cal_2, cal_3, cal_4, cal_5, cal_6, cal_7, yesT, mulOk, List.map_cons, List.map_nil, List.length_cons, List.length_nil, List.getElem?_cons_zero, List.getElem?_cons_succ, List.set_cons_zero, List.set_cons_succ, List.replicate_succ, List.replicate_zero, List.cons_append, List.nil_append, List.append_nil, List.isEmpty_cons, List.isEmpty_nil, Nat.reduceAdd, Nat.reduceSub, Nat.reduceMul, Nat.reduceLeDiff, Nat.reduceEqDiff, Nat.zero_add, Nat.sub_zero, Nat.sub_self, Bool.not_true, Bool.not_false, Bool.true_and, Bool.false_and, Bool.and_true, Bool.and_false, Bool.true_or, Bool.false_or, Bool.or_true, Bool.or_false, Bool.false_eq_true, Bool.not_eq_true, Bool.not_eq_false, Bool.not_not, decide_eq_true_eq, decide_eq_false_iff_not, decide_true, decide_false, if_true, if_false, reduceIte, reduceCtorEq, Nat.zero_le, and_self, and_true, true_and, or_true, true_or, or_false, false_or, not_true_eq_false, not_false_eq_true, Int.reduceLT, Int.reduceLE, Int.reduceNeg, Int.reduceAdd, Int.reduceMul, Int.reduceSub, Int.reducePow, Int.reduceEq, Int.reduceToNat, Nat.reduceLT, Nat.reducePow, Int.cast_ofNat_Int, isi_non_int, isi_non_bool, isi_non_str, isi_non_tuple, isi_non_list, isi_non_dict, isi_non_tuple_list, isi_non_list_tuple, isi_bl_int, isi_bl_bool, isi_bl_str, isi_bl_tuple, isi_bl_list, isi_bl_dict, isi_bl_tuple_list, isi_bl_list_tuple, isi_int_int, isi_int_bool, isi_int_str, isi_int_tuple, isi_int_list, isi_int_dict, isi_int_tuple_list, isi_int_list_tuple, isi_str_int, isi_str_bool, isi_str_str, isi_str_tuple, isi_str_list, isi_str_dict, isi_str_tuple_list, isi_str_list_tuple, isi_tup_int, isi_tup_bool, isi_tup_str, isi_tup_tuple, isi_tup_list, isi_tup_dict, isi_tup_tuple_list, isi_tup_list_tuple, isi_lst_int, isi_lst_bool, isi_lst_str, isi_lst_tuple, isi_lst_list, isi_lst_dict, isi_lst_tuple_list, isi_lst_list_tuple, isi_frz_int, isi_frz_bool, isi_frz_str, isi_frz_tuple, isi_frz_list, isi_frz_dict, isi_frz_tuple_list, isi_frz_list_tuple, tru_bl, tru_int, tru_non, tru_tup, len_tup, ix_tup, tru_lst, len_lst, ix_lst, tru_frz, len_frz, ix_frz, sl_lst, sl_frz, sl_tup, asInt_int, at0, at1, at2, at3, at4, add_int, add_tup, add_str, add_lst, addC_lst, repC_lst, sub_int, mul_int, mul_lst, mul_tup, div_int, mod_int, pow_int, neg_int, not_bl, lt_int, le_int, gt_int, ge_int, eq_int, eq_str, eq_bl, eq_non, eq_int_non, eq_non_int, eq_str_non, eq_non_str, eq_bl_non, eq_non_bl, ne_int, ne_str, ne_bl, ne_non, ne_int_non, ne_non_int, ne_str_non, ne_non_str, ne_bl_non, ne_non_bl, isNone_non, isNone_int, isNone_str, isNone_bl, isNone_tup, isNone_lst, isNone_frz, max2_int, min2_int, abs_int, int_int, int_bl, still_tup, list_tup, tuple_tup, listC_tup, sv_tup, still_lst, list_lst, tuple_lst, listC_lst, sv_lst, still_frz, list_frz, tuple_frz, listC_frz, sv_frz, r1_int, r2_int, r3_int, tg_name, tg_tup, setAll_cons, setAll_nil, mtE, g1_one, g2_two, mkL_0, mkT_0, mkC_0, mkL_1, mkT_1, mkC_1, mkL_2, mkT_2, mkC_2, mkL_3, mkT_3, mkC_3, mkL_4, mkT_4, mkC_4, bnd_S, ret_S, lineN_eq2, wipe_nil, wipe_cons, -mul_int, -div_int, -mod_int, ix, r3, r5, r6, r7, hd, m1, d1, d2, e, nu_down, nn_down, hp, m2, mx]
  · rw [if_neg (by rw [e]; exact nd_near), if_pos e, s2]
    by_cases hp : rs[i].bot * rs[i].unit ≤ 2 * (due rs rs[i] n % (rs[i].bot * rs[i].unit))
    · have hp2 : 0 < due rs rs[i] n % (rs[i].bot * rs[i].unit) := by omega
      simp only [b__law_amount, stillS_tup, stillS_lst, stillS_frz, stillS_str, nat10, nat2, runB, seqS, exS, asgS, retS, retN, dropS, ifS, nxS, nevS, brkS, cntS, setItS, forS, parS, op1, op2, chain, boolT, truT, notT, andT, orT, andE, orE, ifE, nilA, consA, appA, varD, cD, lstE, celE, tupE, slE, itE, itEn, cal_1, cal_2, cal_3, cal_4, cal_5, cal_6, cal_7, yesT, mulOk, List.map_cons, List.map_nil, List.length_cons, List.length_nil, List.getElem?_cons_zero, List.getElem?_cons_succ, List.set_cons_zero, List.set_cons_succ, List.replicate_succ, List.replicate_zero, List.cons_append, List.nil_append, List.append_nil, List.isEmpty_cons, List.isEmpty_nil, Nat.reduceAdd, Nat.reduceSub, Nat.reduceMul, Nat.reduceLeDiff, Nat.reduceEqDiff, Nat.zero_add, Nat.sub_zero, Nat.sub_self, Bool.not_true, Bool.not_false, Bool.true_and, Bool.false_and, Bool.and_true, Bool.and_false, Bool.true_or, Bool.false_or, Bool.or_true, Bool.or_false, Bool.false_eq_true, Bool.not_eq_true, Bool.not_eq_false, Bool.not_not, decide_eq_true_eq, decide_eq_false_iff_not, decide_true, decide_false, if_true, if_false, reduceIte, reduceCtorEq, Nat.zero_le, and_self, and_true, true_and, or_true, true_or, or_false, false_or, not_true_eq_false, not_false_eq_true, Int.reduceLT, Int.reduceLE, Int.reduceNeg, Int.reduceAdd, Int.reduceMul, Int.reduceSub, Int.reducePow, Int.reduceEq, Int.reduceToNat, Nat.reduceLT, Nat.reducePow, Int.cast_ofNat_Int, isi_non_int, isi_non_bool, isi_non_str, isi_non_tuple, isi_non_list, isi_non_dict, isi_non_tuple_list, isi_non_list_tuple, isi_bl_int, isi_bl_bool, isi_bl_str, isi_bl_tuple, isi_bl_list, isi_bl_dict, isi_bl_tuple_list, isi_bl_list_tuple, isi_int_int, isi_int_bool, isi_int_str, isi_int_tuple, isi_int_list, isi_int_dict, isi_int_tuple_list, isi_int_list_tuple, isi_str_int, isi_str_bool, isi_str_str, isi_str_tuple, isi_str_list, isi_str_dict, isi_str_tuple_list, isi_str_list_tuple, isi_tup_int, isi_tup_bool, isi_tup_str, isi_tup_tuple, isi_tup_list, isi_tup_dict, isi_tup_tuple_list, isi_tup_list_tuple, isi_lst_int, isi_lst_bool, isi_lst_str, isi_lst_tuple, isi_lst_list, isi_lst_dict, isi_lst_tuple_list, isi_lst_list_tuple, isi_frz_int, isi_frz_bool, isi_frz_str, isi_frz_tuple, isi_frz_list, isi_frz_dict, isi_frz_tuple_list, isi_frz_list_tuple, tru_bl, tru_int, tru_non, tru_tup, len_tup, ix_tup, tru_lst, len_lst, ix_lst, tru_frz, len_frz, ix_frz, sl_lst, sl_frz, sl_tup, asInt_int, at0, at1, at2, at3, at4, add_int, add_tup, add_str, add_lst, addC_lst, repC_lst, sub_int, mul_int, mul_lst, mul_tup, div_int, mod_int, pow_int, neg_int, not_bl, lt_int, le_int, gt_int, ge_int, eq_int, eq_str, eq_bl, eq_non, eq_int_non, eq_non_int, eq_str_non, eq_non_str, eq_bl_non, eq_non_bl, ne_int, ne_str, ne_bl, ne_non, ne_int_non, ne_non_int, ne_str_non, ne_non_str, ne_bl_non, ne_non_bl, isNone_non, isNone_int, isNone_str, isNone_bl, isNone_tup, isNone_lst, isNone_frz, max2_int, min2_int, abs_int, int_int, int_bl, still_tup, list_tup, tuple_tup, listC_tup, sv_tup, still_lst, list_lst, tuple_lst, listC_lst, sv_lst, still_frz, list_frz, tuple_frz, listC_frz, sv_frz, r1_int, r2_int, r3_int, tg_name, tg_tup, setAll_cons, setAll_nil, mtE, g1_one, g2_two, mkL_0, mkT_0, mkC_0, mkL_1, mkT_1, mkC_1, mkL_2, mkT_2, mkC_2, mkL_3, mkT_3, mkC_3, mkL_4, mkT_4, mkC_4, bnd_S, ret_S, lineN_eq2, wipe_nil, wipe_cons, -mul_int, -div_int, -mod_int, ix, r3, r5, r6, r7, hd, m1, d1, d2, e, nu_near, hp, hp2, m2, m3, mx]
    · by_cases hp2 : 0 < due rs rs[i] n % (rs[i].bot * rs[i].unit)
      · simp only [b__law_amount, stillS_tup, stillS_lst, stillS_frz, stillS_str, nat10, nat2, runB, seqS, exS, asgS, retS, retN, dropS, ifS, nxS, nevS, brkS, cntS, setItS, forS, parS, op1, op2, chain, boolT, truT, notT, andT, orT, andE, orE, ifE, nilA, consA, appA, varD, cD, lstE, celE, tupE, slE, itE, itEn, cal_1, cal_2, cal_3, cal_4, cal_5, cal_6, cal_7, yesT, mulOk, List.map_cons, List.map_nil, List.length_cons, List.length_nil, List.getElem?_cons_zero, List.getElem?_cons_succ, List.set_cons_zero, List.set_cons_succ, List.replicate_succ, List.replicate_zero, List.cons_append, List.nil_append, List.append_nil, List.isEmpty_cons, List.isEmpty_nil, Nat.reduceAdd, Nat.reduceSub, Nat.reduceMul, Nat.reduceLeDiff, Nat.reduceEqDiff, Nat.zero_add, Nat.sub_zero, Nat.sub_self, Bool.not_true, Bool.not_false, Bool.true_and, Bool.false_and, Bool.and_true, Bool.and_false, Bool.true_or, Bool.false_or, Bool.or_true, Bool.or_false, Bool.false_eq_true, Bool.not_eq_true, Bool.not_eq_false, Bool.not_not, decide_eq_true_eq, decide_eq_false_iff_not, decide_true, decide_false, if_true, if_false, reduceIte, reduceCtorEq, Nat.zero_le, and_self, and_true, true_and, or_true, true_or, or_false, false_or, not_true_eq_false, not_false_eq_true, Int.reduceLT, Int.reduceLE, Int.reduceNeg, Int.reduceAdd, Int.reduceMul, Int.reduceSub, Int.reducePow, Int.reduceEq, Int.reduceToNat, Nat.reduceLT, Nat.reducePow, Int.cast_ofNat_Int, isi_non_int, isi_non_bool, isi_non_str, isi_non_tuple, isi_non_list, isi_non_dict, isi_non_tuple_list, isi_non_list_tuple, isi_bl_int, isi_bl_bool, isi_bl_str, isi_bl_tuple, isi_bl_list, isi_bl_dict, isi_bl_tuple_list, isi_bl_list_tuple, isi_int_int, isi_int_bool, isi_int_str, isi_int_tuple, isi_int_list, isi_int_dict, isi_int_tuple_list, isi_int_list_tuple, isi_str_int, isi_str_bool, isi_str_str, isi_str_tuple, isi_str_list, isi_str_dict, isi_str_tuple_list, isi_str_list_tuple, isi_tup_int, isi_tup_bool, isi_tup_str, isi_tup_tuple, isi_tup_list, isi_tup_dict, isi_tup_tuple_list, isi_tup_list_tuple, isi_lst_int, isi_lst_bool, isi_lst_str, isi_lst_tuple, isi_lst_list, isi_lst_dict, isi_lst_tuple_list, isi_lst_list_tuple, isi_frz_int, isi_frz_bool, isi_frz_str, isi_frz_tuple, isi_frz_list, isi_frz_dict, isi_frz_tuple_list, isi_frz_list_tuple, tru_bl, tru_int, tru_non, tru_tup, len_tup, ix_tup, tru_lst, len_lst, ix_lst, tru_frz, len_frz, ix_frz, sl_lst, sl_frz, sl_tup, asInt_int, at0, at1, at2, at3, at4, add_int, add_tup, add_str, add_lst, addC_lst, repC_lst, sub_int, mul_int, mul_lst, mul_tup, div_int, mod_int, pow_int, neg_int, not_bl, lt_int, le_int, gt_int, ge_int, eq_int, eq_str, eq_bl, eq_non, eq_int_non, eq_non_int, eq_str_non, eq_non_str, eq_bl_non, eq_non_bl, ne_int, ne_str, ne_bl, ne_non, ne_int_non, ne_non_int, ne_str_non, ne_non_str, ne_bl_non, ne_non_bl, isNone_non, isNone_int, isNone_str, isNone_bl, isNone_tup, isNone_lst, isNone_frz, max2_int, min2_int, abs_int, int_int, int_bl, still_tup, list_tup, tuple_tup, listC_tup, sv_tup, still_lst, list_lst, tuple_lst, listC_lst, sv_lst, still_frz, list_frz, tuple_frz, listC_frz, sv_frz, r1_int, r2_int, r3_int, tg_name, tg_tup, setAll_cons, setAll_nil, mtE, g1_one, g2_two, mkL_0, mkT_0, mkC_0, mkL_1, mkT_1, mkC_1, mkL_2, mkT_2, mkC_2, mkL_3, mkT_3, mkC_3, mkL_4, mkT_4, mkC_4, bnd_S, ret_S, lineN_eq2, wipe_nil, wipe_cons, -mul_int, -div_int, -mod_int, ix, r3, r5, r6, r7, hd, m1, d1, d2, e, nu_near, hp, hp2, m2, m3, mx, Int.add_zero]
      · simp only [b__law_amount, stillS_tup, stillS_lst, stillS_frz, stillS_str, nat10, nat2, runB, seqS, exS, asgS, retS, retN, dropS, ifS, nxS, nevS, brkS, cntS, setItS, forS, parS, op1, op2, chain, boolT, truT, notT, andT, orT, andE, orE, ifE, nilA, consA, appA, varD, cD, lstE, celE, tupE, slE, itE, itEn, cal_1, cal_2, cal_3, cal_4, cal_5, cal_6, cal_7, yesT, mulOk, List.map_cons, List.map_nil, List.length_cons, List.length_nil, List.getElem?_cons_zero, List.getElem?_cons_succ, List.set_cons_zero, List.set_cons_succ, List.replicate_succ, List.replicate_zero, List.cons_append, List.nil_append, List.append_nil, List.isEmpty_cons, List.isEmpty_nil, Nat.reduceAdd, Nat.reduceSub, Nat.reduceMul, Nat.reduceLeDiff, Nat.reduceEqDiff, Nat.zero_add, Nat.sub_zero, Nat.sub_self, Bool.not_true, Bool.not_false, Bool.true_and, Bool.false_and, Bool.and_true, Bool.and_false, Bool.true_or, Bool.false_or, Bool.or_true, Bool.or_false, Bool.false_eq_true, Bool.not_eq_true, Bool.not_eq_false, Bool.not_not, decide_eq_true_eq, decide_eq_false_iff_not, decide_true, decide_false, if_true, if_false, reduceIte, reduceCtorEq, Nat.zero_le, and_self, and_true, true_and, or_true, true_or, or_false, false_or, not_true_eq_false, not_false_eq_true, Int.reduceLT, Int.reduceLE, Int.reduceNeg, Int.reduceAdd, Int.reduceMul, Int.reduceSub, Int.reducePow, Int.reduceEq, Int.reduceToNat, Nat.reduceLT, Nat.reducePow, Int.cast_ofNat_Int, isi_non_int, isi_non_bool, isi_non_str, isi_non_tuple, isi_non_list, isi_non_dict, isi_non_tuple_list, isi_non_list_tuple, isi_bl_int, isi_bl_bool, isi_bl_str, isi_bl_tuple, isi_bl_list, isi_bl_dict, isi_bl_tuple_list, isi_bl_list_tuple, isi_int_int, isi_int_bool, isi_int_str, isi_int_tuple, isi_int_list, isi_int_dict, isi_int_tuple_list, isi_int_list_tuple, isi_str_int, isi_str_bool, isi_str_str, isi_str_tuple, isi_str_list, isi_str_dict, isi_str_tuple_list, isi_str_list_tuple, isi_tup_int, isi_tup_bool, isi_tup_str, isi_tup_tuple, isi_tup_list, isi_tup_dict, isi_tup_tuple_list, isi_tup_list_tuple, isi_lst_int, isi_lst_bool, isi_lst_str, isi_lst_tuple, isi_lst_list, isi_lst_dict, isi_lst_tuple_list, isi_lst_list_tuple, isi_frz_int, isi_frz_bool, isi_frz_str, isi_frz_tuple, isi_frz_list, isi_frz_dict, isi_frz_tuple_list, isi_frz_list_tuple, tru_bl, tru_int, tru_non, tru_tup, len_tup, ix_tup, tru_lst, len_lst, ix_lst, tru_frz, len_frz, ix_frz, sl_lst, sl_frz, sl_tup, asInt_int, at0, at1, at2, at3, at4, add_int, add_tup, add_str, add_lst, addC_lst, repC_lst, sub_int, mul_int, mul_lst, mul_tup, div_int, mod_int, pow_int, neg_int, not_bl, lt_int, le_int, gt_int, ge_int, eq_int, eq_str, eq_bl, eq_non, eq_int_non, eq_non_int, eq_str_non, eq_non_str, eq_bl_non, eq_non_bl, ne_int, ne_str, ne_bl, ne_non, ne_int_non, ne_non_int, ne_str_non, ne_non_str, ne_bl_non, ne_non_bl, isNone_non, isNone_int, isNone_str, isNone_bl, isNone_tup, isNone_lst, isNone_frz, max2_int, min2_int, abs_int, int_int, int_bl, still_tup, list_tup, tuple_tup, listC_tup, sv_tup, still_lst, list_lst, tuple_lst, listC_lst, sv_lst, still_frz, list_frz, tuple_frz, listC_frz, sv_frz, r1_int, r2_int, r3_int, tg_name, tg_tup, setAll_cons, setAll_nil, mtE, g1_one, g2_two, mkL_0, mkT_0, mkC_0, mkL_1, mkT_1, mkC_1, mkL_2, mkT_2, mkC_2, mkL_3, mkT_3, mkC_3, mkL_4, mkT_4, mkC_4, bnd_S, ret_S, lineN_eq2, wipe_nil, wipe_cons, -mul_int, -div_int, -mod_int, ix, r3, r5, r6, r7, hd, m1, d1, d2, e, nu_near, hp, hp2, m2, m3, mx, Int.add_zero]
theorem ldue_run {c : Bool} {rs : List Row} (h : WRs c rs) (hl : rs.length ≤ 5) (i : Nat) (hi : i < rs.length) (rr : List D → M D) (n : Int)
    (hx : ∀ (j : Nat) (hj : j < rs.length), rs[j].base = [] → ∀ S, rr [rowsD rs, .int (j : Nat), .int n] S = .ok (.int (am rs[j] n)) S) (S : Store) :
    runB (b__law_due rr) 8 [rowsD rs, .int (i : Nat), .int n] S = .ok (.int (due rs rs[i] n)) S := by
  have hm : rs[i] ∈ rs := List.getElem_mem hi
  have w := h.num hm
  have hz : ∀ z ∈ rs[i].base, PyData.strOk z = true := fun z hz => menu_ok z (h.baseMenu hm z hz)
  have ix := fun S => ix_rows rs i hi S
  have r1 := fun S => row1 rs[i] S
  have r2 := fun S => row2 rs[i] S
  have r3 := fun S => row3 rs[i] S
  have r4 := fun S => row4 rs[i] S
  have hne := fun S => ne_bs hz S
  have m1 := fun S => mul_l (i := rs[i].fix) (j := rs[i].bot) (by have := w.fix; omega) S
  have m2 := fun j S => mul_l (i := rs[i].top) (j := j) (by have := w.top; omega) S
  cases hb : rs[i].base.isEmpty with
  | true => simp only [b__law_due, stillS_tup, stillS_lst, stillS_frz, stillS_str, nat10, nat2, runB, seqS, exS, asgS, retS, retN, dropS, ifS, nxS, nevS, brkS, cntS, setItS, forS, parS, op1, op2, chain, boolT, truT, notT, andT, orT, andE, orE, ifE, nilA, consA, appA, varD, cD, lstE, celE, tupE, slE, itE, itEn, cal_1, cal_2, cal_3, cal_4, cal_5, cal_6, cal_7, yesT, mulOk, List.map_cons, List.map_nil, List.length_cons, List.length_nil, List.getElem?_cons_zero, List.getElem?_cons_succ, List.set_cons_zero, List.set_cons_succ, List.replicate_succ, List.replicate_zero, List.cons_append, List.nil_append, List.append_nil, List.isEmpty_cons, List.isEmpty_nil, Nat.reduceAdd, Nat.reduceSub, Nat.reduceMul, Nat.reduceLeDiff, Nat.reduceEqDiff, Nat.zero_add, Nat.sub_zero, Nat.sub_self, Bool.not_true, Bool.not_false, Bool.true_and, Bool.false_and, Bool.and_true, Bool.and_false, Bool.true_or, Bool.false_or, Bool.or_true, Bool.or_false, Bool.false_eq_true, Bool.not_eq_true, Bool.not_eq_false, Bool.not_not, decide_eq_true_eq, decide_eq_false_iff_not, decide_true, decide_false, if_true, if_false, reduceIte, reduceCtorEq, Nat.zero_le, and_self, and_true, true_and, or_true, true_or, or_false, false_or, not_true_eq_false, not_false_eq_true, Int.reduceLT, Int.reduceLE, Int.reduceNeg, Int.reduceAdd, Int.reduceMul, Int.reduceSub, Int.reducePow, Int.reduceEq, Int.reduceToNat, Nat.reduceLT, Nat.reducePow, Int.cast_ofNat_Int, isi_non_int, isi_non_bool, isi_non_str, isi_non_tuple, isi_non_list, isi_non_dict, isi_non_tuple_list, isi_non_list_tuple, isi_bl_int, isi_bl_bool, isi_bl_str, isi_bl_tuple, isi_bl_list, isi_bl_dict, isi_bl_tuple_list, isi_bl_list_tuple, isi_int_int, isi_int_bool, isi_int_str, isi_int_tuple, isi_int_list, isi_int_dict, isi_int_tuple_list, isi_int_list_tuple, isi_str_int, isi_str_bool, isi_str_str, isi_str_tuple, isi_str_list, isi_str_dict, isi_str_tuple_list, isi_str_list_tuple, isi_tup_int, isi_tup_bool, isi_tup_str, isi_tup_tuple, isi_tup_list, isi_tup_dict, isi_tup_tuple_list, isi_tup_list_tuple, isi_lst_int, isi_lst_bool, isi_lst_str, isi_lst_tuple, isi_lst_list, isi_lst_dict, isi_lst_tuple_list, isi_lst_list_tuple, isi_frz_int, isi_frz_bool, isi_frz_str, isi_frz_tuple, isi_frz_list, isi_frz_dict, isi_frz_tuple_list, isi_frz_list_tuple, tru_bl, tru_int, tru_non, tru_tup, len_tup, ix_tup, tru_lst, len_lst, ix_lst, tru_frz, len_frz, ix_frz, sl_lst, sl_frz, sl_tup, asInt_int, at0, at1, at2, at3, at4, add_int, add_tup, add_str, add_lst, addC_lst, repC_lst, sub_int, mul_int, mul_lst, mul_tup, div_int, mod_int, pow_int, neg_int, not_bl, lt_int, le_int, gt_int, ge_int, eq_int, eq_str, eq_bl, eq_non, eq_int_non, eq_non_int, eq_str_non, eq_non_str, eq_bl_non, eq_non_bl, ne_int, ne_str, ne_bl, ne_non, ne_int_non, ne_non_int, ne_str_non, ne_non_str, ne_bl_non, ne_non_bl, isNone_non, isNone_int, isNone_str, isNone_bl, isNone_tup, isNone_lst, isNone_frz, max2_int, min2_int, abs_int, int_int, int_bl, still_tup, list_tup, tuple_tup, listC_tup, sv_tup, still_lst, list_lst, tuple_lst, listC_lst, sv_lst, still_frz, list_frz, tuple_frz, listC_frz, sv_frz, r1_int, r2_int, r3_int, tg_name, tg_tup, setAll_cons, setAll_nil, mtE, g1_one, g2_two, mkL_0, mkT_0, mkC_0, mkL_1, mkT_1, mkC_1, mkL_2, mkT_2, mkC_2, mkL_3, mkT_3, mkC_3, mkL_4, mkT_4, mkC_4, bnd_S, ret_S, lineN_eq2, wipe_nil, wipe_cons, -mul_int, ix, r1, r2, r3, r4, hne, m1, m2, hb, due, due1, num]
  | false =>
    have hlen : rs[i].base.length ≤ 7 := by
      obtain ⟨i', hi', e, w⟩ := h.mem hm
      exact nodup_len _ _ w.nd (h.baseMenu hm)
    -- the place of each name
    have place : ∀ b ∈ rs[i].base, ∃ j : Nat, ∃ hj : j < rs.length, rs[j].nm = b ∧ rs[j].base = [] ∧ rowBy rs b = rs[j] := fun b hb => by
      obtain ⟨hq, hnm, hbase⟩ := rowBy_plain h (h.basePlain hm b hb)
      obtain ⟨j, hj, e⟩ := List.getElem_of_mem hq
      exact ⟨j, hj, by rw [e]; exact hnm, by rw [e]; exact hbase, e.symm⟩
    let pl : Str → Nat := fun b => if hb : b ∈ rs[i].base then Classical.choose (place b hb) else 0
    have hpl : ∀ b ∈ rs[i].base, ∃ hj : pl b < rs.length, rs[pl b].nm = b ∧ rs[pl b].base = [] ∧ rowBy rs b = rs[pl b] := fun b hb => by
      have e : pl b = Classical.choose (place b hb) := dif_pos hb
      have := Classical.choose_spec (place b hb)
      simp only [e]
      exact this
    have c2 : ∀ a4 a5 S, c__law_due_2 [some (rowsD rs), some (.int (i : Nat)), some (.int n), some (rowD rs[i]), a4, a5, none, none] S = .ok (.lst (rs[i].base.map fun b => .int (pl b : Nat))) S := fun a4 a5 S => by
      unfold c__law_due_2
      refine lcE_all D.str (fun b => .int (pl b : Nat)) rs[i].base rfl (by rw [lineN_eq2]; omega) fun b hb => ⟨[some (rowsD rs), some (.int (i : Nat)), some (.int n), some (rowD rs[i]), a4, a5, some (.str b), none], rfl, rfl, ?_⟩
      obtain ⟨hj, e1, e2, e3⟩ := hpl b hb
      have la : ∀ S, g__law_at [rowsD rs, .str b] S = .ok (.int (pl b : Nat)) S := fun S => by
        have := law_at_ok h hl (pl b) hj S
        rw [e1] at this
        exact this
      simp only [stillS_tup, stillS_lst, stillS_frz, stillS_str, nat10, nat2, runB, seqS, exS, asgS, retS, retN, dropS, ifS, nxS, nevS, brkS, cntS, setItS, forS, parS, op1, op2, chain, boolT, truT, notT, andT, orT, andE, orE, ifE, nilA, consA, appA, varD, cD, lstE, celE, tupE, slE, itE, itEn, cal_1, cal_2, cal_3, cal_4, cal_5, cal_6, cal_7, yesT, mulOk, List.map_cons, List.map_nil, List.length_cons, List.length_nil, List.getElem?_cons_zero, List.getElem?_cons_succ, List.set_cons_zero, List.set_cons_succ, List.replicate_succ, List.replicate_zero, List.cons_append, List.nil_append, List.append_nil, List.isEmpty_cons, List.isEmpty_nil, Nat.reduceAdd, Nat.reduceSub, Nat.reduceMul, Nat.reduceLeDiff, Nat.reduceEqDiff, Nat.zero_add, Nat.sub_zero, Nat.sub_self, Bool.not_true, Bool.not_false, Bool.true_and, Bool.false_and, Bool.and_true, Bool.and_false, Bool.true_or, Bool.false_or, Bool.or_true, Bool.or_false, Bool.false_eq_true, Bool.not_eq_true, Bool.not_eq_false, Bool.not_not, decide_eq_true_eq, decide_eq_false_iff_not, decide_true, decide_false, if_true, if_false, reduceIte, reduceCtorEq, Nat.zero_le, and_self, and_true, true_and, or_true, true_or, or_false, false_or, not_true_eq_false, not_false_eq_true, Int.reduceLT, Int.reduceLE, Int.reduceNeg, Int.reduceAdd, Int.reduceMul, Int.reduceSub, Int.reducePow, Int.reduceEq, Int.reduceToNat, Nat.reduceLT, Nat.reducePow, Int.cast_ofNat_Int, isi_non_int, isi_non_bool, isi_non_str, isi_non_tuple, isi_non_list, isi_non_dict, isi_non_tuple_list, isi_non_list_tuple, isi_bl_int, isi_bl_bool, isi_bl_str, isi_bl_tuple, isi_bl_list, isi_bl_dict, isi_bl_tuple_list, isi_bl_list_tuple, isi_int_int, isi_int_bool, isi_int_str, isi_int_tuple, isi_int_list, isi_int_dict, isi_int_tuple_list, isi_int_list_tuple, isi_str_int, isi_str_bool, isi_str_str, isi_str_tuple, isi_str_list, isi_str_dict, isi_str_tuple_list, isi_str_list_tuple, isi_tup_int, isi_tup_bool, isi_tup_str, isi_tup_tuple, isi_tup_list, isi_tup_dict, isi_tup_tuple_list, isi_tup_list_tuple, isi_lst_int, isi_lst_bool, isi_lst_str, isi_lst_tuple, isi_lst_list, isi_lst_dict, isi_lst_tuple_list, isi_lst_list_tuple, isi_frz_int, isi_frz_bool, isi_frz_str, isi_frz_tuple, isi_frz_list, isi_frz_dict, isi_frz_tuple_list, isi_frz_list_tuple, tru_bl, tru_int, tru_non, tru_tup, len_tup, ix_tup, tru_lst, len_lst, ix_lst, tru_frz, len_frz, ix_frz, sl_lst, sl_frz, sl_tup, asInt_int, at0, at1, at2, at3, at4, add_int, add_tup, add_str, add_lst, addC_lst, repC_lst, sub_int, mul_int, mul_lst, mul_tup, div_int, mod_int, pow_int, neg_int, not_bl, lt_int, le_int, gt_int, ge_int, eq_int, eq_str, eq_bl, eq_non, eq_int_non, eq_non_int, eq_str_non, eq_non_str, eq_bl_non, eq_non_bl, ne_int, ne_str, ne_bl, ne_non, ne_int_non, ne_non_int, ne_str_non, ne_non_str, ne_bl_non, ne_non_bl, isNone_non, isNone_int, isNone_str, isNone_bl, isNone_tup, isNone_lst, isNone_frz, max2_int, min2_int, abs_int, int_int, int_bl, still_tup, list_tup, tuple_tup, listC_tup, sv_tup, still_lst, list_lst, tuple_lst, listC_lst, sv_lst, still_frz, list_frz, tuple_frz, listC_frz, sv_frz, r1_int, r2_int, r3_int, tg_name, tg_tup, setAll_cons, setAll_nil, mtE, g1_one, g2_two, mkL_0, mkT_0, mkC_0, mkL_1, mkT_1, mkC_1, mkL_2, mkT_2, mkC_2, mkL_3, mkT_3, mkC_3, mkL_4, mkT_4, mkC_4, bnd_S, ret_S, lineN_eq2, wipe_nil, wipe_cons, la]
    have c1 : ∀ a4 S, c__law_due_1 rr [some (rowsD rs), some (.int (i : Nat)), some (.int n), some (rowD rs[i]), a4, some (.lst (rs[i].base.map fun b => .int (pl b : Nat))), none, none] S = .ok (.lst (rs[i].base.map fun b => .int (am (rowBy rs b) n))) S := fun a4 S => by
      unfold c__law_due_1
      refine lcE_all (fun b : Str => D.int (pl b : Nat)) (fun b => .int (am (rowBy rs b) n)) rs[i].base rfl (by rw [lineN_eq2]; omega) fun b hb => ⟨[some (rowsD rs), some (.int (i : Nat)), some (.int n), some (rowD rs[i]), a4, some (.lst (rs[i].base.map fun b => .int (pl b : Nat))), none, some (.int (pl b : Nat))], rfl, rfl, ?_⟩
      obtain ⟨hj, e1, e2, e3⟩ := hpl b hb
      have := hx (pl b) hj e2
      rw [e3]
      simp only [stillS_tup, stillS_lst, stillS_frz, stillS_str, nat10, nat2, runB, seqS, exS, asgS, retS, retN, dropS, ifS, nxS, nevS, brkS, cntS, setItS, forS, parS, op1, op2, chain, boolT, truT, notT, andT, orT, andE, orE, ifE, nilA, consA, appA, varD, cD, lstE, celE, tupE, slE, itE, itEn, cal_1, cal_2, cal_3, cal_4, cal_5, cal_6, cal_7, yesT, mulOk, List.map_cons, List.map_nil, List.length_cons, List.length_nil, List.getElem?_cons_zero, List.getElem?_cons_succ, List.set_cons_zero, List.set_cons_succ, List.replicate_succ, List.replicate_zero, List.cons_append, List.nil_append, List.append_nil, List.isEmpty_cons, List.isEmpty_nil, Nat.reduceAdd, Nat.reduceSub, Nat.reduceMul, Nat.reduceLeDiff, Nat.reduceEqDiff, Nat.zero_add, Nat.sub_zero, Nat.sub_self, Bool.not_true, Bool.not_false, Bool.true_and, Bool.false_and, Bool.and_true, Bool.and_false, Bool.true_or, Bool.false_or, Bool.or_true, Bool.or_false, Bool.false_eq_true, Bool.not_eq_true, Bool.not_eq_false, Bool.not_not, decide_eq_true_eq, decide_eq_false_iff_not, decide_true, decide_false, if_true, if_false, reduceIte, reduceCtorEq, Nat.zero_le, and_self, and_true, true_and, or_true, true_or, or_false, false_or, not_true_eq_false, not_false_eq_true, Int.reduceLT, Int.reduceLE, Int.reduceNeg, Int.reduceAdd, Int.reduceMul, Int.reduceSub, Int.reducePow, Int.reduceEq, Int.reduceToNat, Nat.reduceLT, Nat.reducePow, Int.cast_ofNat_Int, isi_non_int, isi_non_bool, isi_non_str, isi_non_tuple, isi_non_list, isi_non_dict, isi_non_tuple_list, isi_non_list_tuple, isi_bl_int, isi_bl_bool, isi_bl_str, isi_bl_tuple, isi_bl_list, isi_bl_dict, isi_bl_tuple_list, isi_bl_list_tuple, isi_int_int, isi_int_bool, isi_int_str, isi_int_tuple, isi_int_list, isi_int_dict, isi_int_tuple_list, isi_int_list_tuple, isi_str_int, isi_str_bool, isi_str_str, isi_str_tuple, isi_str_list, isi_str_dict, isi_str_tuple_list, isi_str_list_tuple, isi_tup_int, isi_tup_bool, isi_tup_str, isi_tup_tuple, isi_tup_list, isi_tup_dict, isi_tup_tuple_list, isi_tup_list_tuple, isi_lst_int, isi_lst_bool, isi_lst_str, isi_lst_tuple, isi_lst_list, isi_lst_dict, isi_lst_tuple_list, isi_lst_list_tuple, isi_frz_int, isi_frz_bool, isi_frz_str, isi_frz_tuple, isi_frz_list, isi_frz_dict, isi_frz_tuple_list, isi_frz_list_tuple, tru_bl, tru_int, tru_non, tru_tup, len_tup, ix_tup, tru_lst, len_lst, ix_lst, tru_frz, len_frz, ix_frz, sl_lst, sl_frz, sl_tup, asInt_int, at0, at1, at2, at3, at4, add_int, add_tup, add_str, add_lst, addC_lst, repC_lst, sub_int, mul_int, mul_lst, mul_tup, div_int, mod_int, pow_int, neg_int, not_bl, lt_int, le_int, gt_int, ge_int, eq_int, eq_str, eq_bl, eq_non, eq_int_non, eq_non_int, eq_str_non, eq_non_str, eq_bl_non, eq_non_bl, ne_int, ne_str, ne_bl, ne_non, ne_int_non, ne_non_int, ne_str_non, ne_non_str, ne_bl_non, ne_non_bl, isNone_non, isNone_int, isNone_str, isNone_bl, isNone_tup, isNone_lst, isNone_frz, max2_int, min2_int, abs_int, int_int, int_bl, still_tup, list_tup, tuple_tup, listC_tup, sv_tup, still_lst, list_lst, tuple_lst, listC_lst, sv_lst, still_frz, list_frz, tuple_frz, listC_frz, sv_frz, r1_int, r2_int, r3_int, tg_name, tg_tup, setAll_cons, setAll_nil, mtE, g1_one, g2_two, mkL_0, mkT_0, mkC_0, mkL_1, mkT_1, mkC_1, mkL_2, mkT_2, mkC_2, mkL_3, mkT_3, mkC_3, mkL_4, mkT_4, mkC_4, bnd_S, ret_S, lineN_eq2, wipe_nil, wipe_cons, this]
    have hs := fun S => sum_ints rs[i].base (fun b => am (rowBy rs b) n) S
    simp only [b__law_due, stillS_tup, stillS_lst, stillS_frz, stillS_str, nat10, nat2, runB, seqS, exS, asgS, retS, retN, dropS, ifS, nxS, nevS, brkS, cntS, setItS, forS, parS, op1, op2, chain, boolT, truT, notT, andT, orT, andE, orE, ifE, nilA, consA, appA, varD, cD, lstE, celE, tupE, slE, itE, itEn, cal_1, cal_2, cal_3, cal_4, cal_5, cal_6, cal_7, yesT, mulOk, List.map_cons, List.map_nil, List.length_cons, List.length_nil, List.getElem?_cons_zero, List.getElem?_cons_succ, List.set_cons_zero, List.set_cons_succ, List.replicate_succ, List.replicate_zero, List.cons_append, List.nil_append, List.append_nil, List.isEmpty_cons, List.isEmpty_nil, Nat.reduceAdd, Nat.reduceSub, Nat.reduceMul, Nat.reduceLeDiff, Nat.reduceEqDiff, Nat.zero_add, Nat.sub_zero, Nat.sub_self, Bool.not_true, Bool.not_false, Bool.true_and, Bool.false_and, Bool.and_true, Bool.and_false, Bool.true_or, Bool.false_or, Bool.or_true, Bool.or_false, Bool.false_eq_true, Bool.not_eq_true, Bool.not_eq_false, Bool.not_not, decide_eq_true_eq, decide_eq_false_iff_not, decide_true, decide_false, if_true, if_false, reduceIte, reduceCtorEq, Nat.zero_le, and_self, and_true, true_and, or_true, true_or, or_false, false_or, not_true_eq_false, not_false_eq_true, Int.reduceLT, Int.reduceLE, Int.reduceNeg, Int.reduceAdd, Int.reduceMul, Int.reduceSub, Int.reducePow, Int.reduceEq, Int.reduceToNat, Nat.reduceLT, Nat.reducePow, Int.cast_ofNat_Int, isi_non_int, isi_non_bool, isi_non_str, isi_non_tuple, isi_non_list, isi_non_dict, isi_non_tuple_list, isi_non_list_tuple, isi_bl_int, isi_bl_bool, isi_bl_str, isi_bl_tuple, isi_bl_list, isi_bl_dict, isi_bl_tuple_list, isi_bl_list_tuple, isi_int_int, isi_int_bool, isi_int_str, isi_int_tuple, isi_int_list, isi_int_dict, isi_int_tuple_list, isi_int_list_tuple, isi_str_int, isi_str_bool, isi_str_str, isi_str_tuple, isi_str_list, isi_str_dict, isi_str_tuple_list, isi_str_list_tuple, isi_tup_int, isi_tup_bool, isi_tup_str, isi_tup_tuple, isi_tup_list, isi_tup_dict, isi_tup_tuple_list, isi_tup_list_tuple, isi_lst_int, isi_lst_bool, isi_lst_str, isi_lst_tuple, isi_lst_list, isi_lst_dict, isi_lst_tuple_list, isi_lst_list_tuple, isi_frz_int, isi_frz_bool, isi_frz_str, isi_frz_tuple, isi_frz_list, isi_frz_dict, isi_frz_tuple_list, isi_frz_list_tuple, tru_bl, tru_int, tru_non, tru_tup, len_tup, ix_tup, tru_lst, len_lst, ix_lst, tru_frz, len_frz, ix_frz, sl_lst, sl_frz, sl_tup, asInt_int, at0, at1, at2, at3, at4, add_int, add_tup, add_str, add_lst, addC_lst, repC_lst, sub_int, mul_int, mul_lst, mul_tup, div_int, mod_int, pow_int, neg_int, not_bl, lt_int, le_int, gt_int, ge_int, eq_int, eq_str, eq_bl, eq_non, eq_int_non, eq_non_int, eq_str_non, eq_non_str, eq_bl_non, eq_non_bl, ne_int, ne_str, ne_bl, ne_non, ne_int_non, ne_non_int, ne_str_non, ne_non_str, ne_bl_non, ne_non_bl, isNone_non, isNone_int, isNone_str, isNone_bl, isNone_tup, isNone_lst, isNone_frz, max2_int, min2_int, abs_int, int_int, int_bl, still_tup, list_tup, tuple_tup, listC_tup, sv_tup, still_lst, list_lst, tuple_lst, listC_lst, sv_lst, still_frz, list_frz, tuple_frz, listC_frz, sv_frz, r1_int, r2_int, r3_int, tg_name, tg_tup, setAll_cons, setAll_nil, mtE, g1_one, g2_two, mkL_0, mkT_0, mkC_0, mkL_1, mkT_1, mkC_1, mkL_2, mkT_2, mkC_2, mkL_3, mkT_3, mkC_3, mkL_4, mkT_4, mkC_4, bnd_S, ret_S, lineN_eq2, wipe_nil, wipe_cons, -mul_int, ix, r1, r2, r3, r4, hne, m1, m2, hb, c2, c1, hs, due, due1, num]
theorem lamt_lv {c : Bool} {rs : List Row} (h : WRs c rs) (hl : rs.length ≤ 5) (n : Int) : ∀ (k : Nat) (i : Nat) (hi : i < rs.length), (rs[i].base = [] ∨ 1 ≤ k) →
    (∀ S, runB (b__law_due (r__law_amount k)) 8 [rowsD rs, .int (i : Nat), .int n] S = .ok (.int (due rs rs[i] n)) S) ∧ ∀ S, r__law_amount (k + 1) [rowsD rs, .int (i : Nat), .int n] S = .ok (.int (amt rs rs[i] n)) S := by
  intro k
  induction k with
  | zero =>
    intro i hi hk
    have hb : rs[i].base = [] := by
      rcases hk with hb | hk
      · exact hb
      · omega
    have w := h.num (List.getElem_mem hi)
    have hd : ∀ S, runB (b__law_due (r__law_amount 0)) 8 [rowsD rs, .int (i : Nat), .int n] S = .ok (.int (due rs rs[i] n)) S := fun S => by
      have ix := fun S => ix_rows rs i hi S
      have r1 : ∀ S, ixD (rowD rs[i]) (.int 1) S = .ok (bsD []) S := fun S => by rw [row1, hb]
      have r2 := fun S => row2 rs[i] S
      have r3 := fun S => row3 rs[i] S
      have r4 := fun S => row4 rs[i] S
      have hne : ∀ S, neM (bsD []) (.tup []) S = .ok (.bl false) S := fun S => ne_bs (zs := []) (by simp) S
      have m1 := fun S => mul_l (i := rs[i].fix) (j := rs[i].bot) (by have := w.fix; omega) S
      have m2 := fun j S => mul_l (i := rs[i].top) (j := j) (by have := w.top; omega) S
      have hnum : num rs rs[i] n = n := by unfold num; rw [hb]; rfl
      unfold due due1
      rw [hnum]
      simp only [b__law_due, stillS_tup, stillS_lst, stillS_frz, stillS_str, nat10, nat2, runB, seqS, exS, asgS, retS, retN, dropS, ifS, nxS, nevS, brkS, cntS, setItS, forS, parS, op1, op2, chain, boolT, truT, notT, andT, orT, andE, orE, ifE, nilA, consA, appA, varD, cD, lstE, celE, tupE, slE, itE, itEn, cal_1, cal_2, cal_3, cal_4, cal_5, cal_6, cal_7, yesT, mulOk, List.map_cons, List.map_nil, List.length_cons, List.length_nil, List.getElem?_cons_zero, List.getElem?_cons_succ, List.set_cons_zero, List.set_cons_succ, List.replicate_succ, List.replicate_zero, List.cons_append, List.nil_append, List.append_nil, List.isEmpty_cons, List.isEmpty_nil, Nat.reduceAdd, Nat.reduceSub, Nat.reduceMul, Nat.reduceLeDiff, Nat.reduceEqDiff, Nat.zero_add, Nat.sub_zero, Nat.sub_self, Bool.not_true, Bool.not_false, Bool.true_and, Bool.false_and, Bool.and_true, Bool.and_false, Bool.true_or, Bool.false_or, Bool.or_true, Bool.or_false, Bool.false_eq_true, Bool.not_eq_true, Bool.not_eq_false, Bool.not_not, decide_eq_true_eq, decide_eq_false_iff_not, decide_true, decide_false, if_true, if_false, reduceIte, reduceCtorEq, Nat.zero_le, and_self, and_true, true_and, or_true, true_or, or_false, false_or, not_true_eq_false, not_false_eq_true, Int.reduceLT, Int.reduceLE, Int.reduceNeg, Int.reduceAdd, Int.reduceMul, Int.reduceSub, Int.reducePow, Int.reduceEq, Int.reduceToNat, Nat.reduceLT, Nat.reducePow, Int.cast_ofNat_Int, isi_non_int, isi_non_bool, isi_non_str, isi_non_tuple, isi_non_list, isi_non_dict, isi_non_tuple_list, isi_non_list_tuple, isi_bl_int, isi_bl_bool, isi_bl_str, isi_bl_tuple, isi_bl_list, isi_bl_dict, isi_bl_tuple_list, isi_bl_list_tuple, isi_int_int, isi_int_bool, isi_int_str, isi_int_tuple, isi_int_list, isi_int_dict, isi_int_tuple_list, isi_int_list_tuple, isi_str_int, isi_str_bool, isi_str_str, isi_str_tuple, isi_str_list, isi_str_dict, isi_str_tuple_list, isi_str_list_tuple, isi_tup_int, isi_tup_bool, isi_tup_str, isi_tup_tuple, isi_tup_list, isi_tup_dict, isi_tup_tuple_list, isi_tup_list_tuple, isi_lst_int, isi_lst_bool, isi_lst_str, isi_lst_tuple, isi_lst_list, isi_lst_dict, isi_lst_tuple_list, isi_lst_list_tuple, isi_frz_int, isi_frz_bool, isi_frz_str, isi_frz_tuple, isi_frz_list, isi_frz_dict, isi_frz_tuple_list, isi_frz_list_tuple, tru_bl, tru_int, tru_non, tru_tup, len_tup, ix_tup, tru_lst, len_lst, ix_lst, tru_frz, len_frz, ix_frz, sl_lst, sl_frz, sl_tup, asInt_int, at0, at1, at2, at3, at4, add_int, add_tup, add_str, add_lst, addC_lst, repC_lst, sub_int, mul_int, mul_lst, mul_tup, div_int, mod_int, pow_int, neg_int, not_bl, lt_int, le_int, gt_int, ge_int, eq_int, eq_str, eq_bl, eq_non, eq_int_non, eq_non_int, eq_str_non, eq_non_str, eq_bl_non, eq_non_bl, ne_int, ne_str, ne_bl, ne_non, ne_int_non, ne_non_int, ne_str_non, ne_non_str, ne_bl_non, ne_non_bl, isNone_non, isNone_int, isNone_str, isNone_bl, isNone_tup, isNone_lst, isNone_frz, max2_int, min2_int, abs_int, int_int, int_bl, still_tup, list_tup, tuple_tup, listC_tup, sv_tup, still_lst, list_lst, tuple_lst, listC_lst, sv_lst, still_frz, list_frz, tuple_frz, listC_frz, sv_frz, r1_int, r2_int, r3_int, tg_name, tg_tup, setAll_cons, setAll_nil, mtE, g1_one, g2_two, mkL_0, mkT_0, mkC_0, mkL_1, mkT_1, mkC_1, mkL_2, mkT_2, mkC_2, mkL_3, mkT_3, mkC_3, mkL_4, mkT_4, mkC_4, bnd_S, ret_S, lineN_eq2, wipe_nil, wipe_cons, -mul_int, ix, r1, r2, r3, r4, hne, m1, m2]
    refine ⟨hd, fun S => ?_⟩
    rw [r_lamt_succ]
    exact lamt_run i hi w _ n hd S
  | succ k ih =>
    intro i hi _
    have hd : ∀ S, runB (b__law_due (r__law_amount (k + 1))) 8 [rowsD rs, .int (i : Nat), .int n] S = .ok (.int (due rs rs[i] n)) S := ldue_run h hl i hi _ n fun j hj hb S => by
      rw [(ih j hj (.inl hb)).2 S]
      unfold amt num
      rw [hb]; rfl
    refine ⟨hd, fun S => ?_⟩
    rw [r_lamt_succ]
    exact lamt_run i hi (h.num (List.getElem_mem hi)) _ n hd S
theorem law_amount_ok {c : Bool} {rs : List Row} (h : WRs c rs) (hl : rs.length ≤ 5) (n : Int) (i : Nat) (hi : i < rs.length) (S : Store) : g__law_amount [rowsD rs, .int (i : Nat), .int n] S = .ok (.int (amt rs rs[i] n)) S :=
  (lamt_lv h hl n 7 i hi (.inr (by omega))).2 S
theorem law_due_ok {c : Bool} {rs : List Row} (h : WRs c rs) (hl : rs.length ≤ 5) (n : Int) (i : Nat) (hi : i < rs.length) (S : Store) : g__law_due [rowsD rs, .int (i : Nat), .int n] S = .ok (.int (due rs rs[i] n)) S :=
  (lamt_lv h hl n 8 i hi (.inr (by omega))).1 S
end F

set_option linter.all false
set_option autoImplicit false
set_option maxRecDepth 100000
set_option maxHeartbeats 1000000
/-! Fractions. -/
namespace F
open PySem
theorem wh_gcd {w : ST} {l : SS} {mk : Int → Int → Env} (hw : ∀ a b S, w (mk a b) S = .ok (decide (0 < b)) S) (hl : ∀ a b S, 0 < b → l (mk a b) S = .fl (.nx (mk b (a % b))) S) (S : Store) :
    ∀ (m b a fuel : Nat), b ≤ m → b < fuel → whGo w l fuel (mk (a : Nat) (b : Nat)) S = .fl (.nx (mk (Nat.gcd a b : Nat) 0)) S := by
  intro m
  induction m with
  | zero =>
    intro b a fuel hb hf
    obtain ⟨f, rfl⟩ : ∃ f, fuel = f + 1 := ⟨fuel - 1, by omega⟩
    have : b = 0 := by omega
    subst this
    unfold whGo exS
    rw [hw]
    simp
  | succ m ih =>
    intro b a fuel hb hf
    obtain ⟨f, rfl⟩ : ∃ f, fuel = f + 1 := ⟨fuel - 1, by omega⟩
    unfold whGo exS
    rw [hw]
    dsimp only
    by_cases h0 : b = 0
    · subst h0
      simp
    · have hp : (0 : Int) < (b : Nat) := by omega
      rw [if_pos (by simpa using Nat.pos_of_ne_zero h0), hl _ _ _ hp]
      dsimp only
      have hm := Nat.mod_lt a (Nat.pos_of_ne_zero h0)
      have := ih (a % b) b f (by omega) (by omega)
      rw [Int.natCast_emod] at this
      rw [this, Nat.gcd_comm b, ← Nat.gcd_rec b a, Nat.gcd_comm]
theorem divisor_ok (a b : Nat) (h : b < 10000) (S : Store) : g_divisor [.int (a : Nat), .int (b : Nat)] S = .ok (.int (Nat.gcd a b : Nat)) S := by
  have := wh_gcd (w := w_divisor_1) (l := l_divisor_1) (mk := fun a b => [some (.int a), some (.int b)]) (fun a b S => by simp only [w_divisor_1, stillS_tup, stillS_lst, stillS_frz, stillS_str, nat10, nat2, runB, seqS, exS, asgS, retS, retN, dropS, ifS, nxS, nevS, brkS, cntS, setItS, forS, parS, op1, op2, chain, boolT, truT, notT, andT, orT, andE, orE, ifE, nilA, consA, appA, varD, cD, lstE, celE, tupE, slE, itE, itEn, cal_1, cal_2, cal_3, cal_4, cal_5, cal_6, cal_7, yesT, mulOk, List.map_cons, List.map_nil, List.length_cons, List.length_nil, List.getElem?_cons_zero, List.getElem?_cons_succ, List.set_cons_zero, List.set_cons_succ, List.replicate_succ, List.replicate_zero, List.cons_append, List.nil_append, List.append_nil, List.isEmpty_cons, List.isEmpty_nil, Nat.reduceAdd, Nat.reduceSub, Nat.reduceMul, Nat.reduceLeDiff, Nat.reduceEqDiff, Nat.zero_add, Nat.sub_zero, Nat.sub_self, Bool.not_true, Bool.not_false, Bool.true_and, Bool.false_and, Bool.and_true, Bool.and_false, Bool.true_or, Bool.false_or, Bool.or_true, Bool.or_false, Bool.false_eq_true, Bool.not_eq_true, Bool.not_eq_false, Bool.not_not, decide_eq_true_eq, decide_eq_false_iff_not, decide_true, decide_false, if_true, if_false, reduceIte, reduceCtorEq, Nat.zero_le, and_self, and_true, true_and, or_true, true_or, or_false, false_or, not_true_eq_false, not_false_eq_true, Int.reduceLT, Int.reduceLE, Int.reduceNeg, Int.reduceAdd, Int.reduceMul, Int.reduceSub, Int.reducePow, Int.reduceEq, Int.reduceToNat, Nat.reduceLT, Nat.reducePow, Int.cast_ofNat_Int, isi_non_int, isi_non_bool, isi_non_str, isi_non_tuple, isi_non_list, isi_non_dict, isi_non_tuple_list, isi_non_list_tuple, isi_bl_int, isi_bl_bool, isi_bl_str, isi_bl_tuple, isi_bl_list, isi_bl_dict, isi_bl_tuple_list, isi_bl_list_tuple, isi_int_int, isi_int_bool, isi_int_str, isi_int_tuple, isi_int_list, isi_int_dict, isi_int_tuple_list, isi_int_list_tuple, isi_str_int, isi_str_bool, isi_str_str, isi_str_tuple, isi_str_list, isi_str_dict, isi_str_tuple_list, isi_str_list_tuple, isi_tup_int, isi_tup_bool, isi_tup_str, isi_tup_tuple, isi_tup_list, isi_tup_dict, isi_tup_tuple_list, isi_tup_list_tuple, isi_lst_int, isi_lst_bool, isi_lst_str, isi_lst_tuple, isi_lst_list, isi_lst_dict, isi_lst_tuple_list, isi_lst_list_tuple, isi_frz_int, isi_frz_bool, isi_frz_str, isi_frz_tuple, isi_frz_list, isi_frz_dict, isi_frz_tuple_list, isi_frz_list_tuple, tru_bl, tru_int, tru_non, tru_tup, len_tup, ix_tup, tru_lst, len_lst, ix_lst, tru_frz, len_frz, ix_frz, sl_lst, sl_frz, sl_tup, asInt_int, at0, at1, at2, at3, at4, add_int, add_tup, add_str, add_lst, addC_lst, repC_lst, sub_int, mul_int, mul_lst, mul_tup, div_int, mod_int, pow_int, neg_int, not_bl, lt_int, le_int, gt_int, ge_int, eq_int, eq_str, eq_bl, eq_non, eq_int_non, eq_non_int, eq_str_non, eq_non_str, eq_bl_non, eq_non_bl, ne_int, ne_str, ne_bl, ne_non, ne_int_non, ne_non_int, ne_str_non, ne_non_str, ne_bl_non, ne_non_bl, isNone_non, isNone_int, isNone_str, isNone_bl, isNone_tup, isNone_lst, isNone_frz, max2_int, min2_int, abs_int, int_int, int_bl, still_tup, list_tup, tuple_tup, listC_tup, sv_tup, still_lst, list_lst, tuple_lst, listC_lst, sv_lst, still_frz, list_frz, tuple_frz, listC_frz, sv_frz, r1_int, r2_int, r3_int, tg_name, tg_tup, setAll_cons, setAll_nil, mtE, g1_one, g2_two, mkL_0, mkT_0, mkC_0, mkL_1, mkT_1, mkC_1, mkL_2, mkT_2, mkC_2, mkL_3, mkT_3, mkC_3, mkL_4, mkT_4, mkC_4, bnd_S, ret_S, lineN_eq2, wipe_nil, wipe_cons]) (fun a b S hb => by simp only [l_divisor_1, stillS_tup, stillS_lst, stillS_frz, stillS_str, nat10, nat2, runB, seqS, exS, asgS, retS, retN, dropS, ifS, nxS, nevS, brkS, cntS, setItS, forS, parS, op1, op2, chain, boolT, truT, notT, andT, orT, andE, orE, ifE, nilA, consA, appA, varD, cD, lstE, celE, tupE, slE, itE, itEn, cal_1, cal_2, cal_3, cal_4, cal_5, cal_6, cal_7, yesT, mulOk, List.map_cons, List.map_nil, List.length_cons, List.length_nil, List.getElem?_cons_zero, List.getElem?_cons_succ, List.set_cons_zero, List.set_cons_succ, List.replicate_succ, List.replicate_zero, List.cons_append, List.nil_append, List.append_nil, List.isEmpty_cons, List.isEmpty_nil, Nat.reduceAdd, Nat.reduceSub, Nat.reduceMul, Nat.reduceLeDiff, Nat.reduceEqDiff, Nat.zero_add, Nat.sub_zero, Nat.sub_self, Bool.not_true, Bool.not_false, Bool.true_and, Bool.false_and, Bool.and_true, Bool.and_false, Bool.true_or, Bool.false_or, Bool.or_true, Bool.or_false, Bool.false_eq_true, Bool.not_eq_true, Bool.not_eq_false, Bool.not_not, decide_eq_true_eq, decide_eq_false_iff_not, decide_true, decide_false, if_true, if_false, reduceIte, reduceCtorEq, Nat.zero_le, and_self, and_true, true_and, or_true, true_or, or_false, false_or, not_true_eq_false, not_false_eq_true, Int.reduceLT, Int.reduceLE, Int.reduceNeg, Int.reduceAdd, Int.reduceMul, Int.reduceSub, Int.reducePow, Int.reduceEq, Int.reduceToNat, Nat.reduceLT, Nat.reducePow, Int.cast_ofNat_Int, isi_non_int, isi_non_bool, isi_non_str, isi_non_tuple, isi_non_list, isi_non_dict, isi_non_tuple_list, isi_non_list_tuple, isi_bl_int, isi_bl_bool, isi_bl_str, isi_bl_tuple, isi_bl_list, isi_bl_dict, isi_bl_tuple_list, isi_bl_list_tuple, isi_int_int, isi_int_bool, isi_int_str, isi_int_tuple, isi_int_list, isi_int_dict, isi_int_tuple_list, isi_int_list_tuple, isi_str_int, isi_str_bool, isi_str_str, isi_str_tuple, isi_str_list, isi_str_dict, isi_str_tuple_list, isi_str_list_tuple, isi_tup_int, isi_tup_bool, isi_tup_str, isi_tup_tuple, isi_tup_list, isi_tup_dict, isi_tup_tuple_list, isi_tup_list_tuple, isi_lst_int, isi_lst_bool, isi_lst_str, isi_lst_tuple, isi_lst_list, isi_lst_dict, isi_lst_tuple_list, isi_lst_list_tuple, isi_frz_int, isi_frz_bool, isi_frz_str, isi_frz_tuple, isi_frz_list, isi_frz_dict, isi_frz_tuple_list, isi_frz_list_tuple, tru_bl, tru_int, tru_non, tru_tup, len_tup, ix_tup, tru_lst, len_lst, ix_lst, tru_frz, len_frz, ix_frz, sl_lst, sl_frz, sl_tup, asInt_int, at0, at1, at2, at3, at4, add_int, add_tup, add_str, add_lst, addC_lst, repC_lst, sub_int, mul_int, mul_lst, mul_tup, div_int, mod_int, pow_int, neg_int, not_bl, lt_int, le_int, gt_int, ge_int, eq_int, eq_str, eq_bl, eq_non, eq_int_non, eq_non_int, eq_str_non, eq_non_str, eq_bl_non, eq_non_bl, ne_int, ne_str, ne_bl, ne_non, ne_int_non, ne_non_int, ne_str_non, ne_non_str, ne_bl_non, ne_non_bl, isNone_non, isNone_int, isNone_str, isNone_bl, isNone_tup, isNone_lst, isNone_frz, max2_int, min2_int, abs_int, int_int, int_bl, still_tup, list_tup, tuple_tup, listC_tup, sv_tup, still_lst, list_lst, tuple_lst, listC_lst, sv_lst, still_frz, list_frz, tuple_frz, listC_frz, sv_frz, r1_int, r2_int, r3_int, tg_name, tg_tup, setAll_cons, setAll_nil, mtE, g1_one, g2_two, mkL_0, mkT_0, mkC_0, mkL_1, mkT_1, mkC_1, mkL_2, mkT_2, mkC_2, mkL_3, mkT_3, mkC_3, mkL_4, mkT_4, mkC_4, bnd_S, ret_S, lineN_eq2, wipe_nil, wipe_cons, hb]) S b b a FUEL (Nat.le_refl _) h
  unfold g_divisor b_divisor
  refine run_rt (ρ0 := [some (.int (a : Nat)), some (.int (b : Nat))]) rfl ?_
  refine Eq.trans (seq_nx this) ?_
  rfl
def gc (p q : Int) : Int := (Int.gcd p q : Nat)
def fracD (p q : Int) : D := .tup [.int (p / gc p q), .int (q / gc p q)]
theorem gc_pos {p q : Int} (h : 1 ≤ q) : 1 ≤ gc p q ∧ gc p q ≤ q := by
  unfold gc
  have h1 : 0 < Int.gcd p q := Int.gcd_pos_of_ne_zero_right p (by omega)
  have h2 : (Int.gcd p q : Int) ∣ q := Int.gcd_dvd_right p q
  have h3 := Int.le_of_dvd (by omega) h2
  omega
theorem abs_nat (p : Int) (S : Store) : absD (.int p) S = .ok (.int (p.natAbs : Nat)) S := by
  rw [abs_int]
  show Out.ok (D.int (if p < 0 then -p else p)) S = _
  congr 2
  split <;> omega
theorem div_any (p : Int) {g q : Int} (h : 1 ≤ g ∧ g ≤ q) (hq : q < 10000) (S : Store) : divD (.int p) (.int g) S = .ok (.int (p / g)) S := div_s ⟨h.1, by omega⟩ S
theorem fraction_ok (p q : Int) (h : 1 ≤ q) (hq : q < 10000) (S : Store) : g_fraction [.int p, .int q] S = .ok (fracD p q) S := by
  have ha := fun S => abs_nat p S
  obtain ⟨n, rfl⟩ : ∃ n : Nat, q = n := ⟨q.toNat, by omega⟩
  have hd := fun S => divisor_ok p.natAbs n (by omega) S
  have hg := gc_pos (p := p) (q := (n : Nat)) h
  have e : ((Nat.gcd p.natAbs n : Nat) : Int) = gc p (n : Nat) := rfl
  simp only [e] at hd
  have d1 := fun S => div_any p hg hq S
  have d2 := fun S => div_any (n : Nat) hg hq S
  unfold fracD
  simp only [g_fraction, b_fraction, stillS_tup, stillS_lst, stillS_frz, stillS_str, nat10, nat2, runB, seqS, exS, asgS, retS, retN, dropS, ifS, nxS, nevS, brkS, cntS, setItS, forS, parS, op1, op2, chain, boolT, truT, notT, andT, orT, andE, orE, ifE, nilA, consA, appA, varD, cD, lstE, celE, tupE, slE, itE, itEn, cal_1, cal_2, cal_3, cal_4, cal_5, cal_6, cal_7, yesT, mulOk, List.map_cons, List.map_nil, List.length_cons, List.length_nil, List.getElem?_cons_zero, List.getElem?_cons_succ, List.set_cons_zero, List.set_cons_succ, List.replicate_succ, List.replicate_zero, List.cons_append, List.nil_append, List.append_nil, List.isEmpty_cons, List.isEmpty_nil, Nat.reduceAdd, Nat.reduceSub, Nat.reduceMul, Nat.reduceLeDiff, Nat.reduceEqDiff, Nat.zero_add, Nat.sub_zero, Nat.sub_self, Bool.not_true, Bool.not_false, Bool.true_and, Bool.false_and, Bool.and_true, Bool.and_false, Bool.true_or, Bool.false_or, Bool.or_true, Bool.or_false, Bool.false_eq_true, Bool.not_eq_true, Bool.not_eq_false, Bool.not_not, decide_eq_true_eq, decide_eq_false_iff_not, decide_true, decide_false, if_true, if_false, reduceIte, reduceCtorEq, Nat.zero_le, and_self, and_true, true_and, or_true, true_or, or_false, false_or, not_true_eq_false, not_false_eq_true, Int.reduceLT, Int.reduceLE, Int.reduceNeg, Int.reduceAdd, Int.reduceMul, Int.reduceSub, Int.reducePow, Int.reduceEq, Int.reduceToNat, Nat.reduceLT, Nat.reducePow, Int.cast_ofNat_Int, isi_non_int, isi_non_bool, isi_non_str, isi_non_tuple, isi_non_list, isi_non_dict, isi_non_tuple_list, isi_non_list_tuple, isi_bl_int, isi_bl_bool, isi_bl_str, isi_bl_tuple, isi_bl_list, isi_bl_dict, isi_bl_tuple_list, isi_bl_list_tuple, isi_int_int, isi_int_bool, isi_int_str, isi_int_tuple, isi_int_list, isi_int_dict, isi_int_tuple_list, isi_int_list_tuple, isi_str_int, isi_str_bool, isi_str_str, isi_str_tuple, isi_str_list, isi_str_dict, isi_str_tuple_list, isi_str_list_tuple, isi_tup_int, isi_tup_bool, isi_tup_str, isi_tup_tuple, isi_tup_list, isi_tup_dict, isi_tup_tuple_list, isi_tup_list_tuple, isi_lst_int, isi_lst_bool, isi_lst_str, isi_lst_tuple, isi_lst_list, isi_lst_dict, isi_lst_tuple_list, isi_lst_list_tuple, isi_frz_int, isi_frz_bool, isi_frz_str, isi_frz_tuple, isi_frz_list, isi_frz_dict, isi_frz_tuple_list, isi_frz_list_tuple, tru_bl, tru_int, tru_non, tru_tup, len_tup, ix_tup, tru_lst, len_lst, ix_lst, tru_frz, len_frz, ix_frz, sl_lst, sl_frz, sl_tup, asInt_int, at0, at1, at2, at3, at4, add_int, add_tup, add_str, add_lst, addC_lst, repC_lst, sub_int, mul_int, mul_lst, mul_tup, div_int, mod_int, pow_int, neg_int, not_bl, lt_int, le_int, gt_int, ge_int, eq_int, eq_str, eq_bl, eq_non, eq_int_non, eq_non_int, eq_str_non, eq_non_str, eq_bl_non, eq_non_bl, ne_int, ne_str, ne_bl, ne_non, ne_int_non, ne_non_int, ne_str_non, ne_non_str, ne_bl_non, ne_non_bl, isNone_non, isNone_int, isNone_str, isNone_bl, isNone_tup, isNone_lst, isNone_frz, max2_int, min2_int, abs_int, int_int, int_bl, still_tup, list_tup, tuple_tup, listC_tup, sv_tup, still_lst, list_lst, tuple_lst, listC_lst, sv_lst, still_frz, list_frz, tuple_frz, listC_frz, sv_frz, r1_int, r2_int, r3_int, tg_name, tg_tup, setAll_cons, setAll_nil, mtE, g1_one, g2_two, mkL_0, mkT_0, mkC_0, mkL_1, mkT_1, mkC_1, mkL_2, mkT_2, mkC_2, mkL_3, mkT_3, mkC_3, mkL_4, mkT_4, mkC_4, bnd_S, ret_S, lineN_eq2, wipe_nil, wipe_cons, -abs_int, -div_int, ha, hd, d1, d2]
theorem law_part_ok (p q : Int) (h : 1 ≤ q) (hq : q < 10000) (S : Store) : g__law_part [.int p, .int q] S = .ok (fracD p q) S := by
  have ha := fun S => abs_nat p S
  obtain ⟨n, rfl⟩ : ∃ n : Nat, q = n := ⟨q.toNat, by omega⟩
  have hg := gc_pos (p := p) (q := (n : Nat)) h
  have e : ((Nat.gcd p.natAbs n : Nat) : Int) = gc p (n : Nat) := rfl
  have d1 := fun S => div_any p hg hq S
  have d2 := fun S => div_any (n : Nat) hg hq S
  have := wh_gcd (w := w__law_part_1) (l := l__law_part_1) (mk := fun a b => [some (.int p), some (.int (n : Nat)), some (.int a), some (.int b)]) (fun a b S => by simp only [w__law_part_1, stillS_tup, stillS_lst, stillS_frz, stillS_str, nat10, nat2, runB, seqS, exS, asgS, retS, retN, dropS, ifS, nxS, nevS, brkS, cntS, setItS, forS, parS, op1, op2, chain, boolT, truT, notT, andT, orT, andE, orE, ifE, nilA, consA, appA, varD, cD, lstE, celE, tupE, slE, itE, itEn, cal_1, cal_2, cal_3, cal_4, cal_5, cal_6, cal_7, yesT, mulOk, List.map_cons, List.map_nil, List.length_cons, List.length_nil, List.getElem?_cons_zero, List.getElem?_cons_succ, List.set_cons_zero, List.set_cons_succ, List.replicate_succ, List.replicate_zero, List.cons_append, List.nil_append, List.append_nil, List.isEmpty_cons, List.isEmpty_nil, Nat.reduceAdd, Nat.reduceSub, Nat.reduceMul, Nat.reduceLeDiff, Nat.reduceEqDiff, Nat.zero_add, Nat.sub_zero, Nat.sub_self, Bool.not_true, Bool.not_false, Bool.true_and, Bool.false_and, Bool.and_true, Bool.and_false, Bool.true_or, Bool.false_or, Bool.or_true, Bool.or_false, Bool.false_eq_true, Bool.not_eq_true, Bool.not_eq_false, Bool.not_not, decide_eq_true_eq, decide_eq_false_iff_not, decide_true, decide_false, if_true, if_false, reduceIte, reduceCtorEq, Nat.zero_le, and_self, and_true, true_and, or_true, true_or, or_false, false_or, not_true_eq_false, not_false_eq_true, Int.reduceLT, Int.reduceLE, Int.reduceNeg, Int.reduceAdd, Int.reduceMul, Int.reduceSub, Int.reducePow, Int.reduceEq, Int.reduceToNat, Nat.reduceLT, Nat.reducePow, Int.cast_ofNat_Int, isi_non_int, isi_non_bool, isi_non_str, isi_non_tuple, isi_non_list, isi_non_dict, isi_non_tuple_list, isi_non_list_tuple, isi_bl_int, isi_bl_bool, isi_bl_str, isi_bl_tuple, isi_bl_list, isi_bl_dict, isi_bl_tuple_list, isi_bl_list_tuple, isi_int_int, isi_int_bool, isi_int_str, isi_int_tuple, isi_int_list, isi_int_dict, isi_int_tuple_list, isi_int_list_tuple, isi_str_int, isi_str_bool, isi_str_str, isi_str_tuple, isi_str_list, isi_str_dict, isi_str_tuple_list, isi_str_list_tuple, isi_tup_int, isi_tup_bool, isi_tup_str, isi_tup_tuple, isi_tup_list, isi_tup_dict, isi_tup_tuple_list, isi_tup_list_tuple, isi_lst_int, isi_lst_bool, isi_lst_str, isi_lst_tuple, isi_lst_list, isi_lst_dict, isi_lst_tuple_list, isi_lst_list_tuple, isi_frz_int, isi_frz_bool, isi_frz_str, isi_frz_tuple, isi_frz_list, isi_frz_dict, isi_frz_tuple_list, isi_frz_list_tuple, tru_bl, tru_int, tru_non, tru_tup, len_tup, ix_tup, tru_lst, len_lst, ix_lst, tru_frz, len_frz, ix_frz, sl_lst, sl_frz, sl_tup, asInt_int, at0, at1, at2, at3, at4, add_int, add_tup, add_str, add_lst, addC_lst, repC_lst, sub_int, mul_int, mul_lst, mul_tup, div_int, mod_int, pow_int, neg_int, not_bl, lt_int, le_int, gt_int, ge_int, eq_int, eq_str, eq_bl, eq_non, eq_int_non, eq_non_int, eq_str_non, eq_non_str, eq_bl_non, eq_non_bl, ne_int, ne_str, ne_bl, ne_non, ne_int_non, ne_non_int, ne_str_non, ne_non_str, ne_bl_non, ne_non_bl, isNone_non, isNone_int, isNone_str, isNone_bl, isNone_tup, isNone_lst, isNone_frz, max2_int, min2_int, abs_int, int_int, int_bl, still_tup, list_tup, tuple_tup, listC_tup, sv_tup, still_lst, list_lst, tuple_lst, listC_lst, sv_lst, still_frz, list_frz, tuple_frz, listC_frz, sv_frz, r1_int, r2_int, r3_int, tg_name, tg_tup, setAll_cons, setAll_nil, mtE, g1_one, g2_two, mkL_0, mkT_0, mkC_0, mkL_1, mkT_1, mkC_1, mkL_2, mkT_2, mkC_2, mkL_3, mkT_3, mkC_3, mkL_4, mkT_4, mkC_4, bnd_S, ret_S, lineN_eq2, wipe_nil, wipe_cons]) (fun a b S hb => by simp only [l__law_part_1, stillS_tup, stillS_lst, stillS_frz, stillS_str, nat10, nat2, runB, seqS, exS, asgS, retS, retN, dropS, ifS, nxS, nevS, brkS, cntS, setItS, forS, parS, op1, op2, chain, boolT, truT, notT, andT, orT, andE, orE, ifE, nilA, consA, appA, varD, cD, lstE, celE, tupE, slE, itE, itEn, cal_1, cal_2, cal_3, cal_4, cal_5, cal_6, cal_7, yesT, mulOk, List.map_cons, List.map_nil, List.length_cons, List.length_nil, List.getElem?_cons_zero, List.getElem?_cons_succ, List.set_cons_zero, List.set_cons_succ, List.replicate_succ, List.replicate_zero, List.cons_append, List.nil_append, List.append_nil, List.isEmpty_cons, List.isEmpty_nil, Nat.reduceAdd, Nat.reduceSub, Nat.reduceMul, Nat.reduceLeDiff, Nat.reduceEqDiff, Nat.zero_add, Nat.sub_zero, Nat.sub_self, Bool.not_true, Bool.not_false, Bool.true_and, Bool.false_and, Bool.and_true, Bool.and_false, Bool.true_or, Bool.false_or, Bool.or_true, Bool.or_false, Bool.false_eq_true, Bool.not_eq_true, Bool.not_eq_false, Bool.not_not, decide_eq_true_eq, decide_eq_false_iff_not, decide_true, decide_false, if_true, if_false, reduceIte, reduceCtorEq, Nat.zero_le, and_self, and_true, true_and, or_true, true_or, or_false, false_or, not_true_eq_false, not_false_eq_true, Int.reduceLT, Int.reduceLE, Int.reduceNeg, Int.reduceAdd, Int.reduceMul, Int.reduceSub, Int.reducePow, Int.reduceEq, Int.reduceToNat, Nat.reduceLT, Nat.reducePow, Int.cast_ofNat_Int, isi_non_int, isi_non_bool, isi_non_str, isi_non_tuple, isi_non_list, isi_non_dict, isi_non_tuple_list, isi_non_list_tuple, isi_bl_int, isi_bl_bool, isi_bl_str, isi_bl_tuple, isi_bl_list, isi_bl_dict, isi_bl_tuple_list, isi_bl_list_tuple, isi_int_int, isi_int_bool, isi_int_str, isi_int_tuple, isi_int_list, isi_int_dict, isi_int_tuple_list, isi_int_list_tuple, isi_str_int, isi_str_bool, isi_str_str, isi_str_tuple, isi_str_list, isi_str_dict, isi_str_tuple_list, isi_str_list_tuple, isi_tup_int, isi_tup_bool, isi_tup_str, isi_tup_tuple, isi_tup_list, isi_tup_dict, isi_tup_tuple_list, isi_tup_list_tuple, isi_lst_int, isi_lst_bool, isi_lst_str, isi_lst_tuple, isi_lst_list, isi_lst_dict, isi_lst_tuple_list, isi_lst_list_tuple, isi_frz_int, isi_frz_bool, isi_frz_str, isi_frz_tuple, isi_frz_list, isi_frz_dict, isi_frz_tuple_list, isi_frz_list_tuple, tru_bl, tru_int, tru_non, tru_tup, len_tup, ix_tup, tru_lst, len_lst, ix_lst, tru_frz, len_frz, ix_frz, sl_lst, sl_frz, sl_tup, asInt_int, at0, at1, at2, at3, at4, add_int, add_tup, add_str, add_lst, addC_lst, repC_lst, sub_int, mul_int, mul_lst, mul_tup, div_int, mod_int, pow_int, neg_int, not_bl, lt_int, le_int, gt_int, ge_int, eq_int, eq_str, eq_bl, eq_non, eq_int_non, eq_non_int, eq_str_non, eq_non_str, eq_bl_non, eq_non_bl, ne_int, ne_str, ne_bl, ne_non, ne_int_non, ne_non_int, ne_str_non, ne_non_str, ne_bl_non, ne_non_bl, isNone_non, isNone_int, isNone_str, isNone_bl, isNone_tup, isNone_lst, isNone_frz, max2_int, min2_int, abs_int, int_int, int_bl, still_tup, list_tup, tuple_tup, listC_tup, sv_tup, still_lst, list_lst, tuple_lst, listC_lst, sv_lst, still_frz, list_frz, tuple_frz, listC_frz, sv_frz, r1_int, r2_int, r3_int, tg_name, tg_tup, setAll_cons, setAll_nil, mtE, g1_one, g2_two, mkL_0, mkT_0, mkC_0, mkL_1, mkT_1, mkC_1, mkL_2, mkT_2, mkC_2, mkL_3, mkT_3, mkC_3, mkL_4, mkT_4, mkC_4, bnd_S, ret_S, lineN_eq2, wipe_nil, wipe_cons, hb]) S n n p.natAbs FUEL (Nat.le_refl _) (by unfold FUEL; omega)
  rw [e] at this
  unfold g__law_part b__law_part
  refine run_rt (ρ0 := [some (.int p), some (.int (n : Nat)), none, none]) rfl ?_
  refine Eq.trans (seq_nx (ρ' := [some (.int p), some (.int (n : Nat)), some (.int (p.natAbs : Nat)), some (.int (n : Nat))]) (S' := S) ?_) ?_
  · simp only [stillS_tup, stillS_lst, stillS_frz, stillS_str, nat10, nat2, runB, seqS, exS, asgS, retS, retN, dropS, ifS, nxS, nevS, brkS, cntS, setItS, forS, parS, op1, op2, chain, boolT, truT, notT, andT, orT, andE, orE, ifE, nilA, consA, appA, varD, cD, lstE, celE, tupE, slE, itE, itEn, cal_1, cal_2, cal_3, cal_4, cal_5, cal_6, cal_7, yesT, mulOk, List.map_cons, List.map_nil, List.length_cons, List.length_nil, List.getElem?_cons_zero, List.getElem?_cons_succ, List.set_cons_zero, List.set_cons_succ, List.replicate_succ, List.replicate_zero, List.cons_append, List.nil_append, List.append_nil, List.isEmpty_cons, List.isEmpty_nil, Nat.reduceAdd, Nat.reduceSub, Nat.reduceMul, Nat.reduceLeDiff, Nat.reduceEqDiff, Nat.zero_add, Nat.sub_zero, Nat.sub_self, Bool.not_true, Bool.not_false, Bool.true_and, Bool.false_and, Bool.and_true, Bool.and_false, Bool.true_or, Bool.false_or, Bool.or_true, Bool.or_false, Bool.false_eq_true, Bool.not_eq_true, Bool.not_eq_false, Bool.not_not, decide_eq_true_eq, decide_eq_false_iff_not, decide_true, decide_false, if_true, if_false, reduceIte, reduceCtorEq, Nat.zero_le, and_self, and_true, true_and, or_true, true_or, or_false, false_or, not_true_eq_false, not_false_eq_true, Int.reduceLT, Int.reduceLE, Int.reduceNeg, Int.reduceAdd, Int.reduceMul, Int.reduceSub, Int.reducePow, Int.reduceEq, Int.reduceToNat, Nat.reduceLT, Nat.reducePow, Int.cast_ofNat_Int, isi_non_int, isi_non_bool, isi_non_str, isi_non_tuple, isi_non_list, isi_non_dict, isi_non_tuple_list, isi_non_list_tuple, isi_bl_int, isi_bl_bool, isi_bl_str, isi_bl_tuple, isi_bl_list, isi_bl_dict, isi_bl_tuple_list, isi_bl_list_tuple, isi_int_int, isi_int_bool, isi_int_str, isi_int_tuple, isi_int_list, isi_int_dict, isi_int_tuple_list, isi_int_list_tuple, isi_str_int, isi_str_bool, isi_str_str, isi_str_tuple, isi_str_list, isi_str_dict, isi_str_tuple_list, isi_str_list_tuple, isi_tup_int, isi_tup_bool, isi_tup_str, isi_tup_tuple, isi_tup_list, isi_tup_dict, isi_tup_tuple_list, isi_tup_list_tuple, isi_lst_int, isi_lst_bool, isi_lst_str, isi_lst_tuple, isi_lst_list, isi_lst_dict, isi_lst_tuple_list, isi_lst_list_tuple, isi_frz_int, isi_frz_bool, isi_frz_str, isi_frz_tuple, isi_frz_list, isi_frz_dict, isi_frz_tuple_list, isi_frz_list_tuple, tru_bl, tru_int, tru_non, tru_tup, len_tup, ix_tup, tru_lst, len_lst, ix_lst, tru_frz, len_frz, ix_frz, sl_lst, sl_frz, sl_tup, asInt_int, at0, at1, at2, at3, at4, add_int, add_tup, add_str, add_lst, addC_lst, repC_lst, sub_int, mul_int, mul_lst, mul_tup, div_int, mod_int, pow_int, neg_int, not_bl, lt_int, le_int, gt_int, ge_int, eq_int, eq_str, eq_bl, eq_non, eq_int_non, eq_non_int, eq_str_non, eq_non_str, eq_bl_non, eq_non_bl, ne_int, ne_str, ne_bl, ne_non, ne_int_non, ne_non_int, ne_str_non, ne_non_str, ne_bl_non, ne_non_bl, isNone_non, isNone_int, isNone_str, isNone_bl, isNone_tup, isNone_lst, isNone_frz, max2_int, min2_int, abs_int, int_int, int_bl, still_tup, list_tup, tuple_tup, listC_tup, sv_tup, still_lst, list_lst, tuple_lst, listC_lst, sv_lst, still_frz, list_frz, tuple_frz, listC_frz, sv_frz, r1_int, r2_int, r3_int, tg_name, tg_tup, setAll_cons, setAll_nil, mtE, g1_one, g2_two, mkL_0, mkT_0, mkC_0, mkL_1, mkT_1, mkC_1, mkL_2, mkT_2, mkC_2, mkL_3, mkT_3, mkC_3, mkL_4, mkT_4, mkC_4, bnd_S, ret_S, lineN_eq2, wipe_nil, wipe_cons, -abs_int, ha]
  refine Eq.trans (seq_nx this) ?_
  unfold fracD
  simp only [stillS_tup, stillS_lst, stillS_frz, stillS_str, nat10, nat2, runB, seqS, exS, asgS, retS, retN, dropS, ifS, nxS, nevS, brkS, cntS, setItS, forS, parS, op1, op2, chain, boolT, truT, notT, andT, orT, andE, orE, ifE, nilA, consA, appA, varD, cD, lstE, celE, tupE, slE, itE, itEn, cal_1, cal_2, cal_3, cal_4, cal_5, cal_6, cal_7, yesT, mulOk, List.map_cons, List.map_nil, List.length_cons, List.length_nil, List.getElem?_cons_zero, List.getElem?_cons_succ, List.set_cons_zero, List.set_cons_succ, List.replicate_succ, List.replicate_zero, List.cons_append, List.nil_append, List.append_nil, List.isEmpty_cons, List.isEmpty_nil, Nat.reduceAdd, Nat.reduceSub, Nat.reduceMul, Nat.reduceLeDiff, Nat.reduceEqDiff, Nat.zero_add, Nat.sub_zero, Nat.sub_self, Bool.not_true, Bool.not_false, Bool.true_and, Bool.false_and, Bool.and_true, Bool.and_false, Bool.true_or, Bool.false_or, Bool.or_true, Bool.or_false, Bool.false_eq_true, Bool.not_eq_true, Bool.not_eq_false, Bool.not_not, decide_eq_true_eq, decide_eq_false_iff_not, decide_true, decide_false, if_true, if_false, reduceIte, reduceCtorEq, Nat.zero_le, and_self, and_true, true_and, or_true, true_or, or_false, false_or, not_true_eq_false, not_false_eq_true, Int.reduceLT, Int.reduceLE, Int.reduceNeg, Int.reduceAdd, Int.reduceMul, Int.reduceSub, Int.reducePow, Int.reduceEq, Int.reduceToNat, Nat.reduceLT, Nat.reducePow, Int.cast_ofNat_Int, isi_non_int, isi_non_bool, isi_non_str, isi_non_tuple, isi_non_list, isi_non_dict, isi_non_tuple_list, isi_non_list_tuple, isi_bl_int, isi_bl_bool, isi_bl_str, isi_bl_tuple, isi_bl_list, isi_bl_dict, isi_bl_tuple_list, isi_bl_list_tuple, isi_int_int, isi_int_bool, isi_int_str, isi_int_tuple, isi_int_list, isi_int_dict, isi_int_tuple_list, isi_int_list_tuple, isi_str_int, isi_str_bool, isi_str_str, isi_str_tuple, isi_str_list, isi_str_dict, isi_str_tuple_list, isi_str_list_tuple, isi_tup_int, isi_tup_bool, isi_tup_str, isi_tup_tuple, isi_tup_list, isi_tup_dict, isi_tup_tuple_list, isi_tup_list_tuple, isi_lst_int, isi_lst_bool, isi_lst_str, isi_lst_tuple, isi_lst_list, isi_lst_dict, isi_lst_tuple_list, isi_lst_list_tuple, isi_frz_int, isi_frz_bool, isi_frz_str, isi_frz_tuple, isi_frz_list, isi_frz_dict, isi_frz_tuple_list, isi_frz_list_tuple, tru_bl, tru_int, tru_non, tru_tup, len_tup, ix_tup, tru_lst, len_lst, ix_lst, tru_frz, len_frz, ix_frz, sl_lst, sl_frz, sl_tup, asInt_int, at0, at1, at2, at3, at4, add_int, add_tup, add_str, add_lst, addC_lst, repC_lst, sub_int, mul_int, mul_lst, mul_tup, div_int, mod_int, pow_int, neg_int, not_bl, lt_int, le_int, gt_int, ge_int, eq_int, eq_str, eq_bl, eq_non, eq_int_non, eq_non_int, eq_str_non, eq_non_str, eq_bl_non, eq_non_bl, ne_int, ne_str, ne_bl, ne_non, ne_int_non, ne_non_int, ne_str_non, ne_non_str, ne_bl_non, ne_non_bl, isNone_non, isNone_int, isNone_str, isNone_bl, isNone_tup, isNone_lst, isNone_frz, max2_int, min2_int, abs_int, int_int, int_bl, still_tup, list_tup, tuple_tup, listC_tup, sv_tup, still_lst, list_lst, tuple_lst, listC_lst, sv_lst, still_frz, list_frz, tuple_frz, listC_frz, sv_frz, r1_int, r2_int, r3_int, tg_name, tg_tup, setAll_cons, setAll_nil, mtE, g1_one, g2_two, mkL_0, mkT_0, mkC_0, mkL_1, mkT_1, mkC_1, mkL_2, mkT_2, mkC_2, mkL_3, mkT_3, mkC_3, mkL_4, mkT_4, mkC_4, bnd_S, ret_S, lineN_eq2, wipe_nil, wipe_cons, -div_int, d1, d2]
/-! what they are worth -/
theorem frac_scale (p q k : Int) (hq : 1 ≤ q) (hk : 1 ≤ k) : fracD (p * k) (q * k) = fracD p q := by
  have e : gc (p * k) (q * k) = gc p q * k := by
    unfold gc
    rw [Int.gcd_mul_right]
    have : ((k.natAbs : Nat) : Int) = k := by omega
    rw [Int.natCast_mul, this]
  have hg := gc_pos (p := p) hq
  unfold fracD
  rw [e, Int.mul_ediv_mul_of_pos_left _ _ (by omega), Int.mul_ediv_mul_of_pos_left _ _ (by omega)]
/-- the two parts -/
def ft (p q : Int) : Int := p / gc p q
def fb (p q : Int) : Int := q / gc p q
theorem fracD_eq (p q : Int) : fracD p q = .tup [.int (ft p q), .int (fb p q)] := rfl
theorem gc_dvd (p q : Int) : gc p q ∣ p ∧ gc p q ∣ q := ⟨Int.gcd_dvd_left p q, Int.gcd_dvd_right p q⟩
theorem ft_mul (p q : Int) : ft p q * gc p q = p := Int.ediv_mul_cancel (gc_dvd p q).1
theorem fb_mul (p q : Int) : fb p q * gc p q = q := Int.ediv_mul_cancel (gc_dvd p q).2
theorem fb_pos {p q : Int} (h : 1 ≤ q) : 1 ≤ fb p q ∧ fb p q ≤ q := by
  have h1 := fb_mul p q
  have hg := gc_pos (p := p) h
  have h2 : 0 < fb p q := by
    by_cases hx : 0 < fb p q
    · exact hx
    · have : fb p q * gc p q ≤ 0 := Int.mul_nonpos_of_nonpos_of_nonneg (by omega) (by omega)
      omega
  refine ⟨by omega, ?_⟩
  have : fb p q * 1 ≤ fb p q * gc p q := Int.mul_le_mul_of_nonneg_left hg.1 (by omega)
  omega
theorem frac_cross (p q : Int) : ft p q * q = p * fb p q := by
  have key : ∀ a b g p q : Int, a * g = p → b * g = q → a * q = p * b := by
    intro a b g p q h1 h2
    subst h1 h2
    ac_rfl
  exact key _ _ _ _ _ (ft_mul p q) (fb_mul p q)
theorem gc_fr {p q : Int} (h : 1 ≤ q) : gc (ft p q) (fb p q) = 1 := by
  have hg := gc_pos (p := p) h
  unfold gc ft fb
  have := Int.gcd_ediv_gcd_ediv_gcd_of_ne_zero_right (n := p) (m := q) (by omega)
  unfold gc
  rw [this]; rfl
/-- equal fractions -/
theorem frac_eq {p q p' q' : Int} (h : 1 ≤ q) (h' : 1 ≤ q') : p * q' = p' * q ↔ fracD p q = fracD p' q' := by
  constructor
  · intro e
    rw [← frac_scale p q q' h h', ← frac_scale p' q' q h' h, e, Int.mul_comm q q']
  · intro e
    rw [fracD_eq, fracD_eq] at e
    injection e with e
    injection e with e1 e2
    injection e2 with e2 _
    injection e1 with e1
    injection e2 with e2
    have h1 := ft_mul p q
    have h2 := fb_mul p q
    have h3 := ft_mul p' q'
    have h4 := fb_mul p' q'
    rw [← e1] at h3
    rw [← e2] at h4
    have key : ∀ a b c d p q p' q' : Int, a * c = p → b * c = q → a * d = p' → b * d = q' → p * q' = p' * q := by
      intro a b c d p q p' q' h1 h2 h3 h4
      subst h1 h2 h3 h4
      ac_rfl
    exact key _ _ _ _ _ _ _ _ h1 h2 h3 h4
end F

set_option linter.all false
set_option autoImplicit false
set_option maxRecDepth 100000
set_option maxHeartbeats 1000000
/-! The questions of a recipe's amounts. -/
namespace F
open PySem
theorem alike_t {x : D} (h : alD 7 x) (S : Store) : g__law_alike [x, x] S = .ok (.bl true) S := alike_self 7 x h S
theorem alD_int (n : Nat) (i : Int) : alD n (.int i) := by cases n <;> exact True.intro
theorem alD_frac (p q : Int) : alD 7 (fracD p q) := ⟨by simp, fun d hd => by
  rcases List.mem_cons.mp hd with rfl | hd
  · exact True.intro
  · rcases List.mem_cons.mp hd with rfl | hd
    · exact True.intro
    · simp at hd⟩
theorem alD_ints {α : Type} (xs : List α) (f : α → Int) (h : xs.length ≤ 1000000) : alD 7 (.lst (xs.map fun x => .int (f x))) := ⟨by simpa using h, fun d hd => by
  obtain ⟨z, _, rfl⟩ := List.mem_map.mp hd
  exact True.intro⟩
def amtsD (rs : List Row) (n : Int) : D := .lst (rs.map fun r => .int (amt rs r n))
def most : Int := 1000000000000000000000000000000
theorem check_eaters_ok {n : Int} (h : 0 ≤ n ∧ n ≤ most) (S : Store) : g_check_eaters [.int n] S = .ok .non S := by
  have hi : ∀ S, g_is_integer [.int n, .int 0, .int 1000000000000000000000000000000] S = .ok (.bl true) S := fun S => is_int_t h S
  simp only [g_check_eaters, b_check_eaters, stillS_tup, stillS_lst, stillS_frz, stillS_str, nat10, nat2, runB, seqS, exS, asgS, retS, retN, dropS, ifS, nxS, nevS, brkS, cntS, setItS, forS, parS, op1, op2, chain, boolT, truT, notT, andT, orT, andE, orE, ifE, nilA, consA, appA, varD, cD, lstE, celE, tupE, slE, itE, itEn, cal_1, cal_2, cal_3, cal_4, cal_5, cal_6, cal_7, yesT, mulOk, List.map_cons, List.map_nil, List.length_cons, List.length_nil, List.getElem?_cons_zero, List.getElem?_cons_succ, List.set_cons_zero, List.set_cons_succ, List.replicate_succ, List.replicate_zero, List.cons_append, List.nil_append, List.append_nil, List.isEmpty_cons, List.isEmpty_nil, Nat.reduceAdd, Nat.reduceSub, Nat.reduceMul, Nat.reduceLeDiff, Nat.reduceEqDiff, Nat.zero_add, Nat.sub_zero, Nat.sub_self, Bool.not_true, Bool.not_false, Bool.true_and, Bool.false_and, Bool.and_true, Bool.and_false, Bool.true_or, Bool.false_or, Bool.or_true, Bool.or_false, Bool.false_eq_true, Bool.not_eq_true, Bool.not_eq_false, Bool.not_not, decide_eq_true_eq, decide_eq_false_iff_not, decide_true, decide_false, if_true, if_false, reduceIte, reduceCtorEq, Nat.zero_le, and_self, and_true, true_and, or_true, true_or, or_false, false_or, not_true_eq_false, not_false_eq_true, Int.reduceLT, Int.reduceLE, Int.reduceNeg, Int.reduceAdd, Int.reduceMul, Int.reduceSub, Int.reducePow, Int.reduceEq, Int.reduceToNat, Nat.reduceLT, Nat.reducePow, Int.cast_ofNat_Int, isi_non_int, isi_non_bool, isi_non_str, isi_non_tuple, isi_non_list, isi_non_dict, isi_non_tuple_list, isi_non_list_tuple, isi_bl_int, isi_bl_bool, isi_bl_str, isi_bl_tuple, isi_bl_list, isi_bl_dict, isi_bl_tuple_list, isi_bl_list_tuple, isi_int_int, isi_int_bool, isi_int_str, isi_int_tuple, isi_int_list, isi_int_dict, isi_int_tuple_list, isi_int_list_tuple, isi_str_int, isi_str_bool, isi_str_str, isi_str_tuple, isi_str_list, isi_str_dict, isi_str_tuple_list, isi_str_list_tuple, isi_tup_int, isi_tup_bool, isi_tup_str, isi_tup_tuple, isi_tup_list, isi_tup_dict, isi_tup_tuple_list, isi_tup_list_tuple, isi_lst_int, isi_lst_bool, isi_lst_str, isi_lst_tuple, isi_lst_list, isi_lst_dict, isi_lst_tuple_list, isi_lst_list_tuple, isi_frz_int, isi_frz_bool, isi_frz_str, isi_frz_tuple, isi_frz_list, isi_frz_dict, isi_frz_tuple_list, isi_frz_list_tuple, tru_bl, tru_int, tru_non, tru_tup, len_tup, ix_tup, tru_lst, len_lst, ix_lst, tru_frz, len_frz, ix_frz, sl_lst, sl_frz, sl_tup, asInt_int, at0, at1, at2, at3, at4, add_int, add_tup, add_str, add_lst, addC_lst, repC_lst, sub_int, mul_int, mul_lst, mul_tup, div_int, mod_int, pow_int, neg_int, not_bl, lt_int, le_int, gt_int, ge_int, eq_int, eq_str, eq_bl, eq_non, eq_int_non, eq_non_int, eq_str_non, eq_non_str, eq_bl_non, eq_non_bl, ne_int, ne_str, ne_bl, ne_non, ne_int_non, ne_non_int, ne_str_non, ne_non_str, ne_bl_non, ne_non_bl, isNone_non, isNone_int, isNone_str, isNone_bl, isNone_tup, isNone_lst, isNone_frz, max2_int, min2_int, abs_int, int_int, int_bl, still_tup, list_tup, tuple_tup, listC_tup, sv_tup, still_lst, list_lst, tuple_lst, listC_lst, sv_lst, still_frz, list_frz, tuple_frz, listC_frz, sv_frz, r1_int, r2_int, r3_int, tg_name, tg_tup, setAll_cons, setAll_nil, mtE, g1_one, g2_two, mkL_0, mkT_0, mkC_0, mkL_1, mkT_1, mkC_1, mkL_2, mkT_2, mkC_2, mkL_3, mkT_3, mkC_3, mkL_4, mkT_4, mkC_4, bnd_S, ret_S, lineN_eq2, wipe_nil, wipe_cons, hi]
theorem sheet_by_ok {c : Bool} {rs : List Row} (h : WRs c rs) (hl : rs.length ≤ 5) (n : Int) (S : Store) : g_sheet_by [recD rs, .int n] S = .ok (amtsD rs n) S := by
  have hc : ∀ S, c_sheet_by_1 [some (recD rs), some (.int n), none] S = .ok (amtsD rs n) S := fun S => by
    unfold c_sheet_by_1
    refine lcE_all rowD (fun r => .int (amt rs r n)) rs ?_ (by rw [lineN_eq2]; omega) fun r hr => ⟨[some (recD rs), some (.int n), some (rowD r)], rfl, rfl, ?_⟩
    · rfl
    · have ha := fun S => amount_by_ok h hr n S
      simp only [stillS_tup, stillS_lst, stillS_frz, stillS_str, nat10, nat2, runB, seqS, exS, asgS, retS, retN, dropS, ifS, nxS, nevS, brkS, cntS, setItS, forS, parS, op1, op2, chain, boolT, truT, notT, andT, orT, andE, orE, ifE, nilA, consA, appA, varD, cD, lstE, celE, tupE, slE, itE, itEn, cal_1, cal_2, cal_3, cal_4, cal_5, cal_6, cal_7, yesT, mulOk, List.map_cons, List.map_nil, List.length_cons, List.length_nil, List.getElem?_cons_zero, List.getElem?_cons_succ, List.set_cons_zero, List.set_cons_succ, List.replicate_succ, List.replicate_zero, List.cons_append, List.nil_append, List.append_nil, List.isEmpty_cons, List.isEmpty_nil, Nat.reduceAdd, Nat.reduceSub, Nat.reduceMul, Nat.reduceLeDiff, Nat.reduceEqDiff, Nat.zero_add, Nat.sub_zero, Nat.sub_self, Bool.not_true, Bool.not_false, Bool.true_and, Bool.false_and, Bool.and_true, Bool.and_false, Bool.true_or, Bool.false_or, Bool.or_true, Bool.or_false, Bool.false_eq_true, Bool.not_eq_true, Bool.not_eq_false, Bool.not_not, decide_eq_true_eq, decide_eq_false_iff_not, decide_true, decide_false, if_true, if_false, reduceIte, reduceCtorEq, Nat.zero_le, and_self, and_true, true_and, or_true, true_or, or_false, false_or, not_true_eq_false, not_false_eq_true, Int.reduceLT, Int.reduceLE, Int.reduceNeg, Int.reduceAdd, Int.reduceMul, Int.reduceSub, Int.reducePow, Int.reduceEq, Int.reduceToNat, Nat.reduceLT, Nat.reducePow, Int.cast_ofNat_Int, isi_non_int, isi_non_bool, isi_non_str, isi_non_tuple, isi_non_list, isi_non_dict, isi_non_tuple_list, isi_non_list_tuple, isi_bl_int, isi_bl_bool, isi_bl_str, isi_bl_tuple, isi_bl_list, isi_bl_dict, isi_bl_tuple_list, isi_bl_list_tuple, isi_int_int, isi_int_bool, isi_int_str, isi_int_tuple, isi_int_list, isi_int_dict, isi_int_tuple_list, isi_int_list_tuple, isi_str_int, isi_str_bool, isi_str_str, isi_str_tuple, isi_str_list, isi_str_dict, isi_str_tuple_list, isi_str_list_tuple, isi_tup_int, isi_tup_bool, isi_tup_str, isi_tup_tuple, isi_tup_list, isi_tup_dict, isi_tup_tuple_list, isi_tup_list_tuple, isi_lst_int, isi_lst_bool, isi_lst_str, isi_lst_tuple, isi_lst_list, isi_lst_dict, isi_lst_tuple_list, isi_lst_list_tuple, isi_frz_int, isi_frz_bool, isi_frz_str, isi_frz_tuple, isi_frz_list, isi_frz_dict, isi_frz_tuple_list, isi_frz_list_tuple, tru_bl, tru_int, tru_non, tru_tup, len_tup, ix_tup, tru_lst, len_lst, ix_lst, tru_frz, len_frz, ix_frz, sl_lst, sl_frz, sl_tup, asInt_int, at0, at1, at2, at3, at4, add_int, add_tup, add_str, add_lst, addC_lst, repC_lst, sub_int, mul_int, mul_lst, mul_tup, div_int, mod_int, pow_int, neg_int, not_bl, lt_int, le_int, gt_int, ge_int, eq_int, eq_str, eq_bl, eq_non, eq_int_non, eq_non_int, eq_str_non, eq_non_str, eq_bl_non, eq_non_bl, ne_int, ne_str, ne_bl, ne_non, ne_int_non, ne_non_int, ne_str_non, ne_non_str, ne_bl_non, ne_non_bl, isNone_non, isNone_int, isNone_str, isNone_bl, isNone_tup, isNone_lst, isNone_frz, max2_int, min2_int, abs_int, int_int, int_bl, still_tup, list_tup, tuple_tup, listC_tup, sv_tup, still_lst, list_lst, tuple_lst, listC_lst, sv_lst, still_frz, list_frz, tuple_frz, listC_frz, sv_frz, r1_int, r2_int, r3_int, tg_name, tg_tup, setAll_cons, setAll_nil, mtE, g1_one, g2_two, mkL_0, mkT_0, mkC_0, mkL_1, mkT_1, mkC_1, mkL_2, mkT_2, mkC_2, mkL_3, mkT_3, mkC_3, mkL_4, mkT_4, mkC_4, bnd_S, ret_S, lineN_eq2, wipe_nil, wipe_cons, ha]
  simp only [g_sheet_by, b_sheet_by, stillS_tup, stillS_lst, stillS_frz, stillS_str, nat10, nat2, runB, seqS, exS, asgS, retS, retN, dropS, ifS, nxS, nevS, brkS, cntS, setItS, forS, parS, op1, op2, chain, boolT, truT, notT, andT, orT, andE, orE, ifE, nilA, consA, appA, varD, cD, lstE, celE, tupE, slE, itE, itEn, cal_1, cal_2, cal_3, cal_4, cal_5, cal_6, cal_7, yesT, mulOk, List.map_cons, List.map_nil, List.length_cons, List.length_nil, List.getElem?_cons_zero, List.getElem?_cons_succ, List.set_cons_zero, List.set_cons_succ, List.replicate_succ, List.replicate_zero, List.cons_append, List.nil_append, List.append_nil, List.isEmpty_cons, List.isEmpty_nil, Nat.reduceAdd, Nat.reduceSub, Nat.reduceMul, Nat.reduceLeDiff, Nat.reduceEqDiff, Nat.zero_add, Nat.sub_zero, Nat.sub_self, Bool.not_true, Bool.not_false, Bool.true_and, Bool.false_and, Bool.and_true, Bool.and_false, Bool.true_or, Bool.false_or, Bool.or_true, Bool.or_false, Bool.false_eq_true, Bool.not_eq_true, Bool.not_eq_false, Bool.not_not, decide_eq_true_eq, decide_eq_false_iff_not, decide_true, decide_false, if_true, if_false, reduceIte, reduceCtorEq, Nat.zero_le, and_self, and_true, true_and, or_true, true_or, or_false, false_or, not_true_eq_false, not_false_eq_true, Int.reduceLT, Int.reduceLE, Int.reduceNeg, Int.reduceAdd, Int.reduceMul, Int.reduceSub, Int.reducePow, Int.reduceEq, Int.reduceToNat, Nat.reduceLT, Nat.reducePow, Int.cast_ofNat_Int, isi_non_int, isi_non_bool, isi_non_str, isi_non_tuple, isi_non_list, isi_non_dict, isi_non_tuple_list, isi_non_list_tuple, isi_bl_int, isi_bl_bool, isi_bl_str, isi_bl_tuple, isi_bl_list, isi_bl_dict, isi_bl_tuple_list, isi_bl_list_tuple, isi_int_int, isi_int_bool, isi_int_str, isi_int_tuple, isi_int_list, isi_int_dict, isi_int_tuple_list, isi_int_list_tuple, isi_str_int, isi_str_bool, isi_str_str, isi_str_tuple, isi_str_list, isi_str_dict, isi_str_tuple_list, isi_str_list_tuple, isi_tup_int, isi_tup_bool, isi_tup_str, isi_tup_tuple, isi_tup_list, isi_tup_dict, isi_tup_tuple_list, isi_tup_list_tuple, isi_lst_int, isi_lst_bool, isi_lst_str, isi_lst_tuple, isi_lst_list, isi_lst_dict, isi_lst_tuple_list, isi_lst_list_tuple, isi_frz_int, isi_frz_bool, isi_frz_str, isi_frz_tuple, isi_frz_list, isi_frz_dict, isi_frz_tuple_list, isi_frz_list_tuple, tru_bl, tru_int, tru_non, tru_tup, len_tup, ix_tup, tru_lst, len_lst, ix_lst, tru_frz, len_frz, ix_frz, sl_lst, sl_frz, sl_tup, asInt_int, at0, at1, at2, at3, at4, add_int, add_tup, add_str, add_lst, addC_lst, repC_lst, sub_int, mul_int, mul_lst, mul_tup, div_int, mod_int, pow_int, neg_int, not_bl, lt_int, le_int, gt_int, ge_int, eq_int, eq_str, eq_bl, eq_non, eq_int_non, eq_non_int, eq_str_non, eq_non_str, eq_bl_non, eq_non_bl, ne_int, ne_str, ne_bl, ne_non, ne_int_non, ne_non_int, ne_str_non, ne_non_str, ne_bl_non, ne_non_bl, isNone_non, isNone_int, isNone_str, isNone_bl, isNone_tup, isNone_lst, isNone_frz, max2_int, min2_int, abs_int, int_int, int_bl, still_tup, list_tup, tuple_tup, listC_tup, sv_tup, still_lst, list_lst, tuple_lst, listC_lst, sv_lst, still_frz, list_frz, tuple_frz, listC_frz, sv_frz, r1_int, r2_int, r3_int, tg_name, tg_tup, setAll_cons, setAll_nil, mtE, g1_one, g2_two, mkL_0, mkT_0, mkC_0, mkL_1, mkT_1, mkC_1, mkL_2, mkT_2, mkC_2, mkL_3, mkT_3, mkC_3, mkL_4, mkT_4, mkC_4, bnd_S, ret_S, lineN_eq2, wipe_nil, wipe_cons, hc]
section
variable {c : Bool} {rs : List Row} (h : WRs c rs) {n : Int} (hn : 0 ≤ n ∧ n ≤ most)
include h hn
theorem sheet_ok (hl : rs.length ≤ 5) (S : Store) : g_sheet [recD rs, .int n] S = .ok (amtsD rs n) S := by
  have h1 := fun S => check_eaters_ok hn S
  have h2 := fun S => sheet_by_ok h hl n S
  simp only [g_sheet, b_sheet, stillS_tup, stillS_lst, stillS_frz, stillS_str, nat10, nat2, runB, seqS, exS, asgS, retS, retN, dropS, ifS, nxS, nevS, brkS, cntS, setItS, forS, parS, op1, op2, chain, boolT, truT, notT, andT, orT, andE, orE, ifE, nilA, consA, appA, varD, cD, lstE, celE, tupE, slE, itE, itEn, cal_1, cal_2, cal_3, cal_4, cal_5, cal_6, cal_7, yesT, mulOk, List.map_cons, List.map_nil, List.length_cons, List.length_nil, List.getElem?_cons_zero, List.getElem?_cons_succ, List.set_cons_zero, List.set_cons_succ, List.replicate_succ, List.replicate_zero, List.cons_append, List.nil_append, List.append_nil, List.isEmpty_cons, List.isEmpty_nil, Nat.reduceAdd, Nat.reduceSub, Nat.reduceMul, Nat.reduceLeDiff, Nat.reduceEqDiff, Nat.zero_add, Nat.sub_zero, Nat.sub_self, Bool.not_true, Bool.not_false, Bool.true_and, Bool.false_and, Bool.and_true, Bool.and_false, Bool.true_or, Bool.false_or, Bool.or_true, Bool.or_false, Bool.false_eq_true, Bool.not_eq_true, Bool.not_eq_false, Bool.not_not, decide_eq_true_eq, decide_eq_false_iff_not, decide_true, decide_false, if_true, if_false, reduceIte, reduceCtorEq, Nat.zero_le, and_self, and_true, true_and, or_true, true_or, or_false, false_or, not_true_eq_false, not_false_eq_true, Int.reduceLT, Int.reduceLE, Int.reduceNeg, Int.reduceAdd, Int.reduceMul, Int.reduceSub, Int.reducePow, Int.reduceEq, Int.reduceToNat, Nat.reduceLT, Nat.reducePow, Int.cast_ofNat_Int, isi_non_int, isi_non_bool, isi_non_str, isi_non_tuple, isi_non_list, isi_non_dict, isi_non_tuple_list, isi_non_list_tuple, isi_bl_int, isi_bl_bool, isi_bl_str, isi_bl_tuple, isi_bl_list, isi_bl_dict, isi_bl_tuple_list, isi_bl_list_tuple, isi_int_int, isi_int_bool, isi_int_str, isi_int_tuple, isi_int_list, isi_int_dict, isi_int_tuple_list, isi_int_list_tuple, isi_str_int, isi_str_bool, isi_str_str, isi_str_tuple, isi_str_list, isi_str_dict, isi_str_tuple_list, isi_str_list_tuple, isi_tup_int, isi_tup_bool, isi_tup_str, isi_tup_tuple, isi_tup_list, isi_tup_dict, isi_tup_tuple_list, isi_tup_list_tuple, isi_lst_int, isi_lst_bool, isi_lst_str, isi_lst_tuple, isi_lst_list, isi_lst_dict, isi_lst_tuple_list, isi_lst_list_tuple, isi_frz_int, isi_frz_bool, isi_frz_str, isi_frz_tuple, isi_frz_list, isi_frz_dict, isi_frz_tuple_list, isi_frz_list_tuple, tru_bl, tru_int, tru_non, tru_tup, len_tup, ix_tup, tru_lst, len_lst, ix_lst, tru_frz, len_frz, ix_frz, sl_lst, sl_frz, sl_tup, asInt_int, at0, at1, at2, at3, at4, add_int, add_tup, add_str, add_lst, addC_lst, repC_lst, sub_int, mul_int, mul_lst, mul_tup, div_int, mod_int, pow_int, neg_int, not_bl, lt_int, le_int, gt_int, ge_int, eq_int, eq_str, eq_bl, eq_non, eq_int_non, eq_non_int, eq_str_non, eq_non_str, eq_bl_non, eq_non_bl, ne_int, ne_str, ne_bl, ne_non, ne_int_non, ne_non_int, ne_str_non, ne_non_str, ne_bl_non, ne_non_bl, isNone_non, isNone_int, isNone_str, isNone_bl, isNone_tup, isNone_lst, isNone_frz, max2_int, min2_int, abs_int, int_int, int_bl, still_tup, list_tup, tuple_tup, listC_tup, sv_tup, still_lst, list_lst, tuple_lst, listC_lst, sv_lst, still_frz, list_frz, tuple_frz, listC_frz, sv_frz, r1_int, r2_int, r3_int, tg_name, tg_tup, setAll_cons, setAll_nil, mtE, g1_one, g2_two, mkL_0, mkT_0, mkC_0, mkL_1, mkT_1, mkC_1, mkL_2, mkT_2, mkC_2, mkL_3, mkT_3, mkC_3, mkL_4, mkT_4, mkC_4, bnd_S, ret_S, lineN_eq2, wipe_nil, wipe_cons, h1, h2]
variable {r : Row} (hr : r ∈ rs)
include hr
theorem amount_ok (S : Store) : g_amount [recD rs, .str r.nm, .int n] S = .ok (.int (amt rs r n)) S := by
  have h1 := fun S => check_eaters_ok hn S
  have h2 := fun S => row_of_mem h hr S
  have h3 := fun S => amount_by_ok h hr n S
  simp only [g_amount, b_amount, stillS_tup, stillS_lst, stillS_frz, stillS_str, nat10, nat2, runB, seqS, exS, asgS, retS, retN, dropS, ifS, nxS, nevS, brkS, cntS, setItS, forS, parS, op1, op2, chain, boolT, truT, notT, andT, orT, andE, orE, ifE, nilA, consA, appA, varD, cD, lstE, celE, tupE, slE, itE, itEn, cal_1, cal_2, cal_3, cal_4, cal_5, cal_6, cal_7, yesT, mulOk, List.map_cons, List.map_nil, List.length_cons, List.length_nil, List.getElem?_cons_zero, List.getElem?_cons_succ, List.set_cons_zero, List.set_cons_succ, List.replicate_succ, List.replicate_zero, List.cons_append, List.nil_append, List.append_nil, List.isEmpty_cons, List.isEmpty_nil, Nat.reduceAdd, Nat.reduceSub, Nat.reduceMul, Nat.reduceLeDiff, Nat.reduceEqDiff, Nat.zero_add, Nat.sub_zero, Nat.sub_self, Bool.not_true, Bool.not_false, Bool.true_and, Bool.false_and, Bool.and_true, Bool.and_false, Bool.true_or, Bool.false_or, Bool.or_true, Bool.or_false, Bool.false_eq_true, Bool.not_eq_true, Bool.not_eq_false, Bool.not_not, decide_eq_true_eq, decide_eq_false_iff_not, decide_true, decide_false, if_true, if_false, reduceIte, reduceCtorEq, Nat.zero_le, and_self, and_true, true_and, or_true, true_or, or_false, false_or, not_true_eq_false, not_false_eq_true, Int.reduceLT, Int.reduceLE, Int.reduceNeg, Int.reduceAdd, Int.reduceMul, Int.reduceSub, Int.reducePow, Int.reduceEq, Int.reduceToNat, Nat.reduceLT, Nat.reducePow, Int.cast_ofNat_Int, isi_non_int, isi_non_bool, isi_non_str, isi_non_tuple, isi_non_list, isi_non_dict, isi_non_tuple_list, isi_non_list_tuple, isi_bl_int, isi_bl_bool, isi_bl_str, isi_bl_tuple, isi_bl_list, isi_bl_dict, isi_bl_tuple_list, isi_bl_list_tuple, isi_int_int, isi_int_bool, isi_int_str, isi_int_tuple, isi_int_list, isi_int_dict, isi_int_tuple_list, isi_int_list_tuple, isi_str_int, isi_str_bool, isi_str_str, isi_str_tuple, isi_str_list, isi_str_dict, isi_str_tuple_list, isi_str_list_tuple, isi_tup_int, isi_tup_bool, isi_tup_str, isi_tup_tuple, isi_tup_list, isi_tup_dict, isi_tup_tuple_list, isi_tup_list_tuple, isi_lst_int, isi_lst_bool, isi_lst_str, isi_lst_tuple, isi_lst_list, isi_lst_dict, isi_lst_tuple_list, isi_lst_list_tuple, isi_frz_int, isi_frz_bool, isi_frz_str, isi_frz_tuple, isi_frz_list, isi_frz_dict, isi_frz_tuple_list, isi_frz_list_tuple, tru_bl, tru_int, tru_non, tru_tup, len_tup, ix_tup, tru_lst, len_lst, ix_lst, tru_frz, len_frz, ix_frz, sl_lst, sl_frz, sl_tup, asInt_int, at0, at1, at2, at3, at4, add_int, add_tup, add_str, add_lst, addC_lst, repC_lst, sub_int, mul_int, mul_lst, mul_tup, div_int, mod_int, pow_int, neg_int, not_bl, lt_int, le_int, gt_int, ge_int, eq_int, eq_str, eq_bl, eq_non, eq_int_non, eq_non_int, eq_str_non, eq_non_str, eq_bl_non, eq_non_bl, ne_int, ne_str, ne_bl, ne_non, ne_int_non, ne_non_int, ne_str_non, ne_non_str, ne_bl_non, ne_non_bl, isNone_non, isNone_int, isNone_str, isNone_bl, isNone_tup, isNone_lst, isNone_frz, max2_int, min2_int, abs_int, int_int, int_bl, still_tup, list_tup, tuple_tup, listC_tup, sv_tup, still_lst, list_lst, tuple_lst, listC_lst, sv_lst, still_frz, list_frz, tuple_frz, listC_frz, sv_frz, r1_int, r2_int, r3_int, tg_name, tg_tup, setAll_cons, setAll_nil, mtE, g1_one, g2_two, mkL_0, mkT_0, mkC_0, mkL_1, mkT_1, mkC_1, mkL_2, mkT_2, mkC_2, mkL_3, mkT_3, mkC_3, mkL_4, mkT_4, mkC_4, bnd_S, ret_S, lineN_eq2, wipe_nil, wipe_cons, h1, h2, h3]
theorem wanted_ok (S : Store) : g_wanted [recD rs, .str r.nm, .int n] S = .ok (fracD (due rs r n) r.bot) S := by
  have h1 := fun S => check_eaters_ok hn S
  have h2 := fun S => row_of_mem h hr S
  have h3 := fun S => due_parts_ok h hr n S
  have h4 := fun S => row3 r S
  have h5 := fun S => fraction_ok (due rs r n) r.bot (h.num hr).bot.1 (by have := (h.num hr).bot; omega) S
  simp only [g_wanted, b_wanted, stillS_tup, stillS_lst, stillS_frz, stillS_str, nat10, nat2, runB, seqS, exS, asgS, retS, retN, dropS, ifS, nxS, nevS, brkS, cntS, setItS, forS, parS, op1, op2, chain, boolT, truT, notT, andT, orT, andE, orE, ifE, nilA, consA, appA, varD, cD, lstE, celE, tupE, slE, itE, itEn, cal_1, cal_2, cal_3, cal_4, cal_5, cal_6, cal_7, yesT, mulOk, List.map_cons, List.map_nil, List.length_cons, List.length_nil, List.getElem?_cons_zero, List.getElem?_cons_succ, List.set_cons_zero, List.set_cons_succ, List.replicate_succ, List.replicate_zero, List.cons_append, List.nil_append, List.append_nil, List.isEmpty_cons, List.isEmpty_nil, Nat.reduceAdd, Nat.reduceSub, Nat.reduceMul, Nat.reduceLeDiff, Nat.reduceEqDiff, Nat.zero_add, Nat.sub_zero, Nat.sub_self, Bool.not_true, Bool.not_false, Bool.true_and, Bool.false_and, Bool.and_true, Bool.and_false, Bool.true_or, Bool.false_or, Bool.or_true, Bool.or_false, Bool.false_eq_true, Bool.not_eq_true, Bool.not_eq_false, Bool.not_not, decide_eq_true_eq, decide_eq_false_iff_not, decide_true, decide_false, if_true, if_false, reduceIte, reduceCtorEq, Nat.zero_le, and_self, and_true, true_and, or_true, true_or, or_false, false_or, not_true_eq_false, not_false_eq_true, Int.reduceLT, Int.reduceLE, Int.reduceNeg, Int.reduceAdd, Int.reduceMul, Int.reduceSub, Int.reducePow, Int.reduceEq, Int.reduceToNat, Nat.reduceLT, Nat.reducePow, Int.cast_ofNat_Int, isi_non_int, isi_non_bool, isi_non_str, isi_non_tuple, isi_non_list, isi_non_dict, isi_non_tuple_list, isi_non_list_tuple, isi_bl_int, isi_bl_bool, isi_bl_str, isi_bl_tuple, isi_bl_list, isi_bl_dict, isi_bl_tuple_list, isi_bl_list_tuple, isi_int_int, isi_int_bool, isi_int_str, isi_int_tuple, isi_int_list, isi_int_dict, isi_int_tuple_list, isi_int_list_tuple, isi_str_int, isi_str_bool, isi_str_str, isi_str_tuple, isi_str_list, isi_str_dict, isi_str_tuple_list, isi_str_list_tuple, isi_tup_int, isi_tup_bool, isi_tup_str, isi_tup_tuple, isi_tup_list, isi_tup_dict, isi_tup_tuple_list, isi_tup_list_tuple, isi_lst_int, isi_lst_bool, isi_lst_str, isi_lst_tuple, isi_lst_list, isi_lst_dict, isi_lst_tuple_list, isi_lst_list_tuple, isi_frz_int, isi_frz_bool, isi_frz_str, isi_frz_tuple, isi_frz_list, isi_frz_dict, isi_frz_tuple_list, isi_frz_list_tuple, tru_bl, tru_int, tru_non, tru_tup, len_tup, ix_tup, tru_lst, len_lst, ix_lst, tru_frz, len_frz, ix_frz, sl_lst, sl_frz, sl_tup, asInt_int, at0, at1, at2, at3, at4, add_int, add_tup, add_str, add_lst, addC_lst, repC_lst, sub_int, mul_int, mul_lst, mul_tup, div_int, mod_int, pow_int, neg_int, not_bl, lt_int, le_int, gt_int, ge_int, eq_int, eq_str, eq_bl, eq_non, eq_int_non, eq_non_int, eq_str_non, eq_non_str, eq_bl_non, eq_non_bl, ne_int, ne_str, ne_bl, ne_non, ne_int_non, ne_non_int, ne_str_non, ne_non_str, ne_bl_non, ne_non_bl, isNone_non, isNone_int, isNone_str, isNone_bl, isNone_tup, isNone_lst, isNone_frz, max2_int, min2_int, abs_int, int_int, int_bl, still_tup, list_tup, tuple_tup, listC_tup, sv_tup, still_lst, list_lst, tuple_lst, listC_lst, sv_lst, still_frz, list_frz, tuple_frz, listC_frz, sv_frz, r1_int, r2_int, r3_int, tg_name, tg_tup, setAll_cons, setAll_nil, mtE, g1_one, g2_two, mkL_0, mkT_0, mkC_0, mkL_1, mkT_1, mkC_1, mkL_2, mkT_2, mkC_2, mkL_3, mkT_3, mkC_3, mkL_4, mkT_4, mkC_4, bnd_S, ret_S, lineN_eq2, wipe_nil, wipe_cons, h1, h2, h3, h4, h5]
omit hn
/-- what is over of a row -/
def ovD (rs : List Row) (r : Row) (n : Int) : D := fracD (amt rs r n * r.bot - due rs r n) r.bot
theorem over_by_ok (S : Store) : g_over_by [recD rs, rowD r, .int n] S = .ok (ovD rs r n) S := by
  have h2 := fun S => amount_by_ok h hr n S
  have h3 := fun S => due_parts_ok h hr n S
  have h4 := fun S => row3 r S
  have m := fun i S => mul_r (i := i) (j := r.bot) (by have := (h.num hr).bot; omega) S
  have h5 := fun S => fraction_ok (amt rs r n * r.bot - due rs r n) r.bot (h.num hr).bot.1 (by have := (h.num hr).bot; omega) S
  unfold ovD
  simp only [g_over_by, b_over_by, stillS_tup, stillS_lst, stillS_frz, stillS_str, nat10, nat2, runB, seqS, exS, asgS, retS, retN, dropS, ifS, nxS, nevS, brkS, cntS, setItS, forS, parS, op1, op2, chain, boolT, truT, notT, andT, orT, andE, orE, ifE, nilA, consA, appA, varD, cD, lstE, celE, tupE, slE, itE, itEn, cal_1, cal_2, cal_3, cal_4, cal_5, cal_6, cal_7, yesT, mulOk, List.map_cons, List.map_nil, List.length_cons, List.length_nil, List.getElem?_cons_zero, List.getElem?_cons_succ, List.set_cons_zero, List.set_cons_succ, List.replicate_succ, List.replicate_zero, List.cons_append, List.nil_append, List.append_nil, List.isEmpty_cons, List.isEmpty_nil, Nat.reduceAdd, Nat.reduceSub, Nat.reduceMul, Nat.reduceLeDiff, Nat.reduceEqDiff, Nat.zero_add, Nat.sub_zero, Nat.sub_self, Bool.not_true, Bool.not_false, Bool.true_and, Bool.false_and, Bool.and_true, Bool.and_false, Bool.true_or, Bool.false_or, Bool.or_true, Bool.or_false, Bool.false_eq_true, Bool.not_eq_true, Bool.not_eq_false, Bool.not_not, decide_eq_true_eq, decide_eq_false_iff_not, decide_true, decide_false, if_true, if_false, reduceIte, reduceCtorEq, Nat.zero_le, and_self, and_true, true_and, or_true, true_or, or_false, false_or, not_true_eq_false, not_false_eq_true, Int.reduceLT, Int.reduceLE, Int.reduceNeg, Int.reduceAdd, Int.reduceMul, Int.reduceSub, Int.reducePow, Int.reduceEq, Int.reduceToNat, Nat.reduceLT, Nat.reducePow, Int.cast_ofNat_Int, isi_non_int, isi_non_bool, isi_non_str, isi_non_tuple, isi_non_list, isi_non_dict, isi_non_tuple_list, isi_non_list_tuple, isi_bl_int, isi_bl_bool, isi_bl_str, isi_bl_tuple, isi_bl_list, isi_bl_dict, isi_bl_tuple_list, isi_bl_list_tuple, isi_int_int, isi_int_bool, isi_int_str, isi_int_tuple, isi_int_list, isi_int_dict, isi_int_tuple_list, isi_int_list_tuple, isi_str_int, isi_str_bool, isi_str_str, isi_str_tuple, isi_str_list, isi_str_dict, isi_str_tuple_list, isi_str_list_tuple, isi_tup_int, isi_tup_bool, isi_tup_str, isi_tup_tuple, isi_tup_list, isi_tup_dict, isi_tup_tuple_list, isi_tup_list_tuple, isi_lst_int, isi_lst_bool, isi_lst_str, isi_lst_tuple, isi_lst_list, isi_lst_dict, isi_lst_tuple_list, isi_lst_list_tuple, isi_frz_int, isi_frz_bool, isi_frz_str, isi_frz_tuple, isi_frz_list, isi_frz_dict, isi_frz_tuple_list, isi_frz_list_tuple, tru_bl, tru_int, tru_non, tru_tup, len_tup, ix_tup, tru_lst, len_lst, ix_lst, tru_frz, len_frz, ix_frz, sl_lst, sl_frz, sl_tup, asInt_int, at0, at1, at2, at3, at4, add_int, add_tup, add_str, add_lst, addC_lst, repC_lst, sub_int, mul_int, mul_lst, mul_tup, div_int, mod_int, pow_int, neg_int, not_bl, lt_int, le_int, gt_int, ge_int, eq_int, eq_str, eq_bl, eq_non, eq_int_non, eq_non_int, eq_str_non, eq_non_str, eq_bl_non, eq_non_bl, ne_int, ne_str, ne_bl, ne_non, ne_int_non, ne_non_int, ne_str_non, ne_non_str, ne_bl_non, ne_non_bl, isNone_non, isNone_int, isNone_str, isNone_bl, isNone_tup, isNone_lst, isNone_frz, max2_int, min2_int, abs_int, int_int, int_bl, still_tup, list_tup, tuple_tup, listC_tup, sv_tup, still_lst, list_lst, tuple_lst, listC_lst, sv_lst, still_frz, list_frz, tuple_frz, listC_frz, sv_frz, r1_int, r2_int, r3_int, tg_name, tg_tup, setAll_cons, setAll_nil, mtE, g1_one, g2_two, mkL_0, mkT_0, mkC_0, mkL_1, mkT_1, mkC_1, mkL_2, mkT_2, mkC_2, mkL_3, mkT_3, mkC_3, mkL_4, mkT_4, mkC_4, bnd_S, ret_S, lineN_eq2, wipe_nil, wipe_cons, -mul_int, h2, h3, h4, m, h5]
include hn
theorem over_ok (S : Store) : g_over [recD rs, .str r.nm, .int n] S = .ok (ovD rs r n) S := by
  have h1 := fun S => check_eaters_ok hn S
  have h2 := fun S => row_of_mem h hr S
  have h3 := fun S => over_by_ok h hr (n := n) S
  simp only [g_over, b_over, stillS_tup, stillS_lst, stillS_frz, stillS_str, nat10, nat2, runB, seqS, exS, asgS, retS, retN, dropS, ifS, nxS, nevS, brkS, cntS, setItS, forS, parS, op1, op2, chain, boolT, truT, notT, andT, orT, andE, orE, ifE, nilA, consA, appA, varD, cD, lstE, celE, tupE, slE, itE, itEn, cal_1, cal_2, cal_3, cal_4, cal_5, cal_6, cal_7, yesT, mulOk, List.map_cons, List.map_nil, List.length_cons, List.length_nil, List.getElem?_cons_zero, List.getElem?_cons_succ, List.set_cons_zero, List.set_cons_succ, List.replicate_succ, List.replicate_zero, List.cons_append, List.nil_append, List.append_nil, List.isEmpty_cons, List.isEmpty_nil, Nat.reduceAdd, Nat.reduceSub, Nat.reduceMul, Nat.reduceLeDiff, Nat.reduceEqDiff, Nat.zero_add, Nat.sub_zero, Nat.sub_self, Bool.not_true, Bool.not_false, Bool.true_and, Bool.false_and, Bool.and_true, Bool.and_false, Bool.true_or, Bool.false_or, Bool.or_true, Bool.or_false, Bool.false_eq_true, Bool.not_eq_true, Bool.not_eq_false, Bool.not_not, decide_eq_true_eq, decide_eq_false_iff_not, decide_true, decide_false, if_true, if_false, reduceIte, reduceCtorEq, Nat.zero_le, and_self, and_true, true_and, or_true, true_or, or_false, false_or, not_true_eq_false, not_false_eq_true, Int.reduceLT, Int.reduceLE, Int.reduceNeg, Int.reduceAdd, Int.reduceMul, Int.reduceSub, Int.reducePow, Int.reduceEq, Int.reduceToNat, Nat.reduceLT, Nat.reducePow, Int.cast_ofNat_Int, isi_non_int, isi_non_bool, isi_non_str, isi_non_tuple, isi_non_list, isi_non_dict, isi_non_tuple_list, isi_non_list_tuple, isi_bl_int, isi_bl_bool, isi_bl_str, isi_bl_tuple, isi_bl_list, isi_bl_dict, isi_bl_tuple_list, isi_bl_list_tuple, isi_int_int, isi_int_bool, isi_int_str, isi_int_tuple, isi_int_list, isi_int_dict, isi_int_tuple_list, isi_int_list_tuple, isi_str_int, isi_str_bool, isi_str_str, isi_str_tuple, isi_str_list, isi_str_dict, isi_str_tuple_list, isi_str_list_tuple, isi_tup_int, isi_tup_bool, isi_tup_str, isi_tup_tuple, isi_tup_list, isi_tup_dict, isi_tup_tuple_list, isi_tup_list_tuple, isi_lst_int, isi_lst_bool, isi_lst_str, isi_lst_tuple, isi_lst_list, isi_lst_dict, isi_lst_tuple_list, isi_lst_list_tuple, isi_frz_int, isi_frz_bool, isi_frz_str, isi_frz_tuple, isi_frz_list, isi_frz_dict, isi_frz_tuple_list, isi_frz_list_tuple, tru_bl, tru_int, tru_non, tru_tup, len_tup, ix_tup, tru_lst, len_lst, ix_lst, tru_frz, len_frz, ix_frz, sl_lst, sl_frz, sl_tup, asInt_int, at0, at1, at2, at3, at4, add_int, add_tup, add_str, add_lst, addC_lst, repC_lst, sub_int, mul_int, mul_lst, mul_tup, div_int, mod_int, pow_int, neg_int, not_bl, lt_int, le_int, gt_int, ge_int, eq_int, eq_str, eq_bl, eq_non, eq_int_non, eq_non_int, eq_str_non, eq_non_str, eq_bl_non, eq_non_bl, ne_int, ne_str, ne_bl, ne_non, ne_int_non, ne_non_int, ne_str_non, ne_non_str, ne_bl_non, ne_non_bl, isNone_non, isNone_int, isNone_str, isNone_bl, isNone_tup, isNone_lst, isNone_frz, max2_int, min2_int, abs_int, int_int, int_bl, still_tup, list_tup, tuple_tup, listC_tup, sv_tup, still_lst, list_lst, tuple_lst, listC_lst, sv_lst, still_frz, list_frz, tuple_frz, listC_frz, sv_frz, r1_int, r2_int, r3_int, tg_name, tg_tup, setAll_cons, setAll_nil, mtE, g1_one, g2_two, mkL_0, mkT_0, mkC_0, mkL_1, mkT_1, mkC_1, mkL_2, mkT_2, mkC_2, mkL_3, mkT_3, mkC_3, mkL_4, mkT_4, mkC_4, bnd_S, ret_S, lineN_eq2, wipe_nil, wipe_cons, h1, h2, h3]
end
theorem map_range {α β : Type} (xs : List α) (d : α) (f : α → β) : ((List.range xs.length).map fun i => f (xs.getD i d)) = xs.map f := by
  apply List.ext_getElem
  · simp
  · intro i h1 h2
    simp at h1
    simp [h1]
theorem range_len (rs : List Row) (S : Store) (h : rs.length ≤ 5) : itR1 [.int (rs.length : Nat)] S = .ok ((List.range rs.length).map fun i => .int (i : Nat)) S := r1_nat _ _ (by omega)
theorem pow9 : (10 : Int) ^ (9 : Nat) = 1000000000 := rfl
end F

set_option linter.all false
set_option autoImplicit false
set_option maxRecDepth 100000
set_option maxHeartbeats 1000000
/-! What is over, twelve times; sums and order of fractions. -/
namespace F
open PySem
theorem mul_lb {i j : Int} (h : -1000000 ≤ i ∧ i ≤ 1000000) (S : Store) : mulD (.int i) (.int j) S = .ok (.int (i * j)) S := by
  rw [mul_int, if_pos (.inl ⟨by omega, by omega⟩)]
theorem mul_rb {i j : Int} (h : -1000000 ≤ j ∧ j ≤ 1000000) (S : Store) : mulD (.int i) (.int j) S = .ok (.int (i * j)) S := by
  rw [mul_int, if_pos (.inr ⟨by omega, by omega⟩)]
def ov12 (rs : List Row) (r : Row) (n : Int) : Int := 12 * amt rs r n - due rs r n * 12 / r.bot
theorem ov12_bot {rs : List Row} {r : Row} (w : WNum r) (n : Int) : ov12 rs r n * r.bot = (amt rs r n * r.bot - due rs r n) * 12 := by
  unfold ov12
  have hb := w.bot
  have h12 : due rs r n * 12 / r.bot * r.bot = due rs r n * 12 := by
    apply Int.ediv_mul_cancel
    have : r.bot = 1 ∨ r.bot = 2 ∨ r.bot = 3 ∨ r.bot = 4 := by omega
    rcases this with e | e | e | e <;> rw [e]
    · exact Int.one_dvd _
    · exact Int.dvd_trans (by decide) (Int.dvd_mul_left _ 12)
    · exact Int.dvd_trans (by decide) (Int.dvd_mul_left _ 12)
    · exact Int.dvd_trans (by decide) (Int.dvd_mul_left _ 12)
  rw [Int.sub_mul, h12, Int.sub_mul]
  have : 12 * amt rs r n * r.bot = amt rs r n * r.bot * 12 := by rw [Int.mul_assoc, Int.mul_comm 12]
  omega
theorem ovD_eq {rs : List Row} {r : Row} (w : WNum r) (n : Int) : ovD rs r n = fracD (ov12 rs r n) 12 := by
  unfold ovD
  exact (frac_eq w.bot.1 (by omega)).mp (ov12_bot w n).symm
theorem law_over_ok {c : Bool} {rs : List Row} (h : WRs c rs) (hl : rs.length ≤ 5) (n : Int) (i : Nat) (hi : i < rs.length) (S : Store) : g__law_over [rowsD rs, .int (i : Nat), .int n] S = .ok (.int (ov12 rs rs[i] n)) S := by
  have hm : rs[i] ∈ rs := List.getElem_mem hi
  have ix := fun S => ix_rows rs i hi S
  have r3 := fun S => row3 rs[i] S
  have hd := fun S => law_due_ok h hl n i hi S
  have ha := fun S => law_amount_ok h hl n i hi S
  have hb := (h.num hm).bot
  have m1 := fun j S => mul_r (i := j) (j := 12) (by omega) S
  have m2 := fun j S => mul_l (i := 12) (j := j) (by omega) S
  have d1 := fun j S => div_s (i := j) (j := rs[i].bot) (by omega) S
  unfold ov12
  simp only [g__law_over, b__law_over, stillS_tup, stillS_lst, stillS_frz, stillS_str, nat10, nat2, runB, seqS, exS, asgS, retS, retN, dropS, ifS, nxS, nevS, brkS, cntS, setItS, forS, parS, op1, op2, chain, boolT, truT, notT, andT, orT, andE, orE, ifE, nilA, consA, appA, varD, cD, lstE, celE, tupE, slE, itE, itEn, cal_1, cal_2, cal_3, cal_4, cal_5, cal_6, cal_7, yesT, mulOk, List.map_cons, List.map_nil, List.length_cons, List.length_nil, List.getElem?_cons_zero, List.getElem?_cons_succ, List.set_cons_zero, List.set_cons_succ, List.replicate_succ, List.replicate_zero, List.cons_append, List.nil_append, List.append_nil, List.isEmpty_cons, List.isEmpty_nil, Nat.reduceAdd, Nat.reduceSub, Nat.reduceMul, Nat.reduceLeDiff, Nat.reduceEqDiff, Nat.zero_add, Nat.sub_zero, Nat.sub_self, Bool.not_true, Bool.not_false, Bool.true_and, Bool.false_and, Bool.and_true, Bool.and_false, Bool.true_or, Bool.false_or, Bool.or_true, Bool.or_false, Bool.false_eq_true, Bool.not_eq_true, Bool.not_eq_false, Bool.not_not, decide_eq_true_eq, decide_eq_false_iff_not, decide_true, decide_false, if_true, if_false, reduceIte, reduceCtorEq, Nat.zero_le, and_self, and_true, true_and, or_true, true_or, or_false, false_or, not_true_eq_false, not_false_eq_true, Int.reduceLT, Int.reduceLE, Int.reduceNeg, Int.reduceAdd, Int.reduceMul, Int.reduceSub, Int.reducePow, Int.reduceEq, Int.reduceToNat, Nat.reduceLT, Nat.reducePow, Int.cast_ofNat_Int, isi_non_int, isi_non_bool, isi_non_str, isi_non_tuple, isi_non_list, isi_non_dict, isi_non_tuple_list, isi_non_list_tuple, isi_bl_int, isi_bl_bool, isi_bl_str, isi_bl_tuple, isi_bl_list, isi_bl_dict, isi_bl_tuple_list, isi_bl_list_tuple, isi_int_int, isi_int_bool, isi_int_str, isi_int_tuple, isi_int_list, isi_int_dict, isi_int_tuple_list, isi_int_list_tuple, isi_str_int, isi_str_bool, isi_str_str, isi_str_tuple, isi_str_list, isi_str_dict, isi_str_tuple_list, isi_str_list_tuple, isi_tup_int, isi_tup_bool, isi_tup_str, isi_tup_tuple, isi_tup_list, isi_tup_dict, isi_tup_tuple_list, isi_tup_list_tuple, isi_lst_int, isi_lst_bool, isi_lst_str, isi_lst_tuple, isi_lst_list, isi_lst_dict, isi_lst_tuple_list, isi_lst_list_tuple, isi_frz_int, isi_frz_bool, isi_frz_str, isi_frz_tuple, isi_frz_list, isi_frz_dict, isi_frz_tuple_list, isi_frz_list_tuple, tru_bl, tru_int, tru_non, tru_tup, len_tup, ix_tup, tru_lst, len_lst, ix_lst, tru_frz, len_frz, ix_frz, sl_lst, sl_frz, sl_tup, asInt_int, at0, at1, at2, at3, at4, add_int, add_tup, add_str, add_lst, addC_lst, repC_lst, sub_int, mul_int, mul_lst, mul_tup, div_int, mod_int, pow_int, neg_int, not_bl, lt_int, le_int, gt_int, ge_int, eq_int, eq_str, eq_bl, eq_non, eq_int_non, eq_non_int, eq_str_non, eq_non_str, eq_bl_non, eq_non_bl, ne_int, ne_str, ne_bl, ne_non, ne_int_non, ne_non_int, ne_str_non, ne_non_str, ne_bl_non, ne_non_bl, isNone_non, isNone_int, isNone_str, isNone_bl, isNone_tup, isNone_lst, isNone_frz, max2_int, min2_int, abs_int, int_int, int_bl, still_tup, list_tup, tuple_tup, listC_tup, sv_tup, still_lst, list_lst, tuple_lst, listC_lst, sv_lst, still_frz, list_frz, tuple_frz, listC_frz, sv_frz, r1_int, r2_int, r3_int, tg_name, tg_tup, setAll_cons, setAll_nil, mtE, g1_one, g2_two, mkL_0, mkT_0, mkC_0, mkL_1, mkT_1, mkC_1, mkL_2, mkT_2, mkC_2, mkL_3, mkT_3, mkC_3, mkL_4, mkT_4, mkC_4, bnd_S, ret_S, lineN_eq2, wipe_nil, wipe_cons, -mul_int, -div_int, ix, r3, hd, ha, m1, m2, d1]
/-! order, sums -/
section
variable (p q p' q' : Int) (S : Store)
theorem fr0 : ixD (fracD p q) (.int 0) S = .ok (.int (ft p q)) S := rfl
theorem fr1 : ixD (fracD p q) (.int 1) S = .ok (.int (fb p q)) S := rfl
end
theorem mul_pos_lt {a b g : Int} (h : 1 ≤ g) : a * g < b * g ↔ a < b := Int.mul_lt_mul_right (by omega)
theorem less_iff {p q p' q' : Int} (h : 1 ≤ q) (h' : 1 ≤ q') : ft p q * fb p' q' < ft p' q' * fb p q ↔ p * q' < p' * q := by
  have g1 := gc_pos (p := p) h
  have g2 := gc_pos (p := p') h'
  have key : ∀ a b c d g g' : Int, 1 ≤ g → 1 ≤ g' → ((a * g) * (d * g') < (c * g') * (b * g) ↔ a * d < c * b) := by
    intro a b c d g g' hg hg'
    rw [show (a * g) * (d * g') = (a * d) * g * g' by ac_rfl, show (c * g') * (b * g) = (c * b) * g * g' by ac_rfl, mul_pos_lt hg', mul_pos_lt hg]
  have := key (ft p q) (fb p q) (ft p' q') (fb p' q') (gc p q) (gc p' q') g1.1 g2.1
  rw [ft_mul, fb_mul, ft_mul, fb_mul] at this
  exact this.symm
theorem less_raw (a0 a1 b0 b1 : Int) (h1 : 1 ≤ a1 ∧ a1 ≤ 1000000) (h2 : 1 ≤ b1 ∧ b1 ≤ 1000000) (S : Store) : g_is_less [.tup [.int a0, .int a1], .tup [.int b0, .int b1]] S = .ok (.bl (decide (a0 * b1 < b0 * a1))) S := by
  have m1 := fun j S => mul_rb (i := j) (j := a1) (by omega) S
  have m2 := fun j S => mul_rb (i := j) (j := b1) (by omega) S
  simp only [g_is_less, b_is_less, stillS_tup, stillS_lst, stillS_frz, stillS_str, nat10, nat2, runB, seqS, exS, asgS, retS, retN, dropS, ifS, nxS, nevS, brkS, cntS, setItS, forS, parS, op1, op2, chain, boolT, truT, notT, andT, orT, andE, orE, ifE, nilA, consA, appA, varD, cD, lstE, celE, tupE, slE, itE, itEn, cal_1, cal_2, cal_3, cal_4, cal_5, cal_6, cal_7, yesT, mulOk, List.map_cons, List.map_nil, List.length_cons, List.length_nil, List.getElem?_cons_zero, List.getElem?_cons_succ, List.set_cons_zero, List.set_cons_succ, List.replicate_succ, List.replicate_zero, List.cons_append, List.nil_append, List.append_nil, List.isEmpty_cons, List.isEmpty_nil, Nat.reduceAdd, Nat.reduceSub, Nat.reduceMul, Nat.reduceLeDiff, Nat.reduceEqDiff, Nat.zero_add, Nat.sub_zero, Nat.sub_self, Bool.not_true, Bool.not_false, Bool.true_and, Bool.false_and, Bool.and_true, Bool.and_false, Bool.true_or, Bool.false_or, Bool.or_true, Bool.or_false, Bool.false_eq_true, Bool.not_eq_true, Bool.not_eq_false, Bool.not_not, decide_eq_true_eq, decide_eq_false_iff_not, decide_true, decide_false, if_true, if_false, reduceIte, reduceCtorEq, Nat.zero_le, and_self, and_true, true_and, or_true, true_or, or_false, false_or, not_true_eq_false, not_false_eq_true, Int.reduceLT, Int.reduceLE, Int.reduceNeg, Int.reduceAdd, Int.reduceMul, Int.reduceSub, Int.reducePow, Int.reduceEq, Int.reduceToNat, Nat.reduceLT, Nat.reducePow, Int.cast_ofNat_Int, isi_non_int, isi_non_bool, isi_non_str, isi_non_tuple, isi_non_list, isi_non_dict, isi_non_tuple_list, isi_non_list_tuple, isi_bl_int, isi_bl_bool, isi_bl_str, isi_bl_tuple, isi_bl_list, isi_bl_dict, isi_bl_tuple_list, isi_bl_list_tuple, isi_int_int, isi_int_bool, isi_int_str, isi_int_tuple, isi_int_list, isi_int_dict, isi_int_tuple_list, isi_int_list_tuple, isi_str_int, isi_str_bool, isi_str_str, isi_str_tuple, isi_str_list, isi_str_dict, isi_str_tuple_list, isi_str_list_tuple, isi_tup_int, isi_tup_bool, isi_tup_str, isi_tup_tuple, isi_tup_list, isi_tup_dict, isi_tup_tuple_list, isi_tup_list_tuple, isi_lst_int, isi_lst_bool, isi_lst_str, isi_lst_tuple, isi_lst_list, isi_lst_dict, isi_lst_tuple_list, isi_lst_list_tuple, isi_frz_int, isi_frz_bool, isi_frz_str, isi_frz_tuple, isi_frz_list, isi_frz_dict, isi_frz_tuple_list, isi_frz_list_tuple, tru_bl, tru_int, tru_non, tru_tup, len_tup, ix_tup, tru_lst, len_lst, ix_lst, tru_frz, len_frz, ix_frz, sl_lst, sl_frz, sl_tup, asInt_int, at0, at1, at2, at3, at4, add_int, add_tup, add_str, add_lst, addC_lst, repC_lst, sub_int, mul_int, mul_lst, mul_tup, div_int, mod_int, pow_int, neg_int, not_bl, lt_int, le_int, gt_int, ge_int, eq_int, eq_str, eq_bl, eq_non, eq_int_non, eq_non_int, eq_str_non, eq_non_str, eq_bl_non, eq_non_bl, ne_int, ne_str, ne_bl, ne_non, ne_int_non, ne_non_int, ne_str_non, ne_non_str, ne_bl_non, ne_non_bl, isNone_non, isNone_int, isNone_str, isNone_bl, isNone_tup, isNone_lst, isNone_frz, max2_int, min2_int, abs_int, int_int, int_bl, still_tup, list_tup, tuple_tup, listC_tup, sv_tup, still_lst, list_lst, tuple_lst, listC_lst, sv_lst, still_frz, list_frz, tuple_frz, listC_frz, sv_frz, r1_int, r2_int, r3_int, tg_name, tg_tup, setAll_cons, setAll_nil, mtE, g1_one, g2_two, mkL_0, mkT_0, mkC_0, mkL_1, mkT_1, mkC_1, mkL_2, mkT_2, mkC_2, mkL_3, mkT_3, mkC_3, mkL_4, mkT_4, mkC_4, bnd_S, ret_S, lineN_eq2, wipe_nil, wipe_cons, -mul_int, m1, m2]
theorem is_less_ok {p q p' q' : Int} (h : 1 ≤ q ∧ q ≤ 1000000) (h' : 1 ≤ q' ∧ q' ≤ 1000000) (S : Store) : g_is_less [fracD p q, fracD p' q'] S = .ok (.bl (decide (p * q' < p' * q))) S := by
  have b1 := fb_pos (p := p) h.1
  have b2 := fb_pos (p := p') h'.1
  have e : decide (ft p q * fb p' q' < ft p' q' * fb p q) = decide (p * q' < p' * q) := decide_eq_decide.mpr (less_iff h.1 h'.1)
  rw [← e]
  exact less_raw (ft p q) (fb p q) (ft p' q') (fb p' q') (by omega) (by omega) S
theorem total_raw (a0 a1 b0 b1 : Int) (d : D) (h1 : 1 ≤ a1 ∧ a1 ≤ 1000000) (h2 : 1 ≤ b1 ∧ b1 ≤ 1000000) (hf : ∀ S, g_fraction [.int (a0 * b1 + b0 * a1), .int (a1 * b1)] S = .ok d S) (S : Store) : g_total [.tup [.int a0, .int a1], .tup [.int b0, .int b1]] S = .ok d S := by
  have m1 := fun j S => mul_rb (i := j) (j := a1) (by omega) S
  have m2 := fun j S => mul_rb (i := j) (j := b1) (by omega) S
  simp only [g_total, b_total, stillS_tup, stillS_lst, stillS_frz, stillS_str, nat10, nat2, runB, seqS, exS, asgS, retS, retN, dropS, ifS, nxS, nevS, brkS, cntS, setItS, forS, parS, op1, op2, chain, boolT, truT, notT, andT, orT, andE, orE, ifE, nilA, consA, appA, varD, cD, lstE, celE, tupE, slE, itE, itEn, cal_1, cal_2, cal_3, cal_4, cal_5, cal_6, cal_7, yesT, mulOk, List.map_cons, List.map_nil, List.length_cons, List.length_nil, List.getElem?_cons_zero, List.getElem?_cons_succ, List.set_cons_zero, List.set_cons_succ, List.replicate_succ, List.replicate_zero, List.cons_append, List.nil_append, List.append_nil, List.isEmpty_cons, List.isEmpty_nil, Nat.reduceAdd, Nat.reduceSub, Nat.reduceMul, Nat.reduceLeDiff, Nat.reduceEqDiff, Nat.zero_add, Nat.sub_zero, Nat.sub_self, Bool.not_true, Bool.not_false, Bool.true_and, Bool.false_and, Bool.and_true, Bool.and_false, Bool.true_or, Bool.false_or, Bool.or_true, Bool.or_false, Bool.false_eq_true, Bool.not_eq_true, Bool.not_eq_false, Bool.not_not, decide_eq_true_eq, decide_eq_false_iff_not, decide_true, decide_false, if_true, if_false, reduceIte, reduceCtorEq, Nat.zero_le, and_self, and_true, true_and, or_true, true_or, or_false, false_or, not_true_eq_false, not_false_eq_true, Int.reduceLT, Int.reduceLE, Int.reduceNeg, Int.reduceAdd, Int.reduceMul, Int.reduceSub, Int.reducePow, Int.reduceEq, Int.reduceToNat, Nat.reduceLT, Nat.reducePow, Int.cast_ofNat_Int, isi_non_int, isi_non_bool, isi_non_str, isi_non_tuple, isi_non_list, isi_non_dict, isi_non_tuple_list, isi_non_list_tuple, isi_bl_int, isi_bl_bool, isi_bl_str, isi_bl_tuple, isi_bl_list, isi_bl_dict, isi_bl_tuple_list, isi_bl_list_tuple, isi_int_int, isi_int_bool, isi_int_str, isi_int_tuple, isi_int_list, isi_int_dict, isi_int_tuple_list, isi_int_list_tuple, isi_str_int, isi_str_bool, isi_str_str, isi_str_tuple, isi_str_list, isi_str_dict, isi_str_tuple_list, isi_str_list_tuple, isi_tup_int, isi_tup_bool, isi_tup_str, isi_tup_tuple, isi_tup_list, isi_tup_dict, isi_tup_tuple_list, isi_tup_list_tuple, isi_lst_int, isi_lst_bool, isi_lst_str, isi_lst_tuple, isi_lst_list, isi_lst_dict, isi_lst_tuple_list, isi_lst_list_tuple, isi_frz_int, isi_frz_bool, isi_frz_str, isi_frz_tuple, isi_frz_list, isi_frz_dict, isi_frz_tuple_list, isi_frz_list_tuple, tru_bl, tru_int, tru_non, tru_tup, len_tup, ix_tup, tru_lst, len_lst, ix_lst, tru_frz, len_frz, ix_frz, sl_lst, sl_frz, sl_tup, asInt_int, at0, at1, at2, at3, at4, add_int, add_tup, add_str, add_lst, addC_lst, repC_lst, sub_int, mul_int, mul_lst, mul_tup, div_int, mod_int, pow_int, neg_int, not_bl, lt_int, le_int, gt_int, ge_int, eq_int, eq_str, eq_bl, eq_non, eq_int_non, eq_non_int, eq_str_non, eq_non_str, eq_bl_non, eq_non_bl, ne_int, ne_str, ne_bl, ne_non, ne_int_non, ne_non_int, ne_str_non, ne_non_str, ne_bl_non, ne_non_bl, isNone_non, isNone_int, isNone_str, isNone_bl, isNone_tup, isNone_lst, isNone_frz, max2_int, min2_int, abs_int, int_int, int_bl, still_tup, list_tup, tuple_tup, listC_tup, sv_tup, still_lst, list_lst, tuple_lst, listC_lst, sv_lst, still_frz, list_frz, tuple_frz, listC_frz, sv_frz, r1_int, r2_int, r3_int, tg_name, tg_tup, setAll_cons, setAll_nil, mtE, g1_one, g2_two, mkL_0, mkT_0, mkC_0, mkL_1, mkT_1, mkC_1, mkL_2, mkT_2, mkC_2, mkL_3, mkT_3, mkC_3, mkL_4, mkT_4, mkC_4, bnd_S, ret_S, lineN_eq2, wipe_nil, wipe_cons, -mul_int, m1, m2, hf]
theorem sum_raw (a b x y x' y' : Int) (c1 : x * 12 = a * y) (c2 : x' * 12 = b * y') : (x * y' + x' * y) * 12 = (a + b) * (y * y') := by
  rw [Int.add_mul, show x * y' * 12 = (x * 12) * y' by ac_rfl, show x' * y * 12 = (x' * 12) * y by ac_rfl, c1, c2, Int.add_mul]
  congr 1
  · ac_rfl
  · ac_rfl
theorem total_ok (a b : Int) (S : Store) : g_total [fracD a 12, fracD b 12] S = .ok (fracD (a + b) 12) S := by
  have b1 := fb_pos (p := a) (q := 12) (by omega)
  have b2 := fb_pos (p := b) (q := 12) (by omega)
  have c1 := frac_cross a 12
  have c2 := frac_cross b 12
  rw [fracD_eq a 12, fracD_eq b 12]
  generalize ft a 12 = x at *
  generalize fb a 12 = y at *
  generalize ft b 12 = x' at *
  generalize fb b 12 = y' at *
  have hq1 : 1 * 1 ≤ y * y' := Int.mul_le_mul (by omega) (by omega) (by omega) (by omega)
  have hq2 : y * y' ≤ 12 * 12 := Int.mul_le_mul (by omega) (by omega) (by omega) (by omega)
  have e := (frac_eq (p := x * y' + x' * y) (q := y * y') (p' := a + b) (q' := 12) (by omega) (by omega)).mp (sum_raw a b x y x' y' c1 c2)
  rw [← e]
  exact total_raw x y x' y' _ (by omega) (by omega) (fun S => fraction_ok _ _ (by omega) (by omega) S) S
theorem ft_sign {p q : Int} (h : 1 ≤ q) : 0 < ft p q ↔ 0 < p := by
  have g := gc_pos (p := p) h
  have e := ft_mul p q
  have := mul_pos_lt (a := 0) (b := ft p q) g.1
  rw [e, Int.zero_mul] at this
  exact this.symm
/-- what is wasted, twelve times -/
def wst (rs : List Row) (n : Int) : Int := (rs.map fun r => mx 0 (ov12 rs r n)).sum
theorem mx0 (a : Int) : mx 0 a = if 0 < a then a else 0 := by unfold mx; rfl
theorem sum_snoc (xs : List Int) (x : Int) : (xs ++ [x]).sum = xs.sum + x := by simp
theorem waste_ok {c : Bool} {rs : List Row} (h : WRs c rs) (n : Int) (S : Store) : g_waste_of [recD rs, .int n] S = .ok (fracD (wst rs n) 12) S := by
  obtain ⟨ρ2, S2, e, o3, o4, e1, e2⟩ := forGo_ind (t := .name 3) (f := l_waste_of_1) (ds := rs.map rowD)
    (fun k ρ S' => ∃ o3 o4, ρ = [some (recD rs), some (.int n), some (fracD ((rs.take k).map fun r => mx 0 (ov12 rs r n)).sum 12), o3, o4] ∧ S' = S)
    (ρ := [some (recD rs), some (.int n), some (fracD 0 12), none, none]) (S := S) ⟨none, none, rfl, rfl⟩
    (fun k hk ρ S' ⟨o3, o4, e1, e2⟩ => by
      subst e1 e2
      have hk : k < rs.length := by simpa using hk
      have hm : rs[k] ∈ rs := List.getElem_mem hk
      have hov : ∀ S, g_over_by [recD rs, rowD rs[k], .int n] S = .ok (fracD (ov12 rs rs[k] n) 12) S := fun S => by rw [over_by_ok h hm, ovD_eq (h.num hm)]
      have f0 := fun S => fr0 (ov12 rs rs[k] n) 12 S
      have ht := fun S => total_ok ((rs.take k).map fun r => mx 0 (ov12 rs r n)).sum (ov12 rs rs[k] n) S
      have hs : ((rs.take (k + 1)).map fun r => mx 0 (ov12 rs r n)).sum = ((rs.take k).map fun r => mx 0 (ov12 rs r n)).sum + mx 0 (ov12 rs rs[k] n) := by
        rw [List.take_add_one, List.getElem?_eq_getElem hk, Option.toList_some, List.map_append, List.map_singleton, sum_snoc]
      refine ⟨[some (recD rs), some (.int n), some (fracD ((rs.take k).map fun r => mx 0 (ov12 rs r n)).sum 12), some (rowD rs[k]), o4], [some (recD rs), some (.int n), some (fracD ((rs.take (k + 1)).map fun r => mx 0 (ov12 rs r n)).sum 12), some (rowD rs[k]), some (fracD (ov12 rs rs[k] n) 12)], S', by rw [List.getElem_map]; rfl, .inl ?_, _, _, rfl, rfl⟩
      have sg := ft_sign (p := ov12 rs rs[k] n) (q := 12) (by omega)
      rw [hs, mx0]
      by_cases hp : 0 < ov12 rs rs[k] n
      · have hp2 := sg.mpr hp
        simp only [l_waste_of_1, stillS_tup, stillS_lst, stillS_frz, stillS_str, nat10, nat2, runB, seqS, exS, asgS, retS, retN, dropS, ifS, nxS, nevS, brkS, cntS, setItS, forS, parS, op1, op2, chain, boolT, truT, notT, andT, orT, andE, orE, ifE, nilA, consA, appA, varD, cD, lstE, celE, tupE, slE, itE, itEn, cal_1, cal_2, cal_3, cal_4, cal_5, cal_6, cal_7, yesT, mulOk, List.map_cons, List.map_nil, List.length_cons, List.length_nil, List.getElem?_cons_zero, List.getElem?_cons_succ, List.set_cons_zero, List.set_cons_succ, List.replicate_succ, List.replicate_zero, List.cons_append, List.nil_append, List.append_nil, List.isEmpty_cons, List.isEmpty_nil, Nat.reduceAdd, Nat.reduceSub, Nat.reduceMul, Nat.reduceLeDiff, Nat.reduceEqDiff, Nat.zero_add, Nat.sub_zero, Nat.sub_self, Bool.not_true, Bool.not_false, Bool.true_and, Bool.false_and, Bool.and_true, Bool.and_false, Bool.true_or, Bool.false_or, Bool.or_true, Bool.or_false, Bool.false_eq_true, Bool.not_eq_true, Bool.not_eq_false, Bool.not_not, decide_eq_true_eq, decide_eq_false_iff_not, decide_true, decide_false, if_true, if_false, reduceIte, reduceCtorEq, Nat.zero_le, and_self, and_true, true_and, or_true, true_or, or_false, false_or, not_true_eq_false, not_false_eq_true, Int.reduceLT, Int.reduceLE, Int.reduceNeg, Int.reduceAdd, Int.reduceMul, Int.reduceSub, Int.reducePow, Int.reduceEq, Int.reduceToNat, Nat.reduceLT, Nat.reducePow, Int.cast_ofNat_Int, isi_non_int, isi_non_bool, isi_non_str, isi_non_tuple, isi_non_list, isi_non_dict, isi_non_tuple_list, isi_non_list_tuple, isi_bl_int, isi_bl_bool, isi_bl_str, isi_bl_tuple, isi_bl_list, isi_bl_dict, isi_bl_tuple_list, isi_bl_list_tuple, isi_int_int, isi_int_bool, isi_int_str, isi_int_tuple, isi_int_list, isi_int_dict, isi_int_tuple_list, isi_int_list_tuple, isi_str_int, isi_str_bool, isi_str_str, isi_str_tuple, isi_str_list, isi_str_dict, isi_str_tuple_list, isi_str_list_tuple, isi_tup_int, isi_tup_bool, isi_tup_str, isi_tup_tuple, isi_tup_list, isi_tup_dict, isi_tup_tuple_list, isi_tup_list_tuple, isi_lst_int, isi_lst_bool, isi_lst_str, isi_lst_tuple, isi_lst_list, isi_lst_dict, isi_lst_tuple_list, isi_lst_list_tuple, isi_frz_int, isi_frz_bool, isi_frz_str, isi_frz_tuple, isi_frz_list, isi_frz_dict, isi_frz_tuple_list, isi_frz_list_tuple, tru_bl, tru_int, tru_non, tru_tup, len_tup, ix_tup, tru_lst, len_lst, ix_lst, tru_frz, len_frz, ix_frz, sl_lst, sl_frz, sl_tup, asInt_int, at0, at1, at2, at3, at4, add_int, add_tup, add_str, add_lst, addC_lst, repC_lst, sub_int, mul_int, mul_lst, mul_tup, div_int, mod_int, pow_int, neg_int, not_bl, lt_int, le_int, gt_int, ge_int, eq_int, eq_str, eq_bl, eq_non, eq_int_non, eq_non_int, eq_str_non, eq_non_str, eq_bl_non, eq_non_bl, ne_int, ne_str, ne_bl, ne_non, ne_int_non, ne_non_int, ne_str_non, ne_non_str, ne_bl_non, ne_non_bl, isNone_non, isNone_int, isNone_str, isNone_bl, isNone_tup, isNone_lst, isNone_frz, max2_int, min2_int, abs_int, int_int, int_bl, still_tup, list_tup, tuple_tup, listC_tup, sv_tup, still_lst, list_lst, tuple_lst, listC_lst, sv_lst, still_frz, list_frz, tuple_frz, listC_frz, sv_frz, r1_int, r2_int, r3_int, tg_name, tg_tup, setAll_cons, setAll_nil, mtE, g1_one, g2_two, mkL_0, mkT_0, mkC_0, mkL_1, mkT_1, mkC_1, mkL_2, mkT_2, mkC_2, mkL_3, mkT_3, mkC_3, mkL_4, mkT_4, mkC_4, bnd_S, ret_S, lineN_eq2, wipe_nil, wipe_cons, hov, f0, hp2, hp, ht]
      · have hp2 : ¬ 0 < ft (ov12 rs rs[k] n) 12 := fun z => hp (sg.mp z)
        simp only [l_waste_of_1, stillS_tup, stillS_lst, stillS_frz, stillS_str, nat10, nat2, runB, seqS, exS, asgS, retS, retN, dropS, ifS, nxS, nevS, brkS, cntS, setItS, forS, parS, op1, op2, chain, boolT, truT, notT, andT, orT, andE, orE, ifE, nilA, consA, appA, varD, cD, lstE, celE, tupE, slE, itE, itEn, cal_1, cal_2, cal_3, cal_4, cal_5, cal_6, cal_7, yesT, mulOk, List.map_cons, List.map_nil, List.length_cons, List.length_nil, List.getElem?_cons_zero, List.getElem?_cons_succ, List.set_cons_zero, List.set_cons_succ, List.replicate_succ, List.replicate_zero, List.cons_append, List.nil_append, List.append_nil, List.isEmpty_cons, List.isEmpty_nil, Nat.reduceAdd, Nat.reduceSub, Nat.reduceMul, Nat.reduceLeDiff, Nat.reduceEqDiff, Nat.zero_add, Nat.sub_zero, Nat.sub_self, Bool.not_true, Bool.not_false, Bool.true_and, Bool.false_and, Bool.and_true, Bool.and_false, Bool.true_or, Bool.false_or, Bool.or_true, Bool.or_false, Bool.false_eq_true, Bool.not_eq_true, Bool.not_eq_false, Bool.not_not, decide_eq_true_eq, decide_eq_false_iff_not, decide_true, decide_false, if_true, if_false, reduceIte, reduceCtorEq, Nat.zero_le, and_self, and_true, true_and, or_true, true_or, or_false, false_or, not_true_eq_false, not_false_eq_true, Int.reduceLT, Int.reduceLE, Int.reduceNeg, Int.reduceAdd, Int.reduceMul, Int.reduceSub, Int.reducePow, Int.reduceEq, Int.reduceToNat, Nat.reduceLT, Nat.reducePow, Int.cast_ofNat_Int, isi_non_int, isi_non_bool, isi_non_str, isi_non_tuple, isi_non_list, isi_non_dict, isi_non_tuple_list, isi_non_list_tuple, isi_bl_int, isi_bl_bool, isi_bl_str, isi_bl_tuple, isi_bl_list, isi_bl_dict, isi_bl_tuple_list, isi_bl_list_tuple, isi_int_int, isi_int_bool, isi_int_str, isi_int_tuple, isi_int_list, isi_int_dict, isi_int_tuple_list, isi_int_list_tuple, isi_str_int, isi_str_bool, isi_str_str, isi_str_tuple, isi_str_list, isi_str_dict, isi_str_tuple_list, isi_str_list_tuple, isi_tup_int, isi_tup_bool, isi_tup_str, isi_tup_tuple, isi_tup_list, isi_tup_dict, isi_tup_tuple_list, isi_tup_list_tuple, isi_lst_int, isi_lst_bool, isi_lst_str, isi_lst_tuple, isi_lst_list, isi_lst_dict, isi_lst_tuple_list, isi_lst_list_tuple, isi_frz_int, isi_frz_bool, isi_frz_str, isi_frz_tuple, isi_frz_list, isi_frz_dict, isi_frz_tuple_list, isi_frz_list_tuple, tru_bl, tru_int, tru_non, tru_tup, len_tup, ix_tup, tru_lst, len_lst, ix_lst, tru_frz, len_frz, ix_frz, sl_lst, sl_frz, sl_tup, asInt_int, at0, at1, at2, at3, at4, add_int, add_tup, add_str, add_lst, addC_lst, repC_lst, sub_int, mul_int, mul_lst, mul_tup, div_int, mod_int, pow_int, neg_int, not_bl, lt_int, le_int, gt_int, ge_int, eq_int, eq_str, eq_bl, eq_non, eq_int_non, eq_non_int, eq_str_non, eq_non_str, eq_bl_non, eq_non_bl, ne_int, ne_str, ne_bl, ne_non, ne_int_non, ne_non_int, ne_str_non, ne_non_str, ne_bl_non, ne_non_bl, isNone_non, isNone_int, isNone_str, isNone_bl, isNone_tup, isNone_lst, isNone_frz, max2_int, min2_int, abs_int, int_int, int_bl, still_tup, list_tup, tuple_tup, listC_tup, sv_tup, still_lst, list_lst, tuple_lst, listC_lst, sv_lst, still_frz, list_frz, tuple_frz, listC_frz, sv_frz, r1_int, r2_int, r3_int, tg_name, tg_tup, setAll_cons, setAll_nil, mtE, g1_one, g2_two, mkL_0, mkT_0, mkC_0, mkL_1, mkT_1, mkC_1, mkL_2, mkT_2, mkC_2, mkL_3, mkT_3, mkC_3, mkL_4, mkT_4, mkC_4, bnd_S, ret_S, lineN_eq2, wipe_nil, wipe_cons, hov, f0, hp2, hp, Int.add_zero])
  subst e1 e2
  unfold g_waste_of b_waste_of
  refine run_rt (ρ0 := [some (recD rs), some (.int n), none, none, none]) rfl ?_
  refine Eq.trans (seq_nx (ρ' := [some (recD rs), some (.int n), some (fracD 0 12), none, none]) (S' := S2) rfl) ?_
  refine Eq.trans (seq_nx ((for_ok (ds := rs.map rowD) rfl).trans e)) ?_
  have : (rs.take (rs.map rowD).length) = rs := by simp
  rw [this]
  rfl
/-! the best number -/
def bestN (rs : List Row) : Nat → Int × Int
  | 0 => (1, wst rs 1)
  | k + 1 => let b := bestN rs k; let e : Int := (k : Int) + 2; if wst rs e * b.1 < b.2 * e then (e, wst rs e) else b
theorem bestN_pos (rs : List Row) : ∀ k : Nat, 1 ≤ (bestN rs k).1 ∧ (bestN rs k).1 ≤ (k : Int) + 1
  | 0 => by simp [bestN]
  | k + 1 => by
    have := bestN_pos rs k
    unfold bestN
    dsimp only
    split
    · simp; omega
    · simp; omega
def bestD (b : Int × Int) : D := .tup [.int b.1, fracD b.2 (12 * b.1)]
theorem best_turn (e f w0 w1 : Int) (R X F a1 : D) (c : Bool) (o4 o5 : Option D) (hw1 : 1 ≤ w1 ∧ w1 ≤ 1000000) (hw : ∀ S, g_waste_of [R, .int e] S = .ok (.tup [.int w0, .int w1]) S) (hf : ∀ S, g_fraction [.int w0, .int (w1 * e)] S = .ok F S)
    (hl : ∀ S, g_is_less [F, X] S = .ok (.bl c) S) (S : Store) :
    l_best_1 [some R, some a1, some (.tup [.int f, X]), some (.int e), o4, o5] S = .fl (.nx [some R, some a1, some (if c = true then .tup [.int e, F] else .tup [.int f, X]), some (.int e), some (.tup [.int w0, .int w1]), some F]) S := by
  have mm := fun S => mul_lb (i := w1) (j := e) (by omega) S
  cases c with
  | true => simp only [l_best_1, stillS_tup, stillS_lst, stillS_frz, stillS_str, nat10, nat2, runB, seqS, exS, asgS, retS, retN, dropS, ifS, nxS, nevS, brkS, cntS, setItS, forS, parS, op1, op2, chain, boolT, truT, notT, andT, orT, andE, orE, ifE, nilA, consA, appA, varD, cD, lstE, celE, tupE, slE, itE, itEn, cal_1, cal_2, cal_3, cal_4, cal_5, cal_6, cal_7, yesT, mulOk, List.map_cons, List.map_nil, List.length_cons, List.length_nil, List.getElem?_cons_zero, List.getElem?_cons_succ, List.set_cons_zero, List.set_cons_succ, List.replicate_succ, List.replicate_zero, List.cons_append, List.nil_append, List.append_nil, List.isEmpty_cons, List.isEmpty_nil, Nat.reduceAdd, Nat.reduceSub, Nat.reduceMul, Nat.reduceLeDiff, Nat.reduceEqDiff, Nat.zero_add, Nat.sub_zero, Nat.sub_self, Bool.not_true, Bool.not_false, Bool.true_and, Bool.false_and, Bool.and_true, Bool.and_false, Bool.true_or, Bool.false_or, Bool.or_true, Bool.or_false, Bool.false_eq_true, Bool.not_eq_true, Bool.not_eq_false, Bool.not_not, decide_eq_true_eq, decide_eq_false_iff_not, decide_true, decide_false, if_true, if_false, reduceIte, reduceCtorEq, Nat.zero_le, and_self, and_true, true_and, or_true, true_or, or_false, false_or, not_true_eq_false, not_false_eq_true, Int.reduceLT, Int.reduceLE, Int.reduceNeg, Int.reduceAdd, Int.reduceMul, Int.reduceSub, Int.reducePow, Int.reduceEq, Int.reduceToNat, Nat.reduceLT, Nat.reducePow, Int.cast_ofNat_Int, isi_non_int, isi_non_bool, isi_non_str, isi_non_tuple, isi_non_list, isi_non_dict, isi_non_tuple_list, isi_non_list_tuple, isi_bl_int, isi_bl_bool, isi_bl_str, isi_bl_tuple, isi_bl_list, isi_bl_dict, isi_bl_tuple_list, isi_bl_list_tuple, isi_int_int, isi_int_bool, isi_int_str, isi_int_tuple, isi_int_list, isi_int_dict, isi_int_tuple_list, isi_int_list_tuple, isi_str_int, isi_str_bool, isi_str_str, isi_str_tuple, isi_str_list, isi_str_dict, isi_str_tuple_list, isi_str_list_tuple, isi_tup_int, isi_tup_bool, isi_tup_str, isi_tup_tuple, isi_tup_list, isi_tup_dict, isi_tup_tuple_list, isi_tup_list_tuple, isi_lst_int, isi_lst_bool, isi_lst_str, isi_lst_tuple, isi_lst_list, isi_lst_dict, isi_lst_tuple_list, isi_lst_list_tuple, isi_frz_int, isi_frz_bool, isi_frz_str, isi_frz_tuple, isi_frz_list, isi_frz_dict, isi_frz_tuple_list, isi_frz_list_tuple, tru_bl, tru_int, tru_non, tru_tup, len_tup, ix_tup, tru_lst, len_lst, ix_lst, tru_frz, len_frz, ix_frz, sl_lst, sl_frz, sl_tup, asInt_int, at0, at1, at2, at3, at4, add_int, add_tup, add_str, add_lst, addC_lst, repC_lst, sub_int, mul_int, mul_lst, mul_tup, div_int, mod_int, pow_int, neg_int, not_bl, lt_int, le_int, gt_int, ge_int, eq_int, eq_str, eq_bl, eq_non, eq_int_non, eq_non_int, eq_str_non, eq_non_str, eq_bl_non, eq_non_bl, ne_int, ne_str, ne_bl, ne_non, ne_int_non, ne_non_int, ne_str_non, ne_non_str, ne_bl_non, ne_non_bl, isNone_non, isNone_int, isNone_str, isNone_bl, isNone_tup, isNone_lst, isNone_frz, max2_int, min2_int, abs_int, int_int, int_bl, still_tup, list_tup, tuple_tup, listC_tup, sv_tup, still_lst, list_lst, tuple_lst, listC_lst, sv_lst, still_frz, list_frz, tuple_frz, listC_frz, sv_frz, r1_int, r2_int, r3_int, tg_name, tg_tup, setAll_cons, setAll_nil, mtE, g1_one, g2_two, mkL_0, mkT_0, mkC_0, mkL_1, mkT_1, mkC_1, mkL_2, mkT_2, mkC_2, mkL_3, mkT_3, mkC_3, mkL_4, mkT_4, mkC_4, bnd_S, ret_S, lineN_eq2, wipe_nil, wipe_cons, -mul_int, hw, mm, hf, hl]
  | false => simp only [l_best_1, stillS_tup, stillS_lst, stillS_frz, stillS_str, nat10, nat2, runB, seqS, exS, asgS, retS, retN, dropS, ifS, nxS, nevS, brkS, cntS, setItS, forS, parS, op1, op2, chain, boolT, truT, notT, andT, orT, andE, orE, ifE, nilA, consA, appA, varD, cD, lstE, celE, tupE, slE, itE, itEn, cal_1, cal_2, cal_3, cal_4, cal_5, cal_6, cal_7, yesT, mulOk, List.map_cons, List.map_nil, List.length_cons, List.length_nil, List.getElem?_cons_zero, List.getElem?_cons_succ, List.set_cons_zero, List.set_cons_succ, List.replicate_succ, List.replicate_zero, List.cons_append, List.nil_append, List.append_nil, List.isEmpty_cons, List.isEmpty_nil, Nat.reduceAdd, Nat.reduceSub, Nat.reduceMul, Nat.reduceLeDiff, Nat.reduceEqDiff, Nat.zero_add, Nat.sub_zero, Nat.sub_self, Bool.not_true, Bool.not_false, Bool.true_and, Bool.false_and, Bool.and_true, Bool.and_false, Bool.true_or, Bool.false_or, Bool.or_true, Bool.or_false, Bool.false_eq_true, Bool.not_eq_true, Bool.not_eq_false, Bool.not_not, decide_eq_true_eq, decide_eq_false_iff_not, decide_true, decide_false, if_true, if_false, reduceIte, reduceCtorEq, Nat.zero_le, and_self, and_true, true_and, or_true, true_or, or_false, false_or, not_true_eq_false, not_false_eq_true, Int.reduceLT, Int.reduceLE, Int.reduceNeg, Int.reduceAdd, Int.reduceMul, Int.reduceSub, Int.reducePow, Int.reduceEq, Int.reduceToNat, Nat.reduceLT, Nat.reducePow, Int.cast_ofNat_Int, isi_non_int, isi_non_bool, isi_non_str, isi_non_tuple, isi_non_list, isi_non_dict, isi_non_tuple_list, isi_non_list_tuple, isi_bl_int, isi_bl_bool, isi_bl_str, isi_bl_tuple, isi_bl_list, isi_bl_dict, isi_bl_tuple_list, isi_bl_list_tuple, isi_int_int, isi_int_bool, isi_int_str, isi_int_tuple, isi_int_list, isi_int_dict, isi_int_tuple_list, isi_int_list_tuple, isi_str_int, isi_str_bool, isi_str_str, isi_str_tuple, isi_str_list, isi_str_dict, isi_str_tuple_list, isi_str_list_tuple, isi_tup_int, isi_tup_bool, isi_tup_str, isi_tup_tuple, isi_tup_list, isi_tup_dict, isi_tup_tuple_list, isi_tup_list_tuple, isi_lst_int, isi_lst_bool, isi_lst_str, isi_lst_tuple, isi_lst_list, isi_lst_dict, isi_lst_tuple_list, isi_lst_list_tuple, isi_frz_int, isi_frz_bool, isi_frz_str, isi_frz_tuple, isi_frz_list, isi_frz_dict, isi_frz_tuple_list, isi_frz_list_tuple, tru_bl, tru_int, tru_non, tru_tup, len_tup, ix_tup, tru_lst, len_lst, ix_lst, tru_frz, len_frz, ix_frz, sl_lst, sl_frz, sl_tup, asInt_int, at0, at1, at2, at3, at4, add_int, add_tup, add_str, add_lst, addC_lst, repC_lst, sub_int, mul_int, mul_lst, mul_tup, div_int, mod_int, pow_int, neg_int, not_bl, lt_int, le_int, gt_int, ge_int, eq_int, eq_str, eq_bl, eq_non, eq_int_non, eq_non_int, eq_str_non, eq_non_str, eq_bl_non, eq_non_bl, ne_int, ne_str, ne_bl, ne_non, ne_int_non, ne_non_int, ne_str_non, ne_non_str, ne_bl_non, ne_non_bl, isNone_non, isNone_int, isNone_str, isNone_bl, isNone_tup, isNone_lst, isNone_frz, max2_int, min2_int, abs_int, int_int, int_bl, still_tup, list_tup, tuple_tup, listC_tup, sv_tup, still_lst, list_lst, tuple_lst, listC_lst, sv_lst, still_frz, list_frz, tuple_frz, listC_frz, sv_frz, r1_int, r2_int, r3_int, tg_name, tg_tup, setAll_cons, setAll_nil, mtE, g1_one, g2_two, mkL_0, mkT_0, mkC_0, mkL_1, mkT_1, mkC_1, mkL_2, mkT_2, mkC_2, mkL_3, mkT_3, mkC_3, mkL_4, mkT_4, mkC_4, bnd_S, ret_S, lineN_eq2, wipe_nil, wipe_cons, -mul_int, hw, mm, hf, hl]
theorem scale_raw (x y W e : Int) (c : x * 12 = W * y) : x * (12 * e) = W * (y * e) := by
  rw [show x * (12 * e) = (x * 12) * e by ac_rfl, c]
  ac_rfl
theorem cmp_raw (W f L e : Int) : decide (W * (12 * f) < L * (12 * e)) = decide (W * f < L * e) := by
  apply decide_eq_decide.mpr
  rw [show W * (12 * f) = (W * f) * 12 by ac_rfl, show L * (12 * e) = (L * e) * 12 by ac_rfl]
  exact mul_pos_lt (by omega)
theorem best_step {c : Bool} {rs : List Row} (h : WRs c rs) (e f L : Int) (he : 1 ≤ e ∧ e ≤ 600) (hf : 1 ≤ f ∧ f ≤ 600) (a1 : D) (o4 o5 : Option D) (S : Store) :
    ∃ p4 p5, l_best_1 [some (recD rs), some a1, some (bestD (f, L)), some (.int e), o4, o5] S = .fl (.nx [some (recD rs), some a1, some (bestD (if wst rs e * f < L * e then (e, wst rs e) else (f, L))), some (.int e), p4, p5]) S := by
  have hw := fun S => waste_ok h e S
  have hfb := fb_pos (p := wst rs e) (q := 12) (by omega)
  have cr := frac_cross (wst rs e) 12
  generalize wst rs e = W at *
  simp only [fracD_eq W 12] at hw
  generalize ft W 12 = x at *
  generalize fb W 12 = y at *
  have q1 : 1 * 1 ≤ y * e := Int.mul_le_mul (by omega) (by omega) (by omega) (by omega)
  have q2 : y * e ≤ 12 * 600 := Int.mul_le_mul (by omega) (by omega) (by omega) (by omega)
  have ef := (frac_eq (p := x) (q := y * e) (p' := W) (q' := 12 * e) (by omega) (by omega)).mp (scale_raw x y W e cr)
  have hfr : ∀ S, g_fraction [.int x, .int (y * e)] S = .ok (fracD W (12 * e)) S := fun S => by
    rw [← ef]
    exact fraction_ok x (y * e) (by omega) (by omega) S
  have hless : ∀ S, g_is_less [fracD W (12 * e), fracD L (12 * f)] S = .ok (.bl (decide (W * f < L * e))) S := fun S => by
    rw [← cmp_raw]
    exact is_less_ok (by omega) (by omega) S
  have := best_turn e f x y (recD rs) (fracD L (12 * f)) (fracD W (12 * e)) a1 (decide (W * f < L * e)) o4 o5 (by omega) hw hfr hless S
  refine ⟨some (.tup [.int x, .int y]), some (fracD W (12 * e)), this.trans ?_⟩
  by_cases hc : W * f < L * e
  · rw [decide_eq_true hc, if_pos rfl, if_pos hc]
    rfl
  · rw [decide_eq_false hc, if_neg (by simp), if_neg hc]
    rfl
theorem best_ok {c : Bool} {rs : List Row} (h : WRs c rs) (m : Nat) (hm : m < 500) (S : Store) : g_best [recD rs, .int ((m : Nat) + 1 : Int)] S = .ok (bestD (bestN rs m)) S := by
  obtain ⟨ρ2, S2, e, o3, o4, o5, e1, e2⟩ := forGo_ind (t := .name 3) (f := l_best_1) (ds := (List.range m).map fun k => D.int (2 + (k : Nat)))
    (fun k ρ S' => ∃ o3 o4 o5, ρ = [some (recD rs), some (.int ((m : Nat) + 1 : Int)), some (bestD (bestN rs k)), o3, o4, o5] ∧ S' = S)
    (ρ := [some (recD rs), some (.int ((m : Nat) + 1 : Int)), some (bestD (bestN rs 0)), none, none, none]) (S := S) ⟨none, none, none, rfl, rfl⟩
    (fun k hk ρ S' ⟨o3, o4, o5, e1, e2⟩ => by
      subst e1 e2
      have hk : k < m := by simpa using hk
      obtain ⟨b1, b2⟩ := bestN_pos rs k
      obtain ⟨p4, p5, e⟩ := best_step h (2 + (k : Nat)) (bestN rs k).1 (bestN rs k).2 (by omega) (by omega) (.int ((m : Nat) + 1 : Int)) o4 o5 S'
      refine ⟨_, _, S', ?_, .inl e, some (.int (2 + (k : Nat))), p4, p5, ?_, rfl⟩
      · rw [List.getElem_map, List.getElem_range]; rfl
      · have : bestN rs (k + 1) = (if wst rs (2 + (k : Nat)) * (bestN rs k).1 < (bestN rs k).2 * (2 + (k : Nat)) then (2 + ((k : Nat) : Int), wst rs (2 + (k : Nat))) else ((bestN rs k).1, (bestN rs k).2)) := by
          conv => lhs; unfold bestN
          dsimp only
          rw [Int.add_comm ((k : Nat) : Int) 2]
        rw [this])
  subst e1 e2
  rw [List.length_map, List.length_range] at e
  unfold g_best b_best
  refine run_rt (ρ0 := [some (recD rs), some (.int ((m : Nat) + 1 : Int)), none, none, none, none]) rfl ?_
  have hi := fun S => is_int_t (i := (m : Nat) + 1) (a := 1) (b := 10000) (by omega) S
  have hw : ∀ S, g_waste_of [recD rs, .int 1] S = .ok (fracD (wst rs 1) 12) S := fun S => waste_ok h 1 S
  refine Eq.trans (seq_nx (ρ' := [some (recD rs), some (.int ((m : Nat) + 1 : Int)), none, none, none, none]) (S' := S2) ?_) ?_
  · simp only [stillS_tup, stillS_lst, stillS_frz, stillS_str, nat10, nat2, runB, seqS, exS, asgS, retS, retN, dropS, ifS, nxS, nevS, brkS, cntS, setItS, forS, parS, op1, op2, chain, boolT, truT, notT, andT, orT, andE, orE, ifE, nilA, consA, appA, varD, cD, lstE, celE, tupE, slE, itE, itEn, cal_1, cal_2, cal_3, cal_4, cal_5, cal_6, cal_7, yesT, mulOk, List.map_cons, List.map_nil, List.length_cons, List.length_nil, List.getElem?_cons_zero, List.getElem?_cons_succ, List.set_cons_zero, List.set_cons_succ, List.replicate_succ, List.replicate_zero, List.cons_append, List.nil_append, List.append_nil, List.isEmpty_cons, List.isEmpty_nil, Nat.reduceAdd, Nat.reduceSub, Nat.reduceMul, Nat.reduceLeDiff, Nat.reduceEqDiff, Nat.zero_add, Nat.sub_zero, Nat.sub_self, Bool.not_true, Bool.not_false, Bool.true_and, Bool.false_and, Bool.and_true, Bool.and_false, Bool.true_or, Bool.false_or, Bool.or_true, Bool.or_false, Bool.false_eq_true, Bool.not_eq_true, Bool.not_eq_false, Bool.not_not, decide_eq_true_eq, decide_eq_false_iff_not, decide_true, decide_false, if_true, if_false, reduceIte, reduceCtorEq, Nat.zero_le, and_self, and_true, true_and, or_true, true_or, or_false, false_or, not_true_eq_false, not_false_eq_true, Int.reduceLT, Int.reduceLE, Int.reduceNeg, Int.reduceAdd, Int.reduceMul, Int.reduceSub, Int.reducePow, Int.reduceEq, Int.reduceToNat, Nat.reduceLT, Nat.reducePow, Int.cast_ofNat_Int, isi_non_int, isi_non_bool, isi_non_str, isi_non_tuple, isi_non_list, isi_non_dict, isi_non_tuple_list, isi_non_list_tuple, isi_bl_int, isi_bl_bool, isi_bl_str, isi_bl_tuple, isi_bl_list, isi_bl_dict, isi_bl_tuple_list, isi_bl_list_tuple, isi_int_int, isi_int_bool, isi_int_str, isi_int_tuple, isi_int_list, isi_int_dict, isi_int_tuple_list, isi_int_list_tuple, isi_str_int, isi_str_bool, isi_str_str, isi_str_tuple, isi_str_list, isi_str_dict, isi_str_tuple_list, isi_str_list_tuple, isi_tup_int, isi_tup_bool, isi_tup_str, isi_tup_tuple, isi_tup_list, isi_tup_dict, isi_tup_tuple_list, isi_tup_list_tuple, isi_lst_int, isi_lst_bool, isi_lst_str, isi_lst_tuple, isi_lst_list, isi_lst_dict, isi_lst_tuple_list, isi_lst_list_tuple, isi_frz_int, isi_frz_bool, isi_frz_str, isi_frz_tuple, isi_frz_list, isi_frz_dict, isi_frz_tuple_list, isi_frz_list_tuple, tru_bl, tru_int, tru_non, tru_tup, len_tup, ix_tup, tru_lst, len_lst, ix_lst, tru_frz, len_frz, ix_frz, sl_lst, sl_frz, sl_tup, asInt_int, at0, at1, at2, at3, at4, add_int, add_tup, add_str, add_lst, addC_lst, repC_lst, sub_int, mul_int, mul_lst, mul_tup, div_int, mod_int, pow_int, neg_int, not_bl, lt_int, le_int, gt_int, ge_int, eq_int, eq_str, eq_bl, eq_non, eq_int_non, eq_non_int, eq_str_non, eq_non_str, eq_bl_non, eq_non_bl, ne_int, ne_str, ne_bl, ne_non, ne_int_non, ne_non_int, ne_str_non, ne_non_str, ne_bl_non, ne_non_bl, isNone_non, isNone_int, isNone_str, isNone_bl, isNone_tup, isNone_lst, isNone_frz, max2_int, min2_int, abs_int, int_int, int_bl, still_tup, list_tup, tuple_tup, listC_tup, sv_tup, still_lst, list_lst, tuple_lst, listC_lst, sv_lst, still_frz, list_frz, tuple_frz, listC_frz, sv_frz, r1_int, r2_int, r3_int, tg_name, tg_tup, setAll_cons, setAll_nil, mtE, g1_one, g2_two, mkL_0, mkT_0, mkC_0, mkL_1, mkT_1, mkC_1, mkL_2, mkT_2, mkC_2, mkL_3, mkT_3, mkC_3, mkL_4, mkT_4, mkC_4, bnd_S, ret_S, lineN_eq2, wipe_nil, wipe_cons, hi]
  refine Eq.trans (seq_nx (ρ' := [some (recD rs), some (.int ((m : Nat) + 1 : Int)), some (bestD (bestN rs 0)), none, none, none]) (S' := S2) ?_) ?_
  · have hb0 : bestD (bestN rs 0) = .tup [.int 1, fracD (wst rs 1) 12] := rfl
    rw [hb0]
    simp only [stillS_tup, stillS_lst, stillS_frz, stillS_str, nat10, nat2, runB, seqS, exS, asgS, retS, retN, dropS, ifS, nxS, nevS, brkS, cntS, setItS, forS, parS, op1, op2, chain, boolT, truT, notT, andT, orT, andE, orE, ifE, nilA, consA, appA, varD, cD, lstE, celE, tupE, slE, itE, itEn, cal_1, cal_2, cal_3, cal_4, cal_5, cal_6, cal_7, yesT, mulOk, List.map_cons, List.map_nil, List.length_cons, List.length_nil, List.getElem?_cons_zero, List.getElem?_cons_succ, List.set_cons_zero, List.set_cons_succ, List.replicate_succ, List.replicate_zero, List.cons_append, List.nil_append, List.append_nil, List.isEmpty_cons, List.isEmpty_nil, Nat.reduceAdd, Nat.reduceSub, Nat.reduceMul, Nat.reduceLeDiff, Nat.reduceEqDiff, Nat.zero_add, Nat.sub_zero, Nat.sub_self, Bool.not_true, Bool.not_false, Bool.true_and, Bool.false_and, Bool.and_true, Bool.and_false, Bool.true_or, Bool.false_or, Bool.or_true, Bool.or_false, Bool.false_eq_true, Bool.not_eq_true, Bool.not_eq_false, Bool.not_not, decide_eq_true_eq, decide_eq_false_iff_not, decide_true, decide_false, if_true, if_false, reduceIte, reduceCtorEq, Nat.zero_le, and_self, and_true, true_and, or_true, true_or, or_false, false_or, not_true_eq_false, not_false_eq_true, Int.reduceLT, Int.reduceLE, Int.reduceNeg, Int.reduceAdd, Int.reduceMul, Int.reduceSub, Int.reducePow, Int.reduceEq, Int.reduceToNat, Nat.reduceLT, Nat.reducePow, Int.cast_ofNat_Int, isi_non_int, isi_non_bool, isi_non_str, isi_non_tuple, isi_non_list, isi_non_dict, isi_non_tuple_list, isi_non_list_tuple, isi_bl_int, isi_bl_bool, isi_bl_str, isi_bl_tuple, isi_bl_list, isi_bl_dict, isi_bl_tuple_list, isi_bl_list_tuple, isi_int_int, isi_int_bool, isi_int_str, isi_int_tuple, isi_int_list, isi_int_dict, isi_int_tuple_list, isi_int_list_tuple, isi_str_int, isi_str_bool, isi_str_str, isi_str_tuple, isi_str_list, isi_str_dict, isi_str_tuple_list, isi_str_list_tuple, isi_tup_int, isi_tup_bool, isi_tup_str, isi_tup_tuple, isi_tup_list, isi_tup_dict, isi_tup_tuple_list, isi_tup_list_tuple, isi_lst_int, isi_lst_bool, isi_lst_str, isi_lst_tuple, isi_lst_list, isi_lst_dict, isi_lst_tuple_list, isi_lst_list_tuple, isi_frz_int, isi_frz_bool, isi_frz_str, isi_frz_tuple, isi_frz_list, isi_frz_dict, isi_frz_tuple_list, isi_frz_list_tuple, tru_bl, tru_int, tru_non, tru_tup, len_tup, ix_tup, tru_lst, len_lst, ix_lst, tru_frz, len_frz, ix_frz, sl_lst, sl_frz, sl_tup, asInt_int, at0, at1, at2, at3, at4, add_int, add_tup, add_str, add_lst, addC_lst, repC_lst, sub_int, mul_int, mul_lst, mul_tup, div_int, mod_int, pow_int, neg_int, not_bl, lt_int, le_int, gt_int, ge_int, eq_int, eq_str, eq_bl, eq_non, eq_int_non, eq_non_int, eq_str_non, eq_non_str, eq_bl_non, eq_non_bl, ne_int, ne_str, ne_bl, ne_non, ne_int_non, ne_non_int, ne_str_non, ne_non_str, ne_bl_non, ne_non_bl, isNone_non, isNone_int, isNone_str, isNone_bl, isNone_tup, isNone_lst, isNone_frz, max2_int, min2_int, abs_int, int_int, int_bl, still_tup, list_tup, tuple_tup, listC_tup, sv_tup, still_lst, list_lst, tuple_lst, listC_lst, sv_lst, still_frz, list_frz, tuple_frz, listC_frz, sv_frz, r1_int, r2_int, r3_int, tg_name, tg_tup, setAll_cons, setAll_nil, mtE, g1_one, g2_two, mkL_0, mkT_0, mkC_0, mkL_1, mkT_1, mkC_1, mkL_2, mkT_2, mkC_2, mkL_3, mkT_3, mkC_3, mkL_4, mkT_4, mkC_4, bnd_S, ret_S, lineN_eq2, wipe_nil, wipe_cons, hw]
  refine Eq.trans (seq_nx ((for_ok (ds := (List.range m).map fun k => D.int (2 + (k : Nat))) (S' := S2) ?_).trans e)) ?_
  · have hr : itR2 [.int 2, .int ((m : Nat) + 1 + 1 : Int)] S2 = .ok ((List.range m).map fun k => D.int (2 + (k : Nat))) S2 := by
      rw [r2_int, if_pos (by omega), show ((m : Nat) + 1 + 1 - 2 : Int).toNat = m by omega]
    simp only [stillS_tup, stillS_lst, stillS_frz, stillS_str, nat10, nat2, runB, seqS, exS, asgS, retS, retN, dropS, ifS, nxS, nevS, brkS, cntS, setItS, forS, parS, op1, op2, chain, boolT, truT, notT, andT, orT, andE, orE, ifE, nilA, consA, appA, varD, cD, lstE, celE, tupE, slE, itE, itEn, cal_1, cal_2, cal_3, cal_4, cal_5, cal_6, cal_7, yesT, mulOk, List.map_cons, List.map_nil, List.length_cons, List.length_nil, List.getElem?_cons_zero, List.getElem?_cons_succ, List.set_cons_zero, List.set_cons_succ, List.replicate_succ, List.replicate_zero, List.cons_append, List.nil_append, List.append_nil, List.isEmpty_cons, List.isEmpty_nil, Nat.reduceAdd, Nat.reduceSub, Nat.reduceMul, Nat.reduceLeDiff, Nat.reduceEqDiff, Nat.zero_add, Nat.sub_zero, Nat.sub_self, Bool.not_true, Bool.not_false, Bool.true_and, Bool.false_and, Bool.and_true, Bool.and_false, Bool.true_or, Bool.false_or, Bool.or_true, Bool.or_false, Bool.false_eq_true, Bool.not_eq_true, Bool.not_eq_false, Bool.not_not, decide_eq_true_eq, decide_eq_false_iff_not, decide_true, decide_false, if_true, if_false, reduceIte, reduceCtorEq, Nat.zero_le, and_self, and_true, true_and, or_true, true_or, or_false, false_or, not_true_eq_false, not_false_eq_true, Int.reduceLT, Int.reduceLE, Int.reduceNeg, Int.reduceAdd, Int.reduceMul, Int.reduceSub, Int.reducePow, Int.reduceEq, Int.reduceToNat, Nat.reduceLT, Nat.reducePow, Int.cast_ofNat_Int, isi_non_int, isi_non_bool, isi_non_str, isi_non_tuple, isi_non_list, isi_non_dict, isi_non_tuple_list, isi_non_list_tuple, isi_bl_int, isi_bl_bool, isi_bl_str, isi_bl_tuple, isi_bl_list, isi_bl_dict, isi_bl_tuple_list, isi_bl_list_tuple, isi_int_int, isi_int_bool, isi_int_str, isi_int_tuple, isi_int_list, isi_int_dict, isi_int_tuple_list, isi_int_list_tuple, isi_str_int, isi_str_bool, isi_str_str, isi_str_tuple, isi_str_list, isi_str_dict, isi_str_tuple_list, isi_str_list_tuple, isi_tup_int, isi_tup_bool, isi_tup_str, isi_tup_tuple, isi_tup_list, isi_tup_dict, isi_tup_tuple_list, isi_tup_list_tuple, isi_lst_int, isi_lst_bool, isi_lst_str, isi_lst_tuple, isi_lst_list, isi_lst_dict, isi_lst_tuple_list, isi_lst_list_tuple, isi_frz_int, isi_frz_bool, isi_frz_str, isi_frz_tuple, isi_frz_list, isi_frz_dict, isi_frz_tuple_list, isi_frz_list_tuple, tru_bl, tru_int, tru_non, tru_tup, len_tup, ix_tup, tru_lst, len_lst, ix_lst, tru_frz, len_frz, ix_frz, sl_lst, sl_frz, sl_tup, asInt_int, at0, at1, at2, at3, at4, add_int, add_tup, add_str, add_lst, addC_lst, repC_lst, sub_int, mul_int, mul_lst, mul_tup, div_int, mod_int, pow_int, neg_int, not_bl, lt_int, le_int, gt_int, ge_int, eq_int, eq_str, eq_bl, eq_non, eq_int_non, eq_non_int, eq_str_non, eq_non_str, eq_bl_non, eq_non_bl, ne_int, ne_str, ne_bl, ne_non, ne_int_non, ne_non_int, ne_str_non, ne_non_str, ne_bl_non, ne_non_bl, isNone_non, isNone_int, isNone_str, isNone_bl, isNone_tup, isNone_lst, isNone_frz, max2_int, min2_int, abs_int, int_int, int_bl, still_tup, list_tup, tuple_tup, listC_tup, sv_tup, still_lst, list_lst, tuple_lst, listC_lst, sv_lst, still_frz, list_frz, tuple_frz, listC_frz, sv_frz, r1_int, r2_int, r3_int, tg_name, tg_tup, setAll_cons, setAll_nil, mtE, g1_one, g2_two, mkL_0, mkT_0, mkC_0, mkL_1, mkT_1, mkC_1, mkL_2, mkT_2, mkC_2, mkL_3, mkT_3, mkC_3, mkL_4, mkT_4, mkC_4, bnd_S, ret_S, lineN_eq2, wipe_nil, wipe_cons, -r2_int, hr]
  rfl
end F

set_option linter.all false
set_option autoImplicit false
namespace F
open PySem
def c_k11_law_1 : SE :=
  lcE [9] (.name 9) (appA (consA (appA (consA (varD 4) nilA) (g1 lenD)) nilA) itR1) yesT (appA (consA (cD (.int 0)) (consA (appA (consA (varD 4) (consA (varD 9) (consA (varD 3) nilA))) (cal 3 g__law_over)) nilA)) (g2 max2D))
def l_k11_law_1 : SS :=
  (seqS (asgS (appA (consA c_k11_law_1 nilA) (g1 sumD)) (.name 8))
  (ifS (orT (boolT (op2 eqM (varD 6) (cD (.int 0)))) (boolT (op2 ltD (op2 mulD (varD 8) (varD 6)) (op2 mulD (varD 7) (varD 3))))) (parS (consA (varD 3) (consA (varD 8) nilA)) [6, 7]) nxS))
def l_k11_law_2 : SS :=
  (seqS (asgS (tupE (consA (appA (consA (varD 1) (consA (cD (.bl false)) nilA)) (cal 2 g__law_rows)) (consA (op2 addD (cD (.int 1)) (appA (consA (varD 1) (consA (cD (.int 100)) nilA)) (cal 2 g__law_next))) nilA))) (.tup [4, 5]))
  (seqS (asgS (tupE (consA (cD (.int 0)) (consA (cD (.int 0)) nilA))) (.tup [6, 7]))
  (seqS (forS (.name 3) (appA (consA (cD (.int 1)) (consA (op2 addD (varD 5) (cD (.int 1))) nilA)) itR2) l_k11_law_1)
  (ifS (notT (truT (appA (consA (appA (consA (appA (consA (varD 4) nilA) (cal 1 (mkF "Recipe" g_Recipe_init))) (consA (varD 5) nilA)) (cal 2 g_best)) (consA (tupE (consA (varD 6) (consA (appA (consA (varD 7) (consA (op2 mulD (cD (.int 12)) (varD 6)) nilA)) (cal 2 g__law_part)) nilA))) nilA)) (cal 2 g__law_alike)))) (retS (cD (.bl false))) nxS))))
def b_k11_law : SS :=
  (seqS (asgS (appA (consA (varD 0) (consA (cD (.int 11)) nilA)) (cal 2 g__law_mix)) (.name 1))
  (seqS (forS (.name 2) (appA (consA (cD (.int 3)) nilA) itR1) l_k11_law_2)
  (retS (cD (.bl true)))))
def g_k11_law : List D → M D := runB b_k11_law 10
end F

set_option linter.all false
set_option autoImplicit false
set_option maxRecDepth 100000
set_option maxHeartbeats 1000000
namespace F
open PySem
theorem k11_waste {c : Bool} {rs : List Row} (h : WRs c rs) (hl : rs.length ≤ 5) (n : Int) (a0 a1 a2 a5 a6 a7 a8 a9 : Option D) (S : Store) :
    c_k11_law_1 [a0, a1, a2, some (.int n), some (rowsD rs), a5, a6, a7, a8, a9] S = .ok (.lst (rs.map fun r => .int (mx 0 (ov12 rs r n)))) S := by
  unfold c_k11_law_1
  have hle := fun S => len_rows rs S
  have hr := fun S => range_len rs S hl
  have := lcE_all (own := [9]) (t := .name 9) (fi := (appA (consA (appA (consA (varD 4) nilA) (g1 lenD)) nilA) itR1)) (ft := yesT) (fe := (appA (consA (cD (.int 0)) (consA (appA (consA (varD 4) (consA (varD 9) (consA (varD 3) nilA))) (cal 3 g__law_over)) nilA)) (g2 max2D))) (ρ := [a0, a1, a2, some (.int n), some (rowsD rs), a5, a6, a7, a8, a9]) (S := S)
    (fun i : Nat => D.int (i : Nat)) (fun i => .int (mx 0 (ov12 rs (rs.getD i dfltRow) n))) (List.range rs.length) (by simp only [stillS_tup, stillS_lst, stillS_frz, stillS_str, nat10, nat2, runB, seqS, exS, asgS, retS, retN, dropS, ifS, nxS, nevS, brkS, cntS, setItS, forS, parS, op1, op2, chain, boolT, truT, notT, andT, orT, andE, orE, ifE, nilA, consA, appA, varD, cD, lstE, celE, tupE, slE, itE, itEn, cal_1, cal_2, cal_3, cal_4, cal_5, cal_6, cal_7, yesT, mulOk, List.map_cons, List.map_nil, List.length_cons, List.length_nil, List.getElem?_cons_zero, List.getElem?_cons_succ, List.set_cons_zero, List.set_cons_succ, List.replicate_succ, List.replicate_zero, List.cons_append, List.nil_append, List.append_nil, List.isEmpty_cons, List.isEmpty_nil, Nat.reduceAdd, Nat.reduceSub, Nat.reduceMul, Nat.reduceLeDiff, Nat.reduceEqDiff, Nat.zero_add, Nat.sub_zero, Nat.sub_self, Bool.not_true, Bool.not_false, Bool.true_and, Bool.false_and, Bool.and_true, Bool.and_false, Bool.true_or, Bool.false_or, Bool.or_true, Bool.or_false, Bool.false_eq_true, Bool.not_eq_true, Bool.not_eq_false, Bool.not_not, decide_eq_true_eq, decide_eq_false_iff_not, decide_true, decide_false, if_true, if_false, reduceIte, reduceCtorEq, Nat.zero_le, and_self, and_true, true_and, or_true, true_or, or_false, false_or, not_true_eq_false, not_false_eq_true, Int.reduceLT, Int.reduceLE, Int.reduceNeg, Int.reduceAdd, Int.reduceMul, Int.reduceSub, Int.reducePow, Int.reduceEq, Int.reduceToNat, Nat.reduceLT, Nat.reducePow, Int.cast_ofNat_Int, isi_non_int, isi_non_bool, isi_non_str, isi_non_tuple, isi_non_list, isi_non_dict, isi_non_tuple_list, isi_non_list_tuple, isi_bl_int, isi_bl_bool, isi_bl_str, isi_bl_tuple, isi_bl_list, isi_bl_dict, isi_bl_tuple_list, isi_bl_list_tuple, isi_int_int, isi_int_bool, isi_int_str, isi_int_tuple, isi_int_list, isi_int_dict, isi_int_tuple_list, isi_int_list_tuple, isi_str_int, isi_str_bool, isi_str_str, isi_str_tuple, isi_str_list, isi_str_dict, isi_str_tuple_list, isi_str_list_tuple, isi_tup_int, isi_tup_bool, isi_tup_str, isi_tup_tuple, isi_tup_list, isi_tup_dict, isi_tup_tuple_list, isi_tup_list_tuple, isi_lst_int, isi_lst_bool, isi_lst_str, isi_lst_tuple, isi_lst_list, isi_lst_dict, isi_lst_tuple_list, isi_lst_list_tuple, isi_frz_int, isi_frz_bool, isi_frz_str, isi_frz_tuple, isi_frz_list, isi_frz_dict, isi_frz_tuple_list, isi_frz_list_tuple, tru_bl, tru_int, tru_non, tru_tup, len_tup, ix_tup, tru_lst, len_lst, ix_lst, tru_frz, len_frz, ix_frz, sl_lst, sl_frz, sl_tup, asInt_int, at0, at1, at2, at3, at4, add_int, add_tup, add_str, add_lst, addC_lst, repC_lst, sub_int, mul_int, mul_lst, mul_tup, div_int, mod_int, pow_int, neg_int, not_bl, lt_int, le_int, gt_int, ge_int, eq_int, eq_str, eq_bl, eq_non, eq_int_non, eq_non_int, eq_str_non, eq_non_str, eq_bl_non, eq_non_bl, ne_int, ne_str, ne_bl, ne_non, ne_int_non, ne_non_int, ne_str_non, ne_non_str, ne_bl_non, ne_non_bl, isNone_non, isNone_int, isNone_str, isNone_bl, isNone_tup, isNone_lst, isNone_frz, max2_int, min2_int, abs_int, int_int, int_bl, still_tup, list_tup, tuple_tup, listC_tup, sv_tup, still_lst, list_lst, tuple_lst, listC_lst, sv_lst, still_frz, list_frz, tuple_frz, listC_frz, sv_frz, r1_int, r2_int, r3_int, tg_name, tg_tup, setAll_cons, setAll_nil, mtE, g1_one, g2_two, mkL_0, mkT_0, mkC_0, mkL_1, mkT_1, mkC_1, mkL_2, mkT_2, mkC_2, mkL_3, mkT_3, mkC_3, mkL_4, mkT_4, mkC_4, bnd_S, ret_S, lineN_eq2, wipe_nil, wipe_cons, -r1_int, hle, hr]) (by simp [lineN_eq2]; omega) (fun i hi => by
      have hi2 : i < rs.length := List.mem_range.mp hi
      refine ⟨[a0, a1, a2, some (.int n), some (rowsD rs), a5, a6, a7, a8, some (.int (i : Nat))], rfl, rfl, ?_⟩
      have ha := fun S => law_over_ok h hl n i hi2 S
      have hg : rs.getD i dfltRow = rs[i] := by rw [List.getD_eq_getElem?_getD, List.getElem?_eq_getElem hi2]; rfl
      rw [hg]
      unfold mx
      simp only [stillS_tup, stillS_lst, stillS_frz, stillS_str, nat10, nat2, runB, seqS, exS, asgS, retS, retN, dropS, ifS, nxS, nevS, brkS, cntS, setItS, forS, parS, op1, op2, chain, boolT, truT, notT, andT, orT, andE, orE, ifE, nilA, consA, appA, varD, cD, lstE, celE, tupE, slE, itE, itEn, cal_1, cal_2, cal_3, cal_4, cal_5, cal_6, cal_7, yesT, mulOk, List.map_cons, List.map_nil, List.length_cons, List.length_nil, List.getElem?_cons_zero, List.getElem?_cons_succ, List.set_cons_zero, List.set_cons_succ, List.replicate_succ, List.replicate_zero, List.cons_append, List.nil_append, List.append_nil, List.isEmpty_cons, List.isEmpty_nil, Nat.reduceAdd, Nat.reduceSub, Nat.reduceMul, Nat.reduceLeDiff, Nat.reduceEqDiff, Nat.zero_add, Nat.sub_zero, Nat.sub_self, Bool.not_true, Bool.not_false, Bool.true_and, Bool.false_and, Bool.and_true, Bool.and_false, Bool.true_or, Bool.false_or, Bool.or_true, Bool.or_false, Bool.false_eq_true, Bool.not_eq_true, Bool.not_eq_false, Bool.not_not, decide_eq_true_eq, decide_eq_false_iff_not, decide_true, decide_false, if_true, if_false, reduceIte, reduceCtorEq, Nat.zero_le, and_self, and_true, true_and, or_true, true_or, or_false, false_or, not_true_eq_false, not_false_eq_true, Int.reduceLT, Int.reduceLE, Int.reduceNeg, Int.reduceAdd, Int.reduceMul, Int.reduceSub, Int.reducePow, Int.reduceEq, Int.reduceToNat, Nat.reduceLT, Nat.reducePow, Int.cast_ofNat_Int, isi_non_int, isi_non_bool, isi_non_str, isi_non_tuple, isi_non_list, isi_non_dict, isi_non_tuple_list, isi_non_list_tuple, isi_bl_int, isi_bl_bool, isi_bl_str, isi_bl_tuple, isi_bl_list, isi_bl_dict, isi_bl_tuple_list, isi_bl_list_tuple, isi_int_int, isi_int_bool, isi_int_str, isi_int_tuple, isi_int_list, isi_int_dict, isi_int_tuple_list, isi_int_list_tuple, isi_str_int, isi_str_bool, isi_str_str, isi_str_tuple, isi_str_list, isi_str_dict, isi_str_tuple_list, isi_str_list_tuple, isi_tup_int, isi_tup_bool, isi_tup_str, isi_tup_tuple, isi_tup_list, isi_tup_dict, isi_tup_tuple_list, isi_tup_list_tuple, isi_lst_int, isi_lst_bool, isi_lst_str, isi_lst_tuple, isi_lst_list, isi_lst_dict, isi_lst_tuple_list, isi_lst_list_tuple, isi_frz_int, isi_frz_bool, isi_frz_str, isi_frz_tuple, isi_frz_list, isi_frz_dict, isi_frz_tuple_list, isi_frz_list_tuple, tru_bl, tru_int, tru_non, tru_tup, len_tup, ix_tup, tru_lst, len_lst, ix_lst, tru_frz, len_frz, ix_frz, sl_lst, sl_frz, sl_tup, asInt_int, at0, at1, at2, at3, at4, add_int, add_tup, add_str, add_lst, addC_lst, repC_lst, sub_int, mul_int, mul_lst, mul_tup, div_int, mod_int, pow_int, neg_int, not_bl, lt_int, le_int, gt_int, ge_int, eq_int, eq_str, eq_bl, eq_non, eq_int_non, eq_non_int, eq_str_non, eq_non_str, eq_bl_non, eq_non_bl, ne_int, ne_str, ne_bl, ne_non, ne_int_non, ne_non_int, ne_str_non, ne_non_str, ne_bl_non, ne_non_bl, isNone_non, isNone_int, isNone_str, isNone_bl, isNone_tup, isNone_lst, isNone_frz, max2_int, min2_int, abs_int, int_int, int_bl, still_tup, list_tup, tuple_tup, listC_tup, sv_tup, still_lst, list_lst, tuple_lst, listC_lst, sv_lst, still_frz, list_frz, tuple_frz, listC_frz, sv_frz, r1_int, r2_int, r3_int, tg_name, tg_tup, setAll_cons, setAll_nil, mtE, g1_one, g2_two, mkL_0, mkT_0, mkC_0, mkL_1, mkT_1, mkC_1, mkL_2, mkT_2, mkC_2, mkL_3, mkT_3, mkC_3, mkL_4, mkT_4, mkC_4, bnd_S, ret_S, lineN_eq2, wipe_nil, wipe_cons, ha])
  rw [this]
  rw [map_range rs dfltRow fun r => D.int (mx 0 (ov12 rs r n))]
/-- the law's search, e numbers looked at -/
def lb (rs : List Row) : Nat → Int × Int
  | 0 => (0, 0)
  | k + 1 => bestN rs k
theorem k11_step (W f L e : Int) (a0 a1 a2 a4 a5 a8 a9 : Option D) (ds : List Int) (hs : ds.sum = W) (hf : f = 0 ∨ (1 ≤ f ∧ f ≤ 1000)) (he : 1 ≤ e ∧ e ≤ 1000)
    (hc : ∀ a8 a9 S, c_k11_law_1 [a0, a1, a2, some (.int e), a4, a5, some (.int f), some (.int L), a8, a9] S = .ok (.lst (ds.map .int)) S) (S : Store) :
    l_k11_law_1 [a0, a1, a2, some (.int e), a4, a5, some (.int f), some (.int L), a8, a9] S =
      .fl (.nx [a0, a1, a2, some (.int e), a4, a5, some (.int (if f = 0 ∨ W * f < L * e then e else f)), some (.int (if f = 0 ∨ W * f < L * e then W else L)), some (.int W), a9]) S := by
  have hsum : ∀ S, sumD (.lst (ds.map .int)) S = .ok (.int W) S := fun S => by rw [← hs]; exact (sum_ints ds id S).trans (by simp)
  have m1 := fun j S => mul_rb (i := j) (j := f) (by omega) S
  have m2 := fun j S => mul_rb (i := j) (j := e) (by omega) S
  by_cases h0 : f = 0
  · subst h0
    simp only [l_k11_law_1, stillS_tup, stillS_lst, stillS_frz, stillS_str, nat10, nat2, runB, seqS, exS, asgS, retS, retN, dropS, ifS, nxS, nevS, brkS, cntS, setItS, forS, parS, op1, op2, chain, boolT, truT, notT, andT, orT, andE, orE, ifE, nilA, consA, appA, varD, cD, lstE, celE, tupE, slE, itE, itEn, cal_1, cal_2, cal_3, cal_4, cal_5, cal_6, cal_7, yesT, mulOk, List.map_cons, List.map_nil, List.length_cons, List.length_nil, List.getElem?_cons_zero, List.getElem?_cons_succ, List.set_cons_zero, List.set_cons_succ, List.replicate_succ, List.replicate_zero, List.cons_append, List.nil_append, List.append_nil, List.isEmpty_cons, List.isEmpty_nil, Nat.reduceAdd, Nat.reduceSub, Nat.reduceMul, Nat.reduceLeDiff, Nat.reduceEqDiff, Nat.zero_add, Nat.sub_zero, Nat.sub_self, Bool.not_true, Bool.not_false, Bool.true_and, Bool.false_and, Bool.and_true, Bool.and_false, Bool.true_or, Bool.false_or, Bool.or_true, Bool.or_false, Bool.false_eq_true, Bool.not_eq_true, Bool.not_eq_false, Bool.not_not, decide_eq_true_eq, decide_eq_false_iff_not, decide_true, decide_false, if_true, if_false, reduceIte, reduceCtorEq, Nat.zero_le, and_self, and_true, true_and, or_true, true_or, or_false, false_or, not_true_eq_false, not_false_eq_true, Int.reduceLT, Int.reduceLE, Int.reduceNeg, Int.reduceAdd, Int.reduceMul, Int.reduceSub, Int.reducePow, Int.reduceEq, Int.reduceToNat, Nat.reduceLT, Nat.reducePow, Int.cast_ofNat_Int, isi_non_int, isi_non_bool, isi_non_str, isi_non_tuple, isi_non_list, isi_non_dict, isi_non_tuple_list, isi_non_list_tuple, isi_bl_int, isi_bl_bool, isi_bl_str, isi_bl_tuple, isi_bl_list, isi_bl_dict, isi_bl_tuple_list, isi_bl_list_tuple, isi_int_int, isi_int_bool, isi_int_str, isi_int_tuple, isi_int_list, isi_int_dict, isi_int_tuple_list, isi_int_list_tuple, isi_str_int, isi_str_bool, isi_str_str, isi_str_tuple, isi_str_list, isi_str_dict, isi_str_tuple_list, isi_str_list_tuple, isi_tup_int, isi_tup_bool, isi_tup_str, isi_tup_tuple, isi_tup_list, isi_tup_dict, isi_tup_tuple_list, isi_tup_list_tuple, isi_lst_int, isi_lst_bool, isi_lst_str, isi_lst_tuple, isi_lst_list, isi_lst_dict, isi_lst_tuple_list, isi_lst_list_tuple, isi_frz_int, isi_frz_bool, isi_frz_str, isi_frz_tuple, isi_frz_list, isi_frz_dict, isi_frz_tuple_list, isi_frz_list_tuple, tru_bl, tru_int, tru_non, tru_tup, len_tup, ix_tup, tru_lst, len_lst, ix_lst, tru_frz, len_frz, ix_frz, sl_lst, sl_frz, sl_tup, asInt_int, at0, at1, at2, at3, at4, add_int, add_tup, add_str, add_lst, addC_lst, repC_lst, sub_int, mul_int, mul_lst, mul_tup, div_int, mod_int, pow_int, neg_int, not_bl, lt_int, le_int, gt_int, ge_int, eq_int, eq_str, eq_bl, eq_non, eq_int_non, eq_non_int, eq_str_non, eq_non_str, eq_bl_non, eq_non_bl, ne_int, ne_str, ne_bl, ne_non, ne_int_non, ne_non_int, ne_str_non, ne_non_str, ne_bl_non, ne_non_bl, isNone_non, isNone_int, isNone_str, isNone_bl, isNone_tup, isNone_lst, isNone_frz, max2_int, min2_int, abs_int, int_int, int_bl, still_tup, list_tup, tuple_tup, listC_tup, sv_tup, still_lst, list_lst, tuple_lst, listC_lst, sv_lst, still_frz, list_frz, tuple_frz, listC_frz, sv_frz, r1_int, r2_int, r3_int, tg_name, tg_tup, setAll_cons, setAll_nil, mtE, g1_one, g2_two, mkL_0, mkT_0, mkC_0, mkL_1, mkT_1, mkC_1, mkL_2, mkT_2, mkC_2, mkL_3, mkT_3, mkC_3, mkL_4, mkT_4, mkC_4, bnd_S, ret_S, lineN_eq2, wipe_nil, wipe_cons, -mul_int, hc, hsum]
  · by_cases hlt : W * f < L * e
    · simp only [l_k11_law_1, stillS_tup, stillS_lst, stillS_frz, stillS_str, nat10, nat2, runB, seqS, exS, asgS, retS, retN, dropS, ifS, nxS, nevS, brkS, cntS, setItS, forS, parS, op1, op2, chain, boolT, truT, notT, andT, orT, andE, orE, ifE, nilA, consA, appA, varD, cD, lstE, celE, tupE, slE, itE, itEn, cal_1, cal_2, cal_3, cal_4, cal_5, cal_6, cal_7, yesT, mulOk, List.map_cons, List.map_nil, List.length_cons, List.length_nil, List.getElem?_cons_zero, List.getElem?_cons_succ, List.set_cons_zero, List.set_cons_succ, List.replicate_succ, List.replicate_zero, List.cons_append, List.nil_append, List.append_nil, List.isEmpty_cons, List.isEmpty_nil, Nat.reduceAdd, Nat.reduceSub, Nat.reduceMul, Nat.reduceLeDiff, Nat.reduceEqDiff, Nat.zero_add, Nat.sub_zero, Nat.sub_self, Bool.not_true, Bool.not_false, Bool.true_and, Bool.false_and, Bool.and_true, Bool.and_false, Bool.true_or, Bool.false_or, Bool.or_true, Bool.or_false, Bool.false_eq_true, Bool.not_eq_true, Bool.not_eq_false, Bool.not_not, decide_eq_true_eq, decide_eq_false_iff_not, decide_true, decide_false, if_true, if_false, reduceIte, reduceCtorEq, Nat.zero_le, and_self, and_true, true_and, or_true, true_or, or_false, false_or, not_true_eq_false, not_false_eq_true, Int.reduceLT, Int.reduceLE, Int.reduceNeg, Int.reduceAdd, Int.reduceMul, Int.reduceSub, Int.reducePow, Int.reduceEq, Int.reduceToNat, Nat.reduceLT, Nat.reducePow, Int.cast_ofNat_Int, isi_non_int, isi_non_bool, isi_non_str, isi_non_tuple, isi_non_list, isi_non_dict, isi_non_tuple_list, isi_non_list_tuple, isi_bl_int, isi_bl_bool, isi_bl_str, isi_bl_tuple, isi_bl_list, isi_bl_dict, isi_bl_tuple_list, isi_bl_list_tuple, isi_int_int, isi_int_bool, isi_int_str, isi_int_tuple, isi_int_list, isi_int_dict, isi_int_tuple_list, isi_int_list_tuple, isi_str_int, isi_str_bool, isi_str_str, isi_str_tuple, isi_str_list, isi_str_dict, isi_str_tuple_list, isi_str_list_tuple, isi_tup_int, isi_tup_bool, isi_tup_str, isi_tup_tuple, isi_tup_list, isi_tup_dict, isi_tup_tuple_list, isi_tup_list_tuple, isi_lst_int, isi_lst_bool, isi_lst_str, isi_lst_tuple, isi_lst_list, isi_lst_dict, isi_lst_tuple_list, isi_lst_list_tuple, isi_frz_int, isi_frz_bool, isi_frz_str, isi_frz_tuple, isi_frz_list, isi_frz_dict, isi_frz_tuple_list, isi_frz_list_tuple, tru_bl, tru_int, tru_non, tru_tup, len_tup, ix_tup, tru_lst, len_lst, ix_lst, tru_frz, len_frz, ix_frz, sl_lst, sl_frz, sl_tup, asInt_int, at0, at1, at2, at3, at4, add_int, add_tup, add_str, add_lst, addC_lst, repC_lst, sub_int, mul_int, mul_lst, mul_tup, div_int, mod_int, pow_int, neg_int, not_bl, lt_int, le_int, gt_int, ge_int, eq_int, eq_str, eq_bl, eq_non, eq_int_non, eq_non_int, eq_str_non, eq_non_str, eq_bl_non, eq_non_bl, ne_int, ne_str, ne_bl, ne_non, ne_int_non, ne_non_int, ne_str_non, ne_non_str, ne_bl_non, ne_non_bl, isNone_non, isNone_int, isNone_str, isNone_bl, isNone_tup, isNone_lst, isNone_frz, max2_int, min2_int, abs_int, int_int, int_bl, still_tup, list_tup, tuple_tup, listC_tup, sv_tup, still_lst, list_lst, tuple_lst, listC_lst, sv_lst, still_frz, list_frz, tuple_frz, listC_frz, sv_frz, r1_int, r2_int, r3_int, tg_name, tg_tup, setAll_cons, setAll_nil, mtE, g1_one, g2_two, mkL_0, mkT_0, mkC_0, mkL_1, mkT_1, mkC_1, mkL_2, mkT_2, mkC_2, mkL_3, mkT_3, mkC_3, mkL_4, mkT_4, mkC_4, bnd_S, ret_S, lineN_eq2, wipe_nil, wipe_cons, -mul_int, hc, hsum, h0, m1, m2, hlt]
    · simp only [l_k11_law_1, stillS_tup, stillS_lst, stillS_frz, stillS_str, nat10, nat2, runB, seqS, exS, asgS, retS, retN, dropS, ifS, nxS, nevS, brkS, cntS, setItS, forS, parS, op1, op2, chain, boolT, truT, notT, andT, orT, andE, orE, ifE, nilA, consA, appA, varD, cD, lstE, celE, tupE, slE, itE, itEn, cal_1, cal_2, cal_3, cal_4, cal_5, cal_6, cal_7, yesT, mulOk, List.map_cons, List.map_nil, List.length_cons, List.length_nil, List.getElem?_cons_zero, List.getElem?_cons_succ, List.set_cons_zero, List.set_cons_succ, List.replicate_succ, List.replicate_zero, List.cons_append, List.nil_append, List.append_nil, List.isEmpty_cons, List.isEmpty_nil, Nat.reduceAdd, Nat.reduceSub, Nat.reduceMul, Nat.reduceLeDiff, Nat.reduceEqDiff, Nat.zero_add, Nat.sub_zero, Nat.sub_self, Bool.not_true, Bool.not_false, Bool.true_and, Bool.false_and, Bool.and_true, Bool.and_false, Bool.true_or, Bool.false_or, Bool.or_true, Bool.or_false, Bool.false_eq_true, Bool.not_eq_true, Bool.not_eq_false, Bool.not_not, decide_eq_true_eq, decide_eq_false_iff_not, decide_true, decide_false, if_true, if_false, reduceIte, reduceCtorEq, Nat.zero_le, and_self, and_true, true_and, or_true, true_or, or_false, false_or, not_true_eq_false, not_false_eq_true, Int.reduceLT, Int.reduceLE, Int.reduceNeg, Int.reduceAdd, Int.reduceMul, Int.reduceSub, Int.reducePow, Int.reduceEq, Int.reduceToNat, Nat.reduceLT, Nat.reducePow, Int.cast_ofNat_Int, isi_non_int, isi_non_bool, isi_non_str, isi_non_tuple, isi_non_list, isi_non_dict, isi_non_tuple_list, isi_non_list_tuple, isi_bl_int, isi_bl_bool, isi_bl_str, isi_bl_tuple, isi_bl_list, isi_bl_dict, isi_bl_tuple_list, isi_bl_list_tuple, isi_int_int, isi_int_bool, isi_int_str, isi_int_tuple, isi_int_list, isi_int_dict, isi_int_tuple_list, isi_int_list_tuple, isi_str_int, isi_str_bool, isi_str_str, isi_str_tuple, isi_str_list, isi_str_dict, isi_str_tuple_list, isi_str_list_tuple, isi_tup_int, isi_tup_bool, isi_tup_str, isi_tup_tuple, isi_tup_list, isi_tup_dict, isi_tup_tuple_list, isi_tup_list_tuple, isi_lst_int, isi_lst_bool, isi_lst_str, isi_lst_tuple, isi_lst_list, isi_lst_dict, isi_lst_tuple_list, isi_lst_list_tuple, isi_frz_int, isi_frz_bool, isi_frz_str, isi_frz_tuple, isi_frz_list, isi_frz_dict, isi_frz_tuple_list, isi_frz_list_tuple, tru_bl, tru_int, tru_non, tru_tup, len_tup, ix_tup, tru_lst, len_lst, ix_lst, tru_frz, len_frz, ix_frz, sl_lst, sl_frz, sl_tup, asInt_int, at0, at1, at2, at3, at4, add_int, add_tup, add_str, add_lst, addC_lst, repC_lst, sub_int, mul_int, mul_lst, mul_tup, div_int, mod_int, pow_int, neg_int, not_bl, lt_int, le_int, gt_int, ge_int, eq_int, eq_str, eq_bl, eq_non, eq_int_non, eq_non_int, eq_str_non, eq_non_str, eq_bl_non, eq_non_bl, ne_int, ne_str, ne_bl, ne_non, ne_int_non, ne_non_int, ne_str_non, ne_non_str, ne_bl_non, ne_non_bl, isNone_non, isNone_int, isNone_str, isNone_bl, isNone_tup, isNone_lst, isNone_frz, max2_int, min2_int, abs_int, int_int, int_bl, still_tup, list_tup, tuple_tup, listC_tup, sv_tup, still_lst, list_lst, tuple_lst, listC_lst, sv_lst, still_frz, list_frz, tuple_frz, listC_frz, sv_frz, r1_int, r2_int, r3_int, tg_name, tg_tup, setAll_cons, setAll_nil, mtE, g1_one, g2_two, mkL_0, mkT_0, mkC_0, mkL_1, mkT_1, mkC_1, mkL_2, mkT_2, mkC_2, mkL_3, mkT_3, mkC_3, mkL_4, mkT_4, mkC_4, bnd_S, ret_S, lineN_eq2, wipe_nil, wipe_cons, -mul_int, hc, hsum, h0, m1, m2, hlt]
theorem alD_best (b : Int × Int) : alD 7 (bestD b) := ⟨by simp, fun d hd => by
    rcases List.mem_cons.mp hd with rfl | hd
    · exact True.intro
    · rcases List.mem_cons.mp hd with rfl | hd
      · exact ⟨by simp, fun d hd => by
          rcases List.mem_cons.mp hd with rfl | hd
          · exact True.intro
          · rcases List.mem_cons.mp hd with rfl | hd
            · exact True.intro
            · simp at hd⟩
      · simp at hd⟩
theorem k11_turn {S : Store} (hS : HS [] S) (a0 a2 a3 a4 a5 a6 a7 a8 a9 : Option D) :
    ∃ S' p3 p4 p5 p6 p7 p8 p9, HS [] S' ∧ l_k11_law_2 [a0, some (.ref 1), a2, a3, a4, a5, a6, a7, a8, a9] S = .fl (.nx [a0, some (.ref 1), a2, p3, p4, p5, p6, p7, p8, p9]) S' := by
  obtain ⟨rs, S1, e1, h, l1, l2, h1⟩ := law_rows hS false
  have hl : rs.length ≤ 5 := l2
  obtain ⟨x, S2, e2, x0, x1, h2⟩ := law_next h1 (cap := 100) (by omega) (by omega)
  obtain ⟨m, rfl⟩ : ∃ m : Nat, x = m := ⟨x.toNat, by omega⟩
  have hrec := rec_ok h l1 hl h2.sb
  obtain ⟨ρ2, S5, e5, p3, p8, p9, eρ, eS⟩ := forGo_ind (t := .name 3) (f := l_k11_law_1) (ds := (List.range (1 + m)).map fun i => D.int (1 + (i : Nat)))
    (fun i ρ S' => ∃ p3 p8 p9, ρ = [a0, some (.ref 1), a2, p3, some (rowsD rs), some (.int (1 + (m : Nat) : Int)), some (.int (lb rs i).1), some (.int (lb rs i).2), p8, p9] ∧ S' = S2)
    (ρ := [a0, some (.ref 1), a2, a3, some (rowsD rs), some (.int (1 + (m : Nat) : Int)), some (.int 0), some (.int 0), a8, a9]) (S := S2) ⟨_, _, _, rfl, rfl⟩
    (fun i hi ρ S' ⟨p3, p8, p9, eρ, eS⟩ => by
      subst eρ eS
      rw [List.length_map, List.length_range] at hi
      have hf : (lb rs i).1 = 0 ∨ (1 ≤ (lb rs i).1 ∧ (lb rs i).1 ≤ 1000) := by
        cases i with
        | zero => exact .inl rfl
        | succ k =>
          have := bestN_pos rs k
          exact .inr ⟨this.1, by show (bestN rs k).1 ≤ 1000; omega⟩
      have e := k11_step (wst rs (1 + (i : Nat))) (lb rs i).1 (lb rs i).2 (1 + (i : Nat)) a0 (some (.ref 1)) a2 (some (rowsD rs)) (some (.int (1 + (m : Nat) : Int))) p8 p9 (rs.map fun r => mx 0 (ov12 rs r (1 + (i : Nat)))) rfl hf (by omega)
        (fun a8 a9 S => by rw [k11_waste h hl]; simp) S'
      refine ⟨_, _, S', ?_, .inl e, some (.int (1 + (i : Nat))), some (.int (wst rs (1 + (i : Nat)))), p9, ?_, rfl⟩
      · rw [List.getElem_map, List.getElem_range]; rfl
      · have : ((if (lb rs i).1 = 0 ∨ wst rs (1 + (i : Nat)) * (lb rs i).1 < (lb rs i).2 * (1 + (i : Nat)) then (1 + ((i : Nat) : Int)) else (lb rs i).1) = (lb rs (i + 1)).1) ∧
            ((if (lb rs i).1 = 0 ∨ wst rs (1 + (i : Nat)) * (lb rs i).1 < (lb rs i).2 * (1 + (i : Nat)) then wst rs (1 + (i : Nat)) else (lb rs i).2) = (lb rs (i + 1)).2) := by
          cases i with
          | zero => exact ⟨rfl, rfl⟩
          | succ k =>
            have hp := bestN_pos rs k
            have e1 : (1 + ((k + 1 : Nat) : Int)) = (k : Int) + 2 := by omega
            rw [e1]
            show (if (bestN rs k).1 = 0 ∨ wst rs ((k : Int) + 2) * (bestN rs k).1 < (bestN rs k).2 * ((k : Int) + 2) then (k : Int) + 2 else (bestN rs k).1) = (bestN rs (k + 1)).1 ∧
              (if (bestN rs k).1 = 0 ∨ wst rs ((k : Int) + 2) * (bestN rs k).1 < (bestN rs k).2 * ((k : Int) + 2) then wst rs ((k : Int) + 2) else (bestN rs k).2) = (bestN rs (k + 1)).2
            conv => rhs; rhs; unfold bestN
            conv => lhs; rhs; unfold bestN
            dsimp only
            by_cases hc : wst rs ((k : Int) + 2) * (bestN rs k).1 < (bestN rs k).2 * ((k : Int) + 2)
            · simp only [hc, or_true, if_true, and_self]
            · have hn : ¬ ((bestN rs k).1 = 0 ∨ wst rs ((k : Int) + 2) * (bestN rs k).1 < (bestN rs k).2 * ((k : Int) + 2)) := by
                rintro (z | z)
                · omega
                · exact hc z
              have h0 : ¬ (bestN rs k).1 = 0 := by omega
              simp only [h0, hc, or_false, if_false, and_self]
        rw [this.1, this.2])
  subst eρ eS
  rw [List.length_map, List.length_range] at e5
  have hlb : lb rs (1 + m) = bestN rs m := by rw [Nat.add_comm]; rfl
  rw [hlb] at e5
  refine ⟨S5, p3, some (rowsD rs), some (.int (1 + (m : Nat) : Int)), some (.int (bestN rs m).1), some (.int (bestN rs m).2), p8, p9, h2, ?_⟩
  unfold l_k11_law_2
  refine Eq.trans (seq_nx (ρ' := [a0, some (.ref 1), a2, a3, some (rowsD rs), some (.int (1 + (m : Nat) : Int)), a6, a7, a8, a9]) (S' := S5) ?_) ?_
  · simp only [stillS_tup, stillS_lst, stillS_frz, stillS_str, nat10, nat2, runB, seqS, exS, asgS, retS, retN, dropS, ifS, nxS, nevS, brkS, cntS, setItS, forS, parS, op1, op2, chain, boolT, truT, notT, andT, orT, andE, orE, ifE, nilA, consA, appA, varD, cD, lstE, celE, tupE, slE, itE, itEn, cal_1, cal_2, cal_3, cal_4, cal_5, cal_6, cal_7, yesT, mulOk, List.map_cons, List.map_nil, List.length_cons, List.length_nil, List.getElem?_cons_zero, List.getElem?_cons_succ, List.set_cons_zero, List.set_cons_succ, List.replicate_succ, List.replicate_zero, List.cons_append, List.nil_append, List.append_nil, List.isEmpty_cons, List.isEmpty_nil, Nat.reduceAdd, Nat.reduceSub, Nat.reduceMul, Nat.reduceLeDiff, Nat.reduceEqDiff, Nat.zero_add, Nat.sub_zero, Nat.sub_self, Bool.not_true, Bool.not_false, Bool.true_and, Bool.false_and, Bool.and_true, Bool.and_false, Bool.true_or, Bool.false_or, Bool.or_true, Bool.or_false, Bool.false_eq_true, Bool.not_eq_true, Bool.not_eq_false, Bool.not_not, decide_eq_true_eq, decide_eq_false_iff_not, decide_true, decide_false, if_true, if_false, reduceIte, reduceCtorEq, Nat.zero_le, and_self, and_true, true_and, or_true, true_or, or_false, false_or, not_true_eq_false, not_false_eq_true, Int.reduceLT, Int.reduceLE, Int.reduceNeg, Int.reduceAdd, Int.reduceMul, Int.reduceSub, Int.reducePow, Int.reduceEq, Int.reduceToNat, Nat.reduceLT, Nat.reducePow, Int.cast_ofNat_Int, isi_non_int, isi_non_bool, isi_non_str, isi_non_tuple, isi_non_list, isi_non_dict, isi_non_tuple_list, isi_non_list_tuple, isi_bl_int, isi_bl_bool, isi_bl_str, isi_bl_tuple, isi_bl_list, isi_bl_dict, isi_bl_tuple_list, isi_bl_list_tuple, isi_int_int, isi_int_bool, isi_int_str, isi_int_tuple, isi_int_list, isi_int_dict, isi_int_tuple_list, isi_int_list_tuple, isi_str_int, isi_str_bool, isi_str_str, isi_str_tuple, isi_str_list, isi_str_dict, isi_str_tuple_list, isi_str_list_tuple, isi_tup_int, isi_tup_bool, isi_tup_str, isi_tup_tuple, isi_tup_list, isi_tup_dict, isi_tup_tuple_list, isi_tup_list_tuple, isi_lst_int, isi_lst_bool, isi_lst_str, isi_lst_tuple, isi_lst_list, isi_lst_dict, isi_lst_tuple_list, isi_lst_list_tuple, isi_frz_int, isi_frz_bool, isi_frz_str, isi_frz_tuple, isi_frz_list, isi_frz_dict, isi_frz_tuple_list, isi_frz_list_tuple, tru_bl, tru_int, tru_non, tru_tup, len_tup, ix_tup, tru_lst, len_lst, ix_lst, tru_frz, len_frz, ix_frz, sl_lst, sl_frz, sl_tup, asInt_int, at0, at1, at2, at3, at4, add_int, add_tup, add_str, add_lst, addC_lst, repC_lst, sub_int, mul_int, mul_lst, mul_tup, div_int, mod_int, pow_int, neg_int, not_bl, lt_int, le_int, gt_int, ge_int, eq_int, eq_str, eq_bl, eq_non, eq_int_non, eq_non_int, eq_str_non, eq_non_str, eq_bl_non, eq_non_bl, ne_int, ne_str, ne_bl, ne_non, ne_int_non, ne_non_int, ne_str_non, ne_non_str, ne_bl_non, ne_non_bl, isNone_non, isNone_int, isNone_str, isNone_bl, isNone_tup, isNone_lst, isNone_frz, max2_int, min2_int, abs_int, int_int, int_bl, still_tup, list_tup, tuple_tup, listC_tup, sv_tup, still_lst, list_lst, tuple_lst, listC_lst, sv_lst, still_frz, list_frz, tuple_frz, listC_frz, sv_frz, r1_int, r2_int, r3_int, tg_name, tg_tup, setAll_cons, setAll_nil, mtE, g1_one, g2_two, mkL_0, mkT_0, mkC_0, mkL_1, mkT_1, mkC_1, mkL_2, mkT_2, mkC_2, mkL_3, mkT_3, mkC_3, mkL_4, mkT_4, mkC_4, bnd_S, ret_S, lineN_eq2, wipe_nil, wipe_cons, e1, e2]
  refine Eq.trans (seq_nx (ρ' := [a0, some (.ref 1), a2, a3, some (rowsD rs), some (.int (1 + (m : Nat) : Int)), some (.int 0), some (.int 0), a8, a9]) (S' := S5) rfl) ?_
  refine Eq.trans (seq_nx ((for_ok (ds := (List.range (1 + m)).map fun i => D.int (1 + (i : Nat))) (S' := S5) ?_).trans e5)) ?_
  · have hr : itR2 [.int 1, .int (1 + (m : Nat) + 1 : Int)] S5 = .ok ((List.range (1 + m)).map fun k => D.int (1 + (k : Nat))) S5 := by
      rw [r2_int, if_pos (by omega), show (1 + (m : Nat) + 1 - 1 : Int).toNat = 1 + m by omega]
    simp only [stillS_tup, stillS_lst, stillS_frz, stillS_str, nat10, nat2, runB, seqS, exS, asgS, retS, retN, dropS, ifS, nxS, nevS, brkS, cntS, setItS, forS, parS, op1, op2, chain, boolT, truT, notT, andT, orT, andE, orE, ifE, nilA, consA, appA, varD, cD, lstE, celE, tupE, slE, itE, itEn, cal_1, cal_2, cal_3, cal_4, cal_5, cal_6, cal_7, yesT, mulOk, List.map_cons, List.map_nil, List.length_cons, List.length_nil, List.getElem?_cons_zero, List.getElem?_cons_succ, List.set_cons_zero, List.set_cons_succ, List.replicate_succ, List.replicate_zero, List.cons_append, List.nil_append, List.append_nil, List.isEmpty_cons, List.isEmpty_nil, Nat.reduceAdd, Nat.reduceSub, Nat.reduceMul, Nat.reduceLeDiff, Nat.reduceEqDiff, Nat.zero_add, Nat.sub_zero, Nat.sub_self, Bool.not_true, Bool.not_false, Bool.true_and, Bool.false_and, Bool.and_true, Bool.and_false, Bool.true_or, Bool.false_or, Bool.or_true, Bool.or_false, Bool.false_eq_true, Bool.not_eq_true, Bool.not_eq_false, Bool.not_not, decide_eq_true_eq, decide_eq_false_iff_not, decide_true, decide_false, if_true, if_false, reduceIte, reduceCtorEq, Nat.zero_le, and_self, and_true, true_and, or_true, true_or, or_false, false_or, not_true_eq_false, not_false_eq_true, Int.reduceLT, Int.reduceLE, Int.reduceNeg, Int.reduceAdd, Int.reduceMul, Int.reduceSub, Int.reducePow, Int.reduceEq, Int.reduceToNat, Nat.reduceLT, Nat.reducePow, Int.cast_ofNat_Int, isi_non_int, isi_non_bool, isi_non_str, isi_non_tuple, isi_non_list, isi_non_dict, isi_non_tuple_list, isi_non_list_tuple, isi_bl_int, isi_bl_bool, isi_bl_str, isi_bl_tuple, isi_bl_list, isi_bl_dict, isi_bl_tuple_list, isi_bl_list_tuple, isi_int_int, isi_int_bool, isi_int_str, isi_int_tuple, isi_int_list, isi_int_dict, isi_int_tuple_list, isi_int_list_tuple, isi_str_int, isi_str_bool, isi_str_str, isi_str_tuple, isi_str_list, isi_str_dict, isi_str_tuple_list, isi_str_list_tuple, isi_tup_int, isi_tup_bool, isi_tup_str, isi_tup_tuple, isi_tup_list, isi_tup_dict, isi_tup_tuple_list, isi_tup_list_tuple, isi_lst_int, isi_lst_bool, isi_lst_str, isi_lst_tuple, isi_lst_list, isi_lst_dict, isi_lst_tuple_list, isi_lst_list_tuple, isi_frz_int, isi_frz_bool, isi_frz_str, isi_frz_tuple, isi_frz_list, isi_frz_dict, isi_frz_tuple_list, isi_frz_list_tuple, tru_bl, tru_int, tru_non, tru_tup, len_tup, ix_tup, tru_lst, len_lst, ix_lst, tru_frz, len_frz, ix_frz, sl_lst, sl_frz, sl_tup, asInt_int, at0, at1, at2, at3, at4, add_int, add_tup, add_str, add_lst, addC_lst, repC_lst, sub_int, mul_int, mul_lst, mul_tup, div_int, mod_int, pow_int, neg_int, not_bl, lt_int, le_int, gt_int, ge_int, eq_int, eq_str, eq_bl, eq_non, eq_int_non, eq_non_int, eq_str_non, eq_non_str, eq_bl_non, eq_non_bl, ne_int, ne_str, ne_bl, ne_non, ne_int_non, ne_non_int, ne_str_non, ne_non_str, ne_bl_non, ne_non_bl, isNone_non, isNone_int, isNone_str, isNone_bl, isNone_tup, isNone_lst, isNone_frz, max2_int, min2_int, abs_int, int_int, int_bl, still_tup, list_tup, tuple_tup, listC_tup, sv_tup, still_lst, list_lst, tuple_lst, listC_lst, sv_lst, still_frz, list_frz, tuple_frz, listC_frz, sv_frz, r1_int, r2_int, r3_int, tg_name, tg_tup, setAll_cons, setAll_nil, mtE, g1_one, g2_two, mkL_0, mkT_0, mkC_0, mkL_1, mkT_1, mkC_1, mkL_2, mkT_2, mkC_2, mkL_3, mkT_3, mkC_3, mkL_4, mkT_4, mkC_4, bnd_S, ret_S, lineN_eq2, wipe_nil, wipe_cons, -r2_int, hr]
  have hb := fun S => best_ok h m (by omega) S
  simp only [Int.add_comm ((m : Nat) : Int) 1] at hb
  have hp := bestN_pos rs m
  have mm := fun S => mul_l (i := 12) (j := (bestN rs m).1) (by omega) S
  have hpt := fun S => law_part_ok (bestN rs m).2 (12 * (bestN rs m).1) (by omega) (by omega) S
  have t2 : ∀ S, mkT [.int (bestN rs m).1, fracD (bestN rs m).2 (12 * (bestN rs m).1)] S = .ok (bestD (bestN rs m)) S := fun _ => rfl
  have hal := fun S => alike_t (alD_best (bestN rs m)) S
  simp only [stillS_tup, stillS_lst, stillS_frz, stillS_str, nat10, nat2, runB, seqS, exS, asgS, retS, retN, dropS, ifS, nxS, nevS, brkS, cntS, setItS, forS, parS, op1, op2, chain, boolT, truT, notT, andT, orT, andE, orE, ifE, nilA, consA, appA, varD, cD, lstE, celE, tupE, slE, itE, itEn, cal_1, cal_2, cal_3, cal_4, cal_5, cal_6, cal_7, yesT, mulOk, List.map_cons, List.map_nil, List.length_cons, List.length_nil, List.getElem?_cons_zero, List.getElem?_cons_succ, List.set_cons_zero, List.set_cons_succ, List.replicate_succ, List.replicate_zero, List.cons_append, List.nil_append, List.append_nil, List.isEmpty_cons, List.isEmpty_nil, Nat.reduceAdd, Nat.reduceSub, Nat.reduceMul, Nat.reduceLeDiff, Nat.reduceEqDiff, Nat.zero_add, Nat.sub_zero, Nat.sub_self, Bool.not_true, Bool.not_false, Bool.true_and, Bool.false_and, Bool.and_true, Bool.and_false, Bool.true_or, Bool.false_or, Bool.or_true, Bool.or_false, Bool.false_eq_true, Bool.not_eq_true, Bool.not_eq_false, Bool.not_not, decide_eq_true_eq, decide_eq_false_iff_not, decide_true, decide_false, if_true, if_false, reduceIte, reduceCtorEq, Nat.zero_le, and_self, and_true, true_and, or_true, true_or, or_false, false_or, not_true_eq_false, not_false_eq_true, Int.reduceLT, Int.reduceLE, Int.reduceNeg, Int.reduceAdd, Int.reduceMul, Int.reduceSub, Int.reducePow, Int.reduceEq, Int.reduceToNat, Nat.reduceLT, Nat.reducePow, Int.cast_ofNat_Int, isi_non_int, isi_non_bool, isi_non_str, isi_non_tuple, isi_non_list, isi_non_dict, isi_non_tuple_list, isi_non_list_tuple, isi_bl_int, isi_bl_bool, isi_bl_str, isi_bl_tuple, isi_bl_list, isi_bl_dict, isi_bl_tuple_list, isi_bl_list_tuple, isi_int_int, isi_int_bool, isi_int_str, isi_int_tuple, isi_int_list, isi_int_dict, isi_int_tuple_list, isi_int_list_tuple, isi_str_int, isi_str_bool, isi_str_str, isi_str_tuple, isi_str_list, isi_str_dict, isi_str_tuple_list, isi_str_list_tuple, isi_tup_int, isi_tup_bool, isi_tup_str, isi_tup_tuple, isi_tup_list, isi_tup_dict, isi_tup_tuple_list, isi_tup_list_tuple, isi_lst_int, isi_lst_bool, isi_lst_str, isi_lst_tuple, isi_lst_list, isi_lst_dict, isi_lst_tuple_list, isi_lst_list_tuple, isi_frz_int, isi_frz_bool, isi_frz_str, isi_frz_tuple, isi_frz_list, isi_frz_dict, isi_frz_tuple_list, isi_frz_list_tuple, tru_bl, tru_int, tru_non, tru_tup, len_tup, ix_tup, tru_lst, len_lst, ix_lst, tru_frz, len_frz, ix_frz, sl_lst, sl_frz, sl_tup, asInt_int, at0, at1, at2, at3, at4, add_int, add_tup, add_str, add_lst, addC_lst, repC_lst, sub_int, mul_int, mul_lst, mul_tup, div_int, mod_int, pow_int, neg_int, not_bl, lt_int, le_int, gt_int, ge_int, eq_int, eq_str, eq_bl, eq_non, eq_int_non, eq_non_int, eq_str_non, eq_non_str, eq_bl_non, eq_non_bl, ne_int, ne_str, ne_bl, ne_non, ne_int_non, ne_non_int, ne_str_non, ne_non_str, ne_bl_non, ne_non_bl, isNone_non, isNone_int, isNone_str, isNone_bl, isNone_tup, isNone_lst, isNone_frz, max2_int, min2_int, abs_int, int_int, int_bl, still_tup, list_tup, tuple_tup, listC_tup, sv_tup, still_lst, list_lst, tuple_lst, listC_lst, sv_lst, still_frz, list_frz, tuple_frz, listC_frz, sv_frz, r1_int, r2_int, r3_int, tg_name, tg_tup, setAll_cons, setAll_nil, mtE, g1_one, g2_two, mkL_0, mkT_0, mkC_0, mkL_1, mkT_1, mkC_1, mkL_2, mkT_2, mkC_2, mkL_3, mkT_3, mkC_3, mkL_4, mkT_4, mkC_4, bnd_S, ret_S, lineN_eq2, wipe_nil, wipe_cons, -mul_int, -cal_1, -mkT_2, hrec, hb, mm, hpt, t2, hal]
theorem pure_law : ∀ ns : List Int, ns.length ≤ 63 → ∃ S, g_k11_law [.frz (ns.map .int)] [] = .ok (.bl true) S := fun ns hn => by
  obtain ⟨S0, e0, h0⟩ := law_mix ns hn 11
  obtain ⟨ρ2, S5, e5, p2, p3, p4, p5, p6, p7, p8, p9, eρ, hH⟩ := forGo_ind (t := .name 2) (f := l_k11_law_2) (ds := (List.range 3).map fun i => D.int (i : Nat))
    (fun i ρ S' => ∃ p2 p3 p4 p5 p6 p7 p8 p9, ρ = [some (.frz (ns.map .int)), some (.ref 1), p2, p3, p4, p5, p6, p7, p8, p9] ∧ HS [] S')
    (ρ := [some (.frz (ns.map .int)), some (.ref 1), none, none, none, none, none, none, none, none]) (S := S0) ⟨_, _, _, _, _, _, _, _, rfl, h0⟩
    (fun i hi ρ S' ⟨p2, p3, p4, p5, p6, p7, p8, p9, eρ, hH⟩ => by
      subst eρ
      obtain ⟨S2, q3, q4, q5, q6, q7, q8, q9, hq, e⟩ := k11_turn hH (some (.frz (ns.map .int))) (some (.int (i : Nat))) p3 p4 p5 p6 p7 p8 p9
      refine ⟨_, _, S2, ?_, .inl e, _, _, _, _, _, _, _, _, rfl, hq⟩
      rw [List.getElem_map, List.getElem_range]; rfl)
  subst eρ
  refine ⟨S5, ?_⟩
  unfold g_k11_law b_k11_law
  refine run_rt (ρ0 := [some (.frz (ns.map .int)), none, none, none, none, none, none, none, none, none]) rfl ?_
  refine Eq.trans (seq_nx (ρ' := [some (.frz (ns.map .int)), some (.ref 1), none, none, none, none, none, none, none, none]) (S' := S0) ?_) ?_
  · simp only [stillS_tup, stillS_lst, stillS_frz, stillS_str, nat10, nat2, runB, seqS, exS, asgS, retS, retN, dropS, ifS, nxS, nevS, brkS, cntS, setItS, forS, parS, op1, op2, chain, boolT, truT, notT, andT, orT, andE, orE, ifE, nilA, consA, appA, varD, cD, lstE, celE, tupE, slE, itE, itEn, cal_1, cal_2, cal_3, cal_4, cal_5, cal_6, cal_7, yesT, mulOk, List.map_cons, List.map_nil, List.length_cons, List.length_nil, List.getElem?_cons_zero, List.getElem?_cons_succ, List.set_cons_zero, List.set_cons_succ, List.replicate_succ, List.replicate_zero, List.cons_append, List.nil_append, List.append_nil, List.isEmpty_cons, List.isEmpty_nil, Nat.reduceAdd, Nat.reduceSub, Nat.reduceMul, Nat.reduceLeDiff, Nat.reduceEqDiff, Nat.zero_add, Nat.sub_zero, Nat.sub_self, Bool.not_true, Bool.not_false, Bool.true_and, Bool.false_and, Bool.and_true, Bool.and_false, Bool.true_or, Bool.false_or, Bool.or_true, Bool.or_false, Bool.false_eq_true, Bool.not_eq_true, Bool.not_eq_false, Bool.not_not, decide_eq_true_eq, decide_eq_false_iff_not, decide_true, decide_false, if_true, if_false, reduceIte, reduceCtorEq, Nat.zero_le, and_self, and_true, true_and, or_true, true_or, or_false, false_or, not_true_eq_false, not_false_eq_true, Int.reduceLT, Int.reduceLE, Int.reduceNeg, Int.reduceAdd, Int.reduceMul, Int.reduceSub, Int.reducePow, Int.reduceEq, Int.reduceToNat, Nat.reduceLT, Nat.reducePow, Int.cast_ofNat_Int, isi_non_int, isi_non_bool, isi_non_str, isi_non_tuple, isi_non_list, isi_non_dict, isi_non_tuple_list, isi_non_list_tuple, isi_bl_int, isi_bl_bool, isi_bl_str, isi_bl_tuple, isi_bl_list, isi_bl_dict, isi_bl_tuple_list, isi_bl_list_tuple, isi_int_int, isi_int_bool, isi_int_str, isi_int_tuple, isi_int_list, isi_int_dict, isi_int_tuple_list, isi_int_list_tuple, isi_str_int, isi_str_bool, isi_str_str, isi_str_tuple, isi_str_list, isi_str_dict, isi_str_tuple_list, isi_str_list_tuple, isi_tup_int, isi_tup_bool, isi_tup_str, isi_tup_tuple, isi_tup_list, isi_tup_dict, isi_tup_tuple_list, isi_tup_list_tuple, isi_lst_int, isi_lst_bool, isi_lst_str, isi_lst_tuple, isi_lst_list, isi_lst_dict, isi_lst_tuple_list, isi_lst_list_tuple, isi_frz_int, isi_frz_bool, isi_frz_str, isi_frz_tuple, isi_frz_list, isi_frz_dict, isi_frz_tuple_list, isi_frz_list_tuple, tru_bl, tru_int, tru_non, tru_tup, len_tup, ix_tup, tru_lst, len_lst, ix_lst, tru_frz, len_frz, ix_frz, sl_lst, sl_frz, sl_tup, asInt_int, at0, at1, at2, at3, at4, add_int, add_tup, add_str, add_lst, addC_lst, repC_lst, sub_int, mul_int, mul_lst, mul_tup, div_int, mod_int, pow_int, neg_int, not_bl, lt_int, le_int, gt_int, ge_int, eq_int, eq_str, eq_bl, eq_non, eq_int_non, eq_non_int, eq_str_non, eq_non_str, eq_bl_non, eq_non_bl, ne_int, ne_str, ne_bl, ne_non, ne_int_non, ne_non_int, ne_str_non, ne_non_str, ne_bl_non, ne_non_bl, isNone_non, isNone_int, isNone_str, isNone_bl, isNone_tup, isNone_lst, isNone_frz, max2_int, min2_int, abs_int, int_int, int_bl, still_tup, list_tup, tuple_tup, listC_tup, sv_tup, still_lst, list_lst, tuple_lst, listC_lst, sv_lst, still_frz, list_frz, tuple_frz, listC_frz, sv_frz, r1_int, r2_int, r3_int, tg_name, tg_tup, setAll_cons, setAll_nil, mtE, g1_one, g2_two, mkL_0, mkT_0, mkC_0, mkL_1, mkT_1, mkC_1, mkL_2, mkT_2, mkC_2, mkL_3, mkT_3, mkC_3, mkL_4, mkT_4, mkC_4, bnd_S, ret_S, lineN_eq2, wipe_nil, wipe_cons, e0]
  refine Eq.trans (seq_nx ((for_ok (ds := (List.range 3).map fun i => D.int (i : Nat)) (S' := S0) rfl).trans e5)) ?_
  rfl
end F

set_option linter.all false
set_option maxRecDepth 100000
set_option maxHeartbeats 4000000
set_option Elab.async false
namespace F
open PySem PySem.Spec PyProof.Rows L2
def top (i : Nat) : Stmt := PySem.Challenge.pw_eatersheet_k11_whole_least_waste.main.body.getD i (.Pass ⟨0, 0, 0, 0⟩)
def clsB (s : Stmt) (j : Nat) : Stmt := match s with
  | .ClassDef (body := b) .. => b.getD j (.Pass ⟨0, 0, 0, 0⟩)
  | s => s
abbrev FnP (K : PySem.W.Frag) (x q : Str) (st : Stmt) (f : Addr) (fd : FuncData) : Prop := FunD K x q (defArgs st) (defBody st) (defScope st) [] [] f fd
structure Gs (K : PySem.W.Frag) (mg : Str → Option Value) : Prop where
  f_abs : mg "abs" = none
  f_all : mg "all" = none
  f_bool : mg "bool" = none
  f_dict : mg "dict" = none
  f_enumerate : mg "enumerate" = none
  f_int : mg "int" = none
  f_isinstance : mg "isinstance" = none
  f_len : mg "len" = none
  f_list : mg "list" = none
  f_max : mg "max" = none
  f_range : mg "range" = none
  f_set : mg "set" = none
  f_str : mg "str" = none
  f_sum : mg "sum" = none
  f_tuple : mg "tuple" = none
  c_EATERS : ∃ t, mg "EATERS" = some (.str "eaters" t)
  c_LETTERS : ∃ t, mg "LETTERS" = some (.str "abcdefghijklmnopqrstuvwxyz" t)
  c_MOST_BOTTOM : ∃ t, mg "MOST_BOTTOM" = some (.int 4 t)
  c_MOST_BOUND : ∃ t, mg "MOST_BOUND" = some (.int 10000 t)
  c_MOST_FIXED : ∃ t, mg "MOST_FIXED" = some (.int 60 t)
  c_MOST_LETTERS : ∃ t, mg "MOST_LETTERS" = some (.int 8 t)
  c_MOST_ROWS : ∃ t, mg "MOST_ROWS" = some (.int 5 t)
  c_MOST_TOP : ∃ t, mg "MOST_TOP" = some (.int 9 t)
  c_NOTHING : GTup ⟨K, mg⟩ "NOTHING" [(.int 0), (.int 1)]
  c_UNITS : GTup ⟨K, mg⟩ "UNITS" [(.int 1), (.int 2), (.int 3), (.int 4), (.int 6), (.int 12)]
  c_WAYS : GTup ⟨K, mg⟩ "WAYS" [(.str "up"), (.str "down"), (.str "near")]
  a_Recipe_table : ClsF K mg "Recipe" "table"
section
variable {P : Program} {w : World} {K : PySem.W.Frag} {mg : Str → Option Value} {base : Heap}
abbrev s__law_mix : Stmt := top 38
abbrev N__law_mix : List Str := ["_law_script", "_law_seed", "_law_state", "_law_cell"]
theorem sc__law_mix : FnScope N__law_mix ["_law_script", "_law_seed"] (defScope s__law_mix) := ⟨rfl, rfl, rfl, by decide +kernel, rfl, by decide +kernel, by decide +kernel⟩
theorem ok__law_mix (G : Gs K mg) {f : Addr} {fd : FuncData} (F : FnP K "_law_mix" "_law_mix" s__law_mix f fd) (hm : mg "_law_mix" = some (.ref f)) : DefOk P w K mg base "_law_mix" 1 2 (runB b__law_mix 4) := by
  refine def_ok2 F sc__law_mix hm (F.bindsN fun _ _ _ _ _ _ us hl => match us, hl with | [_, _], _ => rfl) fun cdv A outer s H E hr tk hp => ?_
  exact (fss_cons (fs_set 2 sc__law_mix.nd (fe_var 1))
  (fss_cons (fs_for hp rfl (fi_seq (fe_var 0)) (fg_name 3 sc__law_mix.nd) (fss_one (fs_set 2 sc__law_mix.nd (fe_mod (fe_callT call_int1 ca_int G.f_int (fa_cons (fe_add (fe_add (fe_mul (fe_var 2) fe_int) (fe_mod (fe_callT call_int1 ca_int G.f_int (fa_cons (fe_var 3) fa_nil)) fe_int)) fe_int) fa_nil)) fe_int))))
  (fss_one (fs_ret (fe_cel (fa_cons (fe_var 2) (fa_cons (fe_callT call_list_of ca_listC G.f_list (fa_cons (fe_var 0) fa_nil)) (fa_cons fe_int fa_nil))))))))

abbrev s__law_next : Stmt := top 39
abbrev N__law_next : List Str := ["_law_h", "_law_cap", "_law_cell"]
theorem sc__law_next : FnScope N__law_next ["_law_h", "_law_cap"] (defScope s__law_next) := ⟨rfl, rfl, rfl, by decide +kernel, rfl, by decide +kernel, by decide +kernel⟩
theorem ok__law_next (G : Gs K mg) {f : Addr} {fd : FuncData} (F : FnP K "_law_next" "_law_next" s__law_next f fd) (hm : mg "_law_next" = some (.ref f)) : DefOk P w K mg base "_law_next" 1 2 (runB b__law_next 3) := by
  refine def_ok2 F sc__law_next hm (F.bindsN fun _ _ _ _ _ _ us hl => match us, hl with | [_, _], _ => rfl) fun cdv A outer s H E hr tk hp => ?_
  exact (fss_cons (fs_set 2 sc__law_next.nd (fe_ix (fe_add (fe_ix (fe_var 0) fe_int) (fe_lst (fa_cons fe_int fa_nil))) (fe_mod (fe_callT call_int1 ca_int G.f_int (fa_cons (fe_ix (fe_var 0) fe_int) fa_nil)) (fe_callB (call_max2 rfl) ca_max2 G.f_max (fa_cons fe_int (fa_cons (fe_len (fa_cons (fe_ix (fe_var 0) fe_int) fa_nil) G.f_len) fa_nil))))))
  (fss_cons (fs_if (ft_cm cm_ge (fe_var 2) (fe_pow fe_int fe_int)) (fss_cons (fs_setit (fe_div (fe_var 2) (fe_var 1)) (fe_ix (fe_var 0) fe_int) (fe_mod (fe_callT call_int1 ca_int G.f_int (fa_cons (fe_ix (fe_var 0) fe_int) fa_nil)) (fe_len (fa_cons (fe_ix (fe_var 0) fe_int) fa_nil) G.f_len)))
  (fss_one (fs_ret (fe_mod (fe_callT call_int1 ca_int G.f_int (fa_cons (fe_var 2) fa_nil)) (fe_var 1))))) fss_nil)
  (fss_cons (fs_setit (fe_mod (fe_callT call_int1 ca_int G.f_int (fa_cons (fe_add (fe_add (fe_mul (fe_ix (fe_var 0) fe_int) fe_int) (fe_mul (fe_var 2) fe_int)) fe_int) fa_nil)) fe_int) (fe_var 0) fe_int)
  (fss_cons (fs_setit (fe_add (fe_ix (fe_var 0) fe_int) fe_int) (fe_var 0) fe_int)
  (fss_one (fs_ret (fe_mod (fe_callT call_int1 ca_int G.f_int (fa_cons (fe_div (fe_ix (fe_var 0) fe_int) fe_int) fa_nil)) (fe_var 1))))))))

abbrev s__law_pick : Stmt := top 41
abbrev N__law_pick : List Str := ["_law_h", "_law_things"]
theorem sc__law_pick : FnScope N__law_pick ["_law_h", "_law_things"] (defScope s__law_pick) := ⟨rfl, rfl, rfl, by decide +kernel, rfl, by decide +kernel, by decide +kernel⟩
theorem ok__law_pick (G : Gs K mg) {f : Addr} {fd : FuncData} (F : FnP K "_law_pick" "_law_pick" s__law_pick f fd) (hm : mg "_law_pick" = some (.ref f)) (C__law_next : DefOk P w K mg base "_law_next" 1 2 g__law_next) : DefOk P w K mg base "_law_pick" 2 2 (runB b__law_pick 2) := by
  refine def_ok2 F sc__law_pick hm (F.bindsN fun _ _ _ _ _ _ us hl => match us, hl with | [_, _], _ => rfl) fun cdv A outer s H E hr tk hp => ?_
  exact (fss_one (fs_ret (fe_ix (fe_var 1) (fe_cal C__law_next (hr.mono (by decide)) tk (fa_cons (fe_var 0) (fa_cons (fe_len (fa_cons (fe_var 1) fa_nil) G.f_len) fa_nil))))))

abbrev s__law_base : Stmt := top 42
abbrev N__law_base : List Str := ["_law_h", "_law_rows_here", "_law_names", "_law_at_here", "_law_row"]
theorem sc__law_base : FnScope N__law_base ["_law_h", "_law_rows_here"] (defScope s__law_base) := ⟨rfl, rfl, rfl, by decide +kernel, rfl, by decide +kernel, by decide +kernel⟩
theorem ok__law_base (G : Gs K mg) {f : Addr} {fd : FuncData} (F : FnP K "_law_base" "_law_base" s__law_base f fd) (hm : mg "_law_base" = some (.ref f)) (C__law_next : DefOk P w K mg base "_law_next" 1 2 g__law_next) : DefOk P w K mg base "_law_base" 2 2 (runB b__law_base 5) := by
  refine def_ok2 F sc__law_base hm (F.bindsN fun _ _ _ _ _ _ us hl => match us, hl with | [_, _], _ => rfl) fun cdv A outer s H E hr tk hp => ?_
  exact (fss_cons (fs_setLc (i := 2) (own := [("_law_row", 4)]) rfl sc__law_base.nd (fi_seq (fe_var 1)) (by exact (show BlkOk N__law_base (defScope s__law_base) _ [("_law_row", 4)] from blkOk_by (by decide +kernel))) (by decide) (fun _ _ _ _ _ => (fg_name 4 sc__law_base.nd)) (fun _ _ _ _ _ => (fts_one (ft_cm (cm_eq hr.units) (fe_ix (fe_var 4) fe_int) (fe_tup fa_nil)))) (fun _ _ _ _ _ => (fe_ix (fe_var 4) fe_int)))
  (fss_cons (fs_if (ft_w (fw_or (ft_cm (cm_eq hr.units) (fe_var 2) (fe_lst fa_nil)) (fw_or1 (ft_cm (cm_eq hr.units) (fe_cal C__law_next (hr.mono (by decide)) tk (fa_cons (fe_var 0) (fa_cons fe_int fa_nil))) fe_int)))) (fss_one (fs_ret (fe_tup fa_nil))) fss_nil)
  (fss_cons (fs_set 3 sc__law_base.nd (fe_cal C__law_next (hr.mono (by decide)) tk (fa_cons (fe_var 0) (fa_cons (fe_len (fa_cons (fe_var 2) fa_nil) G.f_len) fa_nil))))
  (fss_one (fs_ret (fe_callT call_tuple_of ca_tuple G.f_tuple (fa_cons (fe_slice (fe_add (fe_slice (fe_var 2) (FO.some (fe_var 3)) FO.none) (fe_slice (fe_var 2) FO.none (FO.some (fe_var 3)))) FO.none (FO.some (fe_add fe_int (fe_cal C__law_next (hr.mono (by decide)) tk (fa_cons (fe_var 0) (fa_cons (fe_len (fa_cons (fe_var 2) fa_nil) G.f_len) fa_nil)))))) fa_nil)))))))

abbrev s__law_rows : Stmt := top 43
abbrev N__law_rows : List Str := ["_law_h", "_law_calm", "_law_at_here", "_law_names", "_law_k", "_law_rows_here", "_law_menu", "_law_bottom", "_law_fixed", "_law_way", "_law_unit", "_law_least", "_law_row", "_law_base_here", "_law_top"]
theorem sc__law_rows : FnScope N__law_rows ["_law_h", "_law_calm"] (defScope s__law_rows) := ⟨rfl, rfl, rfl, by decide +kernel, rfl, by decide +kernel, by decide +kernel⟩
theorem ok__law_rows (G : Gs K mg) {f : Addr} {fd : FuncData} (F : FnP K "_law_rows" "_law_rows" s__law_rows f fd) (hm : mg "_law_rows" = some (.ref f)) (C__law_next : DefOk P w K mg base "_law_next" 1 2 g__law_next) (C__law_pick : DefOk P w K mg base "_law_pick" 2 2 g__law_pick) (C__law_base : DefOk P w K mg base "_law_base" 2 2 g__law_base) : DefOk P w K mg base "_law_rows" 3 2 (runB b__law_rows 15) := by
  refine def_ok2 F sc__law_rows hm (F.bindsN fun _ _ _ _ _ _ us hl => match us, hl with | [_, _], _ => rfl) fun cdv A outer s H E hr tk hp => ?_
  exact (fss_cons (fs_par (i := 6) (j := 5) sc__law_rows.nd (fa_cons (fe_lst (fa_cons fe_str (fa_cons fe_str (fa_cons fe_str (fa_cons fe_str (fa_cons fe_str (fa_cons fe_str (fa_cons fe_str fa_nil)))))))) (fa_cons (fe_tup fa_nil) fa_nil)))
  (fss_cons (fs_set 2 sc__law_rows.nd (fe_cal C__law_next (hr.mono (by decide)) tk (fa_cons (fe_var 0) (fa_cons (fe_len (fa_cons (fe_var 6) fa_nil) G.f_len) fa_nil))))
  (fss_cons (fs_set 3 sc__law_rows.nd (fe_add (fe_slice (fe_var 6) (FO.some (fe_var 2)) FO.none) (fe_slice (fe_var 6) FO.none (FO.some (fe_var 2)))))
  (fss_cons (fs_for hp rfl (fi_range1 G.f_range (fa_cons (fe_add fe_int (fe_cal C__law_next (hr.mono (by decide)) tk (fa_cons (fe_var 0) (fa_cons (fe_if (ft_tru (fe_var 1)) fe_int fe_int) fa_nil)))) fa_nil)) (fg_name 4 sc__law_rows.nd) (fss_cons (fs_par (i := 13) (j := 14) sc__law_rows.nd (fa_cons (fe_cal C__law_base (hr.mono (by decide)) tk (fa_cons (fe_var 0) (fa_cons (fe_var 5) fa_nil))) (fa_cons (fe_cal C__law_pick (hr.mono (by decide)) tk (fa_cons (fe_var 0) (fa_cons (fe_lst (fa_cons fe_int (fa_cons fe_int (fa_cons fe_int (fa_cons fe_int (fa_cons fe_int (fa_cons fe_int (fa_cons (fe_cal C__law_next (hr.mono (by decide)) tk (fa_cons (fe_var 0) (fa_cons fe_int fa_nil))) fa_nil)))))))) fa_nil))) fa_nil)))
  (fss_cons (fs_set 7 sc__law_rows.nd (fe_add fe_int (fe_cal C__law_next (hr.mono (by decide)) tk (fa_cons (fe_var 0) (fa_cons (fe_if (ft_tru (fe_var 1)) fe_int fe_int) fa_nil)))))
  (fss_cons (fs_set 8 sc__law_rows.nd (fe_cal C__law_pick (hr.mono (by decide)) tk (fa_cons (fe_var 0) (fa_cons (fe_lst (fa_cons fe_int (fa_cons fe_int (fa_cons (fe_cal C__law_next (hr.mono (by decide)) tk (fa_cons (fe_var 0) (fa_cons (fe_if (ft_tru (fe_var 1)) fe_int fe_int) fa_nil))) fa_nil)))) fa_nil))))
  (fss_cons (fs_set 9 sc__law_rows.nd (fe_cal C__law_pick (hr.mono (by decide)) tk (fa_cons (fe_var 0) (fa_cons (fe_lst (fa_cons fe_str (fa_cons fe_str (fa_cons fe_str fa_nil)))) fa_nil))))
  (fss_cons (fs_set 10 sc__law_rows.nd (fe_cal C__law_pick (hr.mono (by decide)) tk (fa_cons (fe_var 0) (fa_cons (fe_if (ft_tru (fe_var 1)) (fe_lst (fa_cons fe_int (fa_cons fe_int (fa_cons fe_int (fa_cons fe_int fa_nil))))) (fe_lst (fa_cons fe_int (fa_cons fe_int (fa_cons fe_int (fa_cons fe_int (fa_cons fe_int (fa_cons fe_int fa_nil)))))))) fa_nil))))
  (fss_cons (fs_set 11 sc__law_rows.nd (fe_cal C__law_pick (hr.mono (by decide)) tk (fa_cons (fe_var 0) (fa_cons (fe_lst (fa_cons fe_int (fa_cons fe_int (fa_cons (fe_cal C__law_next (hr.mono (by decide)) tk (fa_cons (fe_var 0) (fa_cons (fe_if (ft_tru (fe_var 1)) fe_int fe_int) fa_nil))) fa_nil)))) fa_nil))))
  (fss_cons (fs_set 12 sc__law_rows.nd (fe_tup (fa_cons (fe_ix (fe_var 3) (fe_var 4)) (fa_cons (fe_var 13) (fa_cons (fe_var 14) (fa_cons (fe_var 7) (fa_cons (fe_var 8) (fa_cons (fe_var 9) (fa_cons (fe_var 10) (fa_cons (fe_var 11) fa_nil))))))))))
  (fss_one (fs_set 5 sc__law_rows.nd (fe_add (fe_var 5) (fe_tup (fa_cons (fe_var 12) fa_nil)))))))))))))
  (fss_one (fs_ret (fe_var 5)))))))

abbrev s__law_alike : Stmt := top 40
abbrev N__law_alike : List Str := ["_law_found", "_law_due_here", "_law_k"]
theorem sc__law_alike : FnScope N__law_alike ["_law_found", "_law_due_here"] (defScope s__law_alike) := ⟨rfl, rfl, rfl, by decide +kernel, rfl, by decide +kernel, by decide +kernel⟩
theorem ok__law_alike (G : Gs K mg) {f : Addr} {fd : FuncData} (F : FnP K "_law_alike" "_law_alike" s__law_alike f fd) (hm : mg "_law_alike" = some (.ref f)) {r : List D → M D} {k : Nat} (hk : 0 ≤ k) (C__law_alike : DefOk P w K mg base "_law_alike" k 2 r) : DefOk P w K mg base "_law_alike" (k + 1) 2 (runB (b__law_alike r) 3) := by
  refine def_ok2 F sc__law_alike hm (F.bindsN fun _ _ _ _ _ _ us hl => match us, hl with | [_, _], _ => rfl) fun cdv A outer s H E hr tk hp => ?_
  exact (fss_cons (fs_if (ft_tru (fe_callB callR_isi ca_isi G.f_isinstance (fa_cons (fe_var 1) (fa_cons (fe_con (pe_bltn (v := .ty "dict") (by rfl) G.f_dict (by decide +kernel) rfl) (fun _ => rfl)) fa_nil)))) (fss_one (fs_ret (fe_and (fe_callB callR_isi ca_isi G.f_isinstance (fa_cons (fe_var 0) (fa_cons (fe_con (pe_bltn (v := .ty "dict") (by rfl) G.f_dict (by decide +kernel) rfl) (fun _ => rfl)) fa_nil))) (fe_and (fe_cal C__law_alike hr tk (fa_cons (fe_callT call_list_of ca_list G.f_list (fa_cons (fe_var 0) fa_nil)) (fa_cons (fe_callT call_list_of ca_list G.f_list (fa_cons (fe_var 1) fa_nil)) fa_nil))) (fe_one (fe_cm (cm_eq hr.units) (fe_var 0) (fe_var 1))))))) fss_nil)
  (fss_cons (fs_if (ft_tru (fe_callB callR_isi ca_isi G.f_isinstance (fa_cons (fe_var 1) (fa_cons (fe_tup (fa_cons (fe_con (pe_bltn (v := .ty "tuple") (by rfl) G.f_tuple (by decide +kernel) rfl) (fun _ => rfl)) (fa_cons (fe_con (pe_bltn (v := .ty "list") (by rfl) G.f_list (by decide +kernel) rfl) (fun _ => rfl)) fa_nil))) fa_nil)))) (fss_cons (fs_if (ft_w (fw_or (ft_not (ft_tru (fe_callB callR_isi ca_isi G.f_isinstance (fa_cons (fe_var 0) (fa_cons (fe_tup (fa_cons (fe_con (pe_bltn (v := .ty "tuple") (by rfl) G.f_tuple (by decide +kernel) rfl) (fun _ => rfl)) (fa_cons (fe_con (pe_bltn (v := .ty "list") (by rfl) G.f_list (by decide +kernel) rfl) (fun _ => rfl)) fa_nil))) fa_nil))))) (fw_or1 (ft_cm (cm_ne hr.units) (fe_callB callR_isi ca_isi G.f_isinstance (fa_cons (fe_var 0) (fa_cons (fe_con (pe_bltn (v := .ty "list") (by rfl) G.f_list (by decide +kernel) rfl) (fun _ => rfl)) fa_nil))) (fe_callB callR_isi ca_isi G.f_isinstance (fa_cons (fe_var 1) (fa_cons (fe_con (pe_bltn (v := .ty "list") (by rfl) G.f_list (by decide +kernel) rfl) (fun _ => rfl)) fa_nil))))))) (fss_one (fs_ret fe_bl)) fss_nil)
  (fss_cons (fs_if (ft_cm (cm_ne hr.units) (fe_len (fa_cons (fe_var 0) fa_nil) G.f_len) (fe_len (fa_cons (fe_var 1) fa_nil) G.f_len)) (fss_one (fs_ret fe_bl)) fss_nil)
  (fss_one (fs_ret (fe_cm (cm_eq hr.units) (fe_lc (own := [("_law_k", 2)]) rfl sc__law_alike.nd (fi_range1 G.f_range (fa_cons (fe_len (fa_cons (fe_var 1) fa_nil) G.f_len) fa_nil)) (by exact (show BlkOk N__law_alike (defScope s__law_alike) _ [("_law_k", 2)] from blkOk_by (by decide +kernel))) (by decide) (fun _ _ _ _ _ => (fg_name 2 sc__law_alike.nd)) (fun _ _ _ _ _ => (fts_one (ft_not (ft_tru (fe_cal C__law_alike hr takes0 (fa_cons (fe_ix (fe_var 0) (fe_var 2)) (fa_cons (fe_ix (fe_var 1) (fe_var 2)) fa_nil))))))) (fun _ _ _ _ _ => (fe_var 2))) (fe_lst fa_nil)))))) fss_nil)
  (fss_cons (fs_if (ft_w (fw_or (ft_cm cm_is (fe_var 1) fe_non) (fw_or1 (ft_tru (fe_callB callR_isi ca_isi G.f_isinstance (fa_cons (fe_var 1) (fa_cons (fe_con (pe_bltn (v := .ty "str") (by rfl) G.f_str (by decide +kernel) rfl) (fun _ => rfl)) fa_nil))))))) (fss_one (fs_ret (fe_and (fe_cm (cm_eq hr.units) (fe_var 0) (fe_var 1)) (fe_one (fe_cm (cm_eq hr.units) (fe_callB callR_isi ca_isi G.f_isinstance (fa_cons (fe_var 0) (fa_cons (fe_con (pe_bltn (v := .ty "str") (by rfl) G.f_str (by decide +kernel) rfl) (fun _ => rfl)) fa_nil))) (fe_callB callR_isi ca_isi G.f_isinstance (fa_cons (fe_var 1) (fa_cons (fe_con (pe_bltn (v := .ty "str") (by rfl) G.f_str (by decide +kernel) rfl) (fun _ => rfl)) fa_nil)))))))) fss_nil)
  (fss_one (fs_ret (fe_and (fe_callB callR_isi ca_isi G.f_isinstance (fa_cons (fe_var 0) (fa_cons (fe_con (pe_bltn (v := .ty "int") (by rfl) G.f_int (by decide +kernel) rfl) (fun _ => rfl)) fa_nil))) (fe_and (fe_cm (cm_eq hr.units) (fe_callB callR_isi ca_isi G.f_isinstance (fa_cons (fe_var 0) (fa_cons (fe_con (pe_bltn (v := .ty "bool") (by rfl) G.f_bool (by decide +kernel) rfl) (fun _ => rfl)) fa_nil))) (fe_callB callR_isi ca_isi G.f_isinstance (fa_cons (fe_var 1) (fa_cons (fe_con (pe_bltn (v := .ty "bool") (by rfl) G.f_bool (by decide +kernel) rfl) (fun _ => rfl)) fa_nil)))) (fe_one (fe_cm (cm_eq hr.units) (fe_var 0) (fe_var 1))))))))))

abbrev s_is_integer : Stmt := top 21
abbrev N_is_integer : List Str := ["thing", "low", "high"]
theorem sc_is_integer : FnScope N_is_integer ["thing", "low", "high"] (defScope s_is_integer) := ⟨rfl, rfl, rfl, by decide +kernel, rfl, by decide +kernel, by decide +kernel⟩
theorem ok_is_integer (G : Gs K mg) {f : Addr} {fd : FuncData} (F : FnP K "is_integer" "is_integer" s_is_integer f fd) (hm : mg "is_integer" = some (.ref f)) : DefOk P w K mg base "is_integer" 1 3 (runB b_is_integer 3) := by
  refine def_ok2 F sc_is_integer hm (F.bindsN fun _ _ _ _ _ _ us hl => match us, hl with | [_, _, _], _ => rfl) fun cdv A outer s H E hr tk hp => ?_
  exact (fss_one (fs_ret (fe_and (fe_callB callR_isi ca_isi G.f_isinstance (fa_cons (fe_var 0) (fa_cons (fe_con (pe_bltn (v := .ty "int") (by rfl) G.f_int (by decide +kernel) rfl) (fun _ => rfl)) fa_nil))) (fe_and (fe_not (fe_callB callR_isi ca_isi G.f_isinstance (fa_cons (fe_var 0) (fa_cons (fe_con (pe_bltn (v := .ty "bool") (by rfl) G.f_bool (by decide +kernel) rfl) (fun _ => rfl)) fa_nil)))) (fe_one (fe_chain cm_le cm_le (fe_var 1) (fe_var 0) (fe_var 2)))))))

abbrev s_divisor : Stmt := top 7
abbrev N_divisor : List Str := ["one", "other"]
theorem sc_divisor : FnScope N_divisor ["one", "other"] (defScope s_divisor) := ⟨rfl, rfl, rfl, by decide +kernel, rfl, by decide +kernel, by decide +kernel⟩
theorem ok_divisor (G : Gs K mg) {f : Addr} {fd : FuncData} (F : FnP K "divisor" "divisor" s_divisor f fd) (hm : mg "divisor" = some (.ref f)) : DefOk P w K mg base "divisor" 1 2 (runB b_divisor 2) := by
  refine def_ok2 F sc_divisor hm (F.bindsN fun _ _ _ _ _ _ us hl => match us, hl with | [_, _], _ => rfl) fun cdv A outer s H E hr tk hp => ?_
  exact (fss_cons (fs_while FUEL hp (ft_cm cm_gt (fe_var 1) fe_int) (fss_one (fs_par (i := 0) (j := 1) sc_divisor.nd (fa_cons (fe_var 1) (fa_cons (fe_mod (fe_var 0) (fe_var 1)) fa_nil)))))
  (fss_one (fs_ret (fe_var 0))))

abbrev s_fraction : Stmt := top 8
abbrev N_fraction : List Str := ["top", "bottom", "part"]
theorem sc_fraction : FnScope N_fraction ["top", "bottom"] (defScope s_fraction) := ⟨rfl, rfl, rfl, by decide +kernel, rfl, by decide +kernel, by decide +kernel⟩
theorem ok_fraction (G : Gs K mg) {f : Addr} {fd : FuncData} (F : FnP K "fraction" "fraction" s_fraction f fd) (hm : mg "fraction" = some (.ref f)) (C_divisor : DefOk P w K mg base "divisor" 1 2 g_divisor) : DefOk P w K mg base "fraction" 2 2 (runB b_fraction 3) := by
  refine def_ok2 F sc_fraction hm (F.bindsN fun _ _ _ _ _ _ us hl => match us, hl with | [_, _], _ => rfl) fun cdv A outer s H E hr tk hp => ?_
  exact (fss_cons (fs_set 2 sc_fraction.nd (fe_cal C_divisor (hr.mono (by decide)) tk (fa_cons (fe_callB call_abs ca_abs G.f_abs (fa_cons (fe_var 0) fa_nil)) (fa_cons (fe_var 1) fa_nil))))
  (fss_one (fs_ret (fe_tup (fa_cons (fe_div (fe_var 0) (fe_var 2)) (fa_cons (fe_div (fe_var 1) (fe_var 2)) fa_nil))))))

abbrev s_rounded : Stmt := top 28
abbrev N_rounded : List Str := ["top", "bottom", "way", "unit", "whole"]
theorem sc_rounded : FnScope N_rounded ["top", "bottom", "way", "unit"] (defScope s_rounded) := ⟨rfl, rfl, rfl, by decide +kernel, rfl, by decide +kernel, by decide +kernel⟩
theorem ok_rounded (G : Gs K mg) {f : Addr} {fd : FuncData} (F : FnP K "rounded" "rounded" s_rounded f fd) (hm : mg "rounded" = some (.ref f)) : DefOk P w K mg base "rounded" 1 4 (runB b_rounded 5) := by
  refine def_ok2 F sc_rounded hm (F.bindsN fun _ _ _ _ _ _ us hl => match us, hl with | [_, _, _, _], _ => rfl) fun cdv A outer s H E hr tk hp => ?_
  exact (fss_cons (fs_set 4 sc_rounded.nd (fe_mul (fe_var 1) (fe_var 3)))
  (fss_cons (fs_if (ft_cm (cm_eq hr.units) (fe_var 2) fe_str) (fss_one (fs_ret (fe_mul (fe_div (fe_var 0) (fe_var 4)) (fe_var 3)))) fss_nil)
  (fss_cons (fs_if (ft_cm (cm_eq hr.units) (fe_var 2) fe_str) (fss_one (fs_ret (fe_mul (fe_div (fe_add (fe_mul fe_int (fe_var 0)) (fe_var 4)) (fe_mul fe_int (fe_var 4))) (fe_var 3)))) fss_nil)
  (fss_one (fs_ret (fe_mul (fe_neg (fe_div (fe_neg (fe_var 0)) (fe_var 4))) (fe_var 3)))))))

abbrev s_row_of : Stmt := top 26
abbrev N_row_of : List Str := ["recipe", "name", "row"]
theorem sc_row_of : FnScope N_row_of ["recipe", "name"] (defScope s_row_of) := ⟨rfl, rfl, rfl, by decide +kernel, rfl, by decide +kernel, by decide +kernel⟩
theorem ok_row_of (G : Gs K mg) {f : Addr} {fd : FuncData} (F : FnP K "row_of" "row_of" s_row_of f fd) (hm : mg "row_of" = some (.ref f)) : DefOk P w K mg base "row_of" 1 2 (runB b_row_of 3) := by
  refine def_ok2 F sc_row_of hm (F.bindsN fun _ _ _ _ _ _ us hl => match us, hl with | [_, _], _ => rfl) fun cdv A outer s H E hr tk hp => ?_
  exact (fss_cons (fs_if (ft_tru (fe_callB callR_isi ca_isi G.f_isinstance (fa_cons (fe_var 1) (fa_cons (fe_con (pe_bltn (v := .ty "str") (by rfl) G.f_str (by decide +kernel) rfl) (fun _ => rfl)) fa_nil)))) (fss_one (fs_for hp rfl (fi_seq (fe_fld G.a_Recipe_table (fe_var 0))) (fg_name 2 sc_row_of.nd) (fss_one (fs_if (ft_cm (cm_eq hr.units) (fe_ix (fe_var 2) fe_int) (fe_var 1)) (fss_one (fs_ret (fe_var 2))) fss_nil)))) fss_nil)
  (fss_one fs_never))

abbrev s_amount_by : Stmt := top 30
abbrev N_amount_by : List Str := ["recipe", "row", "eaters"]
theorem sc_amount_by : FnScope N_amount_by ["recipe", "row", "eaters"] (defScope s_amount_by) := ⟨rfl, rfl, rfl, by decide +kernel, rfl, by decide +kernel, by decide +kernel⟩
theorem ok_amount_by (G : Gs K mg) {f : Addr} {fd : FuncData} (F : FnP K "amount_by" "amount_by" s_amount_by f fd) (hm : mg "amount_by" = some (.ref f)) {r : List D → M D} {k : Nat} (hk : 1 ≤ k) (C_rounded : DefOk P w K mg base "rounded" 1 4 g_rounded) (C_due_parts : DefOk P w K mg base "due_parts" k 3 r) : DefOk P w K mg base "amount_by" (k + 1) 3 (runB (b_amount_by r) 3) := by
  refine def_ok2 F sc_amount_by hm (F.bindsN fun _ _ _ _ _ _ us hl => match us, hl with | [_, _, _], _ => rfl) fun cdv A outer s H E hr tk hp => ?_
  exact (fss_one (fs_ret (fe_callB (call_max2 rfl) ca_max2 G.f_max (fa_cons (fe_cal C_rounded (hr.mono (Nat.le_trans (by decide) hk)) tk (fa_cons (fe_cal C_due_parts hr tk (fa_cons (fe_var 0) (fa_cons (fe_var 1) (fa_cons (fe_var 2) fa_nil)))) (fa_cons (fe_ix (fe_var 1) fe_int) (fa_cons (fe_ix (fe_var 1) fe_int) (fa_cons (fe_ix (fe_var 1) fe_int) fa_nil))))) (fa_cons (fe_ix (fe_var 1) fe_int) fa_nil)))))

abbrev s_due_parts : Stmt := top 29
abbrev N_due_parts : List Str := ["recipe", "row", "eaters", "number", "name"]
theorem sc_due_parts : FnScope N_due_parts ["recipe", "row", "eaters"] (defScope s_due_parts) := ⟨rfl, rfl, rfl, by decide +kernel, rfl, by decide +kernel, by decide +kernel⟩
theorem ok_due_parts (G : Gs K mg) {f : Addr} {fd : FuncData} (F : FnP K "due_parts" "due_parts" s_due_parts f fd) (hm : mg "due_parts" = some (.ref f)) {r : List D → M D} {k : Nat} (hk : 1 ≤ k) (C_amount_by : DefOk P w K mg base "amount_by" k 3 r) (C_row_of : DefOk P w K mg base "row_of" 1 2 g_row_of) : DefOk P w K mg base "due_parts" (k + 1) 3 (runB (b_due_parts r) 5) := by
  refine def_ok2 F sc_due_parts hm (F.bindsN fun _ _ _ _ _ _ us hl => match us, hl with | [_, _, _], _ => rfl) fun cdv A outer s H E hr tk hp => ?_
  exact (fss_cons (fs_set 3 sc_due_parts.nd (fe_var 2))
  (fss_cons (fs_if (ft_cm (cm_ne hr.units) (fe_ix (fe_var 1) fe_int) (fe_tup fa_nil)) (fss_one (fs_set 3 sc_due_parts.nd (fe_callB (cr_sum rfl) ca_sum G.f_sum (fa_cons (fe_lc (own := [("name", 4)]) rfl sc_due_parts.nd (fi_seq (fe_ix (fe_var 1) fe_int)) (by exact (show BlkOk N_due_parts (defScope s_due_parts) _ [("name", 4)] from blkOk_by (by decide +kernel))) (by decide) (fun _ _ _ _ _ => (fg_name 4 sc_due_parts.nd)) (fun _ _ _ _ _ => fts_nil) (fun _ _ _ _ _ => (fe_cal C_amount_by hr takes0 (fa_cons (fe_var 0) (fa_cons (fe_cal C_row_of (hr.mono (Nat.le_trans (by decide) hk)) takes0 (fa_cons (fe_var 0) (fa_cons (fe_var 4) fa_nil))) (fa_cons (fe_var 2) fa_nil)))))) fa_nil)))) fss_nil)
  (fss_one (fs_ret (fe_add (fe_mul (fe_ix (fe_var 1) fe_int) (fe_ix (fe_var 1) fe_int)) (fe_mul (fe_ix (fe_var 1) fe_int) (fe_var 3)))))))

abbrev s_over_by : Stmt := top 31
abbrev N_over_by : List Str := ["recipe", "row", "eaters"]
theorem sc_over_by : FnScope N_over_by ["recipe", "row", "eaters"] (defScope s_over_by) := ⟨rfl, rfl, rfl, by decide +kernel, rfl, by decide +kernel, by decide +kernel⟩
theorem ok_over_by (G : Gs K mg) {f : Addr} {fd : FuncData} (F : FnP K "over_by" "over_by" s_over_by f fd) (hm : mg "over_by" = some (.ref f)) (C_fraction : DefOk P w K mg base "fraction" 2 2 g_fraction) (C_amount_by : DefOk P w K mg base "amount_by" 17 3 g_amount_by) (C_due_parts : DefOk P w K mg base "due_parts" 18 3 g_due_parts) : DefOk P w K mg base "over_by" 19 3 (runB b_over_by 3) := by
  refine def_ok2 F sc_over_by hm (F.bindsN fun _ _ _ _ _ _ us hl => match us, hl with | [_, _, _], _ => rfl) fun cdv A outer s H E hr tk hp => ?_
  exact (fss_one (fs_ret (fe_cal C_fraction (hr.mono (by decide)) tk (fa_cons (fe_sub (fe_mul (fe_cal C_amount_by (hr.mono (by decide)) tk (fa_cons (fe_var 0) (fa_cons (fe_var 1) (fa_cons (fe_var 2) fa_nil)))) (fe_ix (fe_var 1) fe_int)) (fe_cal C_due_parts (hr.mono (by decide)) tk (fa_cons (fe_var 0) (fa_cons (fe_var 1) (fa_cons (fe_var 2) fa_nil))))) (fa_cons (fe_ix (fe_var 1) fe_int) fa_nil)))))

abbrev s_total : Stmt := top 9
abbrev N_total : List Str := ["one", "other"]
theorem sc_total : FnScope N_total ["one", "other"] (defScope s_total) := ⟨rfl, rfl, rfl, by decide +kernel, rfl, by decide +kernel, by decide +kernel⟩
theorem ok_total (G : Gs K mg) {f : Addr} {fd : FuncData} (F : FnP K "total" "total" s_total f fd) (hm : mg "total" = some (.ref f)) (C_fraction : DefOk P w K mg base "fraction" 2 2 g_fraction) : DefOk P w K mg base "total" 3 2 (runB b_total 2) := by
  refine def_ok2 F sc_total hm (F.bindsN fun _ _ _ _ _ _ us hl => match us, hl with | [_, _], _ => rfl) fun cdv A outer s H E hr tk hp => ?_
  exact (fss_one (fs_ret (fe_cal C_fraction (hr.mono (by decide)) tk (fa_cons (fe_add (fe_mul (fe_ix (fe_var 0) fe_int) (fe_ix (fe_var 1) fe_int)) (fe_mul (fe_ix (fe_var 1) fe_int) (fe_ix (fe_var 0) fe_int))) (fa_cons (fe_mul (fe_ix (fe_var 0) fe_int) (fe_ix (fe_var 1) fe_int)) fa_nil)))))

abbrev s_waste_of : Stmt := top 35
abbrev N_waste_of : List Str := ["recipe", "eaters", "found", "row", "here"]
theorem sc_waste_of : FnScope N_waste_of ["recipe", "eaters"] (defScope s_waste_of) := ⟨rfl, rfl, rfl, by decide +kernel, rfl, by decide +kernel, by decide +kernel⟩
theorem ok_waste_of (G : Gs K mg) {f : Addr} {fd : FuncData} (F : FnP K "waste_of" "waste_of" s_waste_of f fd) (hm : mg "waste_of" = some (.ref f)) (C_total : DefOk P w K mg base "total" 3 2 g_total) (C_over_by : DefOk P w K mg base "over_by" 19 3 g_over_by) : DefOk P w K mg base "waste_of" 20 2 (runB b_waste_of 5) := by
  refine def_ok2 F sc_waste_of hm (F.bindsN fun _ _ _ _ _ _ us hl => match us, hl with | [_, _], _ => rfl) fun cdv A outer s H E hr tk hp => ?_
  exact (fss_cons (fs_set 2 sc_waste_of.nd (fe_gtup G.c_NOTHING))
  (fss_cons (fs_for hp rfl (fi_seq (fe_fld G.a_Recipe_table (fe_var 0))) (fg_name 3 sc_waste_of.nd) (fss_cons (fs_set 4 sc_waste_of.nd (fe_cal C_over_by (hr.mono (by decide)) tk (fa_cons (fe_var 0) (fa_cons (fe_var 3) (fa_cons (fe_var 1) fa_nil)))))
  (fss_one (fs_if (ft_cm cm_gt (fe_ix (fe_var 4) fe_int) fe_int) (fss_one (fs_set 2 sc_waste_of.nd (fe_cal C_total (hr.mono (by decide)) tk (fa_cons (fe_var 2) (fa_cons (fe_var 4) fa_nil))))) fss_nil))))
  (fss_one (fs_ret (fe_var 2)))))

abbrev s_is_less : Stmt := top 10
abbrev N_is_less : List Str := ["one", "other"]
theorem sc_is_less : FnScope N_is_less ["one", "other"] (defScope s_is_less) := ⟨rfl, rfl, rfl, by decide +kernel, rfl, by decide +kernel, by decide +kernel⟩
theorem ok_is_less (G : Gs K mg) {f : Addr} {fd : FuncData} (F : FnP K "is_less" "is_less" s_is_less f fd) (hm : mg "is_less" = some (.ref f)) : DefOk P w K mg base "is_less" 1 2 (runB b_is_less 2) := by
  refine def_ok2 F sc_is_less hm (F.bindsN fun _ _ _ _ _ _ us hl => match us, hl with | [_, _], _ => rfl) fun cdv A outer s H E hr tk hp => ?_
  exact (fss_one (fs_ret (fe_cm cm_lt (fe_mul (fe_ix (fe_var 0) fe_int) (fe_ix (fe_var 1) fe_int)) (fe_mul (fe_ix (fe_var 1) fe_int) (fe_ix (fe_var 0) fe_int)))))

abbrev s_best : Stmt := top 36
abbrev N_best : List Str := ["recipe", "bound", "found", "eaters", "waste", "here"]
theorem sc_best : FnScope N_best ["recipe", "bound"] (defScope s_best) := ⟨rfl, rfl, rfl, by decide +kernel, rfl, by decide +kernel, by decide +kernel⟩
theorem ok_best (G : Gs K mg) {f : Addr} {fd : FuncData} (F : FnP K "best" "best" s_best f fd) (hm : mg "best" = some (.ref f)) (C_is_less : DefOk P w K mg base "is_less" 1 2 g_is_less) (C_fraction : DefOk P w K mg base "fraction" 2 2 g_fraction) (C_waste_of : DefOk P w K mg base "waste_of" 20 2 g_waste_of) (C_is_integer : DefOk P w K mg base "is_integer" 1 3 g_is_integer) : DefOk P w K mg base "best" 21 2 (runB b_best 6) := by
  refine def_ok2 F sc_best hm (F.bindsN fun _ _ _ _ _ _ us hl => match us, hl with | [_, _], _ => rfl) fun cdv A outer s H E hr tk hp => ?_
  exact (fss_cons (fs_if (ft_not (ft_tru (fe_cal C_is_integer (hr.mono (by decide)) tk (fa_cons (fe_var 1) (fa_cons fe_int (fa_cons (fe_gint G.c_MOST_BOUND) fa_nil)))))) (fss_one fs_never) fss_nil)
  (fss_cons (fs_set 2 sc_best.nd (fe_tup (fa_cons fe_int (fa_cons (fe_cal C_waste_of (hr.mono (by decide)) tk (fa_cons (fe_var 0) (fa_cons fe_int fa_nil))) fa_nil))))
  (fss_cons (fs_for hp rfl (fi_range2 G.f_range (fa_cons fe_int (fa_cons (fe_add (fe_var 1) fe_int) fa_nil))) (fg_name 3 sc_best.nd) (fss_cons (fs_set 4 sc_best.nd (fe_cal C_waste_of (hr.mono (by decide)) tk (fa_cons (fe_var 0) (fa_cons (fe_var 3) fa_nil))))
  (fss_cons (fs_set 5 sc_best.nd (fe_cal C_fraction (hr.mono (by decide)) tk (fa_cons (fe_ix (fe_var 4) fe_int) (fa_cons (fe_mul (fe_ix (fe_var 4) fe_int) (fe_var 3)) fa_nil))))
  (fss_one (fs_if (ft_tru (fe_cal C_is_less (hr.mono (by decide)) tk (fa_cons (fe_var 5) (fa_cons (fe_ix (fe_var 2) fe_int) fa_nil)))) (fss_one (fs_set 2 sc_best.nd (fe_tup (fa_cons (fe_var 3) (fa_cons (fe_var 5) fa_nil))))) fss_nil)))))
  (fss_one (fs_ret (fe_var 2))))))

abbrev s_is_name : Stmt := top 22
abbrev N_is_name : List Str := ["thing", "letter"]
theorem sc_is_name : FnScope N_is_name ["thing"] (defScope s_is_name) := ⟨rfl, rfl, rfl, by decide +kernel, rfl, by decide +kernel, by decide +kernel⟩
theorem ok_is_name (G : Gs K mg) {f : Addr} {fd : FuncData} (F : FnP K "is_name" "is_name" s_is_name f fd) (hm : mg "is_name" = some (.ref f)) : DefOk P w K mg base "is_name" 1 1 (runB b_is_name 2) := by
  refine def_ok2 F sc_is_name hm (F.bindsN fun _ _ _ _ _ _ us hl => match us, hl with | [_], _ => rfl) fun cdv A outer s H E hr tk hp => ?_
  exact (fss_cons (fs_if (ft_w (fw_or (ft_not (ft_tru (fe_callB callR_isi ca_isi G.f_isinstance (fa_cons (fe_var 0) (fa_cons (fe_con (pe_bltn (v := .ty "str") (by rfl) G.f_str (by decide +kernel) rfl) (fun _ => rfl)) fa_nil))))) (fw_or (ft_not (ft_chain cm_le cm_le fe_int (fe_len (fa_cons (fe_var 0) fa_nil) G.f_len) (fe_gint G.c_MOST_LETTERS))) (fw_or1 (ft_cm (cm_eq hr.units) (fe_var 0) (fe_gstr G.c_EATERS)))))) (fss_one (fs_ret fe_bl)) fss_nil)
  (fss_one (fs_ret (fe_callB (cr_all rfl) ca_all G.f_all (fa_cons (fe_lc (own := [("letter", 1)]) rfl sc_is_name.nd (fi_seq (fe_var 0)) (by exact (show BlkOk N_is_name (defScope s_is_name) _ [("letter", 1)] from blkOk_by (by decide +kernel))) (by decide) (fun _ _ _ _ _ => (fg_name 1 sc_is_name.nd)) (fun _ _ _ _ _ => fts_nil) (fun _ _ _ _ _ => (fe_cm (cm_in (u65 hr)) (fe_var 1) (fe_gstr G.c_LETTERS)))) fa_nil)))))

abbrev s_is_base : Stmt := top 23
abbrev N_is_base : List Str := ["thing", "rows", "names", "row", "name"]
theorem sc_is_base : FnScope N_is_base ["thing", "rows"] (defScope s_is_base) := ⟨rfl, rfl, rfl, by decide +kernel, rfl, by decide +kernel, by decide +kernel⟩
theorem ok_is_base (G : Gs K mg) {f : Addr} {fd : FuncData} (F : FnP K "is_base" "is_base" s_is_base f fd) (hm : mg "is_base" = some (.ref f)) : DefOk P w K mg base "is_base" 1 2 (runB b_is_base 5) := by
  refine def_ok2 F sc_is_base hm (F.bindsN fun _ _ _ _ _ _ us hl => match us, hl with | [_, _], _ => rfl) fun cdv A outer s H E hr tk hp => ?_
  exact (fss_cons (fs_set 2 sc_is_base.nd (fe_lc (own := [("row", 3)]) rfl sc_is_base.nd (fi_seq (fe_var 1)) (by exact (show BlkOk N_is_base (defScope s_is_base) _ [("row", 3)] from blkOk_by (by decide +kernel))) (by decide) (fun _ _ _ _ _ => (fg_name 3 sc_is_base.nd)) (fun _ _ _ _ _ => (fts_one (ft_cm (cm_eq hr.units) (fe_ix (fe_var 3) fe_int) (fe_tup fa_nil)))) (fun _ _ _ _ _ => (fe_ix (fe_var 3) fe_int))))
  (fss_cons (fs_if (ft_w (fw_or (ft_not (ft_tru (fe_callB callR_isi ca_isi G.f_isinstance (fa_cons (fe_var 0) (fa_cons (fe_con (pe_bltn (v := .ty "tuple") (by rfl) G.f_tuple (by decide +kernel) rfl) (fun _ => rfl)) fa_nil))))) (fw_or1 (ft_not (ft_tru (fe_callB (cr_all rfl) ca_all G.f_all (fa_cons (fe_lc (own := [("name", 4)]) rfl sc_is_base.nd (fi_seq (fe_var 0)) (by exact (show BlkOk N_is_base (defScope s_is_base) _ [("name", 4)] from blkOk_by (by decide +kernel))) (by decide) (fun _ _ _ _ _ => (fg_name 4 sc_is_base.nd)) (fun _ _ _ _ _ => fts_nil) (fun _ _ _ _ _ => (fe_and (fe_callB callR_isi ca_isi G.f_isinstance (fa_cons (fe_var 4) (fa_cons (fe_con (pe_bltn (v := .ty "str") (by rfl) G.f_str (by decide +kernel) rfl) (fun _ => rfl)) fa_nil))) (fe_one (fe_cm (cm_in (u65 hr)) (fe_var 4) (fe_var 2)))))) fa_nil))))))) (fss_one (fs_ret fe_bl)) fss_nil)
  (fss_one (fs_ret (fe_cm (cm_eq hr.units) (fe_lenSet G.f_len G.f_set (fe_var 0)) (fe_len (fa_cons (fe_var 0) fa_nil) G.f_len))))))

abbrev s_is_row : Stmt := top 24
abbrev N_is_row : List Str := ["thing", "rows", "number", "row"]
theorem sc_is_row : FnScope N_is_row ["thing", "rows"] (defScope s_is_row) := ⟨rfl, rfl, rfl, by decide +kernel, rfl, by decide +kernel, by decide +kernel⟩
theorem ok_is_row (G : Gs K mg) {f : Addr} {fd : FuncData} (F : FnP K "is_row" "is_row" s_is_row f fd) (hm : mg "is_row" = some (.ref f)) (C_is_integer : DefOk P w K mg base "is_integer" 1 3 g_is_integer) (C_is_base : DefOk P w K mg base "is_base" 1 2 g_is_base) (C_is_name : DefOk P w K mg base "is_name" 1 1 g_is_name) : DefOk P w K mg base "is_row" 2 2 (runB b_is_row 4) := by
  refine def_ok2 F sc_is_row hm (F.bindsN fun _ _ _ _ _ _ us hl => match us, hl with | [_, _], _ => rfl) fun cdv A outer s H E hr tk hp => ?_
  exact (fss_cons (fs_if (ft_w (fw_or (ft_not (ft_tru (fe_callB callR_isi ca_isi G.f_isinstance (fa_cons (fe_var 0) (fa_cons (fe_con (pe_bltn (v := .ty "tuple") (by rfl) G.f_tuple (by decide +kernel) rfl) (fun _ => rfl)) fa_nil))))) (fw_or (ft_cm (cm_ne hr.units) (fe_len (fa_cons (fe_var 0) fa_nil) G.f_len) fe_int) (fw_or (ft_not (ft_tru (fe_cal C_is_name (hr.mono (by decide)) tk (fa_cons (fe_ix (fe_var 0) fe_int) fa_nil)))) (fw_or1 (ft_not (ft_tru (fe_cal C_is_base (hr.mono (by decide)) tk (fa_cons (fe_ix (fe_var 0) fe_int) (fa_cons (fe_var 1) fa_nil)))))))))) (fss_one (fs_ret fe_bl)) fss_nil)
  (fss_cons (fs_if (ft_w (fw_or (ft_not (ft_tru (fe_cal C_is_integer (hr.mono (by decide)) tk (fa_cons (fe_ix (fe_var 0) fe_int) (fa_cons fe_int (fa_cons (fe_gint G.c_MOST_TOP) fa_nil)))))) (fw_or1 (ft_not (ft_tru (fe_cal C_is_integer (hr.mono (by decide)) tk (fa_cons (fe_ix (fe_var 0) fe_int) (fa_cons fe_int (fa_cons (fe_gint G.c_MOST_BOTTOM) fa_nil))))))))) (fss_one (fs_ret fe_bl)) fss_nil)
  (fss_cons (fs_if (ft_not (ft_tru (fe_callB (cr_all rfl) ca_all G.f_all (fa_cons (fe_lc (own := [("number", 2)]) rfl sc_is_row.nd (fi_seq (fe_tup (fa_cons (fe_ix (fe_var 0) fe_int) (fa_cons (fe_ix (fe_var 0) fe_int) fa_nil)))) (by exact (show BlkOk N_is_row (defScope s_is_row) _ [("number", 2)] from blkOk_by (by decide +kernel))) (by decide) (fun _ _ _ _ _ => (fg_name 2 sc_is_row.nd)) (fun _ _ _ _ _ => fts_nil) (fun _ _ _ _ _ => (fe_cal C_is_integer (hr.mono (by decide)) takes0 (fa_cons (fe_var 2) (fa_cons fe_int (fa_cons (fe_gint G.c_MOST_FIXED) fa_nil)))))) fa_nil)))) (fss_one (fs_ret fe_bl)) fss_nil)
  (fss_cons (fs_if (ft_w (fw_or (ft_not (ft_tru (fe_callB callR_isi ca_isi G.f_isinstance (fa_cons (fe_ix (fe_var 0) fe_int) (fa_cons (fe_con (pe_bltn (v := .ty "str") (by rfl) G.f_str (by decide +kernel) rfl) (fun _ => rfl)) fa_nil))))) (fw_or (ft_cm (cm_notIn (u65 hr)) (fe_ix (fe_var 0) fe_int) (fe_gtup G.c_WAYS)) (fw_or1 (ft_not (ft_tru (fe_cal C_is_integer (hr.mono (by decide)) tk (fa_cons (fe_ix (fe_var 0) fe_int) (fa_cons fe_int (fa_cons (fe_ix (fe_gtup G.c_UNITS) (fe_neg fe_int)) fa_nil)))))))))) (fss_one (fs_ret fe_bl)) fss_nil)
  (fss_one (fs_ret (fe_and (fe_cm (cm_in (u65 hr)) (fe_ix (fe_var 0) fe_int) (fe_gtup G.c_UNITS)) (fe_one (fe_cm (cm_notIn (u65 hr)) (fe_ix (fe_var 0) fe_int) (fe_lc (own := [("row", 3)]) rfl sc_is_row.nd (fi_seq (fe_var 1)) (by exact (show BlkOk N_is_row (defScope s_is_row) _ [("row", 3)] from blkOk_by (by decide +kernel))) (by decide) (fun _ _ _ _ _ => (fg_name 3 sc_is_row.nd)) (fun _ _ _ _ _ => fts_nil) (fun _ _ _ _ _ => (fe_ix (fe_var 3) fe_int))))))))))))

abbrev s_Recipe_init : Stmt := clsB (top 25) 0
abbrev N_Recipe_init : List Str := ["self", "rows", "index", "row"]
theorem sc_Recipe_init : FnScope N_Recipe_init ["self", "rows"] (defScope s_Recipe_init) := ⟨rfl, rfl, rfl, by decide +kernel, rfl, by decide +kernel, by decide +kernel⟩
theorem fn_Recipe_init (G : Gs K mg) {f : Addr} {fd : FuncData} (F : FnP K "__init__" "Recipe.__init__" s_Recipe_init f fd) (C_is_row : DefOk P w K mg base "is_row" 2 2 g_is_row) : FnOk P w K mg base (L2.CX P w) 3 f fd ["self", "rows"] (spOf ⟨K, mg⟩ 2 (runB b_Recipe_init 4)) := by
  refine def_fn F sc_Recipe_init fun cdv A outer s H E hr tk hp => ?_
  exact (fss_cons (fs_if (ft_w (fw_or (ft_not (ft_tru (fe_callB callR_isi ca_isi G.f_isinstance (fa_cons (fe_var 1) (fa_cons (fe_con (pe_bltn (v := .ty "tuple") (by rfl) G.f_tuple (by decide +kernel) rfl) (fun _ => rfl)) fa_nil))))) (fw_or1 (ft_not (ft_chain cm_le cm_le fe_int (fe_len (fa_cons (fe_var 1) fa_nil) G.f_len) (fe_gint G.c_MOST_ROWS)))))) (fss_one fs_never) fss_nil)
  (fss_cons (fs_for hp rfl (fi_enum G.f_enumerate (fa_cons (fe_var 1) fa_nil)) (fg_tup rfl (fgs_cons 2 sc_Recipe_init.nd (fgs_cons 3 sc_Recipe_init.nd fgs_nil))) (fss_one (fs_if (ft_not (ft_tru (fe_cal C_is_row (hr.mono (by decide)) tk (fa_cons (fe_var 3) (fa_cons (fe_slice (fe_var 1) FO.none (FO.some (fe_var 2))) fa_nil))))) (fss_one fs_never) fss_nil)))
  (fss_one (fs_fld G.a_Recipe_table (fe_var 1) (fe_var 0)))))

abbrev s__law_part : Stmt := top 48
abbrev N__law_part : List Str := ["_law_top", "_law_bottom", "_law_one", "_law_other"]
theorem sc__law_part : FnScope N__law_part ["_law_top", "_law_bottom"] (defScope s__law_part) := ⟨rfl, rfl, rfl, by decide +kernel, rfl, by decide +kernel, by decide +kernel⟩
theorem ok__law_part (G : Gs K mg) {f : Addr} {fd : FuncData} (F : FnP K "_law_part" "_law_part" s__law_part f fd) (hm : mg "_law_part" = some (.ref f)) : DefOk P w K mg base "_law_part" 1 2 (runB b__law_part 4) := by
  refine def_ok2 F sc__law_part hm (F.bindsN fun _ _ _ _ _ _ us hl => match us, hl with | [_, _], _ => rfl) fun cdv A outer s H E hr tk hp => ?_
  exact (fss_cons (fs_par (i := 2) (j := 3) sc__law_part.nd (fa_cons (fe_callB call_abs ca_abs G.f_abs (fa_cons (fe_var 0) fa_nil)) (fa_cons (fe_var 1) fa_nil)))
  (fss_cons (fs_while FUEL hp (ft_cm cm_gt (fe_var 3) fe_int) (fss_one (fs_par (i := 2) (j := 3) sc__law_part.nd (fa_cons (fe_var 3) (fa_cons (fe_mod (fe_var 2) (fe_var 3)) fa_nil)))))
  (fss_one (fs_ret (fe_tup (fa_cons (fe_div (fe_var 0) (fe_var 2)) (fa_cons (fe_div (fe_var 1) (fe_var 2)) fa_nil)))))))

abbrev s__law_at : Stmt := top 44
abbrev N__law_at : List Str := ["_law_rows_here", "_law_name", "_law_row"]
theorem sc__law_at : FnScope N__law_at ["_law_rows_here", "_law_name"] (defScope s__law_at) := ⟨rfl, rfl, rfl, by decide +kernel, rfl, by decide +kernel, by decide +kernel⟩
theorem ok__law_at (G : Gs K mg) {f : Addr} {fd : FuncData} (F : FnP K "_law_at" "_law_at" s__law_at f fd) (hm : mg "_law_at" = some (.ref f)) : DefOk P w K mg base "_law_at" 1 2 (runB b__law_at 3) := by
  refine def_ok2 F sc__law_at hm (F.bindsN fun _ _ _ _ _ _ us hl => match us, hl with | [_, _], _ => rfl) fun cdv A outer s H E hr tk hp => ?_
  exact (fss_one (fs_ret (fe_index (u65 hr) (fe_lc (own := [("_law_row", 2)]) rfl sc__law_at.nd (fi_seq (fe_var 0)) (by exact (show BlkOk N__law_at (defScope s__law_at) _ [("_law_row", 2)] from blkOk_by (by decide +kernel))) (by decide) (fun _ _ _ _ _ => (fg_name 2 sc__law_at.nd)) (fun _ _ _ _ _ => fts_nil) (fun _ _ _ _ _ => (fe_ix (fe_var 2) fe_int))) (fa_cons (fe_var 1) fa_nil))))

abbrev s__law_amount : Stmt := top 46
abbrev N__law_amount : List Str := ["_law_rows_here", "_law_at_here", "_law_eaters", "_law_is_more", "_law_row", "_law_wished", "_law_whole", "_law_way", "_law_many", "_law_left"]
theorem sc__law_amount : FnScope N__law_amount ["_law_rows_here", "_law_at_here", "_law_eaters"] (defScope s__law_amount) := ⟨rfl, rfl, rfl, by decide +kernel, rfl, by decide +kernel, by decide +kernel⟩
theorem ok__law_amount (G : Gs K mg) {f : Addr} {fd : FuncData} (F : FnP K "_law_amount" "_law_amount" s__law_amount f fd) (hm : mg "_law_amount" = some (.ref f)) {r : List D → M D} {k : Nat} (hk : 1 ≤ k) (C__law_due : DefOk P w K mg base "_law_due" k 3 r) : DefOk P w K mg base "_law_amount" (k + 1) 3 (runB (b__law_amount r) 10) := by
  refine def_ok2 F sc__law_amount hm (F.bindsN fun _ _ _ _ _ _ us hl => match us, hl with | [_, _, _], _ => rfl) fun cdv A outer s H E hr tk hp => ?_
  exact (fss_cons (fs_par (i := 4) (j := 5) sc__law_amount.nd (fa_cons (fe_ix (fe_var 0) (fe_var 1)) (fa_cons (fe_cal C__law_due hr tk (fa_cons (fe_var 0) (fa_cons (fe_var 1) (fa_cons (fe_var 2) fa_nil)))) fa_nil)))
  (fss_cons (fs_par (i := 6) (j := 7) sc__law_amount.nd (fa_cons (fe_mul (fe_ix (fe_var 4) fe_int) (fe_ix (fe_var 4) fe_int)) (fa_cons (fe_ix (fe_var 4) fe_int) fa_nil)))
  (fss_cons (fs_par (i := 8) (j := 9) sc__law_amount.nd (fa_cons (fe_div (fe_var 5) (fe_var 6)) (fa_cons (fe_mod (fe_var 5) (fe_var 6)) fa_nil)))
  (fss_cons (fs_set 3 sc__law_amount.nd (fe_or (fe_cm (cm_eq hr.units) (fe_var 7) fe_str) (fe_one (fe_and (fe_cm (cm_eq hr.units) (fe_var 7) fe_str) (fe_one (fe_cm cm_ge (fe_mul fe_int (fe_var 9)) (fe_var 6)))))))
  (fss_cons (fs_if (ft_w (fw_and (ft_cm cm_gt (fe_var 9) fe_int) (fw_and1 (ft_tru (fe_var 3))))) (fss_one (fs_set 8 sc__law_amount.nd (fe_add (fe_var 8) fe_int))) fss_nil)
  (fss_one (fs_ret (fe_callB (call_max2 rfl) ca_max2 G.f_max (fa_cons (fe_mul (fe_var 8) (fe_ix (fe_var 4) fe_int)) (fa_cons (fe_ix (fe_var 4) fe_int) fa_nil))))))))))

abbrev s__law_due : Stmt := top 45
abbrev N__law_due : List Str := ["_law_rows_here", "_law_at_here", "_law_eaters", "_law_row", "_law_number", "_law_places", "_law_name", "_law_place"]
theorem sc__law_due : FnScope N__law_due ["_law_rows_here", "_law_at_here", "_law_eaters"] (defScope s__law_due) := ⟨rfl, rfl, rfl, by decide +kernel, rfl, by decide +kernel, by decide +kernel⟩
theorem ok__law_due (G : Gs K mg) {f : Addr} {fd : FuncData} (F : FnP K "_law_due" "_law_due" s__law_due f fd) (hm : mg "_law_due" = some (.ref f)) {r : List D → M D} {k : Nat} (hk : 1 ≤ k) (C__law_amount : DefOk P w K mg base "_law_amount" k 3 r) (C__law_at : DefOk P w K mg base "_law_at" 1 2 g__law_at) : DefOk P w K mg base "_law_due" (k + 1) 3 (runB (b__law_due r) 8) := by
  refine def_ok2 F sc__law_due hm (F.bindsN fun _ _ _ _ _ _ us hl => match us, hl with | [_, _, _], _ => rfl) fun cdv A outer s H E hr tk hp => ?_
  exact (fss_cons (fs_set 3 sc__law_due.nd (fe_ix (fe_var 0) (fe_var 1)))
  (fss_cons (fs_set 4 sc__law_due.nd (fe_var 2))
  (fss_cons (fs_if (ft_cm (cm_ne hr.units) (fe_ix (fe_var 3) fe_int) (fe_tup fa_nil)) (fss_cons (fs_setLc (i := 5) (own := [("_law_name", 6)]) rfl sc__law_due.nd (fi_seq (fe_ix (fe_var 3) fe_int)) (by exact (show BlkOk N__law_due (defScope s__law_due) _ [("_law_name", 6)] from blkOk_by (by decide +kernel))) (by decide) (fun _ _ _ _ _ => (fg_name 6 sc__law_due.nd)) (fun _ _ _ _ _ => fts_nil) (fun _ _ _ _ _ => (fe_cal C__law_at (hr.mono (Nat.le_trans (by decide) hk)) takes0 (fa_cons (fe_var 0) (fa_cons (fe_var 6) fa_nil)))))
  (fss_one (fs_set 4 sc__law_due.nd (fe_callB (cr_sum rfl) ca_sum G.f_sum (fa_cons (fe_lc (own := [("_law_place", 7)]) rfl sc__law_due.nd (fi_seq (fe_var 5)) (by exact (show BlkOk N__law_due (defScope s__law_due) _ [("_law_place", 7)] from blkOk_by (by decide +kernel))) (by decide) (fun _ _ _ _ _ => (fg_name 7 sc__law_due.nd)) (fun _ _ _ _ _ => fts_nil) (fun _ _ _ _ _ => (fe_cal C__law_amount hr takes0 (fa_cons (fe_var 0) (fa_cons (fe_var 7) (fa_cons (fe_var 2) fa_nil)))))) fa_nil))))) fss_nil)
  (fss_one (fs_ret (fe_add (fe_mul (fe_ix (fe_var 3) fe_int) (fe_ix (fe_var 3) fe_int)) (fe_mul (fe_ix (fe_var 3) fe_int) (fe_var 4))))))))

abbrev s__law_over : Stmt := top 47
abbrev N__law_over : List Str := ["_law_rows_here", "_law_at_here", "_law_eaters", "_law_wished"]
theorem sc__law_over : FnScope N__law_over ["_law_rows_here", "_law_at_here", "_law_eaters"] (defScope s__law_over) := ⟨rfl, rfl, rfl, by decide +kernel, rfl, by decide +kernel, by decide +kernel⟩
theorem ok__law_over (G : Gs K mg) {f : Addr} {fd : FuncData} (F : FnP K "_law_over" "_law_over" s__law_over f fd) (hm : mg "_law_over" = some (.ref f)) (C__law_amount : DefOk P w K mg base "_law_amount" 17 3 g__law_amount) (C__law_due : DefOk P w K mg base "_law_due" 18 3 g__law_due) : DefOk P w K mg base "_law_over" 19 3 (runB b__law_over 4) := by
  refine def_ok2 F sc__law_over hm (F.bindsN fun _ _ _ _ _ _ us hl => match us, hl with | [_, _, _], _ => rfl) fun cdv A outer s H E hr tk hp => ?_
  exact (fss_cons (fs_set 3 sc__law_over.nd (fe_div (fe_mul (fe_cal C__law_due (hr.mono (by decide)) tk (fa_cons (fe_var 0) (fa_cons (fe_var 1) (fa_cons (fe_var 2) fa_nil)))) fe_int) (fe_ix (fe_ix (fe_var 0) (fe_var 1)) fe_int)))
  (fss_one (fs_ret (fe_sub (fe_mul fe_int (fe_cal C__law_amount (hr.mono (by decide)) tk (fa_cons (fe_var 0) (fa_cons (fe_var 1) (fa_cons (fe_var 2) fa_nil))))) (fe_var 3)))))

abbrev s_law : Stmt := top 49
abbrev N_law : List Str := ["_law_script", "_law_h", "_law_turn", "_law_eaters", "_law_rows_here", "_law_bound", "_law_found", "_law_least", "_law_waste", "_law_at_here"]
theorem sc_law : FnScope N_law ["_law_script"] (defScope s_law) := ⟨rfl, rfl, rfl, by decide +kernel, rfl, by decide +kernel, by decide +kernel⟩
theorem fn_law (G : Gs K mg) {f : Addr} {fd : FuncData} (F : FnP K "law" "law" s_law f fd) (C__law_alike : DefOk P w K mg base "_law_alike" 8 2 g__law_alike) (C__law_part : DefOk P w K mg base "_law_part" 1 2 g__law_part) (C_best : DefOk P w K mg base "best" 21 2 g_best) (C_Recipe_init : InitOk P w K mg base "Recipe" 3 2 g_Recipe_init) (C__law_over : DefOk P w K mg base "_law_over" 19 3 g__law_over) (C__law_next : DefOk P w K mg base "_law_next" 1 2 g__law_next) (C__law_rows : DefOk P w K mg base "_law_rows" 3 2 g__law_rows) (C__law_mix : DefOk P w K mg base "_law_mix" 1 2 g__law_mix) : FnOk P w K mg base (L2.CX P w) 22 f fd ["_law_script"] (spOf ⟨K, mg⟩ 1 (runB b_k11_law 10)) := by
  refine def_fn F sc_law fun cdv A outer s H E hr tk hp => ?_
  exact (fss_cons (fs_set 1 sc_law.nd (fe_cal C__law_mix (hr.mono (by decide)) tk (fa_cons (fe_var 0) (fa_cons fe_int fa_nil))))
  (fss_cons (fs_for hp rfl (fi_range1 G.f_range (fa_cons fe_int fa_nil)) (fg_name 2 sc_law.nd) (fss_cons (fs_asg (fe_tup (fa_cons (fe_cal C__law_rows (hr.mono (by decide)) tk (fa_cons (fe_var 1) (fa_cons fe_bl fa_nil))) (fa_cons (fe_add fe_int (fe_cal C__law_next (hr.mono (by decide)) tk (fa_cons (fe_var 1) (fa_cons fe_int fa_nil)))) fa_nil))) (fg_tup rfl (fgs_cons 4 sc_law.nd (fgs_cons 5 sc_law.nd fgs_nil))))
  (fss_cons (fs_asg (fe_tup (fa_cons fe_int (fa_cons fe_int fa_nil))) (fg_tup rfl (fgs_cons 6 sc_law.nd (fgs_cons 7 sc_law.nd fgs_nil))))
  (fss_cons (fs_for hp rfl (fi_range2 G.f_range (fa_cons fe_int (fa_cons (fe_add (fe_var 5) fe_int) fa_nil))) (fg_name 3 sc_law.nd) (fss_cons (fs_set 8 sc_law.nd (fe_callB (cr_sum rfl) ca_sum G.f_sum (fa_cons (fe_lc (own := [("_law_at_here", 9)]) rfl sc_law.nd (fi_range1 G.f_range (fa_cons (fe_len (fa_cons (fe_var 4) fa_nil) G.f_len) fa_nil)) (by exact (show BlkOk N_law (defScope s_law) _ [("_law_at_here", 9)] from blkOk_by (by decide +kernel))) (by decide) (fun _ _ _ _ _ => (fg_name 9 sc_law.nd)) (fun _ _ _ _ _ => fts_nil) (fun _ _ _ _ _ => (fe_callB (call_max2 rfl) ca_max2 G.f_max (fa_cons fe_int (fa_cons (fe_cal C__law_over (hr.mono (by decide)) takes0 (fa_cons (fe_var 4) (fa_cons (fe_var 9) (fa_cons (fe_var 3) fa_nil)))) fa_nil))))) fa_nil)))
  (fss_one (fs_if (ft_w (fw_or (ft_cm (cm_eq hr.units) (fe_var 6) fe_int) (fw_or1 (ft_cm cm_lt (fe_mul (fe_var 8) (fe_var 6)) (fe_mul (fe_var 7) (fe_var 3)))))) (fss_one (fs_par (i := 6) (j := 7) sc_law.nd (fa_cons (fe_var 3) (fa_cons (fe_var 8) fa_nil)))) fss_nil))))
  (fss_one (fs_if (ft_not (ft_tru (fe_cal C__law_alike (hr.mono (by decide)) tk (fa_cons (fe_cal C_best (hr.mono (by decide)) tk (fa_cons (fe_makeF C_Recipe_init (hr.mono (by decide)) tk (fa_cons (fe_var 4) fa_nil)) (fa_cons (fe_var 5) fa_nil))) (fa_cons (fe_tup (fa_cons (fe_var 6) (fa_cons (fe_cal C__law_part (hr.mono (by decide)) tk (fa_cons (fe_var 7) (fa_cons (fe_mul fe_int (fe_var 6)) fa_nil))) fa_nil))) fa_nil))))) (fss_one (fs_ret fe_bl)) fss_nil))))))
  (fss_one (fs_ret fe_bl))))
end
end F

set_option linter.all false
set_option maxRecDepth 100000
set_option maxHeartbeats 4000000
set_option Elab.async false
namespace F
open PySem PySem.Spec PyProof.Rows L2
section
def d__law_mix : FnY := ⟨atG "_law_mix", "_law_mix", "_law_mix", defArgs s__law_mix, defBody s__law_mix, defScope s__law_mix⟩
def d__law_next : FnY := ⟨atG "_law_next", "_law_next", "_law_next", defArgs s__law_next, defBody s__law_next, defScope s__law_next⟩
def d__law_pick : FnY := ⟨atG "_law_pick", "_law_pick", "_law_pick", defArgs s__law_pick, defBody s__law_pick, defScope s__law_pick⟩
def d__law_base : FnY := ⟨atG "_law_base", "_law_base", "_law_base", defArgs s__law_base, defBody s__law_base, defScope s__law_base⟩
def d__law_rows : FnY := ⟨atG "_law_rows", "_law_rows", "_law_rows", defArgs s__law_rows, defBody s__law_rows, defScope s__law_rows⟩
def d__law_alike : FnY := ⟨atG "_law_alike", "_law_alike", "_law_alike", defArgs s__law_alike, defBody s__law_alike, defScope s__law_alike⟩
def d_is_integer : FnY := ⟨atG "is_integer", "is_integer", "is_integer", defArgs s_is_integer, defBody s_is_integer, defScope s_is_integer⟩
def d_divisor : FnY := ⟨atG "divisor", "divisor", "divisor", defArgs s_divisor, defBody s_divisor, defScope s_divisor⟩
def d_fraction : FnY := ⟨atG "fraction", "fraction", "fraction", defArgs s_fraction, defBody s_fraction, defScope s_fraction⟩
def d_rounded : FnY := ⟨atG "rounded", "rounded", "rounded", defArgs s_rounded, defBody s_rounded, defScope s_rounded⟩
def d_row_of : FnY := ⟨atG "row_of", "row_of", "row_of", defArgs s_row_of, defBody s_row_of, defScope s_row_of⟩
def d_amount_by : FnY := ⟨atG "amount_by", "amount_by", "amount_by", defArgs s_amount_by, defBody s_amount_by, defScope s_amount_by⟩
def d_due_parts : FnY := ⟨atG "due_parts", "due_parts", "due_parts", defArgs s_due_parts, defBody s_due_parts, defScope s_due_parts⟩
def d_over_by : FnY := ⟨atG "over_by", "over_by", "over_by", defArgs s_over_by, defBody s_over_by, defScope s_over_by⟩
def d_total : FnY := ⟨atG "total", "total", "total", defArgs s_total, defBody s_total, defScope s_total⟩
def d_waste_of : FnY := ⟨atG "waste_of", "waste_of", "waste_of", defArgs s_waste_of, defBody s_waste_of, defScope s_waste_of⟩
def d_is_less : FnY := ⟨atG "is_less", "is_less", "is_less", defArgs s_is_less, defBody s_is_less, defScope s_is_less⟩
def d_best : FnY := ⟨atG "best", "best", "best", defArgs s_best, defBody s_best, defScope s_best⟩
def d_is_name : FnY := ⟨atG "is_name", "is_name", "is_name", defArgs s_is_name, defBody s_is_name, defScope s_is_name⟩
def d_is_base : FnY := ⟨atG "is_base", "is_base", "is_base", defArgs s_is_base, defBody s_is_base, defScope s_is_base⟩
def d_is_row : FnY := ⟨atG "is_row", "is_row", "is_row", defArgs s_is_row, defBody s_is_row, defScope s_is_row⟩
def d_Recipe_init : FnY := ⟨atM "Recipe" "__init__", "__init__", "Recipe.__init__", defArgs s_Recipe_init, defBody s_Recipe_init, defScope s_Recipe_init⟩
def d__law_part : FnY := ⟨atG "_law_part", "_law_part", "_law_part", defArgs s__law_part, defBody s__law_part, defScope s__law_part⟩
def d__law_at : FnY := ⟨atG "_law_at", "_law_at", "_law_at", defArgs s__law_at, defBody s__law_at, defScope s__law_at⟩
def d__law_amount : FnY := ⟨atG "_law_amount", "_law_amount", "_law_amount", defArgs s__law_amount, defBody s__law_amount, defScope s__law_amount⟩
def d__law_due : FnY := ⟨atG "_law_due", "_law_due", "_law_due", defArgs s__law_due, defBody s__law_due, defScope s__law_due⟩
def d__law_over : FnY := ⟨atG "_law_over", "_law_over", "_law_over", defArgs s__law_over, defBody s__law_over, defScope s__law_over⟩
def d_law : FnY := ⟨atG "law", "law", "law", defArgs s_law, defBody s_law, defScope s_law⟩
def fn : List FnY := [d__law_mix, d__law_next, d__law_pick, d__law_base, d__law_rows, d__law_alike, d_is_integer, d_divisor, d_fraction, d_rounded, d_row_of, d_amount_by, d_due_parts, d_over_by, d_total, d_waste_of, d_is_less, d_best, d_is_name, d_is_base, d_is_row, d_Recipe_init, d__law_part, d__law_at, d__law_amount, d__law_due, d__law_over, d_law]
def fa : List Te := [teF (.free "abs"), teF (.free "all"), teF (.free "bool"), teF (.free "dict"), teF (.free "enumerate"), teF (.free "int"), teF (.free "isinstance"), teF (.free "len"), teF (.free "list"), teF (.free "max"), teF (.free "range"), teF (.free "set"), teF (.free "str"), teF (.free "sum"), teF (.free "tuple"), teF (.str "EATERS" "eaters"), teF (.str "LETTERS" "abcdefghijklmnopqrstuvwxyz"), teF (.int "MOST_BOTTOM" 4), teF (.int "MOST_BOUND" 10000), teF (.int "MOST_FIXED" 60), teF (.int "MOST_LETTERS" 8), teF (.int "MOST_ROWS" 5), teF (.int "MOST_TOP" 9), teT "NOTHING" [.int 0, .int 1], teT "UNITS" [.int 1, .int 2, .int 3, .int 4, .int 6, .int 12], teT "WAYS" [.str "up", .str "down", .str "near"], teF (.noat "Recipe" "table"), teF (.glo "Recipe"), teF (.cls "Recipe"), teF (.glo "_law_mix"), teF (.glo "_law_next"), teF (.glo "_law_pick"), teF (.glo "_law_base"), teF (.glo "_law_rows"), teF (.glo "_law_alike"), teF (.glo "is_integer"), teF (.glo "divisor"), teF (.glo "fraction"), teF (.glo "rounded"), teF (.glo "row_of"), teF (.glo "amount_by"), teF (.glo "due_parts"), teF (.glo "over_by"), teF (.glo "total"), teF (.glo "waste_of"), teF (.glo "is_less"), teF (.glo "best"), teF (.glo "is_name"), teF (.glo "is_base"), teF (.glo "is_row"), teF (.glo "_law_part"), teF (.glo "_law_at"), teF (.glo "_law_amount"), teF (.glo "_law_due"), teF (.glo "_law_over"), teF (.glo "law"), teF (.mkr "Recipe")]
theorem facts {P : Program} {w : World} {K : PySem.W.Frag} {h : Heap} {mg : Str → Option Value} {f : Addr} (X : K.In h) (N : h.Ns mainGlobals mg) (hfa : mg ("law" : Str) = some (.ref f)) (c : SaysY fa fn K) :
    ∃ fd : FuncData, (∀ (s : Shared) (v : Value), BindsTo s fd ⟨[v], []⟩ [("_law_script", v)]) ∧ ∀ base : Heap, K.In base → base.Ns mainGlobals mg → FnOk P w K mg base (L2.CX P w) 22 f fd ["_law_script"] (spOf ⟨K, mg⟩ 1 g_k11_law) := by
  have G : Gs K mg := ⟨He.free_ok X N (x := "abs") (c.fact 0 (t := teF (.free "abs")) rfl), He.free_ok X N (x := "all") (c.fact 1 (t := teF (.free "all")) rfl), He.free_ok X N (x := "bool") (c.fact 2 (t := teF (.free "bool")) rfl), He.free_ok X N (x := "dict") (c.fact 3 (t := teF (.free "dict")) rfl), He.free_ok X N (x := "enumerate") (c.fact 4 (t := teF (.free "enumerate")) rfl), He.free_ok X N (x := "int") (c.fact 5 (t := teF (.free "int")) rfl), He.free_ok X N (x := "isinstance") (c.fact 6 (t := teF (.free "isinstance")) rfl), He.free_ok X N (x := "len") (c.fact 7 (t := teF (.free "len")) rfl), He.free_ok X N (x := "list") (c.fact 8 (t := teF (.free "list")) rfl), He.free_ok X N (x := "max") (c.fact 9 (t := teF (.free "max")) rfl), He.free_ok X N (x := "range") (c.fact 10 (t := teF (.free "range")) rfl), He.free_ok X N (x := "set") (c.fact 11 (t := teF (.free "set")) rfl), He.free_ok X N (x := "str") (c.fact 12 (t := teF (.free "str")) rfl), He.free_ok X N (x := "sum") (c.fact 13 (t := teF (.free "sum")) rfl), He.free_ok X N (x := "tuple") (c.fact 14 (t := teF (.free "tuple")) rfl), He.str_ok X N (c.fact 15 (t := teF (.str "EATERS" "eaters")) rfl), He.str_ok X N (c.fact 16 (t := teF (.str "LETTERS" "abcdefghijklmnopqrstuvwxyz")) rfl), He.int_ok X N (c.fact 17 (t := teF (.int "MOST_BOTTOM" 4)) rfl), He.int_ok X N (c.fact 18 (t := teF (.int "MOST_BOUND" 10000)) rfl), He.int_ok X N (c.fact 19 (t := teF (.int "MOST_FIXED" 60)) rfl), He.int_ok X N (c.fact 20 (t := teF (.int "MOST_LETTERS" 8)) rfl), He.int_ok X N (c.fact 21 (t := teF (.int "MOST_ROWS" 5)) rfl), He.int_ok X N (c.fact 22 (t := teF (.int "MOST_TOP" 9)) rfl), teT_ok X N (x := "NOTHING") (vs := [.int 0, .int 1]) (c.fact 23 (t := teT "NOTHING" [.int 0, .int 1]) rfl), teT_ok X N (x := "UNITS") (vs := [.int 1, .int 2, .int 3, .int 4, .int 6, .int 12]) (c.fact 24 (t := teT "UNITS" [.int 1, .int 2, .int 3, .int 4, .int 6, .int 12]) rfl), teT_ok X N (x := "WAYS") (vs := [.str "up", .str "down", .str "near"]) (c.fact 25 (t := teT "WAYS" [.str "up", .str "down", .str "near"]) rfl), ⟨_, He.glo_ok X N (x := "Recipe") (c.fact 27 (t := teF (.glo "Recipe")) rfl), He.cls_ok (x := "Recipe") (c.fact 28 (t := teF (.cls "Recipe")) rfl), He.noat_ok (x := "Recipe") (f := "table") (c.fact 26 (t := teF (.noat "Recipe" "table")) rfl)⟩⟩
  obtain ⟨fd__law_mix, F__law_mix⟩ := c.def_ 0 (d := d__law_mix) rfl
  have m__law_mix := He.glo_ok X N (x := "_law_mix") (c.fact 29 (t := teF (.glo "_law_mix")) rfl)
  obtain ⟨fd__law_next, F__law_next⟩ := c.def_ 1 (d := d__law_next) rfl
  have m__law_next := He.glo_ok X N (x := "_law_next") (c.fact 30 (t := teF (.glo "_law_next")) rfl)
  obtain ⟨fd__law_pick, F__law_pick⟩ := c.def_ 2 (d := d__law_pick) rfl
  have m__law_pick := He.glo_ok X N (x := "_law_pick") (c.fact 31 (t := teF (.glo "_law_pick")) rfl)
  obtain ⟨fd__law_base, F__law_base⟩ := c.def_ 3 (d := d__law_base) rfl
  have m__law_base := He.glo_ok X N (x := "_law_base") (c.fact 32 (t := teF (.glo "_law_base")) rfl)
  obtain ⟨fd__law_rows, F__law_rows⟩ := c.def_ 4 (d := d__law_rows) rfl
  have m__law_rows := He.glo_ok X N (x := "_law_rows") (c.fact 33 (t := teF (.glo "_law_rows")) rfl)
  obtain ⟨fd__law_alike, F__law_alike⟩ := c.def_ 5 (d := d__law_alike) rfl
  have m__law_alike := He.glo_ok X N (x := "_law_alike") (c.fact 34 (t := teF (.glo "_law_alike")) rfl)
  obtain ⟨fd_is_integer, F_is_integer⟩ := c.def_ 6 (d := d_is_integer) rfl
  have m_is_integer := He.glo_ok X N (x := "is_integer") (c.fact 35 (t := teF (.glo "is_integer")) rfl)
  obtain ⟨fd_divisor, F_divisor⟩ := c.def_ 7 (d := d_divisor) rfl
  have m_divisor := He.glo_ok X N (x := "divisor") (c.fact 36 (t := teF (.glo "divisor")) rfl)
  obtain ⟨fd_fraction, F_fraction⟩ := c.def_ 8 (d := d_fraction) rfl
  have m_fraction := He.glo_ok X N (x := "fraction") (c.fact 37 (t := teF (.glo "fraction")) rfl)
  obtain ⟨fd_rounded, F_rounded⟩ := c.def_ 9 (d := d_rounded) rfl
  have m_rounded := He.glo_ok X N (x := "rounded") (c.fact 38 (t := teF (.glo "rounded")) rfl)
  obtain ⟨fd_row_of, F_row_of⟩ := c.def_ 10 (d := d_row_of) rfl
  have m_row_of := He.glo_ok X N (x := "row_of") (c.fact 39 (t := teF (.glo "row_of")) rfl)
  obtain ⟨fd_amount_by, F_amount_by⟩ := c.def_ 11 (d := d_amount_by) rfl
  have m_amount_by := He.glo_ok X N (x := "amount_by") (c.fact 40 (t := teF (.glo "amount_by")) rfl)
  obtain ⟨fd_due_parts, F_due_parts⟩ := c.def_ 12 (d := d_due_parts) rfl
  have m_due_parts := He.glo_ok X N (x := "due_parts") (c.fact 41 (t := teF (.glo "due_parts")) rfl)
  obtain ⟨fd_over_by, F_over_by⟩ := c.def_ 13 (d := d_over_by) rfl
  have m_over_by := He.glo_ok X N (x := "over_by") (c.fact 42 (t := teF (.glo "over_by")) rfl)
  obtain ⟨fd_total, F_total⟩ := c.def_ 14 (d := d_total) rfl
  have m_total := He.glo_ok X N (x := "total") (c.fact 43 (t := teF (.glo "total")) rfl)
  obtain ⟨fd_waste_of, F_waste_of⟩ := c.def_ 15 (d := d_waste_of) rfl
  have m_waste_of := He.glo_ok X N (x := "waste_of") (c.fact 44 (t := teF (.glo "waste_of")) rfl)
  obtain ⟨fd_is_less, F_is_less⟩ := c.def_ 16 (d := d_is_less) rfl
  have m_is_less := He.glo_ok X N (x := "is_less") (c.fact 45 (t := teF (.glo "is_less")) rfl)
  obtain ⟨fd_best, F_best⟩ := c.def_ 17 (d := d_best) rfl
  have m_best := He.glo_ok X N (x := "best") (c.fact 46 (t := teF (.glo "best")) rfl)
  obtain ⟨fd_is_name, F_is_name⟩ := c.def_ 18 (d := d_is_name) rfl
  have m_is_name := He.glo_ok X N (x := "is_name") (c.fact 47 (t := teF (.glo "is_name")) rfl)
  obtain ⟨fd_is_base, F_is_base⟩ := c.def_ 19 (d := d_is_base) rfl
  have m_is_base := He.glo_ok X N (x := "is_base") (c.fact 48 (t := teF (.glo "is_base")) rfl)
  obtain ⟨fd_is_row, F_is_row⟩ := c.def_ 20 (d := d_is_row) rfl
  have m_is_row := He.glo_ok X N (x := "is_row") (c.fact 49 (t := teF (.glo "is_row")) rfl)
  obtain ⟨fd_Recipe_init, F_Recipe_init⟩ := c.def_ 21 (d := d_Recipe_init) rfl
  obtain ⟨fd__law_part, F__law_part⟩ := c.def_ 22 (d := d__law_part) rfl
  have m__law_part := He.glo_ok X N (x := "_law_part") (c.fact 50 (t := teF (.glo "_law_part")) rfl)
  obtain ⟨fd__law_at, F__law_at⟩ := c.def_ 23 (d := d__law_at) rfl
  have m__law_at := He.glo_ok X N (x := "_law_at") (c.fact 51 (t := teF (.glo "_law_at")) rfl)
  obtain ⟨fd__law_amount, F__law_amount⟩ := c.def_ 24 (d := d__law_amount) rfl
  have m__law_amount := He.glo_ok X N (x := "_law_amount") (c.fact 52 (t := teF (.glo "_law_amount")) rfl)
  obtain ⟨fd__law_due, F__law_due⟩ := c.def_ 25 (d := d__law_due) rfl
  have m__law_due := He.glo_ok X N (x := "_law_due") (c.fact 53 (t := teF (.glo "_law_due")) rfl)
  obtain ⟨fd__law_over, F__law_over⟩ := c.def_ 26 (d := d__law_over) rfl
  have m__law_over := He.glo_ok X N (x := "_law_over") (c.fact 54 (t := teF (.glo "_law_over")) rfl)
  obtain ⟨fd_law, F_law⟩ := c.def_ 27 (d := d_law) rfl
  have m_law := He.glo_ok X N (x := "law") (c.fact 55 (t := teF (.glo "law")) rfl)
  have e := hfa.symm.trans m_law
  cases e
  have b := FunD.bindsA (ps := ["_law_script"]) F_law fun _ _ _ _ _ _ us hl => match us, hl with | [_], _ => rfl
  refine ⟨fd_law, fun s v => b s [v] rfl, fun base _ _ => ?_⟩
  have C__law_mix : DefOk P w K mg base "_law_mix" 1 2 g__law_mix := (ok__law_mix (P := P) (w := w) (base := base) G F__law_mix m__law_mix )
  have C__law_next : DefOk P w K mg base "_law_next" 1 2 g__law_next := (ok__law_next (P := P) (w := w) (base := base) G F__law_next m__law_next )
  have C__law_pick : DefOk P w K mg base "_law_pick" 2 2 g__law_pick := (ok__law_pick (P := P) (w := w) (base := base) G F__law_pick m__law_pick C__law_next)
  have C__law_base : DefOk P w K mg base "_law_base" 2 2 g__law_base := (ok__law_base (P := P) (w := w) (base := base) G F__law_base m__law_base C__law_next)
  have C__law_rows : DefOk P w K mg base "_law_rows" 3 2 g__law_rows := (ok__law_rows (P := P) (w := w) (base := base) G F__law_rows m__law_rows C__law_next C__law_pick C__law_base)
  have R__law_alike : ∀ n, DefOk P w K mg base "_law_alike" (n + 0) 2 (r__law_alike n) := by
    intro n
    induction n with
    | zero => exact def_stuck (ps := ["_law_found", "_law_due_here"]) m__law_alike F__law_alike.kp (F__law_alike.bindsN fun _ _ _ _ _ _ us hl => match us, hl with | [_, _], _ => rfl)
    | succ n ih => exact (ok__law_alike (P := P) (w := w) (base := base) (k := n + 0) G F__law_alike m__law_alike (Nat.le_add_left _ _) ih).mono (by omega)
  have C__law_alike : DefOk P w K mg base "_law_alike" 8 2 g__law_alike := R__law_alike RECN
  have C_is_integer : DefOk P w K mg base "is_integer" 1 3 g_is_integer := (ok_is_integer (P := P) (w := w) (base := base) G F_is_integer m_is_integer )
  have C_divisor : DefOk P w K mg base "divisor" 1 2 g_divisor := (ok_divisor (P := P) (w := w) (base := base) G F_divisor m_divisor )
  have C_fraction : DefOk P w K mg base "fraction" 2 2 g_fraction := (ok_fraction (P := P) (w := w) (base := base) G F_fraction m_fraction C_divisor)
  have C_rounded : DefOk P w K mg base "rounded" 1 4 g_rounded := (ok_rounded (P := P) (w := w) (base := base) G F_rounded m_rounded )
  have C_row_of : DefOk P w K mg base "row_of" 1 2 g_row_of := (ok_row_of (P := P) (w := w) (base := base) G F_row_of m_row_of )
  have R_amount_by : ∀ n, DefOk P w K mg base "amount_by" (2 * n + 1) 3 (r_amount_by n) := by
    intro n
    induction n with
    | zero => exact def_stuck (ps := ["recipe", "row", "eaters"]) m_amount_by F_amount_by.kp (F_amount_by.bindsN fun _ _ _ _ _ _ us hl => match us, hl with | [_, _, _], _ => rfl)
    | succ n ih => exact (by
      have C1 := ok_due_parts (P := P) (w := w) (base := base) (k := 2 * n + 1) G F_due_parts m_due_parts (Nat.le_add_left _ _) ih C_row_of
      exact (ok_amount_by (P := P) (w := w) (base := base) (k := 2 * n + 1 + 1) G F_amount_by m_amount_by (by omega) C_rounded C1).mono (by omega))
  have C_amount_by : DefOk P w K mg base "amount_by" 17 3 g_amount_by := R_amount_by RECN
  have C_due_parts : DefOk P w K mg base "due_parts" 18 3 g_due_parts := ok_due_parts (P := P) (w := w) (base := base) G F_due_parts m_due_parts (by decide) C_amount_by C_row_of
  have C_over_by : DefOk P w K mg base "over_by" 19 3 g_over_by := (ok_over_by (P := P) (w := w) (base := base) G F_over_by m_over_by C_fraction C_amount_by C_due_parts)
  have C_total : DefOk P w K mg base "total" 3 2 g_total := (ok_total (P := P) (w := w) (base := base) G F_total m_total C_fraction)
  have C_waste_of : DefOk P w K mg base "waste_of" 20 2 g_waste_of := (ok_waste_of (P := P) (w := w) (base := base) G F_waste_of m_waste_of C_total C_over_by)
  have C_is_less : DefOk P w K mg base "is_less" 1 2 g_is_less := (ok_is_less (P := P) (w := w) (base := base) G F_is_less m_is_less )
  have C_best : DefOk P w K mg base "best" 21 2 g_best := (ok_best (P := P) (w := w) (base := base) G F_best m_best C_is_less C_fraction C_waste_of C_is_integer)
  have C_is_name : DefOk P w K mg base "is_name" 1 1 g_is_name := (ok_is_name (P := P) (w := w) (base := base) G F_is_name m_is_name )
  have C_is_base : DefOk P w K mg base "is_base" 1 2 g_is_base := (ok_is_base (P := P) (w := w) (base := base) G F_is_base m_is_base )
  have C_is_row : DefOk P w K mg base "is_row" 2 2 g_is_row := (ok_is_row (P := P) (w := w) (base := base) G F_is_row m_is_row C_is_integer C_is_base C_is_name)
  have C_Recipe_init : InitOk P w K mg base "Recipe" 3 2 g_Recipe_init := ⟨_, _, _, ["self", "rows"], He.glo_ok X N (x := "Recipe") (c.fact 27 (t := teF (.glo "Recipe")) rfl), rfl, (fn_Recipe_init (P := P) (w := w) (base := base) G F_Recipe_init C_is_row), He.mkr_ok (x := "Recipe") (c.fact 56 (t := teF (.mkr "Recipe")) rfl), (F_Recipe_init.bindsN fun _ _ _ _ _ _ us hl => match us, hl with | [_, _], _ => rfl)⟩
  have C__law_part : DefOk P w K mg base "_law_part" 1 2 g__law_part := (ok__law_part (P := P) (w := w) (base := base) G F__law_part m__law_part )
  have C__law_at : DefOk P w K mg base "_law_at" 1 2 g__law_at := (ok__law_at (P := P) (w := w) (base := base) G F__law_at m__law_at )
  have R__law_amount : ∀ n, DefOk P w K mg base "_law_amount" (2 * n + 1) 3 (r__law_amount n) := by
    intro n
    induction n with
    | zero => exact def_stuck (ps := ["_law_rows_here", "_law_at_here", "_law_eaters"]) m__law_amount F__law_amount.kp (F__law_amount.bindsN fun _ _ _ _ _ _ us hl => match us, hl with | [_, _, _], _ => rfl)
    | succ n ih => exact (by
      have C1 := ok__law_due (P := P) (w := w) (base := base) (k := 2 * n + 1) G F__law_due m__law_due (Nat.le_add_left _ _) ih C__law_at
      exact (ok__law_amount (P := P) (w := w) (base := base) (k := 2 * n + 1 + 1) G F__law_amount m__law_amount (by omega) C1).mono (by omega))
  have C__law_amount : DefOk P w K mg base "_law_amount" 17 3 g__law_amount := R__law_amount RECN
  have C__law_due : DefOk P w K mg base "_law_due" 18 3 g__law_due := ok__law_due (P := P) (w := w) (base := base) G F__law_due m__law_due (by decide) C__law_amount C__law_at
  have C__law_over : DefOk P w K mg base "_law_over" 19 3 g__law_over := (ok__law_over (P := P) (w := w) (base := base) G F__law_over m__law_over C__law_amount C__law_due)
  exact fn_law (P := P) (w := w) (base := base) G F_law C__law_alike C__law_part C_best C_Recipe_init C__law_over C__law_next C__law_rows C__law_mix
def loose0 : List Str := ["_wall", "SheetError", "InvalidRow", "UnknownName", "InvalidNumber", "divisor", "fraction", "total", "is_less", "LETTERS", "MOST_LETTERS", "MOST_ROWS", "MOST_TOP", "MOST_BOTTOM", "MOST_FIXED", "WAYS", "UNITS", "EATERS", "is_integer", "is_name", "is_base", "is_row", "Recipe", "row_of", "rounded", "due_parts", "amount_by", "over_by", "MOST_BOUND", "NOTHING"]
def loose1 : List Str := ["waste_of", "best", "_law_mix", "_law_next", "_law_alike", "_law_pick", "_law_base", "_law_rows", "_law_at", "_law_due", "_law_amount", "_law_over", "_law_part"]
def looseN : List Str := loose0 ++ loose1
abbrev R : PySem.W.OpenRow := PySem.W.OpenLaw.row PySem.Challenge.rw_eatersheet_k11_whole_least_waste
abbrev hk : PySem.W.Hook := hookY 5 fa fn
def ob (s : PySem.W.SharedT) : AlY := obsYG 5 fa fn (HandSHeadRun.getT s)
theorem ob_eq (s : PySem.W.SharedT) : ob s = hk.obs s.abs := obsYG_eq (HandSHeadRun.getT_eq s)
set_option maxHeartbeats 0 in
theorem run (w : World) : HandSHeadRun.RunEq R (PySem.W.view R.prog [49]) hk ob 4000 looseN w := by
  intro os
  kernel_rfl
end
end F
open PySem PySem.W PySem.Calls PyProof.Rows
set_option maxHeartbeats 0 in
theorem PySem.Challenge.cw_eatersheet_k11_whole_least_waste_holds : PySem.Challenge.rw_eatersheet_k11_whole_least_waste.Holds := by
  w_on; o_law
  refine HandSHeadRun.head_any (r := OpenLaw.row PySem.Challenge.rw_eatersheet_k11_whole_least_waste) (q := view (OpenLaw.row PySem.Challenge.rw_eatersheet_k11_whole_least_waste).prog [49]) (H := F.hk) (ob := F.ob) (M := 4000) (loose := F.looseN) (d := HandSHeadRun.topDef (OpenLaw.row PySem.Challenge.rw_eatersheet_k11_whole_least_waste).prog 49) (kwd := []) F.ob_eq
    (by kernel_rfl) (fun s => by kernel_rfl) F.run (by kernel_rfl) (by kernel_rfl) (by kernel_rfl) (by rfl) (by first | assumption | decide +kernel) (by decide +kernel) ⟨rfl, rfl, rfl, rfl, rfl, by decide +kernel⟩ ?hw ?hc
  case hw => w_witness2
  case hc =>
    refine F.walk_ofF (l := PySem.Challenge.rw_eatersheet_k11_whole_least_waste) (n := 63) (k := 22) (x := "_law_script") (g := F.g_k11_law) rfl (by decide) (by kernel_rfl) ⟨rfl, by decide, by decide⟩ ?F F.pure_law
    intro w mg fa h Y G hmg0
    obtain ⟨K, KX, c⟩ := Y
    have hmg : mg ("law" : PySem.Str) = some (.ref fa) := by
      have e : (HandSHeadRun.topDef (OpenLaw.row PySem.Challenge.rw_eatersheet_k11_whole_least_waste).prog 49).name = ("law" : PySem.Str) := by kernel_rfl
      rw [← e]
      exact hmg0
    obtain ⟨fd, hb, hF⟩ := F.facts (P := (PySem.Challenge.rw_eatersheet_k11_whole_least_waste).prog) (w := w) KX G hmg c
    exact ⟨K, fd, KX, hb, hF⟩
