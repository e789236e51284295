import PyProof.Rows.All
import Wide.All
import OpenK.AllK
import Wide.FinOn
import HandS.ForMost
import HandS.Exc
import HandS.TryOnly
import HandS.ExcOwn
import HandS.Walk
import HandS.AnyAll
import HandS.Lambda
import HandS.Flow
import HandS.TupAny
import HandS.Style
import HandS.More
import PyProof.EqAt
import PyProof.EqKinds
import PyProof.NeKinds
import HandS.TupLe
import KE.KRevSl
import KE.SortData
import KE.KIntText
import HandS.Text
import HandS.Dict
import HandS.RaiseMore
import HandS.MapJoin
import HandS.ReplaceList
import PyProof.Rows.RegReprOcc
import PyProof.Rows.StrCase
import HandS.Iter
import HandS.Zip
import KE.GoesMore
import HandS.Small
import KE.KUnpack
import HandS.Comp
import HandS.List
import HandS.Defaults
import HandS.GenList
import PyProof.TupleOfGen
import HandS.DictComp
import HandS.Flt
import HandS.FStr
import PyProof.ListMulRight
import PyProof.AutoIntG3
import HandS.TupMul
import HandS.HeadHook1
import HandS.HeadHook2
import PyProof.Rows.SeqGen
import PyProof.Rows.EnumRows
import PyProof.Rows.SeqCalls
import PyProof.Rows.FactsT1
import PyProof.Rows.FactsT3
import KE.KStateDown
import HandS.Head0
import HandS.Head1
import HandS.Head2
import HandS.HeadEnd
import HandS.EndTab
import HandS.Replace
import HandS.ReplaceLit
import HandS.ReplaceDef
import PySem.Challenge.RW_librarystack_k01_numbers_that_check
/-! Ev0: plain values, a store, a machine of combinators. No program in sight. -/
set_option linter.all false
namespace Ev
/-- a value: lists, tuples, dicts that are never changed are values; what is changed stands in the store -/
inductive PV where
  | non
  | bl (b : Bool)
  | int (i : Int)
  | str (l : List Nat)
  | tup (l : List PV)
  | lst (l : List PV)
  | dct (l : List (PV × PV))
  | ref (i : Nat)
  | lam (d n : Nat)
deriving Inhabited
/-- what stands in the store -/
inductive Ob where
  | lst (l : List PV)
  | dct (l : List (PV × PV))
  | ins (c : Nat) (fs : List (Nat × PV))
structure Stt where
  objs : List Ob
def szl : Nat := 16777216
inductive Res (α : Type) where
  | ok (a : α) (s : Stt)
  | err (c : Nat) (s : Stt)
  | bad
def Res.bind {α β : Type} (r : Res α) (f : α → Stt → Res β) : Res β :=
  match r with
  | .ok a s => f a s
  | .err c s => .err c s
  | .bad => .bad
abbrev Env := List (Option PV)
abbrev Ex := Env → Stt → Res PV
abbrev Tx := Env → Stt → Res Bool
abbrev Lx := Env → Stt → Res (List PV)
abbrev Fx := List PV → Stt → Res PV
abbrev Gx := PV → Env → Option Env
inductive SRes where
  | nx (ρ : Env) (s : Stt)
  | rt (v : PV) (s : Stt)
  | err (c : Nat) (s : Stt)
  | bad
abbrev Sx := Env → Stt → SRes
def Res.sbind {α : Type} (r : Res α) (f : α → Stt → SRes) : SRes :=
  match r with
  | .ok a s => f a s
  | .err c s => .err c s
  | .bad => .bad
def Res.ofO {α : Type} (s : Stt) : Option α → Res α
  | some a => .ok a s
  | none => .bad
/-! ### data -/
mutual
/-- no reference, no dict, no lambda within; so deep -/
def dOk : Nat → PV → Bool
  | _, .non => true
  | _, .bl _ => true
  | _, .int _ => true
  | _, .str _ => true
  | 0, .tup _ => false
  | 0, .lst _ => false
  | n + 1, .tup l => dOks n l
  | n + 1, .lst l => dOks n l
  | _, .dct _ => false
  | _, .ref _ => false
  | _, .lam _ _ => false
def dOks : Nat → List PV → Bool
  | _, [] => true
  | n, x :: xs => dOk n x && dOks n xs
end
def b2n (b : Bool) : Int := if b then 1 else 0
mutual
/-- == of data -/
def eqP : PV → PV → Bool
  | .non, .non => true
  | .bl a, .bl b => a == b
  | .bl a, .int j => b2n a == j
  | .int i, .bl b => i == b2n b
  | .int i, .int j => i == j
  | .str x, .str y => x == y
  | .lst xs, .lst ys => eqPs xs ys
  | .tup xs, .tup ys => eqPs xs ys
  | _, _ => false
def eqPs : List PV → List PV → Bool
  | [], [] => true
  | x :: xs, y :: ys => eqP x y && eqPs xs ys
  | _, _ => false
end
/-- a list, a tuple that is read -/
def Stt.seq? (s : Stt) : PV → Option (List PV)
  | .lst l => some l
  | .tup l => some l
  | .ref i => match s.objs[i]? with
    | some (.lst l) => some l
    | _ => none
  | _ => none
def Stt.lst? (s : Stt) : PV → Option (List PV)
  | .lst l => some l
  | .ref i => match s.objs[i]? with
    | some (.lst l) => some l
    | _ => none
  | _ => none
def Stt.dct? (s : Stt) : PV → Option (List (PV × PV))
  | .dct l => some l
  | .ref i => match s.objs[i]? with
    | some (.dct l) => some l
    | _ => none
  | _ => none
/-- a list in the store as a value, the rest as it is -/
def Stt.val (s : Stt) : PV → PV
  | .ref i => match s.objs[i]? with
    | some (.lst l) => .lst l
    | _ => .ref i
  | p => p
def Stt.set (s : Stt) (i : Nat) (o : Ob) : Stt := ⟨s.objs.set i o⟩
def Stt.new (s : Stt) (o : Ob) : Stt := ⟨s.objs ++ [o]⟩
/-! ### operators on values -/
def lenOk {α : Type} (l : List α) : Bool := Nat.ble l.length szl
def mulOk (i j : Int) : Bool := (decide (-(2 ^ 64) < i) && decide (i < 2 ^ 64)) || (decide (-(2 ^ 64) < j) && decide (j < 2 ^ 64))
abbrev Op2 := Stt → PV → PV → Option PV
def oAdd : Op2 := fun s x y => match x, y with
  | .int i, .int j => some (.int (i + j))
  | .str a, .str b => if Nat.ble (a.length + b.length) szl then some (.str (a ++ b)) else none
  | .tup a, .tup b => if Nat.ble (a.length + b.length) szl then some (.tup (a ++ b)) else none
  | x, y => match s.lst? x, s.lst? y with
    | some a, some b => if Nat.ble (a.length + b.length) szl then some (.lst (a ++ b)) else none
    | _, _ => none
def oSub : Op2 := fun _ x y => match x, y with
  | .int i, .int j => some (.int (i - j))
  | _, _ => none
def repL (n : Nat) (a : List Nat) : List Nat := (List.replicate n a).flatten
def oMul : Op2 := fun _ x y => match x, y with
  | .int i, .int j => if mulOk i j then some (.int (i * j)) else none
  | .str a, .int j => if lenOk a && decide (-1000000 ≤ j) && decide (j ≤ 1000000) && Nat.ble (a.length * j.toNat) szl then some (.str (repL j.toNat a)) else none
  | _, _ => none
def oDiv : Op2 := fun _ x y => match x, y with
  | .int i, .int j => if decide (0 < j) && decide (j < 1073741824) then some (.int (i / j)) else none
  | _, _ => none
def oMod : Op2 := fun _ x y => match x, y with
  | .int i, .int j => if decide (0 < j) then some (.int (i % j)) else none
  | _, _ => none
def oPow : Op2 := fun _ x y => match x, y with
  | .int i, .int j => if decide (0 ≤ j) && decide (j ≤ 1000) && decide (i.natAbs < 2 ^ 64) then some (.int (i ^ j.toNat)) else none
  | _, _ => none
/-! ### comparisons -/
abbrev Cp := Stt → PV → PV → Option Bool
def cEq : Cp := fun s x y => if dOk 60 (s.val x) && dOk 60 (s.val y) then some (eqP (s.val x) (s.val y)) else none
def cNe : Cp := fun s x y => (cEq s x y).map (!·)
/-- a text below another -/
def ltN : List Nat → List Nat → Bool
  | [], [] => false
  | [], _ :: _ => true
  | _ :: _, [] => false
  | a :: as, b :: bs => if Nat.blt a b then true else if a == b then ltN as bs else false
def cLt : Cp := fun _ x y => match x, y with
  | .int i, .int j => some (decide (i < j))
  | .str a, .str b => some (ltN a b)
  | _, _ => none
def cGt : Cp := fun s x y => cLt s y x
def cLe : Cp := fun _ x y => match x, y with
  | .int i, .int j => some (decide (i ≤ j))
  | .str a, .str b => some (!ltN b a)
  | _, _ => none
def cGe : Cp := fun s x y => cLe s y x
/-- a begins b -/
def preN : List Nat → List Nat → Bool
  | [], _ => true
  | _ :: _, [] => false
  | a :: as, b :: bs => a == b && preN as bs
/-- a stands in b -/
def subN (a : List Nat) : List Nat → Bool
  | [] => preN a []
  | b :: bs => preN a (b :: bs) || subN a bs
def atomB : PV → Bool
  | .int _ => true
  | .str _ => true
  | _ => false
def dLook : List (PV × PV) → PV → Option PV
  | [], _ => none
  | (k, v) :: r, x => if eqP k x then some v else dLook r x
def dPut : List (PV × PV) → PV → PV → List (PV × PV)
  | [], x, v => [(x, v)]
  | (k, w) :: r, x, v => if eqP k x then (k, v) :: r else (k, w) :: dPut r x v
def keyOk : PV → Bool
  | .int _ => true
  | .str _ => true
  | _ => false
def cIn : Cp := fun s x y => match y with
  | .str b => match x with
    | .str [c] => some (b.contains c)
    | _ => none
  | y => match s.seq? y with
    | some l => if dOk 60 x && dOks 60 l then some (l.any fun z => eqP z x) else none
    | none => match s.dct? y with
      | some d => if keyOk x then some (dLook d x).isSome else none
      | none => none
def cNotIn : Cp := fun s x y => (cIn s x y).map (!·)
def cIs : Cp := fun _ x y => match x, y with
  | .non, .non => some true
  | .bl a, .bl b => some (a == b)
  | .bl _, .non => some false
  | .int _, .non => some false
  | .str _, .non => some false
  | .tup _, .non => some false
  | .lst _, .non => some false
  | .ref _, .non => some false
  | _, _ => none
def cIsNot : Cp := fun s x y => (cIs s x y).map (!·)
/-- a value's truth -/
def tru (s : Stt) : PV → Option Bool
  | .non => some false
  | .bl b => some b
  | .int i => some (!(i == 0))
  | .str l => if lenOk l then some (!l.isEmpty) else none
  | x => (s.seq? x).map fun l => !l.isEmpty
/-! ### items, slices -/
def ixN (n : Nat) (i : Int) : Option Nat := if 0 ≤ i then (if i < n then some i.toNat else none) else if -(n : Int) ≤ i then some (i + n).toNat else none
def atI {α : Type} (l : List α) (i : Int) : Option α := (ixN l.length i).bind fun j => l[j]?
def oIx : Op2 := fun s x y => match x, y with
  | .str l, .int i => if lenOk l then (atI l i).map fun c => .str [c] else none
  | x, .int i => match s.seq? x with
    | some l => atI l i
    | none => match s.dct? x with
      | some d => dLook d (.int i)
      | none => none
  | x, y => match s.dct? x with
    | some d => if keyOk y then dLook d y else none
    | none => none
def sIx (n d : Nat) : Option Int → Nat
  | none => d
  | some v => if v < 0 then (v + (n : Int)).toNat else min v.toNat n
def cutL {α : Type} (l : List α) (lo hi : Option Int) : List α := (l.drop (sIx l.length 0 lo)).take (sIx l.length l.length hi - sIx l.length 0 lo)
def cutV (s : Stt) (x : PV) (lo hi : Option Int) : Option PV := match x with
  | .str l => if lenOk l then some (.str (cutL l lo hi)) else none
  | .tup l => some (.tup (cutL l lo hi))
  | x => (s.lst? x).map fun l => .lst (cutL l lo hi)
def revV (s : Stt) (x : PV) : Option PV := match x with
  | .str l => if lenOk l then some (.str l.reverse) else none
  | x => (s.lst? x).map fun l => .lst l.reverse
/-! ### expressions -/
def eC (p : PV) : Ex := fun _ s => .ok p s
def eV (i : Nat) : Ex := fun ρ s => match ρ[i]? with
  | some (some p) => .ok p s
  | _ => .bad
def eOp (f : Op2) (a b : Ex) : Ex := fun ρ s => (a ρ s).bind fun x s => (b ρ s).bind fun y s => .ofO s (f s x y)
def eNeg (a : Ex) : Ex := fun ρ s => (a ρ s).bind fun x s => match x with
  | .int i => .ok (.int (-i)) s
  | _ => .bad
def eCp (f : Cp) (a b : Ex) : Ex := fun ρ s => (a ρ s).bind fun x s => (b ρ s).bind fun y s => .ofO s ((f s x y).map .bl)
/-- a f b g c -/
def eCh (f g : Cp) (a b c : Ex) : Ex := fun ρ s => (a ρ s).bind fun x s => (b ρ s).bind fun y s => match f s x y with
  | some true => (c ρ s).bind fun z s => .ofO s ((g s y z).map .bl)
  | some false => .ok (.bl false) s
  | none => .bad
def eIf (t : Tx) (a b : Ex) : Ex := fun ρ s => (t ρ s).bind fun c s => if c then a ρ s else b ρ s
/-- a test as a value: both sides are bools -/
def eB (t : Tx) : Ex := fun ρ s => (t ρ s).bind fun c s => .ok (.bl c) s
def eAnd (a b : Ex) : Ex := fun ρ s => (a ρ s).bind fun x s => match tru s x with
  | some true => b ρ s
  | some false => .ok x s
  | none => .bad
def eOr (a b : Ex) : Ex := fun ρ s => (a ρ s).bind fun x s => match tru s x with
  | some true => .ok x s
  | some false => b ρ s
  | none => .bad
def eNot (t : Tx) : Ex := fun ρ s => (t ρ s).bind fun c s => .ok (.bl (!c)) s
def eTup (l : Lx) : Ex := fun ρ s => (l ρ s).bind fun xs s => if lenOk xs then .ok (.tup xs) s else .bad
def eLst (l : Lx) : Ex := fun ρ s => (l ρ s).bind fun xs s => if lenOk xs then .ok (.lst xs) s else .bad
/-- a list that will be changed -/
def eLstM (l : Lx) : Ex := fun ρ s => (l ρ s).bind fun xs s => if lenOk xs then .ok (.ref s.objs.length) (s.new (.lst xs)) else .bad
def eDctM : Ex := fun _ s => .ok (.ref s.objs.length) (s.new (.dct []))
/-- a part of a slice -/
def pE : Option Ex → Env → Stt → Res (Option Int)
  | none, _, s => .ok none s
  | some e, ρ, s => (e ρ s).bind fun p s => match p with
    | .int i => .ok (some i) s
    | _ => .bad
def eCut (a : Ex) (lo hi : Option Ex) : Ex := fun ρ s => (a ρ s).bind fun x s => (pE lo ρ s).bind fun l s => (pE hi ρ s).bind fun h s => .ofO s (cutV s x l h)
def eRev (a : Ex) : Ex := fun ρ s => (a ρ s).bind fun x s => .ofO s (revV s x)
def lNil : Lx := fun _ s => .ok [] s
def lCons (a : Ex) (l : Lx) : Lx := fun ρ s => (a ρ s).bind fun x s => (l ρ s).bind fun xs s => .ok (x :: xs) s
/-- a function of values: a builtin that makes nothing but values -/
def eFn (f : Stt → List PV → Option PV) (l : Lx) : Ex := fun ρ s => (l ρ s).bind fun xs s => .ofO s (f s xs)
/-- a def called -/
def eCall (f : Fx) (l : Lx) : Ex := fun ρ s => (l ρ s).bind f
/-! ### tests -/
def tE (a : Ex) : Tx := fun ρ s => (a ρ s).bind fun x s => .ofO s (tru s x)
def tAnd (a b : Tx) : Tx := fun ρ s => (a ρ s).bind fun c s => if c then b ρ s else .ok false s
def tOr (a b : Tx) : Tx := fun ρ s => (a ρ s).bind fun c s => if c then .ok true s else b ρ s
def tNot (a : Tx) : Tx := fun ρ s => (a ρ s).bind fun c s => .ok (!c) s
/-! ### targets -/
def gN (i : Nat) : Gx := fun p ρ => some (ρ.set i (some p))
def setAll : List Gx → List PV → Env → Option Env
  | [], [], ρ => some ρ
  | g :: gs, p :: ps, ρ => (g p ρ).bind fun ρ => setAll gs ps ρ
  | _, _, _ => none
def gT (gs : List Gx) : Gx := fun p ρ => match p with
  | .tup l => setAll gs l ρ
  | .lst l => setAll gs l ρ
  | _ => none
/-! ### what is walked: the items as they stand at each turn -/
abbrev Src := Stt → Option (List PV)
def live : PV → Src
  | .str l => fun _ => some (l.map fun c => .str [c])
  | .tup l => fun _ => some l
  | .lst l => fun _ => some l
  | .dct d => fun _ => some (d.map (·.1))
  | .ref i => fun s => match s.objs[i]? with
    | some (.lst l) => some l
    | _ => none
  | _ => fun _ => none
abbrev Ix := Env → Stt → Res Src
/-- there is something to walk -/
def ixOk (f : Src) (s : Stt) : Res Src := match f s with
  | some _ => .ok f s
  | none => .bad
def iE (a : Ex) : Ix := fun ρ s => (a ρ s).bind fun x s => ixOk (live x) s
def rngOk (i : Int) : Bool := decide (-(2 ^ 62) ≤ i) && decide (i < 2 ^ 62)
def rng (i : Int) : Nat → List PV
  | 0 => []
  | n + 1 => .int i :: rng (i + 1) n
def iRange1 (a : Ex) : Ix := fun ρ s => (a ρ s).bind fun x s => match x with
  | .int j => if rngOk j then .ok (fun _ => some (rng 0 j.toNat)) s else .bad
  | _ => .bad
def iRange2 (a b : Ex) : Ix := fun ρ s => (a ρ s).bind fun x s => (b ρ s).bind fun y s => match x, y with
  | .int i, .int j => if rngOk i && rngOk j then .ok (fun _ => some (rng i (j - i).toNat)) s else .bad
  | _, _ => .bad
def enumL (k : Int) : List PV → List PV
  | [] => []
  | x :: xs => .tup [.int k, x] :: enumL (k + 1) xs
/-- a list, a text -/
def liveE : PV → Src
  | .dct _ => fun _ => none
  | x => live x
def iEnum (a : Ex) : Ix := fun ρ s => (a ρ s).bind fun x s => ixOk (fun s => (liveE x s).map (enumL 0)) s
def zipL : List PV → List PV → List PV
  | x :: xs, y :: ys => .tup [x, y] :: zipL xs ys
  | _, _ => []
def iZip (a b : Ex) : Ix := fun ρ s => (a ρ s).bind fun x s => (b ρ s).bind fun y s => ixOk (fun s => match live x s, live y s with
  | some l, some m => some (zipL l m)
  | _, _ => none) s
/-! ### comprehensions -/
/-- what is raised within is not followed -/
def Res.calm {α : Type} : Res α → Res α
  | .err _ _ => .bad
  | r => r
def wipeE (ρ : Env) : List Nat → Env
  | [] => ρ
  | v :: vs => (wipeE ρ vs).set v none
def compV (f : Src) (g : Gx) (t : Tx) (e : Ex) (ρ : Env) : Nat → Nat → Stt → Res (List PV)
  | 0, _, _ => .bad
  | n + 1, i, s => match f s with
    | none => .bad
    | some l => match l[i]? with
      | none => .ok [] s
      | some x => if Nat.blt i szl then (match g x ρ with
        | none => .bad
        | some ρ' => (t ρ' s).calm.bind fun c s => if c then (e ρ' s).calm.bind fun y s => (compV f g t e ρ n (i + 1) s).bind fun ys s => .ok (y :: ys) s else compV f g t e ρ n (i + 1) s) else .bad
/-- the items of a comprehension -/
def lComp (own : List Nat) (g : Gx) (src : Ix) (t : Tx) (e : Ex) : Lx := fun ρ s => (src ρ s).bind fun f s => match f s with
  | none => .bad
  | some l => compV f g t e (wipeE ρ own) (l.length + 1) 0 s
def tYes : Tx := fun _ s => .ok true s
/-- [e for g in src if t] -/
def eComp (own : List Nat) (g : Gx) (src : Ix) (t : Tx) (e : Ex) : Ex := fun ρ s => (lComp own g src t e ρ s).bind fun xs s => .ok (.lst xs) s
/-! ### statements -/
def sNop : Sx := fun ρ s => .nx ρ s
def sSeq (a b : Sx) : Sx := fun ρ s => match a ρ s with
  | .nx ρ s => b ρ s
  | r => r
def sExpr (e : Ex) : Sx := fun ρ s => (e ρ s).sbind fun _ s => .nx ρ s
def sAsg (g : Gx) (e : Ex) : Sx := fun ρ s => (e ρ s).sbind fun x s => match g x ρ with
  | some ρ => .nx ρ s
  | none => .bad
def sAug (i : Nat) (f : Op2) (e : Ex) : Sx := fun ρ s => match ρ[i]? with
  | some (some x) => (e ρ s).sbind fun y s => match f s x y with
    | some z => .nx (ρ.set i (some z)) s
    | none => .bad
  | _ => .bad
def sIf (t : Tx) (a b : Sx) : Sx := fun ρ s => (t ρ s).sbind fun c s => if c then a ρ s else b ρ s
def sRet (e : Ex) : Sx := fun ρ s => (e ρ s).sbind fun x s => .rt x s
def sRaise (c : Nat) : Sx := fun _ s => .err c s
def forV (f : Src) (g : Gx) (b : Sx) : Nat → Nat → Sx
  | 0, _, _, _ => .bad
  | n + 1, i, ρ, s => match f s with
    | none => .bad
    | some l => match l[i]? with
      | none => .nx ρ s
      | some x => match g x ρ with
        | none => .bad
        | some ρ => match b ρ s with
          | .nx ρ s => forV f g b n (i + 1) ρ s
          | r => r
def sFor (g : Gx) (src : Ix) (b : Sx) : Sx := fun ρ s => (src ρ s).sbind fun f s => match f s with
  | none => .bad
  | some l => forV f g b (l.length + 1) 0 ρ s
def whileN (t : Tx) (b : Sx) : Nat → Sx
  | 0, _, _ => .bad
  | n + 1, ρ, s => (t ρ s).sbind fun c s => if c then (match b ρ s with
      | .nx ρ s => whileN t b n ρ s
      | r => r) else .nx ρ s
/-- a[i] = v -/
def setIt (s : Stt) (o i v : PV) : Option Stt := match o with
  | .ref k => match s.objs[k]?, i with
    | some (.lst l), .int n => (ixN l.length n).map fun j => s.set k (.lst (l.set j v))
    | some (.dct d), i => if keyOk i && Nat.blt d.length szl then some (s.set k (.dct (dPut d i v))) else none
    | _, _ => none
  | _ => none
def sPut (o i v : Ex) : Sx := fun ρ s => (v ρ s).sbind fun v s => (o ρ s).sbind fun o s => (i ρ s).sbind fun i s => match setIt s o i v with
  | some s => .nx ρ s
  | none => .bad
def sApp (o : Ex) (v : Ex) : Sx := fun ρ s => (o ρ s).sbind fun o s => (v ρ s).sbind fun v s => match o with
  | .ref k => match s.objs[k]? with
    | some (.lst l) => if Nat.blt l.length szl then .nx ρ (s.set k (.lst (l ++ [v]))) else .bad
    | _ => .bad
  | _ => .bad
/-- try: a / except cs: b -/
def SRes.calm : SRes → SRes
  | .err _ _ => .bad
  | r => r
def sTry (a : Sx) (cs : List Nat) (b : Sx) : Sx := fun ρ s => match a ρ s with
  | .err c s => if cs.contains c then (b (ρ.map fun _ => none) s).calm else .err c s
  | r => r
/-- a def: n slots, k parameters -/
def mkFn (n k : Nat) (b : Sx) : Fx := fun vs s => if vs.length == k then (match b (vs.map some ++ List.replicate (n - k) none) s with
  | .nx _ s => .ok .non s
  | .rt v s => .ok v s
  | .err c s => .err c s
  | .bad => .bad) else .bad
end Ev
set_option Elab.async false
set_option maxRecDepth 100000
set_option maxHeartbeats 2000000
/-! Ev1: the relation between plain values with their store and the hand layer's values with its heap. -/
namespace Ev
open PySem PySem.Spec PyProof.Rows L2
/-- what is fixed of a program: the exceptions' classes, the instances' classes, the fields' names, the tables of code -/
structure Wd where
  exc : Nat → Addr
  cls : Nat → Addr
  fld : Nat → Str
  tabs : List (Addr × Option Str)
def sOf (l : List Nat) : Str := ⟨l.toArray⟩
/-- a list that is never changed -/
def FzL (K : PySem.W.Frag) (H : Hp) (a : Addr) (xs : List V) : Prop :=
  (∃ o, H a = some (.frz o (.lst xs))) ∨
    ∃ (o : Obj) (its : Array Value) (n : Nat), K.lookup a = some o ∧ o.cls = .type "list" ∧ o.dict = none ∧ o.data = .seq its n ∧ its.size ≤ sizeLine ∧ Vals xs its.toList
theorem FzL.sq {K : PySem.W.Frag} {H : Hp} {a : Addr} {xs : List V} (h : FzL K H a xs) : SqL K H a xs := by
  rcases h with ⟨o, h⟩ | h
  · exact .inl (.inr ⟨o, h⟩)
  · exact .inr h
def keyP : PV → Option Key
  | .int i => some (.inl i)
  | .str l => some (.inr (sOf l))
  | _ => none
mutual
inductive RV (K : PySem.W.Frag) (μ : List Addr) (H : Hp) : PV → V → Prop
  | non : RV K μ H .non .non
  | bl (b : Bool) : RV K μ H (.bl b) (.bl b)
  | int (i : Int) : RV K μ H (.int i) (.int i)
  | str (l : List Nat) : RV K μ H (.str l) (.str (sOf l))
  | tup {a : Addr} {l : List PV} {xs : List V} : SqT K H a xs → RVs K μ H l xs → RV K μ H (.tup l) (.ref a)
  | lst {a : Addr} {l : List PV} {xs : List V} : FzL K H a xs → RVs K μ H l xs → RV K μ H (.lst l) (.ref a)
  | dct {a : Addr} {o : Obj} {l : List (PV × PV)} {kvs : List (Key × V)} : H a = some (.frz o (.dK kvs)) → RKs K μ H l kvs → (kvs.map (·.1)).Nodup → RV K μ H (.dct l) (.ref a)
  | ref {i : Nat} {a : Addr} : μ[i]? = some a → RV K μ H (.ref i) (.ref a)
inductive RVs (K : PySem.W.Frag) (μ : List Addr) (H : Hp) : List PV → List V → Prop
  | nil : RVs K μ H [] []
  | cons {p : PV} {v : V} {ps : List PV} {vs : List V} : RV K μ H p v → RVs K μ H ps vs → RVs K μ H (p :: ps) (v :: vs)
inductive RKs (K : PySem.W.Frag) (μ : List Addr) (H : Hp) : List (PV × PV) → List (Key × V) → Prop
  | nil : RKs K μ H [] []
  | cons {k p : PV} {key : Key} {v : V} {ps : List (PV × PV)} {vs : List (Key × V)} : keyP k = some key → RV K μ H p v → RKs K μ H ps vs → RKs K μ H ((k, p) :: ps) ((key, v) :: vs)
end
/-- what stands stays; what is no object of the store stands as it is (a table of code may grow) -/
structure Ext (μ : List Addr) (H : Hp) (μ' : List Addr) (H' : Hp) : Prop where
  mu : μ <+: μ'
  tup : ∀ b xs, H b = some (.tup xs) → H' b = some (.tup xs)
  frz : ∀ b o u, H b = some (.frz o u) → H' b = some (.frz o u)
  keep : ∀ b u, H b = some u → b ∉ μ → (∀ ps, u ≠ .tbl ps) → H' b = some u
  tbl : ∀ b ps, H b = some (.tbl ps) → ∃ ps', H' b = some (.tbl ps')
  new : ∀ b ∈ μ', b ∈ μ ∨ H b = none
theorem Ext.refl (μ : List Addr) (H : Hp) : Ext μ H μ H := ⟨List.prefix_refl _, fun _ _ h => h, fun _ _ _ h => h, fun _ _ h _ _ => h, fun _ ps h => ⟨ps, h⟩, fun _ h => .inl h⟩
theorem Ext.back {μ μ' : List Addr} {H H' : Hp} (e : Ext μ H μ' H') {b : Addr} (h : H' b = none) : b ∈ μ ∨ H b = none := by
  by_cases hm : b ∈ μ
  · exact .inl hm
  · right
    cases hb : H b with
    | none => rfl
    | some u =>
      by_cases ht : ∃ ps, u = .tbl ps
      · obtain ⟨ps, rfl⟩ := ht
        obtain ⟨_, q⟩ := e.tbl b ps hb
        rw [h] at q; cases q
      · have q := e.keep b u hb hm fun ps z => ht ⟨ps, z⟩
        rw [h] at q; cases q
theorem Ext.trans {μ μ1 μ2 : List Addr} {H H1 H2 : Hp} (a : Ext μ H μ1 H1) (b : Ext μ1 H1 μ2 H2) : Ext μ H μ2 H2 where
  mu := a.mu.trans b.mu
  tup := fun c xs h => b.tup c xs (a.tup c xs h)
  frz := fun c o u h => b.frz c o u (a.frz c o u h)
  keep := fun c u h hn ht => by
    refine b.keep c u (a.keep c u h hn ht) (fun hm => ?_) ht
    rcases a.new c hm with z | z
    · exact hn z
    · rw [h] at z; cases z
  tbl := fun c ps h => by
    obtain ⟨ps', q⟩ := a.tbl c ps h
    exact b.tbl c ps' q
  new := fun c hc => by
    rcases b.new c hc with z | z
    · exact a.new c z
    · exact a.back z
/-- an object beside is changed that was not there at first -/
theorem Ext.side {μ μ' : List Addr} {H H' : Hp} (e : Ext μ H μ' H') {D : Addr} {u : HO} (hD : H D = none) : Ext μ H μ' (upd H' D u) := by
  have ne : ∀ b v, H b = some v → b ≠ D := fun b v h z => by rw [z, hD] at h; cases h
  exact ⟨e.mu, fun b xs h => by rw [upd_ne (ne b _ h)]; exact e.tup b xs h, fun b o v h => by rw [upd_ne (ne b _ h)]; exact e.frz b o v h, fun b v h n t => by rw [upd_ne (ne b _ h)]; exact e.keep b v h n t,
    fun b ps h => by
      obtain ⟨ps', q⟩ := e.tbl b ps h
      exact ⟨ps', by rw [upd_ne (ne b _ h)]; exact q⟩, e.new⟩
/-- what a value leans on stays -/
structure Ex0 (μ : List Addr) (H : Hp) (μ' : List Addr) (H' : Hp) : Prop where
  mu : μ <+: μ'
  tup : ∀ b xs, H b = some (.tup xs) → H' b = some (.tup xs)
  frz : ∀ b o u, H b = some (.frz o u) → H' b = some (.frz o u)
theorem Ext.x0 {μ μ' : List Addr} {H H' : Hp} (e : Ext μ H μ' H') : Ex0 μ H μ' H' := ⟨e.mu, e.tup, e.frz⟩
theorem Ex0.get {μ μ' : List Addr} {H H' : Hp} (e : Ex0 μ H μ' H') {i : Nat} {a : Addr} (h : μ[i]? = some a) : μ'[i]? = some a := by
  obtain ⟨t, rfl⟩ := e.mu
  rw [List.getElem?_append_left (List.getElem?_eq_some_iff.mp h).1]
  exact h
theorem Ex0.rd {μ μ' : List Addr} {H H' : Hp} (e : Ex0 μ H μ' H') {a : Addr} {xs : List V} (h : Rd H a (.tup xs)) : Rd H' a (.tup xs) := by
  rcases h with h | ⟨o, h⟩
  · exact .inl (e.tup _ _ h)
  · exact .inr ⟨o, e.frz _ _ _ h⟩
theorem Ex0.sqT {K : PySem.W.Frag} {μ μ' : List Addr} {H H' : Hp} (e : Ex0 μ H μ' H') {a : Addr} {xs : List V} (h : SqT K H a xs) : SqT K H' a xs := by
  rcases h with h | h
  · exact .inl (e.rd h)
  · exact .inr h
theorem Ex0.fz {K : PySem.W.Frag} {μ μ' : List Addr} {H H' : Hp} (e : Ex0 μ H μ' H') {a : Addr} {xs : List V} (h : FzL K H a xs) : FzL K H' a xs := by
  rcases h with ⟨o, h⟩ | h
  · exact .inl ⟨o, e.frz _ _ _ h⟩
  · exact .inr h
mutual
theorem RV.ex0 {K : PySem.W.Frag} {μ μ' : List Addr} {H H' : Hp} (e : Ex0 μ H μ' H') : ∀ {p : PV} {v : V}, RV K μ H p v → RV K μ' H' p v
  | _, _, .non => .non
  | _, _, .bl b => .bl b
  | _, _, .int i => .int i
  | _, _, .str l => .str l
  | _, _, .tup h r => .tup (e.sqT h) (RVs.ex0 e r)
  | _, _, .lst h r => .lst (e.fz h) (RVs.ex0 e r)
  | _, _, .dct h r n => .dct (e.frz _ _ _ h) (RKs.ex0 e r) n
  | _, _, .ref h => .ref (e.get h)
theorem RVs.ex0 {K : PySem.W.Frag} {μ μ' : List Addr} {H H' : Hp} (e : Ex0 μ H μ' H') : ∀ {p : List PV} {v : List V}, RVs K μ H p v → RVs K μ' H' p v
  | _, _, .nil => .nil
  | _, _, .cons a b => .cons (RV.ex0 e a) (RVs.ex0 e b)
theorem RKs.ex0 {K : PySem.W.Frag} {μ μ' : List Addr} {H H' : Hp} (e : Ex0 μ H μ' H') : ∀ {p : List (PV × PV)} {v : List (Key × V)}, RKs K μ H p v → RKs K μ' H' p v
  | _, _, .nil => .nil
  | _, _, .cons k a b => .cons k (RV.ex0 e a) (RKs.ex0 e b)
end
section
variable {K : PySem.W.Frag} {μ μ' : List Addr} {H H' : Hp}
theorem Ext.get (e : Ext μ H μ' H') {i : Nat} {a : Addr} (h : μ[i]? = some a) : μ'[i]? = some a := e.x0.get h
theorem Ext.sqT (e : Ext μ H μ' H') {a : Addr} {xs : List V} (h : SqT K H a xs) : SqT K H' a xs := e.x0.sqT h
theorem Ext.fz (e : Ext μ H μ' H') {a : Addr} {xs : List V} (h : FzL K H a xs) : FzL K H' a xs := e.x0.fz h
theorem RV.ext (e : Ext μ H μ' H') {p : PV} {v : V} (h : RV K μ H p v) : RV K μ' H' p v := h.ex0 e.x0
theorem RVs.ext (e : Ext μ H μ' H') {p : List PV} {v : List V} (h : RVs K μ H p v) : RVs K μ' H' p v := h.ex0 e.x0
theorem RKs.ext (e : Ext μ H μ' H') {p : List (PV × PV)} {v : List (Key × V)} (h : RKs K μ H p v) : RKs K μ' H' p v := h.ex0 e.x0
end
theorem RVs.length {K : PySem.W.Frag} {μ : List Addr} {H : Hp} : ∀ {ps : List PV} {vs : List V}, RVs K μ H ps vs → ps.length = vs.length
  | _, _, .nil => rfl
  | _, _, .cons _ t => by simp [RVs.length t]
theorem RVs.get {K : PySem.W.Frag} {μ : List Addr} {H : Hp} : ∀ {ps : List PV} {vs : List V} {i : Nat} {p : PV}, RVs K μ H ps vs → ps[i]? = some p → ∃ v, vs[i]? = some v ∧ RV K μ H p v
  | _, _, _, _, .nil, e => by simp at e
  | _, _, 0, _, .cons r _, e => by simp at e; subst e; exact ⟨_, rfl, r⟩
  | _, _, i + 1, p, .cons _ t, e => by
    obtain ⟨v, h1, h2⟩ := RVs.get (i := i) (p := p) t (by simpa using e)
    exact ⟨v, by simpa using h1, h2⟩
theorem RVs.get' {K : PySem.W.Frag} {μ : List Addr} {H : Hp} : ∀ {ps : List PV} {vs : List V} {i : Nat} {v : V}, RVs K μ H ps vs → vs[i]? = some v → ∃ p, ps[i]? = some p ∧ RV K μ H p v
  | _, _, _, _, .nil, e => by simp at e
  | _, _, 0, _, .cons r _, e => by simp at e; subst e; exact ⟨_, rfl, r⟩
  | _, _, i + 1, p, .cons _ t, e => by
    obtain ⟨v, h1, h2⟩ := RVs.get' (i := i) (v := p) t (by simpa using e)
    exact ⟨v, by simpa using h1, h2⟩
theorem RVs.append {K : PySem.W.Frag} {μ : List Addr} {H : Hp} : ∀ {ps qs : List PV} {vs ws : List V}, RVs K μ H ps vs → RVs K μ H qs ws → RVs K μ H (ps ++ qs) (vs ++ ws)
  | _, _, _, _, .nil, s => s
  | _, _, _, _, .cons r t, s => .cons r (RVs.append t s)
theorem RVs.set {K : PySem.W.Frag} {μ : List Addr} {H : Hp} {p : PV} {v : V} (r : RV K μ H p v) : ∀ {ps : List PV} {vs : List V} (i : Nat), RVs K μ H ps vs → RVs K μ H (ps.set i p) (vs.set i v)
  | _, _, _, .nil => .nil
  | _, _, 0, .cons _ t => .cons r t
  | _, _, i + 1, .cons q t => .cons q (RVs.set r i t)
theorem RVs.take {K : PySem.W.Frag} {μ : List Addr} {H : Hp} : ∀ {ps : List PV} {vs : List V} (n : Nat), RVs K μ H ps vs → RVs K μ H (ps.take n) (vs.take n)
  | _, _, 0, _ => .nil
  | _, _, _ + 1, .nil => .nil
  | _, _, n + 1, .cons r t => .cons r (RVs.take n t)
theorem RVs.drop {K : PySem.W.Frag} {μ : List Addr} {H : Hp} : ∀ {ps : List PV} {vs : List V} (n : Nat), RVs K μ H ps vs → RVs K μ H (ps.drop n) (vs.drop n)
  | _, _, 0, r => r
  | _, _, _ + 1, .nil => .nil
  | _, _, n + 1, .cons _ t => RVs.drop n t
theorem RVs.reverse {K : PySem.W.Frag} {μ : List Addr} {H : Hp} : ∀ {ps : List PV} {vs : List V}, RVs K μ H ps vs → RVs K μ H ps.reverse vs.reverse
  | _, _, .nil => .nil
  | _, _, .cons r t => by
    rw [List.reverse_cons, List.reverse_cons]
    exact (RVs.reverse t).append (.cons r .nil)
theorem RVs.one {K : PySem.W.Frag} {μ : List Addr} {H : Hp} {p : PV} {vs : List V} (h : RVs K μ H [p] vs) : ∃ v, vs = [v] ∧ RV K μ H p v := by
  cases h with
  | cons r t => cases t; exact ⟨_, rfl, r⟩
theorem RVs.two {K : PySem.W.Frag} {μ : List Addr} {H : Hp} {p q : PV} {vs : List V} (h : RVs K μ H [p, q] vs) : ∃ v w, vs = [v, w] ∧ RV K μ H p v ∧ RV K μ H q w := by
  cases h with
  | cons r t =>
    obtain ⟨w, rfl, r2⟩ := RVs.one t
    exact ⟨_, _, rfl, r, r2⟩
inductive RFs (K : PySem.W.Frag) (W : Wd) (μ : List Addr) (H : Hp) : List (Nat × PV) → List (Str × V) → Prop
  | nil : RFs K W μ H [] []
  | cons {n : Nat} {p : PV} {v : V} {fs : List (Nat × PV)} {gs : List (Str × V)} : RV K μ H p v → RFs K W μ H fs gs → RFs K W μ H ((n, p) :: fs) ((W.fld n, v) :: gs)
theorem RFs.ex0 {K : PySem.W.Frag} {W : Wd} {μ μ' : List Addr} {H H' : Hp} (e : Ex0 μ H μ' H') : ∀ {p : List (Nat × PV)} {v : List (Str × V)}, RFs K W μ H p v → RFs K W μ' H' p v
  | _, _, .nil => .nil
  | _, _, .cons a b => .cons (a.ex0 e) (RFs.ex0 e b)
theorem RFs.ext {K : PySem.W.Frag} {W : Wd} {μ μ' : List Addr} {H H' : Hp} (e : Ext μ H μ' H') {p : List (Nat × PV)} {v : List (Str × V)} (h : RFs K W μ H p v) : RFs K W μ' H' p v := h.ex0 e.x0
def RO (K : PySem.W.Frag) (W : Wd) (μ : List Addr) (H : Hp) (a : Addr) : Ob → Prop
  | .lst l => ∃ xs, H a = some (.lst xs) ∧ RVs K μ H l xs
  | .dct d => ∃ kvs, H a = some (.dK kvs) ∧ RKs K μ H d kvs ∧ (kvs.map (·.1)).Nodup
  | .ins c fs => ∃ dx gs, H a = some (.ins (W.cls c) dx gs) ∧ RFs K W μ H fs gs
/-- a table of code objects: that holds what generator expressions have made; that holds one lambda's -/
def TabK (H : Hp) (p : Addr × Option Str) : Prop := match p.2 with
  | none => GxR.TabG H p.1
  | some q => LamX.TabS H p.1 q
theorem TabK.g {H : Hp} {p : Addr × Option Str} (h : TabK H p) : GxR.TabG H p.1 := by
  obtain ⟨P, q⟩ := p
  cases q with
  | none => exact h
  | some q =>
    obtain ⟨ps, h1, h2, _⟩ := h
    exact ⟨ps, h1, h2⟩
theorem TabK.keep {H H' : Hp} {p : Addr × Option Str} (h : TabK H p) (k1 : ∀ b ps, H b = some (.tbl ps) → H' b = some (.tbl ps)) (k2 : ∀ b φ, H b = some (.ext φ) → H' b = some (.ext φ)) : TabK H' p := by
  obtain ⟨P, q⟩ := p
  cases q with
  | none =>
    obtain ⟨ps, h1, h2⟩ := h
    exact ⟨ps, k1 _ _ h1, h2⟩
  | some q =>
    obtain ⟨ps, h1, h2, h3⟩ := h
    refine ⟨ps, k1 _ _ h1, h2, fun pos cv hc => ?_⟩
    obtain ⟨c, e1, e2⟩ := h3 pos cv hc
    exact ⟨c, e1, k2 _ _ e2⟩
structure StOk (K : PySem.W.Frag) (W : Wd) (μ : List Addr) (st : Stt) (H : Hp) : Prop where
  len : μ.length = st.objs.length
  nd : μ.Nodup
  at_ : ∀ (i : Nat) (o : Ob) (a : Addr), st.objs[i]? = some o → μ[i]? = some a → RO K W μ H a o
  tabs : ∀ P ∈ W.tabs, TabK H P
structure EnvOk (K : PySem.W.Frag) (μ : List Addr) (H : Hp) (ρ : Env) (σ : L2.St) : Prop where
  len : ρ.length = σ.length
  at_ : ∀ (i : Nat) (p : PV), ρ[i]? = some (some p) → ∃ v, σ[i]? = some (some v) ∧ RV K μ H p v
section
variable {K : PySem.W.Frag} {W : Wd} {μ μ' : List Addr} {st : Stt} {H H' : Hp} {ρ : Env} {σ : L2.St}
theorem EnvOk.ext (e : Ext μ H μ' H') (h : EnvOk K μ H ρ σ) : EnvOk K μ' H' ρ σ := ⟨h.len, fun i p q => by
  obtain ⟨v, a, b⟩ := h.at_ i p q
  exact ⟨v, a, b.ext e⟩⟩
theorem EnvOk.set {i : Nat} {p : PV} {v : V} (h : EnvOk K μ H ρ σ) (r : RV K μ H p v) : EnvOk K μ H (ρ.set i (some p)) (σ.set i (some v)) := by
  refine ⟨by rw [List.length_set, List.length_set]; exact h.len, fun j q e => ?_⟩
  by_cases hj : i = j
  · subst hj
    by_cases hi : i < ρ.length
    · rw [List.getElem?_set_self hi] at e
      cases e
      exact ⟨v, by rw [List.getElem?_set_self (by rw [← h.len]; exact hi)], r⟩
    · rw [List.getElem?_eq_none (by simpa using hi)] at e
      cases e
  · rw [List.getElem?_set_ne hj] at e
    obtain ⟨w, a, b⟩ := h.at_ j q e
    exact ⟨w, by rw [List.getElem?_set_ne hj]; exact a, b⟩
theorem EnvOk.wipe (h : EnvOk K μ H ρ σ) : ∀ vs : List Nat, EnvOk K μ H (wipeE ρ vs) (L2.wipe σ vs)
  | [] => h
  | v :: vs => by
    have ih := EnvOk.wipe h vs
    refine ⟨by unfold wipeE L2.wipe; rw [List.length_set, List.length_set]; exact ih.len, fun j q e => ?_⟩
    unfold wipeE at e
    unfold L2.wipe
    by_cases hj : v = j
    · subst hj
      by_cases hi : v < (wipeE ρ vs).length
      · rw [List.getElem?_set_self hi] at e; cases e
      · rw [List.getElem?_eq_none (by simpa using hi)] at e; cases e
    · rw [List.getElem?_set_ne hj] at e
      rw [List.getElem?_set_ne hj]
      exact ih.at_ j q e
theorem RO.live {a : Addr} {o : Ob} (h : RO K W μ H a o) : ∃ u, H a = some u ∧ (∀ xs, u ≠ .tup xs) ∧ (∀ ob v, u ≠ .frz ob v) ∧ (∀ ps, u ≠ .tbl ps) ∧ ∀ φ, u ≠ .ext φ := by
  cases o with
  | lst l => obtain ⟨xs, h, _⟩ := h; exact ⟨_, h, fun _ q => (by cases q), fun _ _ q => (by cases q), fun _ q => (by cases q), fun _ q => (by cases q)⟩
  | dct d => obtain ⟨xs, h, _⟩ := h; exact ⟨_, h, fun _ q => (by cases q), fun _ _ q => (by cases q), fun _ q => (by cases q), fun _ q => (by cases q)⟩
  | ins c fs => obtain ⟨dx, gs, h, _⟩ := h; exact ⟨_, h, fun _ q => (by cases q), fun _ _ q => (by cases q), fun _ q => (by cases q), fun _ q => (by cases q)⟩
theorem StOk.ob (h : StOk K W μ st H) {i : Nat} {a : Addr} (e : μ[i]? = some a) : ∃ o, st.objs[i]? = some o ∧ RO K W μ H a o := by
  have hl := (List.getElem?_eq_some_iff.mp e).1
  rw [h.len] at hl
  exact ⟨st.objs[i], by simp [hl], h.at_ i _ a (by simp [hl]) e⟩
theorem StOk.adr (h : StOk K W μ st H) {i : Nat} {o : Ob} (e : st.objs[i]? = some o) : ∃ a, μ[i]? = some a ∧ RO K W μ H a o := by
  have hl := (List.getElem?_eq_some_iff.mp e).1
  rw [← h.len] at hl
  exact ⟨μ[i], by simp [hl], h.at_ i o _ e (by simp [hl])⟩
theorem RO.ex0 {a : Addr} {o : Ob} (e : Ex0 μ H μ' H') (q : H' a = H a) (h : RO K W μ H a o) : RO K W μ' H' a o := by
  cases o with
  | lst l => obtain ⟨xs, h, r⟩ := h; exact ⟨xs, q.trans h, r.ex0 e⟩
  | dct d => obtain ⟨xs, h, r, n⟩ := h; exact ⟨xs, q.trans h, r.ex0 e, n⟩
  | ins c fs => obtain ⟨dx, gs, h, r⟩ := h; exact ⟨dx, gs, q.trans h, r.ex0 e⟩
theorem RO.ext {a : Addr} {o : Ob} (e : Ext μ H μ' H') (q : H' a = H a) (h : RO K W μ H a o) : RO K W μ' H' a o := h.ex0 e.x0 q
/-- what is live is left as it is -/
theorem StOk.keep0 (h : StOk K W μ st H) (e : Ex0 μ H μ H') (q : ∀ a ∈ μ, H' a = H a) (t : ∀ P ∈ W.tabs, TabK H' P) : StOk K W μ st H' :=
  ⟨h.len, h.nd, fun i o a h1 h2 => (h.at_ i o a h1 h2).ex0 e (q a (List.mem_of_getElem? h2)), t⟩
theorem StOk.keep (h : StOk K W μ st H) (e : Ext μ H μ H') (q : ∀ a ∈ μ, H' a = H a) (t : ∀ P ∈ W.tabs, TabK H' P) : StOk K W μ st H' := h.keep0 e.x0 q t
/-- a list beside the store is changed -/
theorem Ex0.side {D : Addr} {xs : List V} {u : HO} (hD : H D = some (.lst xs)) : Ex0 μ H μ (upd H D u) :=
  ⟨List.prefix_refl _, fun b xs' q => by rw [upd_ne fun z => by rw [z, hD] at q; cases q]; exact q, fun b o v q => by rw [upd_ne fun z => by rw [z, hD] at q; cases q]; exact q⟩
theorem StOk.side {D : Addr} {xs : List V} {u : HO} (h : StOk K W μ st H) (hD : H D = some (.lst xs)) (hm : D ∉ μ) : StOk K W μ st (upd H D u) :=
  h.keep0 (Ex0.side hD) (fun a ha => upd_ne fun z => hm (z ▸ ha)) fun P hP => by
    exact (h.tabs P hP).keep (fun b ps q => by rw [upd_ne fun z => by rw [z, hD] at q; cases q]; exact q) fun b φ q => by rw [upd_ne fun z => by rw [z, hD] at q; cases q]; exact q
theorem ext_new {p : Addr} {u : HO} (hp : H p = none) : Ext μ H μ (upd H p u) :=
  ⟨List.prefix_refl _, fun b xs h => by rw [upd_ne (ne_of_none h hp)]; exact h, fun b o x h => by rw [upd_ne (ne_of_none h hp)]; exact h, fun b v h _ _ => by rw [upd_ne (ne_of_none h hp)]; exact h, fun b ps h => ⟨ps, by rw [upd_ne (ne_of_none h hp)]; exact h⟩, fun _ h => .inl h⟩
/-- a new object of the store -/
theorem ext_add {p : Addr} {u : HO} (hp : H p = none) : Ext μ H (μ ++ [p]) (upd H p u) :=
  ⟨List.prefix_append _ _, (ext_new (μ := μ) hp).tup, (ext_new (μ := μ) hp).frz, (ext_new (μ := μ) hp).keep, (ext_new (μ := μ) hp).tbl, fun b hb => by
    rcases List.mem_append.mp hb with z | z
    · exact .inl z
    · rw [List.mem_singleton.mp z]; exact .inr hp⟩
theorem tab_new {p : Addr} {P : Addr × Option Str} {u : HO} (hp : H p = none) (h : TabK H P) : TabK (upd H p u) P :=
  h.keep (fun b ps q => by rw [upd_ne (ne_of_none q hp)]; exact q) fun b φ q => by rw [upd_ne (ne_of_none q hp)]; exact q
/-- something new that is no object of the store -/
theorem StOk.fresh (h : StOk K W μ st H) {p : Addr} {u : HO} (hp : H p = none) : StOk K W μ st (upd H p u) :=
  h.keep (ext_new hp) (fun a ha => by
    obtain ⟨i, hi⟩ := List.getElem?_of_mem ha
    obtain ⟨o, _, r⟩ := h.ob hi
    obtain ⟨w, hw, _⟩ := r.live
    rw [upd_ne (ne_of_none hw hp)]) fun P hP => tab_new hp (h.tabs P hP)
/-- a new object of the store -/
theorem StOk.new (h : StOk K W μ st H) {p : Addr} {u : HO} {o : Ob} (hp : H p = none) (r : RO K W (μ ++ [p]) (upd H p u) p o) : StOk K W (μ ++ [p]) (st.new o) (upd H p u) ∧ Ext μ H (μ ++ [p]) (upd H p u) := by
  have x : Ext μ H (μ ++ [p]) (upd H p u) := ext_add hp
  have nm : p ∉ μ := fun hm => by
    obtain ⟨i, hi⟩ := List.getElem?_of_mem hm
    obtain ⟨o, _, r⟩ := h.ob hi
    obtain ⟨w, hw, _⟩ := r.live
    rw [hp] at hw; cases hw
  refine ⟨⟨by simp [Stt.new, h.len], ?_, fun i ob a h1 h2 => ?_, fun P hP => tab_new hp (h.tabs P hP)⟩, x⟩
  · rw [List.nodup_append]
    exact ⟨h.nd, by simp, fun a ha b hb => by
      rw [List.mem_singleton.mp hb]
      intro e; exact nm (e ▸ ha)⟩
  · by_cases hi : i < μ.length
    · rw [List.getElem?_append_left hi] at h2
      have h1' : st.objs[i]? = some ob := by
        unfold Stt.new at h1
        rwa [List.getElem?_append_left (by rw [← h.len]; exact hi)] at h1
      refine (h.at_ i ob a h1' h2).ext x ?_
      rw [upd_ne]
      intro e; exact nm (e ▸ List.mem_of_getElem? h2)
    · have e1 : i = μ.length := by
        have q := (List.getElem?_eq_some_iff.mp h2).1
        rw [List.length_append, List.length_singleton] at q
        omega
      subst e1
      rw [List.getElem?_append_right (Nat.le_refl _), Nat.sub_self] at h2
      cases h2
      unfold Stt.new at h1
      rw [h.len, List.getElem?_append_right (Nat.le_refl _), Nat.sub_self] at h1
      cases h1
      exact r
/-- an object of the store is changed -/
theorem StOk.set (h : StOk K W μ st H) {i : Nat} {a : Addr} {u : HO} {o : Ob} (ha : μ[i]? = some a) (r : RO K W μ (upd H a u) a o) : StOk K W μ (st.set i o) (upd H a u) ∧ Ext μ H μ (upd H a u) := by
  obtain ⟨o0, ho0, r0⟩ := h.ob ha
  obtain ⟨u0, hu0, n1, n2, n3, n4⟩ := r0.live
  have x : Ext μ H μ (upd H a u) := ⟨List.prefix_refl _, fun b xs q => by
      rw [upd_ne]; exact q
      intro e; rw [e, hu0] at q; cases q; exact n1 _ rfl, fun b ob v q => by
      rw [upd_ne]; exact q
      intro e; rw [e, hu0] at q; cases q; exact n2 _ _ rfl, fun b v q nb _ => by
      rw [upd_ne]; exact q
      intro e; rw [e] at nb; exact nb (List.mem_of_getElem? ha), fun b ps q => ⟨ps, by
      rw [upd_ne]; exact q
      intro e; rw [e, hu0] at q; cases q; exact n3 _ rfl⟩, fun _ h => .inl h⟩
  refine ⟨⟨by simp [Stt.set, h.len], h.nd, fun j ob b h1 h2 => ?_, fun P hP => ?_⟩, x⟩
  · by_cases hj : i = j
    · subst hj
      rw [ha] at h2; cases h2
      unfold Stt.set at h1
      have hl := (List.getElem?_eq_some_iff.mp ho0).1
      rw [List.getElem?_set_self hl] at h1
      cases h1
      exact r
    · unfold Stt.set at h1
      rw [List.getElem?_set_ne hj] at h1
      refine (h.at_ j ob b h1 h2).ext x ?_
      rw [upd_ne]
      intro e
      subst e
      have z1 := (List.getElem?_eq_some_iff.mp h2)
      have z2 := (List.getElem?_eq_some_iff.mp ha)
      obtain ⟨l1, e1⟩ := z1
      obtain ⟨l2, e2⟩ := z2
      exact hj ((List.getElem_inj h.nd).mp (e2.trans e1.symm))
  · refine (h.tabs P hP).keep (fun b ps q => ?_) fun b φ q => ?_
    · rw [upd_ne]; exact q
      intro e; rw [e, hu0] at q; cases q; exact n3 _ rfl
    · rw [upd_ne]; exact q
      intro e; rw [e, hu0] at q; cases q; exact n4 _ rfl
end
/-! ### outcomes -/
section
variable (X : Cx) (W : Wd)
/-- what comes out is as P says; what is raised is taken by T -/
def OutG {α : Type} (μ : List Addr) (H : Hp) (T : WX) (P : List Addr → Hp → α → Stt → Prop) : Res α → Prop
  | .ok a s => ∀ μ' H', Ext μ H μ' H' → StOk X.K W μ' s H' → P μ' H' a s
  | .err c s => ∀ μ' H' (σ' : L2.St) d, σ'.length = X.N.length → Ext μ H μ' H' → StOk X.K W μ' s H' → T (.ref (W.exc c)) d σ' H'
  | .bad => False
abbrev Out (μ : List Addr) (H : Hp) (T : WX) (Q : VK) (r : Res PV) : Prop := OutG X W μ H T (fun μ' H' p _ => ∀ v, RV X.K μ' H' p v → Q v H') r
abbrev OutT (μ : List Addr) (H : Hp) (T : WX) (Q : Bool → Hp → Prop) (r : Res Bool) : Prop := OutG X W μ H T (fun _ H' b _ => Q b H') r
abbrev OutA (μ : List Addr) (H : Hp) (T : WX) (Q : List V → Hp → Prop) (r : Res (List PV)) : Prop := OutG X W μ H T (fun μ' H' ps _ => ∀ vs, RVs X.K μ' H' ps vs → Q vs H') r
def OutS (μ : List Addr) (H : Hp) (T : WX) (D : Ends) : SRes → Prop
  | .nx ρ s => ∀ μ' H' σ', Ext μ H μ' H' → StOk X.K W μ' s H' → EnvOk X.K μ' H' ρ σ' → D.nx σ' H'
  | .rt p s => ∀ μ' H' v, Ext μ H μ' H' → StOk X.K W μ' s H' → RV X.K μ' H' p v → D.rt v H'
  | .err c s => ∀ μ' H' (σ' : L2.St) d, σ'.length = X.N.length → Ext μ H μ' H' → StOk X.K W μ' s H' → T (.ref (W.exc c)) d σ' H'
  | .bad => False
/-- the readings -/
def rdE (m : Ex) : TE := fun σ H Q => ∃ T ρ μ st, Takes X T ∧ EnvOk X.K μ H ρ σ ∧ StOk X.K W μ st H ∧ Out X W μ H T Q (m ρ st)
def rdT (m : Tx) : TT := fun σ H Q => ∃ T ρ μ st, Takes X T ∧ EnvOk X.K μ H ρ σ ∧ StOk X.K W μ st H ∧ OutT X W μ H T Q (m ρ st)
def rdA (m : Lx) : TA := fun σ H Q => ∃ T ρ μ st, Takes X T ∧ EnvOk X.K μ H ρ σ ∧ StOk X.K W μ st H ∧ OutA X W μ H T Q (m ρ st)
def rdS (m : Sx) : TS := fun D σ H => ∃ T ρ μ st, Takes X T ∧ EnvOk X.K μ H ρ σ ∧ StOk X.K W μ st H ∧ OutS X W μ H T D (m ρ st)
abbrev SE (e : Expr) (m : Ex) : Prop := PE X e (rdE X W m)
abbrev STt (e : Expr) (m : Tx) : Prop := PT X e (rdT X W m)
abbrev SW (e : Expr) (m : Tx) : Prop := PW X e (rdT X W m)
abbrev SA (es : List Expr) (m : Lx) : Prop := PA X es (rdA X W m)
abbrev SS (st : Stmt) (m : Sx) : Prop := PS X st (rdS X W m)
abbrev SSs (st : List Stmt) (m : Sx) : Prop := PSs X st (rdS X W m)
end
section
variable {X : Cx} {W : Wd}
theorem PE.imp {e : Expr} {t t' : TE} (h : PE X e t) (i : ∀ σ H Q, t' σ H Q → t σ H Q) : PE X e t' := ⟨fun pins s σ H Q I q => h.run pins s σ H Q I (i _ _ _ q)⟩
theorem PT.imp {e : Expr} {t t' : TT} (h : PT X e t) (i : ∀ σ H Q, t' σ H Q → t σ H Q) : PT X e t' := ⟨fun pins s σ H Q I q => h.run pins s σ H Q I (i _ _ _ q)⟩
theorem PW.imp {e : Expr} {t t' : TT} (h : PW X e t) (i : ∀ σ H Q, t' σ H Q → t σ H Q) : PW X e t' := ⟨fun wh pins s σ H Q I q => h.run wh pins s σ H Q I (i _ _ _ q)⟩
theorem PA.imp {e : List Expr} {t t' : TA} (h : PA X e t) (i : ∀ σ H Q, t' σ H Q → t σ H Q) : PA X e t' := ⟨fun pos pins s σ H Q I q => h.run pos pins s σ H Q I (i _ _ _ q)⟩
theorem PS.imp {e : Stmt} {t t' : TS} (h : PS X e t) (i : ∀ D σ H, t' D σ H → t D σ H) : PS X e t' := ⟨fun pins s σ H D I q => h.run pins s σ H D I (i _ _ _ q)⟩
theorem PSs.imp {e : List Stmt} {t t' : TS} (h : PSs X e t) (i : ∀ D σ H, t' D σ H → t D σ H) : PSs X e t' := ⟨fun pins s σ H D I q => h.run pins s σ H D I (i _ _ _ q)⟩
variable {μ μ1 : List Addr} {H H1 : Hp} {T : WX}
theorem OutG.ext {α : Type} {P : List Addr → Hp → α → Stt → Prop} (e : Ext μ H μ1 H1) : ∀ {r : Res α}, OutG X W μ H T P r → OutG X W μ1 H1 T P r
  | .ok _ _, h => fun μ' H' x ok => h μ' H' (e.trans x) ok
  | .err _ _, h => fun μ' H' σ' d hl x ok => h μ' H' σ' d hl (e.trans x) ok
  | .bad, h => h
theorem OutS.ext {D : Ends} (e : Ext μ H μ1 H1) : ∀ {r : SRes}, OutS X W μ H T D r → OutS X W μ1 H1 T D r
  | .nx _ _, h => fun μ' H' σ' x ok => h μ' H' σ' (e.trans x) ok
  | .rt _ _, h => fun μ' H' v x ok => h μ' H' v (e.trans x) ok
  | .err _ _, h => fun μ' H' σ' d hl x ok => h μ' H' σ' d hl (e.trans x) ok
  | .bad, h => h
/-- first one thing, then another -/
theorem OutG.bind {α β : Type} {P : List Addr → Hp → β → Stt → Prop} {f : α → Stt → Res β} : ∀ {r : Res α}, OutG X W μ H T P (r.bind f) → OutG X W μ H T (fun μ1 H1 a s1 => OutG X W μ1 H1 T P (f a s1)) r
  | .ok a s, h => fun μ' H' x _ => OutG.ext x (show OutG X W μ H T P (f a s) from h)
  | .err _ _, h => h
  | .bad, h => h
theorem OutG.sbind {α : Type} {D : Ends} {f : α → Stt → SRes} : ∀ {r : Res α}, OutS X W μ H T D (r.sbind f) → OutG X W μ H T (fun μ1 H1 a s1 => OutS X W μ1 H1 T D (f a s1)) r
  | .ok a s, h => fun μ' H' x _ => OutS.ext x (show OutS X W μ H T D (f a s) from h)
  | .err _ _, h => h
  | .bad, h => h
theorem OutG.mono {α : Type} {P P' : List Addr → Hp → α → Stt → Prop} : ∀ {r : Res α}, OutG X W μ H T P r → (∀ μ' H' a s, Ext μ H μ' H' → StOk X.K W μ' s H' → P μ' H' a s → P' μ' H' a s) → OutG X W μ H T P' r
  | .ok a s, h, q => fun μ' H' x ok => q μ' H' a s x ok (h μ' H' x ok)
  | .err _ _, h, _ => h
  | .bad, h, _ => h
/-- now -/
theorem OutG.now {α : Type} {P : List Addr → Hp → α → Stt → Prop} {a : α} {s : Stt} (h : OutG X W μ H T P (.ok a s)) (ok : StOk X.K W μ s H) : P μ H a s := h μ H (Ext.refl _ _) ok
theorem OutG.ofO {α : Type} {P : List Addr → Hp → α → Stt → Prop} {o : Option α} {s : Stt} (h : OutG X W μ H T P (.ofO s o)) : ∃ z, o = some z ∧ OutG X W μ H T P (.ok z s) := by
  cases o with
  | none => exact h.elim
  | some z => exact ⟨z, rfl, h⟩
end
end Ev
/-! Ev2: expressions. -/
namespace Ev
open PySem PySem.Spec PyProof.Rows L2
section
variable {X : Cx} {W : Wd} {a b c : Expr} {ma mb mc : Ex} {pos : Pos}
/-! ### names, constants -/
theorem se_var {i : Nat} {x : Str} (hN : X.N[i]? = some x) (hv : Vis X.env.scope x) (hd : (x == ("__debug__" : Str)) = false := by decide) (hcd : (x == ("__classdict__" : Str)) = false := by decide) : SE X W (.Name x pos) (eV i) := by
  refine PE.imp (pe_var hN hv hd hcd) fun σ H Q ⟨T, ρ, μ, st, tk, en, ok, out⟩ => ?_
  unfold eV at out
  split at out
  · rename_i p e
    obtain ⟨v, h1, h2⟩ := en.at_ i p e
    exact ⟨v, h1, out.now ok v h2⟩
  · exact out.elim
/-- a value that is known -/
theorem se_const {e : Expr} {p : PV} {v : V} (h : PE X e (tC v)) (r : ∀ μ H, RV X.K μ H p v) : SE X W e (eC p) :=
  PE.imp h fun σ H Q ⟨T, ρ, μ, st, tk, en, ok, out⟩ => out.now ok v (r μ H)
theorem se_int {i : Int} {j} : SE X W (.Constant (.int i) j pos) (eC (.int i)) := se_const pe_int fun _ _ => .int i
theorem se_bl {b : Bool} {j} : SE X W (.Constant (.bool b) j pos) (eC (.bl b)) := se_const pe_bl fun _ _ => .bl b
theorem se_non {j} : SE X W (.Constant .none j pos) (eC .non) := se_const pe_non fun _ _ => .non
theorem se_str {x : Str} {j} : SE X W (.Constant (.str x) j pos) (eC (.str x.cps.toList)) := se_const pe_str fun _ _ => (.str x.cps.toList)
/-! ### operators -/
/-- the reading of an operator on values -/
def rdO (X : Cx) (W : Wd) (g : Op2) : R2 := fun x y H Q => ∃ μ st p q z, StOk X.K W μ st H ∧ RV X.K μ H p x ∧ RV X.K μ H q y ∧ g st p q = some z ∧ ∀ μ' H' v, Ext μ H μ' H' → StOk X.K W μ' st H' → RV X.K μ' H' z v → Q v H'
abbrev OpS (X : Cx) (W : Wd) (f : Value → Value → Sem Value) (g : Op2) : Prop := OpR X f (rdO X W g)
theorem two_out {σ : L2.St} {H : Hp} {Q : VK} {g : Op2} (h : rdE X W (eOp g ma mb) σ H Q) : tOp (rdO X W g) (rdE X W ma) (rdE X W mb) σ H Q := by
  obtain ⟨T, ρ, μ, st, tk, en, ok, out⟩ := h
  refine ⟨T, ρ, μ, st, tk, en, ok, out.bind.mono fun μ1 H1 p s1 x1 ok1 h1 v rv => ?_⟩
  refine ⟨T, ρ, μ1, s1, tk, en.ext x1, ok1, h1.bind.mono fun μ2 H2 q s2 x2 ok2 h2 w rw => ?_⟩
  obtain ⟨z, hz, h3⟩ := h2.ofO
  exact ⟨μ2, s2, p, q, z, ok2, rv.ext x2, rw, hz, fun μ' H' v' x' ok' r' => h3 μ' H' x' ok' v' r'⟩
theorem se_op {op : Operator} {g : Op2} (ho : OpS X W (binaryOp op) g) (ha : SE X W a ma) (hb : SE X W b mb) : SE X W (.BinOp a op b pos) (eOp g ma mb) :=
  PE.imp (pe_op ho ha hb) fun _ _ _ h => two_out h
theorem se_neg (ha : SE X W a ma) : SE X W (.UnaryOp .USub a pos) (eNeg ma) := by
  refine PE.imp (pe_un un_neg ha) fun σ H Q ⟨T, ρ, μ, st, tk, en, ok, out⟩ => ?_
  refine ⟨T, ρ, μ, st, tk, en, ok, out.bind.mono fun μ1 H1 p s1 x1 ok1 h1 v rv => ?_⟩
  cases p with
  | int i =>
    cases rv
    exact ⟨i, rfl, h1.now ok1 _ (.int _)⟩
  | _ => exact (show False from h1).elim
/-- a comparison -/
def cpO (g : Cp) : Op2 := fun s x y => (g s x y).map .bl
theorem eCp_eq (g : Cp) (ma mb : Ex) : eCp g ma mb = eOp (cpO g) ma mb := rfl
theorem se_cmp {op : CmpOp} {g : Cp} (ho : OpS X W (compareOp op) (cpO g)) (ha : SE X W a ma) (hb : SE X W b mb) (hm : behindInMarks op b = false) : SE X W (.Compare a [op] [b] pos) (eCp g ma mb) :=
  PE.imp (pe_cmpR ho ha hb hm) fun _ _ _ h => two_out (g := cpO g) h
/-- a comparison as a test -/
def tCp (g : Cp) (a b : Ex) : Tx := fun ρ s => (a ρ s).bind fun x s => (b ρ s).bind fun y s => .ofO s (g s x y)
theorem st_cmp {op : CmpOp} {g : Cp} (ho : OpS X W (compareOp op) (cpO g)) (ha : SE X W a ma) (hb : SE X W b mb) (hm : behindInMarks op b = false) : STt X W (.Compare a [op] [b] pos) (tCp g ma mb) := by
  refine PT.imp (pt_cmpR ho ha hb hm) fun σ H Q ⟨T, ρ, μ, st, tk, en, ok, out⟩ => ?_
  refine ⟨T, ρ, μ, st, tk, en, ok, out.bind.mono fun μ1 H1 p s1 x1 ok1 h1 v rv => ?_⟩
  refine ⟨T, ρ, μ1, s1, tk, en.ext x1, ok1, h1.bind.mono fun μ2 H2 q s2 x2 ok2 h2 w rw => ?_⟩
  obtain ⟨z, hz, h3⟩ := h2.ofO
  refine ⟨μ2, s2, p, q, .bl z, ok2, rv.ext x2, rw, by unfold cpO; rw [hz]; rfl, fun μ' H' v' x' ok' r' => ?_⟩
  cases r'
  exact ⟨z, rfl, h3 μ' H' x' ok'⟩
theorem se_ch {op op' : CmpOp} {f g : Cp} (ho : OpS X W (compareOp op) (cpO f)) (ho' : OpS X W (compareOp op') (cpO g)) (ha : SE X W a ma) (hb : SE X W b mb) (hc : SE X W c mc)
    (hm : lastMarks [op, op'] [b, c] = false) : SE X W (.Compare a [op, op'] [b, c] pos) (eCh f g ma mb mc) := by
  refine PE.imp (pe_chain ho ho' ha hb hc hm) fun σ H Q ⟨T, ρ, μ, st, tk, en, ok, out⟩ => ?_
  refine ⟨T, ρ, μ, st, tk, en, ok, out.bind.mono fun μ1 H1 p s1 x1 ok1 h1 v rv => ?_⟩
  refine ⟨T, ρ, μ1, s1, tk, en.ext x1, ok1, h1.bind.mono fun μ2 H2 q s2 x2 ok2 h2 w rw => ?_⟩
  have rv2 := rv.ext x2
  cases hf : f s2 p q with
  | none => rw [hf] at h2; exact (show False from h2).elim
  | some k =>
    rw [hf] at h2
    refine ⟨μ2, s2, p, q, .bl k, ok2, rv2, rw, by unfold cpO; rw [hf]; rfl, fun μ' H' v' x' ok' r' => ?_⟩
    cases r'
    refine ⟨k, rfl, ?_⟩
    cases k with
    | false =>
      rw [if_neg Bool.false_ne_true]
      exact h2 μ' H' x' ok' _ (.bl _)
    | true =>
      rw [if_pos rfl]
      have h2' : OutG X W μ2 H2 T (fun μ' H' p _ => ∀ v, RV X.K μ' H' p v → Q v H') ((mc ρ s2).bind fun z s => .ofO s ((g s q z).map .bl)) := h2
      refine ⟨T, ρ, μ', s2, tk, (en.ext x1).ext (x2.trans x'), ok', (h2'.ext x').bind.mono fun μ3 H3 z s3 x3 ok3 h3 u ru => ?_⟩
      obtain ⟨y, hy, h4⟩ := h3.ofO
      exact ⟨μ3, s3, q, z, y, ok3, (rw.ext x').ext x3, ru, hy, fun μ4 H4 v4 x4 ok4 r4 => h4 μ4 H4 x4 ok4 v4 r4⟩
def tCh (f g : Cp) (a b c : Ex) : Tx := fun ρ s => (a ρ s).bind fun x s => (b ρ s).bind fun y s => match f s x y with
  | some true => (c ρ s).bind fun z s => .ofO s (g s y z)
  | some false => .ok false s
  | none => .bad
theorem st_ch {op op' : CmpOp} {f g : Cp} (ho : OpS X W (compareOp op) (cpO f)) (ho' : OpS X W (compareOp op') (cpO g)) (ha : SE X W a ma) (hb : SE X W b mb) (hc : SE X W c mc)
    (hm : lastMarks [op, op'] [b, c] = false) : STt X W (.Compare a [op, op'] [b, c] pos) (tCh f g ma mb mc) := by
  refine PT.imp (pt_chain ho ho' ha hb hc hm) fun σ H Q ⟨T, ρ, μ, st, tk, en, ok, out⟩ => ?_
  refine ⟨T, ρ, μ, st, tk, en, ok, out.bind.mono fun μ1 H1 p s1 x1 ok1 h1 v rv => ?_⟩
  refine ⟨T, ρ, μ1, s1, tk, en.ext x1, ok1, h1.bind.mono fun μ2 H2 q s2 x2 ok2 h2 w rw => ?_⟩
  have rv2 := rv.ext x2
  cases hf : f s2 p q with
  | none => rw [hf] at h2; exact (show False from h2).elim
  | some k =>
    rw [hf] at h2
    refine ⟨μ2, s2, p, q, .bl k, ok2, rv2, rw, by unfold cpO; rw [hf]; rfl, fun μ' H' v' x' ok' r' => ?_⟩
    cases r'
    refine ⟨k, rfl, ?_⟩
    cases k with
    | false =>
      rw [if_neg Bool.false_ne_true]
      exact ⟨false, rfl, h2 μ' H' x' ok'⟩
    | true =>
      rw [if_pos rfl]
      have h2' : OutG X W μ2 H2 T (fun _ H' b _ => Q b H') ((mc ρ s2).bind fun z s => .ofO s (g s q z)) := h2
      refine ⟨T, ρ, μ', s2, tk, (en.ext x1).ext (x2.trans x'), ok', (h2'.ext x').bind.mono fun μ3 H3 z s3 x3 ok3 h3 u ru => ?_⟩
      obtain ⟨y, hy, h4⟩ := h3.ofO
      refine ⟨μ3, s3, q, z, .bl y, ok3, (rw.ext x').ext x3, ru, by unfold cpO; rw [hy]; rfl, fun μ4 H4 v4 x4 ok4 r4 => ?_⟩
      cases r4
      exact ⟨y, rfl, h4 μ4 H4 x4 ok4⟩
/-! ### truth, and, or, not, if -/
theorem lenOk_le {α : Type} {l : List α} (h : lenOk l = true) : l.length ≤ sizeLine := by
  have := Nat.le_of_ble_eq_true h
  rw [sizeLine_eq]
  exact this
theorem sOf_len (l : List Nat) : (sOf l).length = l.length := by simp [sOf, Str.length]
theorem tru_of {x : PV} {v : V} {μ : List Addr} {st : Stt} {H : Hp} {k : Bool} (ok : StOk X.K W μ st H) (r : RV X.K μ H x v) (h : tru st x = some k) : TruV X.K v H k := by
  cases r with
  | non => exact (Option.some.inj h).symm
  | bl b => exact (Option.some.inj h).symm
  | int i => exact (Option.some.inj h).symm
  | str l =>
    have h' : (if lenOk l = true then some (!l.isEmpty) else none) = some k := h
    split at h'
    · rename_i hl
      have e : (!l.isEmpty) = k := Option.some.inj h'
      refine ⟨by rw [sOf_len]; exact lenOk_le hl, ?_⟩
      rw [← e, sOf_len]
      cases l with
      | nil => rfl
      | cons a r =>
        simp
        omega
    · cases h'
  | @tup a l xs hs rs =>
    have e : (!l.isEmpty) = k := Option.some.inj h
    refine .inr (.inl ⟨xs, hs, ?_⟩)
    rw [← e]
    cases rs <;> rfl
  | @lst a l xs hs rs =>
    have e : (!l.isEmpty) = k := Option.some.inj h
    refine .inl ⟨xs, hs.sq, ?_⟩
    rw [← e]
    cases rs <;> rfl
  | dct h1 h2 h3 => cases h
  | @ref i a hi =>
    obtain ⟨o, ho, ro⟩ := ok.ob hi
    have h' : ((match st.objs[i]? with | some (.lst l) => some l | _ => none : Option (List PV)).map fun l => !l.isEmpty) = some k := h
    rw [ho] at h'
    cases o with
    | lst l =>
      obtain ⟨xs, h1, rs⟩ := ro
      have e : (!l.isEmpty) = k := Option.some.inj h'
      refine .inl ⟨xs, .of h1, ?_⟩
      rw [← e]
      cases rs <;> rfl
    | _ => cases h'
/-- any expression as a test: its value's truth -/
theorem st_truth (ha : SE X W a ma) (he : ∀ whole, isTrue a X.env whole = (do let v ← whole; standAt a.pos; holding [v] (truthy v))) : STt X W a (tE ma) := by
  refine PT.imp (pt_truth ha he) fun σ H Q ⟨T, ρ, μ, st, tk, en, ok, out⟩ => ?_
  refine ⟨T, ρ, μ, st, tk, en, ok, out.bind.mono fun μ1 H1 p s1 x1 ok1 h1 v rv => ?_⟩
  obtain ⟨k, hk, h2⟩ := h1.ofO
  exact ⟨k, tru_of ok1 rv hk, h2.now ok1⟩
theorem sw_and1 {ta : Tx} (ha : STt X W a ta) : SW X W (.BoolOp .And [a] pos) ta := pw_and1 ha
theorem sw_or1 {ta : Tx} (ha : STt X W a ta) : SW X W (.BoolOp .Or [a] pos) ta := pw_or1 ha
theorem sw_and {ta tb : Tx} {rest : List Expr} (ha : STt X W a ta) (hb : SW X W (.BoolOp .And (b :: rest) pos) tb) : SW X W (.BoolOp .And (a :: b :: rest) pos) (tAnd ta tb) := by
  refine PW.imp (pw_and ha hb) fun σ H Q ⟨T, ρ, μ, st, tk, en, ok, out⟩ => ?_
  refine ⟨T, ρ, μ, st, tk, en, ok, out.bind.mono fun μ1 H1 k s1 x1 ok1 h1 => ?_⟩
  cases k with
  | true =>
    rw [if_pos rfl]
    exact ⟨T, ρ, μ1, s1, tk, en.ext x1, ok1, h1⟩
  | false =>
    rw [if_neg Bool.false_ne_true]
    exact h1.now ok1
theorem sw_or {ta tb : Tx} {rest : List Expr} (ha : STt X W a ta) (hb : SW X W (.BoolOp .Or (b :: rest) pos) tb) : SW X W (.BoolOp .Or (a :: b :: rest) pos) (tOr ta tb) := by
  refine PW.imp (pw_or ha hb) fun σ H Q ⟨T, ρ, μ, st, tk, en, ok, out⟩ => ?_
  refine ⟨T, ρ, μ, st, tk, en, ok, out.bind.mono fun μ1 H1 k s1 x1 ok1 h1 => ?_⟩
  cases k with
  | true =>
    rw [if_pos rfl]
    exact h1.now ok1
  | false =>
    rw [if_neg Bool.false_ne_true]
    exact ⟨T, ρ, μ1, s1, tk, en.ext x1, ok1, h1⟩
theorem st_not {ta : Tx} (ha : STt X W a ta) : STt X W (.UnaryOp .Not a pos) (tNot ta) := by
  refine PT.imp (pt_not ha) fun σ H Q ⟨T, ρ, μ, st, tk, en, ok, out⟩ => ?_
  exact ⟨T, ρ, μ, st, tk, en, ok, out.bind.mono fun μ1 H1 k s1 x1 ok1 h1 => h1.now ok1⟩
theorem se_one {op} (ha : SE X W a ma) : SE X W (.BoolOp op [a] pos) ma := pe_one ha
theorem se_and {rest : List Expr} (ha : SE X W a ma) (hb : SE X W (.BoolOp .And (b :: rest) pos) mb) : SE X W (.BoolOp .And (a :: b :: rest) pos) (eAnd ma mb) := by
  refine PE.imp (pe_andT ha hb) fun σ H Q ⟨T, ρ, μ, st, tk, en, ok, out⟩ => ?_
  refine ⟨T, ρ, μ, st, tk, en, ok, out.bind.mono fun μ1 H1 p s1 x1 ok1 h1 v rv => ?_⟩
  cases hk : tru s1 p with
  | none => rw [hk] at h1; exact (show False from h1).elim
  | some k =>
    rw [hk] at h1
    refine ⟨k, tru_of ok1 rv hk, ?_⟩
    cases k with
    | true =>
      rw [if_pos rfl]
      exact ⟨T, ρ, μ1, s1, tk, en.ext x1, ok1, h1⟩
    | false =>
      rw [if_neg Bool.false_ne_true]
      exact OutG.now (show Out X W μ1 H1 T Q (.ok p s1) from h1) ok1 v rv
theorem se_or {rest : List Expr} (ha : SE X W a ma) (hb : SE X W (.BoolOp .Or (b :: rest) pos) mb) : SE X W (.BoolOp .Or (a :: b :: rest) pos) (eOr ma mb) := by
  refine PE.imp (pe_orT ha hb) fun σ H Q ⟨T, ρ, μ, st, tk, en, ok, out⟩ => ?_
  refine ⟨T, ρ, μ, st, tk, en, ok, out.bind.mono fun μ1 H1 p s1 x1 ok1 h1 v rv => ?_⟩
  cases hk : tru s1 p with
  | none => rw [hk] at h1; exact (show False from h1).elim
  | some k =>
    rw [hk] at h1
    refine ⟨k, tru_of ok1 rv hk, ?_⟩
    cases k with
    | false =>
      rw [if_neg Bool.false_ne_true]
      exact ⟨T, ρ, μ1, s1, tk, en.ext x1, ok1, h1⟩
    | true =>
      rw [if_pos rfl]
      exact OutG.now (show Out X W μ1 H1 T Q (.ok p s1) from h1) ok1 v rv
/-- not, as a value -/
def eNotV (a : Ex) : Ex := fun ρ s => (a ρ s).bind fun x s => .ofO s ((tru s x).map fun b => .bl (!b))
theorem se_not (ha : SE X W a ma) : SE X W (.UnaryOp .Not a pos) (eNotV ma) := by
  refine PE.imp (pe_notT ha) fun σ H Q ⟨T, ρ, μ, st, tk, en, ok, out⟩ => ?_
  refine ⟨T, ρ, μ, st, tk, en, ok, out.bind.mono fun μ1 H1 p s1 x1 ok1 h1 v rv => ?_⟩
  obtain ⟨z, hz, h2⟩ := h1.ofO
  cases hk : tru s1 p with
  | none => rw [hk] at hz; cases hz
  | some k =>
    rw [hk] at hz
    cases hz
    exact ⟨k, tru_of ok1 rv hk, h2.now ok1 _ (.bl _)⟩
theorem se_if {ta : Tx} (ht : STt X W c ta) (ha : SE X W a ma) (hb : SE X W b mb) : SE X W (.IfExp c a b pos) (eIf ta ma mb) := by
  refine PE.imp (pe_ifExp ht ha hb) fun σ H Q ⟨T, ρ, μ, st, tk, en, ok, out⟩ => ?_
  refine ⟨T, ρ, μ, st, tk, en, ok, out.bind.mono fun μ1 H1 k s1 x1 ok1 h1 => ?_⟩
  cases k with
  | true =>
    rw [if_pos rfl]
    exact ⟨T, ρ, μ1, s1, tk, en.ext x1, ok1, h1⟩
  | false =>
    rw [if_neg Bool.false_ne_true]
    exact ⟨T, ρ, μ1, s1, tk, en.ext x1, ok1, h1⟩
/-! ### what is new and never changed -/
/-- a wish, or: it is new and is locked -/
def fz (Q : VK) : VK := fun x H => Q x H ∨ ∃ p u, x = .ref p ∧ H p = some u ∧ Mut (some u) ∧ ∀ od, Q (.ref p) (upd H p (.frz od u))
theorem ep_fz {pins : List (Addr × Obj)} {σ : L2.St} {Q : VK} {u : Value} {s : Shared} (h : EP X pins σ (fz Q) u s) : EP X pins σ Q u s := by
  obtain ⟨v, H', I, r, q⟩ := h
  rcases q with q | ⟨p, o, rfl, hp, mu, q⟩
  · exact ⟨v, H', I, r, q⟩
  · obtain ⟨od, I2⟩ := I.lock hp mu
    exact ⟨.ref p, _, I2, r, q od⟩
theorem pe_fz {e : Expr} {t : TE} (h : PE X e t) : PE X e (fun σ H Q => t σ H (fz Q)) := ⟨fun pins s σ H Q I q => thn (h.run pins s σ H _ I q) fun _ _ x => ep_fz x⟩
theorem OpR.fz {f : Value → Value → Sem Value} {r : R2} (h : OpR X f r) : OpR X f (fun x y H Q => r x y H (fz Q)) := fun pins s σ H x y v u Q I rx ry q => thn (h pins s σ H x y v u _ I rx ry q) fun _ _ x => ep_fz x
theorem CallR.fz {f : Value} {r : List V → Hp → VK → Prop} (h : CallR X f r) : CallR X f (fun xs H Q => r xs H (fz Q)) := fun pins s σ H xs us Q I rs q => thn (h pins s σ H xs us _ I rs q) fun _ _ x => ep_fz x
theorem OpR.imp {f : Value → Value → Sem Value} {r r' : R2} (h : OpR X f r) (i : ∀ x y H Q, r' x y H Q → r x y H Q) : OpR X f r' := fun pins s σ H x y v u Q I rx ry q => h pins s σ H x y v u Q I rx ry (i _ _ _ _ q)
theorem CallR.imp {f : Value} {r r' : List V → Hp → VK → Prop} (h : CallR X f r) (i : ∀ xs H Q, r' xs H Q → r xs H Q) : CallR X f r' := fun pins s σ H xs us Q I rs q => h pins s σ H xs us Q I rs (i _ _ _ q)
/-- a new list is a value -/
theorem fz_list {μ : List Addr} {st : Stt} {H : Hp} {Q : VK} {ps : List PV} {xs : List V} (ok : StOk X.K W μ st H) (rs : RVs X.K μ H ps xs) (h : ∀ μ' H' v, Ext μ H μ' H' → StOk X.K W μ' st H' → RV X.K μ' H' (.lst ps) v → Q v H') :
    ∀ p, H p = none → fz Q (.ref p) (upd H p (.lst xs)) := fun p hp => by
  refine .inr ⟨p, .lst xs, rfl, upd_same, trivial, fun od => ?_⟩
  rw [upd_upd]
  have e := ext_new (μ := μ) (u := .frz od (.lst xs)) hp
  exact h μ _ _ e (ok.fresh hp) (.lst (.inl ⟨od, upd_same⟩) (rs.ext e))
theorem new_tup {μ : List Addr} {st : Stt} {H : Hp} {Q : VK} {ps : List PV} {xs : List V} (ok : StOk X.K W μ st H) (rs : RVs X.K μ H ps xs) (h : ∀ μ' H' v, Ext μ H μ' H' → StOk X.K W μ' st H' → RV X.K μ' H' (.tup ps) v → Q v H') :
    ∀ p, H p = none → Q (.ref p) (upd H p (.tup xs)) := fun p hp => by
  have e := ext_new (μ := μ) (u := .tup xs) hp
  exact h μ _ _ e (ok.fresh hp) (.tup (.of upd_same) (rs.ext e))
/-- a new dict is a value -/
theorem fz_dict {μ : List Addr} {st : Stt} {H : Hp} {Q : VK} {ps : List (PV × PV)} {kvs : List (Key × V)} (ok : StOk X.K W μ st H) (rs : RKs X.K μ H ps kvs) (nd : (kvs.map (·.1)).Nodup) (h : ∀ μ' H' v, Ext μ H μ' H' → StOk X.K W μ' st H' → RV X.K μ' H' (.dct ps) v → Q v H') :
    ∀ p, H p = none → fz Q (.ref p) (upd H p (.dK kvs)) := fun p hp => by
  refine .inr ⟨p, .dK kvs, rfl, upd_same, trivial, fun od => ?_⟩
  rw [upd_upd]
  have e := ext_new (μ := μ) (u := .frz od (.dK kvs)) hp
  exact h μ _ _ e (ok.fresh hp) (.dct upd_same (rs.ext e) nd)
/-! ### argument lists, displays -/
theorem sa_nil : SA X W [] lNil := PA.imp pa_nil fun σ H Q ⟨T, ρ, μ, st, tk, en, ok, out⟩ => out.now ok _ .nil
theorem sa_cons {es : List Expr} {ml : Lx} (ha : SE X W a ma) (hl : SA X W es ml) (hs : starEach (a :: es) X.env = (false, eval a X.env) :: starEach es X.env) : SA X W (a :: es) (lCons ma ml) := by
  refine PA.imp (pa_cons ha hl hs) fun σ H Q ⟨T, ρ, μ, st, tk, en, ok, out⟩ => ?_
  refine ⟨T, ρ, μ, st, tk, en, ok, out.bind.mono fun μ1 H1 p s1 x1 ok1 h1 v rv => ?_⟩
  refine ⟨T, ρ, μ1, s1, tk, en.ext x1, ok1, h1.bind.mono fun μ2 H2 ps s2 x2 ok2 h2 vs rvs => ?_⟩
  exact h2.now ok2 _ (.cons (rv.ext x2) rvs)
theorem se_tup {es : List Expr} {ml : Lx} {k} (h : SA X W es ml) : SE X W (.Tuple es k pos) (eTup ml) := by
  refine PE.imp (pe_tup h) fun σ H Q ⟨T, ρ, μ, st, tk, en, ok, out⟩ => ?_
  refine ⟨T, ρ, μ, st, tk, en, ok, out.bind.mono fun μ1 H1 ps s1 x1 ok1 h1 vs rvs => ?_⟩
  cases hl : lenOk ps with
  | false => rw [hl, if_neg Bool.false_ne_true] at h1; exact (show False from h1).elim
  | true =>
    rw [hl, if_pos rfl] at h1
    exact ⟨by rw [← rvs.length]; exact lenOk_le hl, new_tup ok1 rvs fun μ' H' v x' ok' r' => h1 μ' H' x' ok' v r'⟩
theorem se_lst {es : List Expr} {ml : Lx} (h : SA X W es ml) : SE X W (.List es pos) (eLst ml) := by
  refine PE.imp (pe_fz (pe_lst h)) fun σ H Q ⟨T, ρ, μ, st, tk, en, ok, out⟩ => ?_
  refine ⟨T, ρ, μ, st, tk, en, ok, out.bind.mono fun μ1 H1 ps s1 x1 ok1 h1 vs rvs => ?_⟩
  cases hl : lenOk ps with
  | false => rw [hl, if_neg Bool.false_ne_true] at h1; exact (show False from h1).elim
  | true =>
    rw [hl, if_pos rfl] at h1
    exact ⟨by rw [← rvs.length]; exact lenOk_le hl, fz_list ok1 rvs fun μ' H' v x' ok' r' => h1 μ' H' x' ok' v r'⟩
theorem se_lstM {es : List Expr} {ml : Lx} (h : SA X W es ml) : SE X W (.List es pos) (eLstM ml) := by
  refine PE.imp (pe_lst h) fun σ H Q ⟨T, ρ, μ, st, tk, en, ok, out⟩ => ?_
  refine ⟨T, ρ, μ, st, tk, en, ok, out.bind.mono fun μ1 H1 ps s1 x1 ok1 h1 vs rvs => ?_⟩
  cases hl : lenOk ps with
  | false => rw [hl, if_neg Bool.false_ne_true] at h1; exact (show False from h1).elim
  | true =>
    rw [hl, if_pos rfl] at h1
    refine ⟨by rw [← rvs.length]; exact lenOk_le hl, fun p hp => ?_⟩
    have e : Ext μ1 H1 (μ1 ++ [p]) (upd H1 p (.lst vs)) := ext_add hp
    obtain ⟨ok2, e2⟩ := ok1.new (o := .lst ps) (u := .lst vs) hp ⟨vs, upd_same, rvs.ext e⟩
    refine h1 _ _ e2 ok2 _ (.ref ?_)
    rw [← ok1.len, List.getElem?_append_right (Nat.le_refl _), Nat.sub_self]
    rfl
theorem se_dctM : SE X W (.Dict [] [] pos) eDctM := by
  refine PE.imp pe_dnewK fun σ H Q ⟨T, ρ, μ, st, tk, en, ok, out⟩ => fun p hp => ?_
  obtain ⟨ok2, e2⟩ := ok.new (o := .dct []) (u := .dK []) hp ⟨[], upd_same, .nil, List.nodup_nil⟩
  refine out _ _ e2 ok2 _ (.ref ?_)
  rw [← ok.len, List.getElem?_append_right (Nat.le_refl _), Nat.sub_self]
  rfl
end
end Ev
set_option maxHeartbeats 4000000
/-! Ev3: operators on values. -/
namespace Ev
open PySem PySem.Spec PyProof.Rows L2
section
variable {X : Cx} {W : Wd}
theorem ble_line {n : Nat} (h : Nat.ble n szl = true) : n ≤ sizeLine := by
  have := Nat.le_of_ble_eq_true h
  rw [sizeLine_eq]
  exact this
theorem sOf_app (a b : List Nat) : sOf a ++ sOf b = sOf (a ++ b) := by
  show Str.mk (a.toArray ++ b.toArray) = _
  simp [sOf]
theorem sOf_inj {a b : List Nat} (h : sOf a = sOf b) : a = b := by
  unfold sOf at h
  injection h with h
  injection h
theorem sOf_cps (a : List Nat) : (sOf a).cps.toList = a := rfl
/-- a list that is read: a value, or in the store -/
theorem lst_of {x : PV} {v : V} {μ : List Addr} {st : Stt} {H : Hp} {l : List PV} (ok : StOk X.K W μ st H) (r : RV X.K μ H x v) (h : st.lst? x = some l) : ∃ a xs, v = .ref a ∧ SqL X.K H a xs ∧ RVs X.K μ H l xs := by
  cases r with
  | @lst a l' xs hs rs =>
    cases h
    exact ⟨a, xs, rfl, hs.sq, rs⟩
  | @ref i a hi =>
    obtain ⟨o, ho, ro⟩ := ok.ob hi
    have h' : (match st.objs[i]? with | some (.lst l) => some l | _ => none : Option (List PV)) = some l := h
    rw [ho] at h'
    cases o with
    | lst l' =>
      cases h'
      obtain ⟨xs, h1, rs⟩ := ro
      exact ⟨a, xs, rfl, .of h1, rs⟩
    | _ => cases h'
  | _ => cases h
theorem seq_of {x : PV} {v : V} {μ : List Addr} {st : Stt} {H : Hp} {l : List PV} (ok : StOk X.K W μ st H) (r : RV X.K μ H x v) (h : st.seq? x = some l) : ∃ a xs, v = .ref a ∧ (SqL X.K H a xs ∨ SqT X.K H a xs) ∧ RVs X.K μ H l xs := by
  cases r with
  | @lst a l' xs hs rs =>
    cases h
    exact ⟨a, xs, rfl, .inl hs.sq, rs⟩
  | @tup a l' xs hs rs =>
    cases h
    exact ⟨a, xs, rfl, .inr hs, rs⟩
  | @ref i a hi =>
    obtain ⟨o, ho, ro⟩ := ok.ob hi
    have h' : (match st.objs[i]? with | some (.lst l) => some l | _ => none : Option (List PV)) = some l := h
    rw [ho] at h'
    cases o with
    | lst l' =>
      cases h'
      obtain ⟨xs, h1, rs⟩ := ro
      exact ⟨a, xs, rfl, .inl (.of h1), rs⟩
    | _ => cases h'
  | _ => cases h
/-! ### list + list -/
def rCatL (K : PySem.W.Frag) : R2 := fun x y H Q => ∃ l b xs zs, x = .ref l ∧ y = .ref b ∧ SqL K H l xs ∧ SqL K H b zs ∧ xs.length + zs.length ≤ sizeLine ∧ ∀ p, H p = none → Q (.ref p) (upd H p (.lst (xs ++ zs)))
theorem op_catL : OpR X (binaryOp .Add) (rCatL X.K) := by
  intro pins s σ H x y v u Q I rx ry h
  obtain ⟨l, b, xs, zs, rfl, rfl, hH, hB, hz, q⟩ := h
  cases rx
  cases ry
  obtain ⟨its, r, ⟨⟨cls, dd, data, sl⟩, n, ho, hc, hdd, hd⟩, _⟩ := I.list hH
  obtain ⟨its2, r2, ⟨⟨cls2, dd2, data2, sl2⟩, n2, ho2, hc2, hdd2, hd2⟩, _⟩ := I.list hB
  simp only at hc hd hc2 hd2
  subst hc hd hc2 hd2
  have e : its.toArray ++ its2.toArray = (its ++ its2).toArray := by simp
  refine concat_meets ⟨_, ho, rfl⟩ ⟨_, ho2, rfl⟩ noFill_list_add seq_list_add PySem.F.slot_list_add PySem.F.entry_list_add (PySem.F.args_list_add_2 _ _) (list_addW l b its.toArray its2.toArray n n2 dd dd2 sl sl2 (by rw [List.size_toArray, List.size_toArray, ← r.length, ← r2.length]; exact hz)) ⟨ho, ho2, ?_⟩
  rw [e]
  exact ⟨.ref _, _, I.lnew (t' := s.toks) (r.append r2) (by rw [List.length_append]; omega), rfl, q _ I.fresh⟩
theorem os_add : OpS X W (binaryOp .Add) oAdd := by
  refine OpR.imp (OpR.fz ((op_add (X := X)).or ((op_add_str (X := X)).or ((op_catA (X := X)).or (op_catL (X := X)))))) fun x y H Q h => ?_
  obtain ⟨μ, st, p, q, z, ok, rp, rq, hz, k⟩ := h
  have lists : ∀ {a b : List PV}, st.lst? p = some a → st.lst? q = some b → (if Nat.ble (a.length + b.length) szl then some (PV.lst (a ++ b)) else none) = some z →
      rCatL X.K x y H (fz Q) := fun {a b} ha hb e => by
    obtain ⟨l, xs, rfl, s1, r1⟩ := lst_of ok rp ha
    obtain ⟨m, ys, rfl, s2, r2⟩ := lst_of ok rq hb
    split at e
    · rename_i hl
      cases e
      exact ⟨l, m, xs, ys, rfl, rfl, s1, s2, by rw [← r1.length, ← r2.length]; exact ble_line hl, fz_list ok (r1.append r2) k⟩
    · cases e
  have other : (match st.lst? p, st.lst? q with | some a, some b => if Nat.ble (a.length + b.length) szl then some (PV.lst (a ++ b)) else none | _, _ => none) = some z →
      rCatL X.K x y H (fz Q) := fun e => by
    cases ha : st.lst? p with
    | none => rw [ha] at e; cases e
    | some a =>
      cases hb : st.lst? q with
      | none => rw [ha, hb] at e; cases e
      | some b => rw [ha, hb] at e; exact lists ha hb e
  cases rp with
  | int i =>
    cases rq with
    | int j =>
      cases hz
      exact .inl ⟨i, j, rfl, rfl, .inl (k μ H _ (Ext.refl _ _) ok (.int _))⟩
    | _ => exact .inr (.inr (.inr (other hz)))
  | str a =>
    cases rq with
    | str b =>
      have e : (if Nat.ble (a.length + b.length) szl then some (PV.str (a ++ b)) else none) = some z := hz
      split at e
      · rename_i hl
        cases e
        refine .inr (.inl ⟨sOf a, sOf b, rfl, rfl, by rw [sOf_len, sOf_len]; exact ble_line hl, .inl ?_⟩)
        rw [sOf_app]
        exact k μ H _ (Ext.refl _ _) ok (.str _)
      · cases e
    | _ => exact .inr (.inr (.inr (other hz)))
  | @tup a l xs hs rs =>
    cases rq with
    | @tup b m ys hs2 rs2 =>
      have e : (if Nat.ble (l.length + m.length) szl then some (PV.tup (l ++ m)) else none) = some z := hz
      split at e
      · rename_i hl
        cases e
        refine .inr (.inr (.inl ⟨a, b, xs, ys, rfl, rfl, hs, hs2, by rw [← rs.length, ← rs2.length]; exact ble_line hl, fun e => ?_, fun _ e => ?_, fun _ _ p hp => .inl (new_tup ok (rs.append rs2) k p hp)⟩))
        · subst e
          cases rs
          exact .inl (k μ H _ (Ext.refl _ _) ok (.tup hs2 (by simpa using rs2)))
        · subst e
          cases rs2
          exact .inl (k μ H _ (Ext.refl _ _) ok (.tup hs (by simpa using rs)))
      · cases e
    | _ => exact .inr (.inr (.inr (other hz)))
  | non => exact .inr (.inr (.inr (other hz)))
  | bl b => exact .inr (.inr (.inr (other hz)))
  | lst h1 h2 => exact .inr (.inr (.inr (other hz)))
  | dct h1 h2 h3 => exact .inr (.inr (.inr (other hz)))
  | ref h1 => exact .inr (.inr (.inr (other hz)))
theorem os_sub : OpS X W (binaryOp .Sub) oSub := by
  refine OpR.imp (op_sub (X := X)) fun x y H Q h => ?_
  obtain ⟨μ, st, p, q, z, ok, rp, rq, hz, k⟩ := h
  cases rp with
  | int i =>
    cases rq with
    | int j =>
      cases hz
      exact ⟨i, j, rfl, rfl, k μ H _ (Ext.refl _ _) ok (.int _)⟩
    | _ => cases hz
  | _ => cases rq <;> cases hz
theorem os_div : OpS X W (binaryOp .FloorDiv) oDiv := by
  refine OpR.imp (op_fdiv (X := X)) fun x y H Q h => ?_
  obtain ⟨μ, st, p, q, z, ok, rp, rq, hz, k⟩ := h
  cases rp with
  | int i =>
    cases rq with
    | int j =>
      have e : (if (decide (0 < j) && decide (j < 1073741824)) = true then some (PV.int (i / j)) else none) = some z := hz
      split at e
      · rename_i hc
        simp only [Bool.and_eq_true, decide_eq_true_eq] at hc
        cases e
        exact ⟨i, j, rfl, rfl, hc, k μ H _ (Ext.refl _ _) ok (.int _)⟩
      · cases e
    | _ => cases hz
  | _ => cases rq <;> cases hz
theorem os_mod : OpS X W (binaryOp .Mod) oMod := by
  refine OpR.imp (op_mod (X := X)) fun x y H Q h => ?_
  obtain ⟨μ, st, p, q, z, ok, rp, rq, hz, k⟩ := h
  cases rp with
  | int i =>
    cases rq with
    | int j =>
      have e : (if decide (0 < j) = true then some (PV.int (i % j)) else none) = some z := hz
      split at e
      · rename_i hc
        simp only [decide_eq_true_eq] at hc
        cases e
        exact ⟨i, j, rfl, rfl, hc, k μ H _ (Ext.refl _ _) ok (.int _)⟩
      · cases e
    | _ => cases hz
  | _ => cases rq <;> cases hz
theorem os_pow : OpS X W (binaryOp .Pow) oPow := by
  refine OpR.imp (op_pow (X := X)) fun x y H Q h => ?_
  obtain ⟨μ, st, p, q, z, ok, rp, rq, hz, k⟩ := h
  cases rp with
  | int i =>
    cases rq with
    | int j =>
      have e : (if (decide (0 ≤ j) && decide (j ≤ 1000) && decide (i.natAbs < 2 ^ 64)) = true then some (PV.int (i ^ j.toNat)) else none) = some z := hz
      split at e
      · rename_i hc
        simp only [Bool.and_eq_true, decide_eq_true_eq] at hc
        cases e
        exact ⟨i, j, rfl, rfl, ⟨hc.1.1, by omega, hc.2⟩, k μ H _ (Ext.refl _ _) ok (.int _)⟩
      · cases e
    | _ => cases hz
  | _ => cases rq <;> cases hz
theorem mulOk_c {i j : Int} (h : mulOk i j = true) : CMul i j := by
  unfold mulOk at h
  simp only [Bool.or_eq_true, Bool.and_eq_true, decide_eq_true_eq] at h
  exact h
/-! ### == of data -/
mutual
/-- data that is read: lists as they stand now -/
inductive RD (K : PySem.W.Frag) (H : Hp) : PV → V → Prop
  | non : RD K H .non .non
  | bl (b : Bool) : RD K H (.bl b) (.bl b)
  | int (i : Int) : RD K H (.int i) (.int i)
  | str (l : List Nat) : RD K H (.str l) (.str (sOf l))
  | tup {a : Addr} {l : List PV} {xs : List V} : SqT K H a xs → RDs K H l xs → RD K H (.tup l) (.ref a)
  | lst {a : Addr} {l : List PV} {xs : List V} : SqL K H a xs → RDs K H l xs → RD K H (.lst l) (.ref a)
inductive RDs (K : PySem.W.Frag) (H : Hp) : List PV → List V → Prop
  | nil : RDs K H [] []
  | cons {p : PV} {v : V} {ps : List PV} {vs : List V} : RD K H p v → RDs K H ps vs → RDs K H (p :: ps) (v :: vs)
end
mutual
theorem RV.rd {K : PySem.W.Frag} {μ : List Addr} {H : Hp} : ∀ {n : Nat} {p : PV} {v : V}, dOk n p = true → RV K μ H p v → RD K H p v
  | _, _, _, _, .non => .non
  | _, _, _, _, .bl b => .bl b
  | _, _, _, _, .int i => .int i
  | _, _, _, _, .str l => .str l
  | 0, _, _, h, .tup _ _ => by cases h
  | 0, _, _, h, .lst _ _ => by cases h
  | n + 1, _, _, h, .tup a r => .tup a (RVs.rd (by simpa [dOk] using h) r)
  | n + 1, _, _, h, .lst a r => .lst a.sq (RVs.rd (by simpa [dOk] using h) r)
  | 0, _, _, h, .dct _ _ _ => by cases h
  | n + 1, _, _, h, .dct _ _ _ => by cases h
  | 0, _, _, h, .ref _ => by cases h
  | n + 1, _, _, h, .ref _ => by cases h
theorem RVs.rd {K : PySem.W.Frag} {μ : List Addr} {H : Hp} : ∀ {n : Nat} {ps : List PV} {vs : List V}, dOks n ps = true → RVs K μ H ps vs → RDs K H ps vs
  | _, _, _, _, .nil => .nil
  | n, _, _, h, .cons r t => by
    simp only [dOks, Bool.and_eq_true] at h
    exact .cons (RV.rd h.1 r) (RVs.rd h.2 t)
end
theorem RDs.length {K : PySem.W.Frag} {H : Hp} : ∀ {ps : List PV} {vs : List V}, RDs K H ps vs → ps.length = vs.length
  | _, _, .nil => rfl
  | _, _, .cons _ t => by simp [RDs.length t]
theorem RDs.get {K : PySem.W.Frag} {H : Hp} : ∀ {ps : List PV} {vs : List V} {i : Nat} {p : PV}, RDs K H ps vs → ps[i]? = some p → ∃ v, vs[i]? = some v ∧ RD K H p v
  | _, _, _, _, .nil, e => by simp at e
  | _, _, 0, _, .cons r _, e => by simp at e; subst e; exact ⟨_, rfl, r⟩
  | _, _, i + 1, p, .cons _ t, e => by
    obtain ⟨v, h1, h2⟩ := RDs.get (i := i) (p := p) t (by simpa using e)
    exact ⟨v, by simpa using h1, h2⟩
mutual
theorem rv_inj {H : Hp} {pins : List (Addr × Obj)} {σ : L2.St} {s : Shared} (I : Inv X pins σ H s) : ∀ (n : Nat) (p q : PV) (v : V), dOk n p = true → dOk n q = true → RD X.K H p v → RD X.K H q v → p = q
  | _, .non, q, _, _, _, .non, h => by cases h; rfl
  | _, .bl b, q, _, _, _, .bl _, h => by cases h; rfl
  | _, .int i, q, _, _, _, .int _, h => by cases h; rfl
  | _, .str l, q, _, _, _, .str _, h => by
    generalize e : V.str (sOf l) = v at h
    cases h with
    | str m =>
      injection e with e
      rw [sOf_inj e]
    | _ => cases e
  | 0, .tup l, q, _, h, _, _, _ => by simp [dOk] at h
  | 0, .lst l, q, _, h, _, _, _ => by simp [dOk] at h
  | n + 1, .tup l, q, _, h1, h2, .tup hs rs, h => by
    cases h with
    | tup hs2 rs2 =>
      have e := I.tuple_inj hs hs2
      subst e
      rw [rvs_inj I n l _ _ (by simpa [dOk] using h1) (by simpa [dOk] using h2) rs rs2]
    | lst hs2 rs2 =>
      obtain ⟨_, _, ⟨o, e1, c1, _⟩, _⟩ := I.tuple hs
      obtain ⟨_, _, ⟨o2, n2, e2, c2, _⟩, _⟩ := I.list hs2
      rw [e1] at e2; cases e2
      rw [c1] at c2
      exact absurd c2 (by decide)
  | n + 1, .lst l, q, _, h1, h2, .lst hs rs, h => by
    cases h with
    | lst hs2 rs2 =>
      have e := I.list_inj hs hs2
      subst e
      rw [rvs_inj I n l _ _ (by simpa [dOk] using h1) (by simpa [dOk] using h2) rs rs2]
    | tup hs2 rs2 =>
      obtain ⟨_, _, ⟨o, e1, c1, _⟩, _⟩ := I.tuple hs2
      obtain ⟨_, _, ⟨o2, n2, e2, c2, _⟩, _⟩ := I.list hs
      rw [e1] at e2; cases e2
      rw [c1] at c2
      exact absurd c2 (by decide)
  | _, .dct _, _, _, h, _, _, _ => by simp [dOk] at h
  | _, .ref _, _, _, h, _, _, _ => by simp [dOk] at h
  | _, .lam _ _, _, _, h, _, _, _ => by simp [dOk] at h
theorem rvs_inj {H : Hp} {pins : List (Addr × Obj)} {σ : L2.St} {s : Shared} (I : Inv X pins σ H s) : ∀ (n : Nat) (ps qs : List PV) (vs : List V), dOks n ps = true → dOks n qs = true → RDs X.K H ps vs → RDs X.K H qs vs → ps = qs
  | _, [], qs, _, _, _, .nil, h => by cases h; rfl
  | n, p :: ps, qs, _, h1, h2, .cons r t, h => by
    cases h with
    | cons r2 t2 =>
      simp only [dOks, Bool.and_eq_true] at h1 h2
      rw [rv_inj I n p _ _ h1.1 h2.1 r r2, rvs_inj I n ps _ _ h1.2 h2.2 t t2]
end
mutual
theorem eqP_refl : ∀ (n : Nat) (p : PV), dOk n p = true → eqP p p = true
  | _, .non, _ => rfl
  | _, .bl b, _ => by simp [eqP]
  | _, .int i, _ => by simp [eqP]
  | _, .str l, _ => by simp [eqP]
  | 0, .tup l, h => by simp [dOk] at h
  | 0, .lst l, h => by simp [dOk] at h
  | n + 1, .tup l, h => by
    have := eqPs_refl n l (by simpa [dOk] using h)
    simpa [eqP] using this
  | n + 1, .lst l, h => by
    have := eqPs_refl n l (by simpa [dOk] using h)
    simpa [eqP] using this
  | _, .dct _, h => by simp [dOk] at h
  | _, .ref _, h => by simp [dOk] at h
  | _, .lam _ _, h => by simp [dOk] at h
theorem eqPs_refl : ∀ (n : Nat) (ps : List PV), dOks n ps = true → eqPs ps ps = true
  | _, [], _ => rfl
  | n, p :: ps, h => by
    simp only [dOks, Bool.and_eq_true] at h
    simp only [eqPs, Bool.and_eq_true]
    exact ⟨eqP_refl n p h.1, eqPs_refl n ps h.2⟩
end
theorem dOks_get : ∀ {n : Nat} {ps : List PV} {i : Nat} {p : PV}, dOks n ps = true → ps[i]? = some p → dOk n p = true
  | _, [], _, _, _, e => by simp at e
  | n, q :: ps, 0, p, h, e => by
    simp only [dOks, Bool.and_eq_true] at h
    simp at e
    exact e ▸ h.1
  | n, q :: ps, i + 1, p, h, e => by
    simp only [dOks, Bool.and_eq_true] at h
    exact dOks_get (i := i) h.2 (by simpa using e)
theorem range_all_succ (n : Nat) (f : Nat → Bool) : (List.range (n + 1)).all f = (f 0 && (List.range n).all fun i => f (i + 1)) := by
  rw [List.range_succ_eq_map, List.all_cons, List.all_map]
  rfl
/-- == of two rows, place by place -/
theorem eqPs_range : ∀ (ps qs : List PV), eqPs ps qs = ((List.range (min ps.length qs.length)).all (fun j => eqP (ps.getD j .non) (qs.getD j .non)) && ps.length == qs.length)
  | [], [] => rfl
  | [], q :: qs => by simp [eqPs]
  | p :: ps, [] => by simp [eqPs]
  | p :: ps, q :: qs => by
    rw [eqPs, eqPs_range ps qs, List.length_cons, List.length_cons, show min (ps.length + 1) (qs.length + 1) = min ps.length qs.length + 1 by omega, range_all_succ]
    simp only [List.getD_cons_zero, List.getD_cons_succ, Bool.and_assoc]
    congr 2
    rw [Bool.eq_iff_iff]
    simp
open SeqAt (EqAt RcAt RcNeAt)
theorem getD_of {α : Type} {l : List α} {j : Nat} {d x : α} (h : l[j]? = some x) : l.getD j d = x := by
  rw [List.getD_eq_getElem?_getD, h]; rfl
theorem str_beq (l m : List Nat) : (sOf l == sOf m) = (l == m) := by
  rw [Bool.eq_iff_iff, beq_iff_eq, beq_iff_eq]
  exact ⟨sOf_inj, fun e => by rw [e]⟩
/-- how two values compare -/
structure Cmp3 (A : Around) (s : Shared) (v u : Value) (b : Bool) : Prop where
  eq : EqAt A s v u b
  rc : RcAt A s v u b
  ne : RcNeAt A s v u (!b)
theorem Cmp3.of {A : Around} {s : Shared} {v u : Value} {b c : Bool} (e : c = b) (h : Cmp3 A s v u c) : Cmp3 A s v u b := e ▸ h
theorem cmp_atoms {K : PySem.W.Frag} {H : Hp} {s : Shared} {A : Around} {p q : PV} {x y : V} {v u : Value} (lt : A.units < cLine) (dp : dOk 0 p = true) (dq : dOk 0 q = true) (rp : RD K H p x) (rq : RD K H q y) (rv : RelV x v) (ru : RelV y u) :
    Cmp3 A s v u (eqP p q) := by
  cases rp with
  | non =>
    obtain rfl : v = Value.none := rv
    cases rq with
    | non =>
      obtain rfl : u = Value.none := ru
      exact ⟨EqAt.same _, RcAt.none_none, RcNeAt.none_none⟩
    | bl c2 =>
      obtain rfl : u = Value.bool c2 := ru
      exact Cmp3.of (c := false) rfl ⟨EqAt.none_bool c2, RcAt.none_bool c2, RcNeAt.none_bool c2⟩
    | int c2 =>
      obtain ⟨t2, rfl⟩ : ∃ t, u = Value.int c2 t := ru
      exact Cmp3.of (c := false) rfl ⟨EqAt.none_int c2 t2, RcAt.none_int c2 t2, RcNeAt.none_int c2 t2⟩
    | str c2 =>
      obtain ⟨t2, rfl⟩ : ∃ t, u = Value.str (sOf c2) t := ru
      exact Cmp3.of (c := false) rfl ⟨EqAt.none_str (sOf c2) t2, RcAt.none_str (sOf c2) t2, RcNeAt.none_str (sOf c2) t2⟩
    | _ => cases dq
  | bl c1 =>
    obtain rfl : v = Value.bool c1 := rv
    cases rq with
    | non =>
      obtain rfl : u = Value.none := ru
      exact Cmp3.of (c := false) rfl ⟨EqAt.bool_none c1, RcAt.bool_none c1, RcNeAt.bool_none c1⟩
    | bl c2 =>
      obtain rfl : u = Value.bool c2 := ru
      exact Cmp3.of (c := c1 == c2) rfl ⟨EqAt.bool_bool c1 c2, RcAt.bool_bool c1 c2, RcNeAt.bool_bool c1 c2⟩
    | int c2 =>
      obtain ⟨t2, rfl⟩ : ∃ t, u = Value.int c2 t := ru
      exact Cmp3.of (c := (if c1 then 1 else 0) == c2) rfl ⟨EqAt.bool_int c1 c2 t2, RcAt.bool_int c1 c2 t2, RcNeAt.bool_int c1 c2 t2⟩
    | str c2 =>
      obtain ⟨t2, rfl⟩ : ∃ t, u = Value.str (sOf c2) t := ru
      exact Cmp3.of (c := false) rfl ⟨EqAt.bool_str c1 (sOf c2) t2, RcAt.bool_str c1 (sOf c2) t2, RcNeAt.bool_str c1 (sOf c2) t2⟩
    | _ => cases dq
  | int c1 =>
    obtain ⟨t1, rfl⟩ : ∃ t, v = Value.int c1 t := rv
    cases rq with
    | non =>
      obtain rfl : u = Value.none := ru
      exact Cmp3.of (c := false) rfl ⟨EqAt.int_none c1 t1, RcAt.int_none c1 t1, RcNeAt.int_none c1 t1⟩
    | bl c2 =>
      obtain rfl : u = Value.bool c2 := ru
      exact Cmp3.of (c := c1 == (if c2 then 1 else 0)) rfl ⟨EqAt.int_bool c1 t1 c2, RcAt.int_bool c1 t1 c2, RcNeAt.int_bool c1 t1 c2⟩
    | int c2 =>
      obtain ⟨t2, rfl⟩ : ∃ t, u = Value.int c2 t := ru
      exact Cmp3.of (c := c1 == c2) rfl ⟨EqAt.int_int c1 t1 c2 t2, RcAt.int_int c1 t1 c2 t2, RcNeAt.int_int c1 t1 c2 t2⟩
    | str c2 =>
      obtain ⟨t2, rfl⟩ : ∃ t, u = Value.str (sOf c2) t := ru
      exact Cmp3.of (c := false) rfl ⟨EqAt.int_str c1 t1 (sOf c2) t2, RcAt.int_str c1 t1 (sOf c2) t2, RcNeAt.int_str c1 t1 (sOf c2) t2⟩
    | _ => cases dq
  | str c1 =>
    obtain ⟨t1, rfl⟩ : ∃ t, v = Value.str (sOf c1) t := rv
    cases rq with
    | non =>
      obtain rfl : u = Value.none := ru
      exact Cmp3.of (c := false) rfl ⟨EqAt.str_none (sOf c1) t1, RcAt.str_none (sOf c1) t1, RcNeAt.str_none (sOf c1) t1⟩
    | bl c2 =>
      obtain rfl : u = Value.bool c2 := ru
      exact Cmp3.of (c := false) rfl ⟨EqAt.str_bool (sOf c1) t1 c2, RcAt.str_bool (sOf c1) t1 c2, RcNeAt.str_bool (sOf c1) t1 c2⟩
    | int c2 =>
      obtain ⟨t2, rfl⟩ : ∃ t, u = Value.int c2 t := ru
      exact Cmp3.of (c := false) rfl ⟨EqAt.str_int (sOf c1) t1 c2 t2, RcAt.str_int (sOf c1) t1 c2 t2, RcNeAt.str_int (sOf c1) t1 c2 t2⟩
    | str c2 =>
      obtain ⟨t2, rfl⟩ : ∃ t, u = Value.str (sOf c2) t := ru
      exact Cmp3.of (c := sOf c1 == sOf c2) (str_beq c1 c2) ⟨EqAt.str_str (sOf c1) t1 (sOf c2) t2, RcAt.str_str (sOf c1) t1 (sOf c2) t2, RcNeAt.str_str (sOf c1) t1 (sOf c2) t2⟩
    | _ => cases dq
  | _ => cases dp
/-- two that are related are compared as their values are -/
theorem cmp3 {H : Hp} {pins : List (Addr × Obj)} {σ : L2.St} {s : Shared} (I : Inv X pins σ H s) : ∀ (n : Nat) (A : Around) (p q : PV) (x y : V) (v u : Value), A.units + n < cLine → dOk n p = true → dOk n q = true → RD X.K H p x → RD X.K H q y → RelV x v → RelV y u →
    Cmp3 A s v u (eqP p q) := by
  intro n
  induction n with
  | zero => exact fun A p q x y v u hu dp dq rp rq rv ru => cmp_atoms (by omega) dp dq rp rq rv ru
  | succ n ih =>
    intro A p q x y v u hu dp dq rp rq rv ru
    have lt : A.units < cLine := by omega
    have rows : ∀ {l m : List PV} {xs ys : List V} {its its2 : List Value}, dOks n l = true → dOks n m = true → RDs X.K H l xs → RDs X.K H m ys → Vals xs its → Vals ys its2 →
        ∀ j (h1 : j < its.toArray.size) (h2 : j < its2.toArray.size), EqAt A.in1 s its.toArray[j] its2.toArray[j] (eqP (l.getD j .non) (m.getD j .non)) := fun {l m xs ys its its2} dl dm rl rm ri ri2 j h1 h2 => by
      have h1' : j < its.length := by simpa using h1
      have h2' : j < its2.length := by simpa using h2
      have k1 : j < l.length := by rw [rl.length, ri.length]; exact h1'
      have k2 : j < m.length := by rw [rm.length, ri2.length]; exact h2'
      have g1 : l[j]? = some l[j] := by simp [k1]
      have g2 : m[j]? = some m[j] := by simp [k2]
      obtain ⟨x1, a1, b1⟩ := rl.get g1
      obtain ⟨y1, a2, b2⟩ := rm.get g2
      obtain ⟨u1, c1, d1⟩ := ri.get a1
      obtain ⟨u2, c2, d2⟩ := ri2.get a2
      rw [getD_of g1, getD_of g2]
      have z1 : its.toArray[j] = u1 := by
        have := (List.getElem?_eq_some_iff.mp c1).2
        simpa using this
      have z2 : its2.toArray[j] = u2 := by
        have := (List.getElem?_eq_some_iff.mp c2).2
        simpa using this
      rw [z1, z2]
      exact (ih A.in1 _ _ _ _ _ _ (by show A.units + 1 + n < cLine; omega) (dOks_get dl g1) (dOks_get dm g2) b1 b2 d1 d2).eq
    cases rp with
    | non =>
      cases rq with
      | non =>
        exact cmp_atoms (K := X.K) (H := H) lt rfl rfl .non .non rv ru
      | bl c2 =>
        exact cmp_atoms (K := X.K) (H := H) lt rfl rfl .non (.bl c2) rv ru
      | int c2 =>
        exact cmp_atoms (K := X.K) (H := H) lt rfl rfl .non (.int c2) rv ru
      | str c2 =>
        exact cmp_atoms (K := X.K) (H := H) lt rfl rfl .non (.str c2) rv ru
      | @tup a2 l2 xs2 hs2 rs2 =>
        obtain rfl : v = Value.none := rv
        obtain rfl : u = Value.ref a2 := ru
        obtain ⟨its2, ri2, ti2, _⟩ := I.tuple hs2
        exact Cmp3.of (c := false) rfl ⟨EqAt.none_tuple ti2 lt, RcAt.none_tuple ti2 lt, RcNeAt.none_tuple ti2 lt⟩
      | @lst a2 l2 xs2 hs2 rs2 =>
        obtain rfl : v = Value.none := rv
        obtain rfl : u = Value.ref a2 := ru
        obtain ⟨its2, ri2, ti2, _⟩ := I.list hs2
        exact Cmp3.of (c := false) rfl ⟨EqAt.none_list ti2.isList lt, RcAt.none_list ti2.isList lt, RcNeAt.none_list ti2.isList lt⟩
    | bl c1 =>
      cases rq with
      | non =>
        exact cmp_atoms (K := X.K) (H := H) lt rfl rfl (.bl c1) .non rv ru
      | bl c2 =>
        exact cmp_atoms (K := X.K) (H := H) lt rfl rfl (.bl c1) (.bl c2) rv ru
      | int c2 =>
        exact cmp_atoms (K := X.K) (H := H) lt rfl rfl (.bl c1) (.int c2) rv ru
      | str c2 =>
        exact cmp_atoms (K := X.K) (H := H) lt rfl rfl (.bl c1) (.str c2) rv ru
      | @tup a2 l2 xs2 hs2 rs2 =>
        obtain rfl : v = Value.bool c1 := rv
        obtain rfl : u = Value.ref a2 := ru
        obtain ⟨its2, ri2, ti2, _⟩ := I.tuple hs2
        exact Cmp3.of (c := false) rfl ⟨EqAt.bool_tuple c1 ti2 lt, RcAt.bool_tuple c1 ti2 lt, RcNeAt.bool_tuple c1 ti2 lt⟩
      | @lst a2 l2 xs2 hs2 rs2 =>
        obtain rfl : v = Value.bool c1 := rv
        obtain rfl : u = Value.ref a2 := ru
        obtain ⟨its2, ri2, ti2, _⟩ := I.list hs2
        exact Cmp3.of (c := false) rfl ⟨EqAt.bool_list c1 ti2.isList lt, RcAt.bool_list c1 ti2.isList lt, RcNeAt.bool_list c1 ti2.isList lt⟩
    | int c1 =>
      cases rq with
      | non =>
        exact cmp_atoms (K := X.K) (H := H) lt rfl rfl (.int c1) .non rv ru
      | bl c2 =>
        exact cmp_atoms (K := X.K) (H := H) lt rfl rfl (.int c1) (.bl c2) rv ru
      | int c2 =>
        exact cmp_atoms (K := X.K) (H := H) lt rfl rfl (.int c1) (.int c2) rv ru
      | str c2 =>
        exact cmp_atoms (K := X.K) (H := H) lt rfl rfl (.int c1) (.str c2) rv ru
      | @tup a2 l2 xs2 hs2 rs2 =>
        obtain ⟨t1, rfl⟩ : ∃ t, v = Value.int c1 t := rv
        obtain rfl : u = Value.ref a2 := ru
        obtain ⟨its2, ri2, ti2, _⟩ := I.tuple hs2
        exact Cmp3.of (c := false) rfl ⟨EqAt.int_tuple c1 t1 ti2 lt, RcAt.int_tuple c1 t1 ti2 lt, RcNeAt.int_tuple c1 t1 ti2 lt⟩
      | @lst a2 l2 xs2 hs2 rs2 =>
        obtain ⟨t1, rfl⟩ : ∃ t, v = Value.int c1 t := rv
        obtain rfl : u = Value.ref a2 := ru
        obtain ⟨its2, ri2, ti2, _⟩ := I.list hs2
        exact Cmp3.of (c := false) rfl ⟨EqAt.int_list c1 t1 ti2.isList lt, RcAt.int_list c1 t1 ti2.isList lt, RcNeAt.int_list c1 t1 ti2.isList lt⟩
    | str c1 =>
      cases rq with
      | non =>
        exact cmp_atoms (K := X.K) (H := H) lt rfl rfl (.str c1) .non rv ru
      | bl c2 =>
        exact cmp_atoms (K := X.K) (H := H) lt rfl rfl (.str c1) (.bl c2) rv ru
      | int c2 =>
        exact cmp_atoms (K := X.K) (H := H) lt rfl rfl (.str c1) (.int c2) rv ru
      | str c2 =>
        exact cmp_atoms (K := X.K) (H := H) lt rfl rfl (.str c1) (.str c2) rv ru
      | @tup a2 l2 xs2 hs2 rs2 =>
        obtain ⟨t1, rfl⟩ : ∃ t, v = Value.str (sOf c1) t := rv
        obtain rfl : u = Value.ref a2 := ru
        obtain ⟨its2, ri2, ti2, _⟩ := I.tuple hs2
        exact Cmp3.of (c := false) rfl ⟨EqAt.str_tuple (sOf c1) t1 ti2 lt, RcAt.str_tuple (sOf c1) t1 ti2 lt, RcNeAt.str_tuple (sOf c1) t1 ti2 lt⟩
      | @lst a2 l2 xs2 hs2 rs2 =>
        obtain ⟨t1, rfl⟩ : ∃ t, v = Value.str (sOf c1) t := rv
        obtain rfl : u = Value.ref a2 := ru
        obtain ⟨its2, ri2, ti2, _⟩ := I.list hs2
        exact Cmp3.of (c := false) rfl ⟨EqAt.str_list (sOf c1) t1 ti2.isList lt, RcAt.str_list (sOf c1) t1 ti2.isList lt, RcNeAt.str_list (sOf c1) t1 ti2.isList lt⟩
    | @tup a1 l1 xs1 hs1 rs1 =>
      obtain rfl : v = Value.ref a1 := rv
      obtain ⟨its, ri, ti, _⟩ := I.tuple hs1
      cases rq with
      | non =>
        obtain rfl : u = Value.none := ru
        exact Cmp3.of (c := false) rfl ⟨EqAt.tuple_none ti lt, RcAt.tuple_none ti lt, RcNeAt.tuple_none ti lt⟩
      | bl c2 =>
        obtain rfl : u = Value.bool c2 := ru
        exact Cmp3.of (c := false) rfl ⟨EqAt.tuple_bool c2 ti lt, RcAt.tuple_bool c2 ti lt, RcNeAt.tuple_bool c2 ti lt⟩
      | int c2 =>
        obtain ⟨t2, rfl⟩ : ∃ t, u = Value.int c2 t := ru
        exact Cmp3.of (c := false) rfl ⟨EqAt.tuple_int c2 t2 ti lt, RcAt.tuple_int c2 t2 ti lt, RcNeAt.tuple_int c2 t2 ti lt⟩
      | str c2 =>
        obtain ⟨t2, rfl⟩ : ∃ t, u = Value.str (sOf c2) t := ru
        exact Cmp3.of (c := false) rfl ⟨EqAt.tuple_str (sOf c2) t2 ti lt, RcAt.tuple_str (sOf c2) t2 ti lt, RcNeAt.tuple_str (sOf c2) t2 ti lt⟩
      | @tup a2 l2 xs2 hs2 rs2 =>
        obtain rfl : u = Value.ref a2 := ru
        obtain ⟨its2, ri2, ti2, _⟩ := I.tuple hs2
        have dl : dOks n l1 = true := by simpa [dOk] using dp
        have dm : dOks n l2 = true := by simpa [dOk] using dq
        have e : ((List.range (min its.toArray.size its2.toArray.size)).all (fun j => eqP (l1.getD j .non) (l2.getD j .non)) && its.toArray.size == its2.toArray.size) = eqP (.tup l1) (.tup l2) := by
          rw [eqP, eqPs_range, List.size_toArray, List.size_toArray, ← ri.length, ← ri2.length, ← rs1.length, ← rs2.length]
        refine Cmp3.of e ?_
        have rc := RcAt.tuples ti ti2 lt (rows dl dm rs1 rs2 ri ri2)
        refine ⟨?_, rc, RcNeAt.tuples ti ti2 lt (rows dl dm rs1 rs2 ri ri2)⟩
        by_cases hab : a1 = a2
        · subst hab
          have e := I.tuple_inj hs1 hs2
          subst e
          have e2 := rvs_inj I n l1 l2 _ dl dm rs1 rs2
          subst e2
          rw [e, show eqP (.tup l1) (.tup l1) = true from eqP_refl (n + 1) _ (by simpa [dOk] using dl)]
          exact EqAt.same _
        · exact EqAt.of_refs hab rc
      | @lst a2 l2 xs2 hs2 rs2 =>
        obtain rfl : u = Value.ref a2 := ru
        obtain ⟨its2, ri2, ti2, _⟩ := I.list hs2
        exact Cmp3.of (c := false) rfl ⟨EqAt.tuple_list ti ti2.isList lt, RcAt.tuple_list ti ti2.isList lt, RcNeAt.tuple_list ti ti2.isList lt⟩
    | @lst a1 l1 xs1 hs1 rs1 =>
      obtain rfl : v = Value.ref a1 := rv
      obtain ⟨its, ri, ti, _⟩ := I.list hs1
      cases rq with
      | non =>
        obtain rfl : u = Value.none := ru
        exact Cmp3.of (c := false) rfl ⟨EqAt.list_none ti.isList lt, RcAt.list_none ti.isList lt, RcNeAt.list_none ti.isList lt⟩
      | bl c2 =>
        obtain rfl : u = Value.bool c2 := ru
        exact Cmp3.of (c := false) rfl ⟨EqAt.list_bool c2 ti.isList lt, RcAt.list_bool c2 ti.isList lt, RcNeAt.list_bool c2 ti.isList lt⟩
      | int c2 =>
        obtain ⟨t2, rfl⟩ : ∃ t, u = Value.int c2 t := ru
        exact Cmp3.of (c := false) rfl ⟨EqAt.list_int c2 t2 ti.isList lt, RcAt.list_int c2 t2 ti.isList lt, RcNeAt.list_int c2 t2 ti.isList lt⟩
      | str c2 =>
        obtain ⟨t2, rfl⟩ : ∃ t, u = Value.str (sOf c2) t := ru
        exact Cmp3.of (c := false) rfl ⟨EqAt.list_str (sOf c2) t2 ti.isList lt, RcAt.list_str (sOf c2) t2 ti.isList lt, RcNeAt.list_str (sOf c2) t2 ti.isList lt⟩
      | @tup a2 l2 xs2 hs2 rs2 =>
        obtain rfl : u = Value.ref a2 := ru
        obtain ⟨its2, ri2, ti2, _⟩ := I.tuple hs2
        exact Cmp3.of (c := false) rfl ⟨EqAt.list_tuple ti.isList ti2 lt, RcAt.list_tuple ti.isList ti2 lt, RcNeAt.list_tuple ti.isList ti2 lt⟩
      | @lst a2 l2 xs2 hs2 rs2 =>
        obtain rfl : u = Value.ref a2 := ru
        obtain ⟨its2, ri2, ti2, _⟩ := I.list hs2
        have dl : dOks n l1 = true := by simpa [dOk] using dp
        have dm : dOks n l2 = true := by simpa [dOk] using dq
        have fin : ∀ {b : Bool}, b = eqP (.lst l1) (.lst l2) → RcAt A s (.ref a1) (.ref a2) b → RcNeAt A s (.ref a1) (.ref a2) (!b) → Cmp3 A s (.ref a1) (.ref a2) (eqP (.lst l1) (.lst l2)) := fun {b} e rc ne => by
          subst e
          refine ⟨?_, rc, ne⟩
          by_cases hab : a1 = a2
          · subst hab
            have e := I.list_inj hs1 hs2
            subst e
            have e2 := rvs_inj I n l1 l2 _ dl dm rs1 rs2
            subst e2
            rw [show eqP (.lst l1) (.lst l1) = true from eqP_refl (n + 1) _ (by simpa [dOk] using dl)]
            exact EqAt.same _
          · exact EqAt.of_refs hab rc
        by_cases hz : its.toArray.size = its2.toArray.size
        · have hz' : l1.length = l2.length := by
            rw [rs1.length, rs2.length, ri.length, ri2.length]
            simpa using hz
          have e : (List.range its.toArray.size).all (fun j => eqP (l1.getD j .non) (l2.getD j .non)) = eqP (.lst l1) (.lst l2) := by
            rw [eqP, eqPs_range, List.size_toArray, ← ri.length, ← rs1.length, ← hz', Nat.min_self]
            simp
          exact fin e (RcAt.lists ti.isList ti2.isList hz lt (rows dl dm rs1 rs2 ri ri2)) (RcNeAt.lists ti.isList ti2.isList hz lt (rows dl dm rs1 rs2 ri ri2))
        · have hz' : (l1.length == l2.length) = false := by
            rw [rs1.length, rs2.length, ri.length, ri2.length]
            simpa using hz
          have e : false = eqP (.lst l1) (.lst l2) := by
            rw [eqP, eqPs_range, hz', Bool.and_false]
          exact fin e (RcAt.lists_lengths ti.isList ti2.isList (by simpa using hz) lt) (RcNeAt.lists_lengths ti.isList ti2.isList (by simpa using hz) lt)
/-! ### comparisons -/
theorem rd_val {x : PV} {v : V} {μ : List Addr} {st : Stt} {H : Hp} (ok : StOk X.K W μ st H) (r : RV X.K μ H x v) (h : dOk 60 (st.val x) = true) : RD X.K H (st.val x) v := by
  cases r with
  | @ref i a hi =>
    obtain ⟨o, ho, ro⟩ := ok.ob hi
    have e : st.val (.ref i) = match st.objs[i]? with | some (.lst l) => .lst l | _ => .ref i := rfl
    rw [e, ho] at h ⊢
    cases o with
    | lst l =>
      obtain ⟨xs, h1, rs⟩ := ro
      exact .lst (.of h1) (RVs.rd (n := 59) (by simpa [dOk] using h) rs)
    | _ => cases h
  | non => exact .non
  | bl b => exact .bl b
  | int i => exact .int i
  | str l => exact .str l
  | tup a b => exact RV.rd h (.tup a b)
  | lst a b => exact RV.rd h (.lst a b)
  | dct a b c => cases h
theorem fin_b {pins : List (Addr × Obj)} {σ : L2.St} {H : Hp} {s : Shared} {Q : VK} {k : Bool} (I : Inv X pins σ H s) (q : Q (.bl k) H) : EP X pins σ Q (.bool k) s := ⟨.bl k, H, I, rfl, q⟩
theorem cEq_of {st : Stt} {p q z : PV} (h : cpO cEq st p q = some z) : dOk 60 (st.val p) = true ∧ dOk 60 (st.val q) = true ∧ z = .bl (eqP (st.val p) (st.val q)) := by
  unfold cpO cEq at h
  split at h
  · rename_i hc
    simp only [Bool.and_eq_true] at hc
    exact ⟨hc.1, hc.2, (Option.some.inj h).symm⟩
  · cases h
theorem os_eq (hu : X.A.units + 64 < cLine) : OpS X W (compareOp .Eq) (cpO cEq) := by
  intro pins s σ H x y v u Q I rx ry ⟨μ, st, p, q, z, ok, rp, rq, hz, k⟩
  obtain ⟨d1, d2, rfl⟩ := cEq_of hz
  have c := cmp3 I 60 X.A _ _ x y v u (by omega) d1 d2 (rd_val ok rp d1) (rd_val ok rq d2) rx ry
  exact c.rc X.prog X.w X.xe _ (fin_b I (k μ H _ (Ext.refl _ _) ok (.bl _)))
theorem os_ne (hu : X.A.units + 64 < cLine) : OpS X W (compareOp .NotEq) (cpO cNe) := by
  intro pins s σ H x y v u Q I rx ry ⟨μ, st, p, q, z, ok, rp, rq, hz, k⟩
  have hz' : (cEq st p q).map (fun b => PV.bl (!b)) = some z := by
    unfold cpO cNe at hz
    rw [Option.map_map] at hz
    exact hz
  cases hc : cEq st p q with
  | none => rw [hc] at hz'; cases hz'
  | some b =>
    rw [hc] at hz'
    cases hz'
    obtain ⟨d1, d2, e⟩ := cEq_of (show cpO cEq st p q = some (.bl b) by unfold cpO; rw [hc]; rfl)
    cases e
    have c := cmp3 I 60 X.A _ _ x y v u (by omega) d1 d2 (rd_val ok rp d1) (rd_val ok rq d2) rx ry
    exact c.ne X.prog X.w X.xe _ (fin_b I (k μ H _ (Ext.refl _ _) ok (.bl _)))
/-! ### products -/
theorem foldl_cat (x : Array Nat) : ∀ (n : Nat) (acc : Array Nat), ((List.replicate n x).foldl (· ++ ·) acc).toList = acc.toList ++ repL n x.toList
  | 0, acc => by simp [repL]
  | n + 1, acc => by
    rw [List.replicate_succ, List.foldl_cons, foldl_cat x n]
    simp [repL, List.replicate_succ]
theorem repL_zero {n : Nat} (h : n = 0) (a : List Nat) : repL n a = [] := by subst h; rfl
theorem repL_one (a : List Nat) : repL 1 a = a := by simp [repL]
theorem repL_nil (n : Nat) : repL n [] = [] := by simp [repL]
theorem op_mul_str : OpR X (binaryOp .Mult) (fun x y H Q => ∃ (a : List Nat) (j : Int), x = .str (sOf a) ∧ y = .int j ∧ a.length ≤ sizeLine ∧ -1000000 ≤ j ∧ j ≤ 1000000 ∧ a.length * j.toNat ≤ sizeLine ∧ Q (.str (sOf (repL j.toNat a))) H) := by
  intro pins s σ H x y v u Q I rx ry h
  obtain ⟨a, j, rfl, rfl, hl, h0, h1, hz, q⟩ := h
  obtain ⟨t, rfl⟩ := rx
  obtain ⟨t', rfl⟩ := ry
  have hs := sizeLine_eq
  refine PySem.P.mul_str ?_ ?_ ?_ ?_
  · have e1 : decide (j < -(2 ^ 63 : Int)) = false := decide_eq_false (by omega)
    have e2 : decide (j ≥ 2 ^ 63) = false := decide_eq_false (by omega)
    rw [e1, e2]; rfl
  · intro hj _ hc
    have h3 : (0 : Int) < j := by omega
    have h4 : (16777216 : Int) ≤ (2 ^ 63 - 1) / j := by
      rw [Int.le_ediv_iff_mul_le h3]
      omega
    have h5 : ((sOf a).length : Int) ≤ 16777216 := by rw [sOf_len]; omega
    omega
  · intro _ _
    rw [sOf_len]
    unfold Builtin.Str.tooLong
    exact decide_eq_false (by omega)
  · split
    · rename_i hj
      rw [repL_zero (by omega)] at q
      exact ⟨Nat.zero_le _, .str (sOf []), H, I.tok _, ⟨_, rfl⟩, q⟩
    · split
      · rename_i hj hc
        have e : repL j.toNat a = a := by
          simp only [Bool.or_eq_true, beq_iff_eq] at hc
          rcases hc with hc | hc
          · subst hc; exact repL_one a
          · rw [sOf_len] at hc
            have : a = [] := List.length_eq_zero_iff.mp hc
            subst this; exact repL_nil _
        rw [e] at q
        exact ⟨.str (sOf a), H, I, ⟨t, rfl⟩, q⟩
      · have e : (⟨(List.replicate j.toNat (sOf a).cps).foldl (· ++ ·) #[]⟩ : Str) = sOf (repL j.toNat a) := by
          have := foldl_cat (sOf a).cps j.toNat #[]
          unfold sOf
          congr 1
          apply Array.toList_inj.mp
          rw [show (sOf a).cps = a.toArray from rfl] at this
          rw [this]
          simp
        rw [e]
        exact ⟨by rw [sOf_len]; simp [repL]; rw [Nat.mul_comm]; exact hz, .str _, H, I.tok _, ⟨_, rfl⟩, q⟩
theorem os_mul : OpS X W (binaryOp .Mult) oMul := by
  refine OpR.imp ((op_mul (X := X)).or (op_mul_str (X := X))) fun x y H Q h => ?_
  obtain ⟨μ, st, p, q, z, ok, rp, rq, hz, k⟩ := h
  cases rp with
  | int i =>
    cases rq with
    | int j =>
      have e : (if mulOk i j = true then some (PV.int (i * j)) else none) = some z := hz
      split at e
      · rename_i hc
        cases e
        exact .inl ⟨i, j, rfl, rfl, mulOk_c hc, k μ H _ (Ext.refl _ _) ok (.int _)⟩
      · cases e
    | _ => cases hz
  | str a =>
    cases rq with
    | int j =>
      have e : (if (lenOk a && decide (-1000000 ≤ j) && decide (j ≤ 1000000) && Nat.ble (a.length * j.toNat) szl) = true then some (PV.str (repL j.toNat a)) else none) = some z := hz
      split at e
      · rename_i hc
        simp only [Bool.and_eq_true, decide_eq_true_eq] at hc
        cases e
        exact .inr ⟨a, j, rfl, rfl, lenOk_le hc.1.1.1, hc.1.1.2, hc.1.2, ble_line hc.2, k μ H _ (Ext.refl _ _) ok (.str _)⟩
      · cases e
    | _ => cases hz
  | _ => cases rq <;> cases hz
/-! ### order -/
theorem ltN_iff : ∀ (a b : List Nat), ltN a b = decide (a < b)
  | [], [] => by simp [ltN]
  | [], b :: bs => by simp [ltN]
  | a :: as, [] => by simp [ltN]
  | a :: as, b :: bs => by
    rw [ltN, ltN_iff as bs]
    by_cases h : a < b
    · have : Nat.blt a b = true := by rw [Nat.blt_eq]; exact h
      rw [this, if_pos rfl]
      exact (decide_eq_true (List.cons_lt_cons_iff.mpr (.inl h))).symm
    · have h1 : Nat.blt a b = false := by
        cases e : Nat.blt a b with
        | true => rw [Nat.blt_eq] at e; exact absurd e h
        | false => rfl
      rw [h1, if_neg Bool.false_ne_true]
      by_cases e : a = b
      · subst e
        rw [if_pos (by simp)]
        rw [Bool.eq_iff_iff, decide_eq_true_eq, decide_eq_true_eq, List.cons_lt_cons_iff]
        constructor
        · intro q; exact .inr ⟨rfl, q⟩
        · rintro (q | ⟨_, q⟩)
          · exact absurd q (Nat.lt_irrefl _)
          · exact q
      · rw [if_neg (by simpa using e)]
        symm
        rw [decide_eq_false_iff_not, List.cons_lt_cons_iff]
        rintro (q | ⟨q, _⟩)
        · exact h q
        · exact e q
theorem os_ord {op : CmpOp} {g : Cp} {fi : Int → Int → Bool} {fs : List Nat → List Nat → Bool} (hg : ∀ st p q b, g st p q = some b → (∃ i j, p = .int i ∧ q = .int j ∧ b = fi i j) ∨ ∃ i j, p = .str i ∧ q = .str j ∧ b = fs i j)
    (hi : OpR X (compareOp op) (rI0 fun i j => .bl (fi i j))) (hs : OpR X (compareOp op) (fun x y H Q => ∃ i j, x = .str i ∧ y = .str j ∧ Q (.bl (fs i.cps.toList j.cps.toList)) H)) : OpS X W (compareOp op) (cpO g) := by
  refine OpR.imp (hi.or hs) fun x y H Q h => ?_
  obtain ⟨μ, st, p, q, z, ok, rp, rq, hz, k⟩ := h
  unfold cpO at hz
  cases hc : g st p q with
  | none => rw [hc] at hz; cases hz
  | some b =>
    rw [hc] at hz
    cases hz
    rcases hg st p q b hc with ⟨i, j, rfl, rfl, rfl⟩ | ⟨i, j, rfl, rfl, rfl⟩
    · cases rp
      cases rq
      exact .inl ⟨i, j, rfl, rfl, k μ H _ (Ext.refl _ _) ok (.bl _)⟩
    · cases rp
      cases rq
      exact .inr ⟨sOf i, sOf j, rfl, rfl, k μ H _ (Ext.refl _ _) ok (.bl _)⟩
theorem cLt_of (st : Stt) (p q : PV) (b : Bool) (h : cLt st p q = some b) : (∃ i j, p = .int i ∧ q = .int j ∧ b = decide (i < j)) ∨ ∃ i j, p = .str i ∧ q = .str j ∧ b = ltN i j := by
  unfold cLt at h
  split at h
  · exact .inl ⟨_, _, rfl, rfl, (Option.some.inj h).symm⟩
  · exact .inr ⟨_, _, rfl, rfl, (Option.some.inj h).symm⟩
  · cases h
theorem cLe_of (st : Stt) (p q : PV) (b : Bool) (h : cLe st p q = some b) : (∃ i j, p = .int i ∧ q = .int j ∧ b = decide (i ≤ j)) ∨ ∃ i j, p = .str i ∧ q = .str j ∧ b = !ltN j i := by
  unfold cLe at h
  split at h
  · exact .inl ⟨_, _, rfl, rfl, (Option.some.inj h).symm⟩
  · exact .inr ⟨_, _, rfl, rfl, (Option.some.inj h).symm⟩
  · cases h
theorem os_lt : OpS X W (compareOp .Lt) (cpO cLt) := os_ord (fi := fun i j => decide (i < j)) (fs := ltN) cLt_of op_lt (OpR.imp op_lt_str fun x y H Q ⟨i, j, e1, e2, q⟩ => ⟨i, j, e1, e2, by rw [← ltN_iff]; exact q⟩)
theorem os_gt : OpS X W (compareOp .Gt) (cpO cGt) := os_ord (fi := fun i j => decide (j < i)) (fs := fun i j => ltN j i) (fun st p q b h => by
    rcases cLt_of st q p b h with ⟨i, j, e1, e2, e3⟩ | ⟨i, j, e1, e2, e3⟩
    · exact .inl ⟨j, i, e2, e1, e3⟩
    · exact .inr ⟨j, i, e2, e1, e3⟩) op_gt (OpR.imp op_gt_str fun x y H Q ⟨i, j, e1, e2, q⟩ => ⟨i, j, e1, e2, by rw [← ltN_iff]; exact q⟩)
theorem os_le : OpS X W (compareOp .LtE) (cpO cLe) := os_ord (fi := fun i j => decide (i ≤ j)) (fs := fun i j => !ltN j i) cLe_of op_le (OpR.imp op_le_str fun x y H Q ⟨i, j, e1, e2, q⟩ => ⟨i, j, e1, e2, by rw [← ltN_iff]; exact q⟩)
theorem os_ge : OpS X W (compareOp .GtE) (cpO cGe) := os_ord (fi := fun i j => decide (j ≤ i)) (fs := fun i j => !ltN i j) (fun st p q b h => by
    rcases cLe_of st q p b h with ⟨i, j, e1, e2, e3⟩ | ⟨i, j, e1, e2, e3⟩
    · exact .inl ⟨j, i, e2, e1, e3⟩
    · exact .inr ⟨j, i, e2, e1, e3⟩) op_ge (OpR.imp op_ge_str fun x y H Q ⟨i, j, e1, e2, q⟩ => ⟨i, j, e1, e2, by rw [← ltN_iff]; exact q⟩)
/-! ### is -/
theorem os_is : OpS X W (compareOp .Is) (cpO cIs) := by
  refine OpR.imp ((op_isN (X := X)).or (op_is_bl (X := X))) fun x y H Q h => ?_
  obtain ⟨μ, st, p, q, z, ok, rp, rq, hz, k⟩ := h
  have fin : ∀ {b : Bool}, some (PV.bl b) = some z → Q (.bl b) H := fun {b} e => by cases e; exact k μ H _ (Ext.refl _ _) ok (.bl _)
  cases rq with
  | non =>
    refine .inl ⟨rfl, ?_⟩
    cases rp with
    | dct _ _ => cases hz
    | _ => exact fin hz
  | bl c =>
    cases rp with
    | bl a =>
      refine .inr ⟨a, c, rfl, rfl, ?_⟩
      rw [show decide (a = c) = (a == c) by cases a <;> cases c <;> rfl]
      exact fin hz
    | _ => cases hz
  | _ => cases rp <;> cases hz
theorem os_isNot : OpS X W (compareOp .IsNot) (cpO cIsNot) := by
  refine OpR.imp ((op_notN (X := X)).or (op_isnot_bl (X := X))) fun x y H Q h => ?_
  obtain ⟨μ, st, p, q, z, ok, rp, rq, hz, k⟩ := h
  have fin : ∀ {b : Bool}, some (PV.bl b) = some z → Q (.bl b) H := fun {b} e => by cases e; exact k μ H _ (Ext.refl _ _) ok (.bl _)
  cases rq with
  | non =>
    refine .inl ⟨rfl, ?_⟩
    cases rp with
    | dct _ _ => cases hz
    | _ => exact fin hz
  | bl c =>
    cases rp with
    | bl a =>
      refine .inr ⟨a, c, rfl, rfl, ?_⟩
      rw [show decide (a = c) = (a == c) by cases a <;> cases c <;> rfl]
      exact fin hz
    | _ => cases hz
  | _ => cases rp <;> cases hz
/-! ### dicts that are read -/
theorem dct_of {x : PV} {v : V} {μ : List Addr} {st : Stt} {H : Hp} {d : List (PV × PV)} (ok : StOk X.K W μ st H) (r : RV X.K μ H x v) (h : st.dct? x = some d) : ∃ a kvs, v = .ref a ∧ Rd H a (.dK kvs) ∧ RKs X.K μ H d kvs ∧ (kvs.map (·.1)).Nodup := by
  cases r with
  | @dct a o l kvs hs rs nd =>
    cases h
    exact ⟨a, kvs, rfl, .inr ⟨o, hs⟩, rs, nd⟩
  | @ref i a hi =>
    obtain ⟨o, ho, ro⟩ := ok.ob hi
    have h' : (match st.objs[i]? with | some (.dct l) => some l | _ => none : Option (List (PV × PV))) = some d := h
    rw [ho] at h'
    cases o with
    | dct l' =>
      cases h'
      obtain ⟨xs, h1, rs⟩ := ro
      exact ⟨a, xs, rfl, .inl h1, rs⟩
    | _ => cases h'
  | _ => cases h
theorem key_of_rv {μ : List Addr} {H : Hp} {x : PV} {v : V} (hk : keyOk x = true) (r : RV X.K μ H x v) : ∃ k, keyP x = some k ∧ v = kV k := by
  cases r with
  | int i => exact ⟨.inl i, rfl, rfl⟩
  | str l => exact ⟨.inr (sOf l), rfl, rfl⟩
  | _ => cases hk
theorem eqP_key {x y : PV} {k j : Key} (hx : keyP x = some k) (hy : keyP y = some j) : eqP x y = decide (k = j) := by
  cases x with
  | int i =>
    cases hx
    cases y with
    | int m => cases hy; exact (key_ll i m).symm
    | str m => cases hy; exact (key_lr i (sOf m)).symm
    | _ => cases hy
  | str l =>
    cases hx
    cases y with
    | int m => cases hy; exact (key_rl (sOf l) m).symm
    | str m =>
      cases hy
      show (l == m) = _
      rw [key_rr, ← str_beq, Bool.eq_iff_iff]
      simp
    | _ => cases hy
  | _ => cases hx
/-- what a dict holds at a key -/
theorem look_of {K : PySem.W.Frag} {μ : List Addr} {H : Hp} {x : PV} {key : Key} (hx : keyP x = some key) : ∀ {d : List (PV × PV)} {kvs : List (Key × V)}, RKs K μ H d kvs → (dLook d x = none ∧ valV kvs key = none) ∨ ∃ p v, dLook d x = some p ∧ valV kvs key = some v ∧ RV K μ H p v
  | _, _, .nil => .inl ⟨rfl, rfl⟩
  | _, _, @RKs.cons _ _ _ k p key' v ps vs hk rv t => by
    have e := eqP_key hk hx
    by_cases h : key' = key
    · refine .inr ⟨p, v, ?_, valV_pos h, rv⟩
      rw [dLook, e, decide_eq_true h, if_pos rfl]
    · have e1 : dLook ((k, p) :: ps) x = dLook ps x := by rw [dLook, e, decide_eq_false h, if_neg Bool.false_ne_true]
      rw [e1, valV_neg (p := (key', v)) h]
      exact look_of hx t
theorem put_of {K : PySem.W.Frag} {μ : List Addr} {H : Hp} {x q : PV} {key : Key} {w : V} (hx : keyP x = some key) (rw_ : RV K μ H q w) : ∀ {d : List (PV × PV)} {kvs : List (Key × V)}, RKs K μ H d kvs → (kvs.map (·.1)).Nodup → RKs K μ H (dPut d x q) (putK kvs key w)
  | _, _, .nil, _ => .cons hx rw_ .nil
  | _, _, @RKs.cons _ _ _ k p key' v ps vs hk rv t, nd => by
    have e := eqP_key hk hx
    rw [List.map_cons, List.nodup_cons] at nd
    by_cases h : key' = key
    · have e1 : dPut ((k, p) :: ps) x q = (k, q) :: ps := by rw [dPut, e, decide_eq_true h, if_pos rfl]
      rw [e1]
      have e2 : putK ((key', v) :: vs) key w = (key', w) :: vs := by
        subst h
        unfold putK
        have h1 : (((key', v) :: vs).any fun kv => decide (kv.1 = key')) = true := by simp
        rw [if_pos h1, List.map_cons, if_pos rfl]
        congr 1
        conv => rhs; rw [← List.map_id vs]
        apply List.map_congr_left
        intro kv hkv
        rw [if_neg]
        · rfl
        · intro e
          refine nd.1 ?_
          show key' ∈ _
          rw [← e]
          exact List.mem_map_of_mem (f := fun q : Key × V => q.1) hkv
      rw [e2]
      exact .cons hk rw_ t
    · have e1 : dPut ((k, p) :: ps) x q = (k, p) :: dPut ps x q := by rw [dPut, e, decide_eq_false h, if_neg Bool.false_ne_true]
      rw [e1]
      have e2 : putK ((key', v) :: vs) key w = (key', v) :: putK vs key w := by
        unfold putK
        have h1 : (((key', v) :: vs).any fun kv => decide (kv.1 = key)) = vs.any fun kv => decide (kv.1 = key) := by simp [h]
        rw [h1]
        by_cases hb : (vs.any fun kv => decide (kv.1 = key)) = true
        · rw [if_pos hb, if_pos hb, List.map_cons, if_neg h]
        · rw [if_neg hb, if_neg hb, List.cons_append]
      rw [e2]
      exact .cons hk rv (put_of hx rw_ t nd.2)
/-! ### in -/
open Classical in
/-- the answer for an item -/
noncomputable def ansOf (K : PySem.W.Frag) (H : Hp) (x : PV) (w : Value) : Bool := decide (∃ p v, RelV v w ∧ RD K H p v ∧ dOk 60 p = true ∧ eqP p x = true)
open Classical in
theorem ans_eq {H : Hp} {pins : List (Addr × Obj)} {σ : L2.St} {s : Shared} (I : Inv X pins σ H s) {x p : PV} {v : V} {w : Value} (rw_ : RelV v w) (rp : RD X.K H p v) (dp : dOk 60 p = true) : ansOf X.K H x w = eqP p x := by
  unfold ansOf
  cases h : eqP p x with
  | true => exact decide_eq_true ⟨p, v, rw_, rp, dp, h⟩
  | false =>
    refine decide_eq_false fun ⟨q, v', r1, r2, d2, e⟩ => ?_
    have hv := RelV.inj rw_ r1
    subst hv
    rw [rv_inj I 60 p q v dp d2 rp r2, e] at h
    cases h
theorem any_ans {H : Hp} {pins : List (Addr × Obj)} {σ : L2.St} {s : Shared} (I : Inv X pins σ H s) (x : PV) : ∀ {ps : List PV} {vs : List V} {us : List Value}, dOks 60 ps = true → RDs X.K H ps vs → Vals vs us → us.any (ansOf X.K H x) = ps.any fun z => eqP z x
  | _, _, _, _, .nil, .nil => rfl
  | _, _, _, h, .cons r t, .cons r2 t2 => by
    simp only [dOks, Bool.and_eq_true] at h
    rw [List.any_cons, List.any_cons, ans_eq I r2 r h.1, any_ans I x h.2 t t2]
theorem mem_ans {H : Hp} {pins : List (Addr × Obj)} {σ : L2.St} {s : Shared} (I : Inv X pins σ H s) {x : PV} {v : V} {u : Value} (hu : X.A.units + 65 < cLine) (dx : dOk 60 x = true) (rx : RD X.K H x v) (ru : RelV v u) :
    ∀ {ps : List PV} {vs : List V} {us : List Value}, dOks 60 ps = true → RDs X.K H ps vs → Vals vs us → ∀ w ∈ us, EqAt X.A.in1 s w u (ansOf X.K H x w)
  | _, _, _, _, .nil, .nil => fun w hw => nomatch hw
  | _, _, _, h, .cons r t, .cons r2 t2 => fun w hw => by
    simp only [dOks, Bool.and_eq_true] at h
    rcases List.mem_cons.mp hw with e | hw
    · subst e
      rw [ans_eq I r2 r h.1]
      exact (cmp3 I 60 X.A.in1 _ _ _ _ _ _ (by show X.A.units + 1 + 60 < cLine; omega) h.1 dx r rx r2 ru).eq
    · exact mem_ans I hu dx rx ru h.2 t t2 w hw
/-- x in a list or a tuple of data -/
def rInS (K : PySem.W.Frag) (neg : Bool) : R2 := fun x y H Q => ∃ a xs p ps, y = .ref a ∧ (SqL K H a xs ∨ SqT K H a xs) ∧ dOk 60 p = true ∧ dOks 60 ps = true ∧ RD K H p x ∧ RDs K H ps xs ∧ Q (.bl (if neg then !(ps.any fun z => eqP z p) else ps.any fun z => eqP z p)) H
theorem op_inS (hu : X.A.units + 65 < cLine) : OpR X (compareOp .In) (rInS X.K false) := by
  intro pins s σ H x y v u Q I rx ry h
  obtain ⟨a, xs, p, ps, rfl, hq, dp, ds, rp, rs, q⟩ := h
  cases ry
  rcases hq with hq | hq
  · obtain ⟨its, r, pl, hz⟩ := I.list hq
    refine SeqAt.in_listAt (ansOf X.K H p) pl.isList (fun w hw => mem_ans I hu dp rp rx ds rs r w (by simpa using hw)) (fin_b I ?_)
    rw [show its.toArray.any (ansOf X.K H p) = its.any (ansOf X.K H p) by simp, any_ans I p ds rs r]
    exact q
  · obtain ⟨its, r, pl, hz⟩ := I.tuple hq
    refine SeqAt.in_tupleAt (ansOf X.K H p) pl (fun w hw => mem_ans I hu dp rp rx ds rs r w (by simpa using hw)) (fin_b I ?_)
    rw [show its.toArray.any (ansOf X.K H p) = its.any (ansOf X.K H p) by simp, any_ans I p ds rs r]
    exact q
theorem op_notInS (hu : X.A.units + 65 < cLine) : OpR X (compareOp .NotIn) (rInS X.K true) := by
  intro pins s σ H x y v u Q I rx ry h
  obtain ⟨a, xs, p, ps, rfl, hq, dp, ds, rp, rs, q⟩ := h
  cases ry
  rcases hq with hq | hq
  · obtain ⟨its, r, pl, hz⟩ := I.list hq
    refine SeqAt.notIn_listAt (ansOf X.K H p) pl.isList (fun w hw => mem_ans I hu dp rp rx ds rs r w (by simpa using hw)) (fin_b I ?_)
    rw [show its.toArray.any (ansOf X.K H p) = its.any (ansOf X.K H p) by simp, any_ans I p ds rs r]
    exact q
  · obtain ⟨its, r, pl, hz⟩ := I.tuple hq
    refine SeqAt.notIn_tupleAt (ansOf X.K H p) pl (fun w hw => mem_ans I hu dp rp rx ds rs r w (by simpa using hw)) (fin_b I ?_)
    rw [show its.toArray.any (ansOf X.K H p) = its.any (ansOf X.K H p) by simp, any_ans I p ds rs r]
    exact q
/-- a key in a dict -/
theorem op_inD (hu : X.A.units + 1 < cLine) : OpR X (compareOp .In) (fun y x H Q => ∃ a o, x = .ref a ∧ DGet H a y o ∧ Q (.bl o.isSome) H) := by
  intro pins s σ H x y v u Q I rx ry h
  obtain ⟨a, o, rfl, g, q⟩ := h
  cases ry
  exact d_in hu I g rx fun s' I' => fin_b I' q
theorem op_notInD (hu : X.A.units + 1 < cLine) : OpR X (compareOp .NotIn) (fun y x H Q => ∃ a o, x = .ref a ∧ DGet H a y o ∧ Q (.bl (!o.isSome)) H) := by
  intro pins s σ H x y v u Q I rx ry h
  obtain ⟨a, o, rfl, g, q⟩ := h
  cases ry
  exact d_notIn hu I g rx fun s' I' => fin_b I' q
/-- what cIn looks at -/
theorem cIn_of {μ : List Addr} {st : Stt} {H : Hp} {p q : PV} {x y : V} {b : Bool} (ok : StOk X.K W μ st H) (rp : RV X.K μ H p x) (rq : RV X.K μ H q y) (h : cIn st p q = some b) :
    (∃ (c : Nat) (z : List Nat), x = .str ⟨#[c]⟩ ∧ y = .str (sOf z) ∧ b = z.contains c) ∨
    (∃ a xs ps, y = .ref a ∧ (SqL X.K H a xs ∨ SqT X.K H a xs) ∧ dOk 60 p = true ∧ dOks 60 ps = true ∧ RD X.K H p x ∧ RDs X.K H ps xs ∧ b = ps.any fun z => eqP z p) ∨
    ∃ a o, y = .ref a ∧ DGet H a x o ∧ b = o.isSome := by
  have seqs : ∀ {l : List PV}, st.seq? q = some l → (if (dOk 60 p && dOks 60 l) = true then some (l.any fun z => eqP z p) else none) = some b →
      ∃ a xs ps, y = .ref a ∧ (SqL X.K H a xs ∨ SqT X.K H a xs) ∧ dOk 60 p = true ∧ dOks 60 ps = true ∧ RD X.K H p x ∧ RDs X.K H ps xs ∧ b = ps.any fun z => eqP z p := fun {l} hl e => by
    obtain ⟨a, xs, rfl, hs, rs⟩ := seq_of ok rq hl
    split at e
    · rename_i hc
      simp only [Bool.and_eq_true] at hc
      exact ⟨a, xs, l, rfl, hs, hc.1, hc.2, RV.rd hc.1 rp, RVs.rd hc.2 rs, (Option.some.inj e).symm⟩
    · cases e
  have rest : (match st.seq? q with
      | some l => if (dOk 60 p && dOks 60 l) = true then some (l.any fun z => eqP z p) else none
      | none => match st.dct? q with
        | some d => if keyOk p = true then some (dLook d p).isSome else none
        | none => none) = some b →
      (∃ a xs ps, y = .ref a ∧ (SqL X.K H a xs ∨ SqT X.K H a xs) ∧ dOk 60 p = true ∧ dOks 60 ps = true ∧ RD X.K H p x ∧ RDs X.K H ps xs ∧ b = ps.any fun z => eqP z p) ∨ ∃ a o, y = .ref a ∧ DGet H a x o ∧ b = o.isSome := fun e => by
    cases hl : st.seq? q with
    | some l => rw [hl] at e; exact .inl (seqs hl e)
    | none =>
      rw [hl] at e
      cases hd : st.dct? q with
      | none => rw [hd] at e; cases e
      | some d =>
        rw [hd] at e
        have e' : (if keyOk p = true then some (dLook d p).isSome else none) = some b := e
        split at e'
        · rename_i hk
          obtain ⟨a, kvs, rfl, h1, rs, _⟩ := dct_of ok rq hd
          obtain ⟨k, hk1, rfl⟩ := key_of_rv hk rp
          refine .inr ⟨a, valV kvs k, rfl, .inl ⟨kvs, k, h1, rfl, rfl⟩, ?_⟩
          rcases look_of hk1 rs with ⟨q1, q2⟩ | ⟨p', v', q1, q2, _⟩
          · rw [q1] at e'; rw [q2]; exact (Option.some.inj e').symm
          · rw [q1] at e'; rw [q2]; exact (Option.some.inj e').symm
        · cases e'
  cases rq with
  | str z =>
    cases rp with
    | str l =>
      match l, h with
      | [c], h => exact .inl ⟨c, z, rfl, rfl, (Option.some.inj h).symm⟩
      | [], h => cases h
      | _ :: _ :: _, h => cases h
    | _ => cases h
  | non => exact .inr (rest h)
  | bl _ => exact .inr (rest h)
  | int _ => exact .inr (rest h)
  | tup _ _ => exact .inr (rest h)
  | lst _ _ => exact .inr (rest h)
  | dct _ _ => exact .inr (rest h)
  | ref _ => exact .inr (rest h)
theorem os_in (hu : X.A.units + 65 < cLine) : OpS X W (compareOp .In) (cpO cIn) := by
  refine OpR.imp ((op_in_sign (X := X)).or ((op_inS hu).or (op_inD (X := X) (by omega)))) fun x y H Q h => ?_
  obtain ⟨μ, st, p, q, z, ok, rp, rq, hz, k⟩ := h
  unfold cpO at hz
  cases hc : cIn st p q with
  | none => rw [hc] at hz; cases hz
  | some b =>
    rw [hc] at hz
    cases hz
    have fin : Q (.bl b) H := k μ H _ (Ext.refl _ _) ok (.bl _)
    rcases cIn_of ok rp rq hc with ⟨c, l, rfl, rfl, e⟩ | ⟨a, xs, ps, rfl, hs, d1, d2, r1, r2, e⟩ | ⟨a, o, rfl, g, e⟩
    · refine .inl ⟨c, sOf l, rfl, rfl, ?_⟩
      rw [sOf_cps, show decide (c ∈ l) = b by rw [e, Bool.eq_iff_iff]; simp]
      exact fin
    · refine .inr (.inl ⟨a, xs, p, ps, rfl, hs, d1, d2, r1, r2, ?_⟩)
      rw [if_neg Bool.false_ne_true, ← e]
      exact fin
    · exact .inr (.inr ⟨a, o, rfl, g, by rw [← e]; exact fin⟩)
theorem os_notIn (hu : X.A.units + 65 < cLine) : OpS X W (compareOp .NotIn) (cpO cNotIn) := by
  refine OpR.imp ((op_notIn_sign (X := X)).or ((op_notInS hu).or (op_notInD (X := X) (by omega)))) fun x y H Q h => ?_
  obtain ⟨μ, st, p, q, z, ok, rp, rq, hz, k⟩ := h
  unfold cpO cNotIn at hz
  cases hc : cIn st p q with
  | none => rw [hc] at hz; cases hz
  | some b =>
    rw [hc] at hz
    cases hz
    have fin : Q (.bl (!b)) H := k μ H _ (Ext.refl _ _) ok (.bl _)
    rcases cIn_of ok rp rq hc with ⟨c, l, rfl, rfl, e⟩ | ⟨a, xs, ps, rfl, hs, d1, d2, r1, r2, e⟩ | ⟨a, o, rfl, g, e⟩
    · refine .inl ⟨c, sOf l, rfl, rfl, ?_⟩
      rw [sOf_cps, show decide (c ∈ l) = b by rw [e, Bool.eq_iff_iff]; simp]
      exact fin
    · refine .inr (.inl ⟨a, xs, p, ps, rfl, hs, d1, d2, r1, r2, ?_⟩)
      rw [if_pos rfl, ← e]
      exact fin
    · exact .inr (.inr ⟨a, o, rfl, g, by rw [← e]; exact fin⟩)
end
end Ev
/-! Ev4: items and slices. -/
namespace Ev
open PySem PySem.Spec PyProof.Rows L2
section
variable {X : Cx} {W : Wd} {a b c : Expr} {ma mb mc : Ex} {pos : Pos}
theorem atI_rv {K : PySem.W.Frag} {μ : List Addr} {H : Hp} {l : List PV} {xs : List V} {i : Int} {p : PV} (rs : RVs K μ H l xs) (h : Ev.atI l i = some p) : ∃ v, L2.atI xs i = some v ∧ RV K μ H p v := by
  unfold Ev.atI Ev.ixN at h
  unfold L2.atI L2.ixN
  rw [← rs.length]
  split at h
  · split at h
    · rename_i h0 h1
      rw [if_pos h0, if_pos h1]
      exact rs.get h
    · cases h
  · split at h
    · rename_i h0 h1
      rw [if_neg h0, if_pos h1]
      exact rs.get h
    · cases h
theorem ix_fz {r : R2} (h : IxR X r) : IxR X (fun x y H Q => r x y H (fz Q)) := fun value slice pins s σ H x y v u Q I rx ry q hs => thn (h value slice pins s σ H x y v u _ I rx ry q hs) fun _ _ z => ep_fz z
theorem IxR.imp {r r' : R2} (h : IxR X r) (i : ∀ x y H Q, r' x y H Q → r x y H Q) : IxR X r' := fun value slice pins s σ H x y v u Q I rx ry q hs => h value slice pins s σ H x y v u Q I rx ry (i _ _ _ _ q) hs
def rIxD : R2 := fun x y H Q => ∃ a v, x = .ref a ∧ DGet H a y (some v) ∧ Q v H
theorem ix_dict (hu : X.A.units + 1 < cLine) : IxR X rIxD := by
  intro value slice pins s σ H x y v u Q I rx ry h hs
  obtain ⟨a, w, rfl, g, q⟩ := h
  cases rx
  exact tail_any (dict_typeIs I g) PySem.F.slot_dict_getitem.lookup (d_getItem hu I g ry fun w' s' I' r' => ⟨w, H, I', r', q⟩) hs
theorem dct_get {μ : List Addr} {st : Stt} {H : Hp} {p q z : PV} {x y : V} {d : List (PV × PV)} (ok : StOk X.K W μ st H) (rp : RV X.K μ H p x) (rq : RV X.K μ H q y) (hd : st.dct? p = some d) (hk : keyOk q = true) (hz : dLook d q = some z) :
    ∃ a v, x = .ref a ∧ DGet H a y (some v) ∧ RV X.K μ H z v := by
  obtain ⟨a, kvs, rfl, h1, rs, _⟩ := dct_of ok rp hd
  obtain ⟨k, hk1, rfl⟩ := key_of_rv hk rq
  rcases look_of hk1 rs with ⟨q1, q2⟩ | ⟨p', v', q1, q2, r⟩
  · rw [q1] at hz; cases hz
  · rw [q1] at hz; cases hz
    exact ⟨a, v', rfl, .inl ⟨kvs, k, h1, rfl, q2.symm⟩, r⟩
theorem ix_ok (hu : X.A.units + 1 < cLine) : IxR X (rdO X W oIx) := by
  refine IxR.imp ((ix_list (X := X)).or ((ix_tup (X := X)).or ((ix_str (X := X)).or (ix_dict hu)))) fun x y H Q h => ?_
  obtain ⟨μ, st, p, q, z, ok, rp, rq, hz, k⟩ := h
  have dict : ∀ {d}, st.dct? p = some d → keyOk q = true → dLook d q = some z → rIxD x y H Q := fun hd hk hl => by
    obtain ⟨a, v, e, g, r⟩ := dct_get ok rp rq hd hk hl
    exact ⟨a, v, e, g, k μ H v (Ext.refl _ _) ok r⟩
  have gen : (match st.dct? p with | some d => if keyOk q = true then dLook d q else none | none => none) = some z → rIxD x y H Q := fun e => by
    cases hd : st.dct? p with
    | none => rw [hd] at e; cases e
    | some d =>
      rw [hd] at e
      have e' : (if keyOk q = true then dLook d q else none) = some z := e
      split at e'
      · rename_i hk; exact dict hd hk e'
      · cases e'
  cases rq with
  | int i =>
    have seq : (match st.seq? p with | some l => Ev.atI l i | none => match st.dct? p with | some d => dLook d (.int i) | none => none) = some z → rIxL X.K x (.int i) H Q ∨ rIxT X.K x (.int i) H Q ∨ rIxD x (.int i) H Q := fun e => by
      cases hs : st.seq? p with
      | some l =>
        rw [hs] at e
        obtain ⟨a, xs, rfl, h1, rs⟩ := seq_of ok rp hs
        obtain ⟨v, e1, r1⟩ := atI_rv rs e
        have fin := k μ H v (Ext.refl _ _) ok r1
        rcases h1 with h1 | h1
        · exact .inl ⟨a, xs, i, v, rfl, rfl, h1, e1, fin⟩
        · exact .inr (.inl ⟨a, xs, i, v, rfl, rfl, h1, e1, fin⟩)
      | none =>
        rw [hs] at e
        cases hd : st.dct? p with
        | none => rw [hd] at e; cases e
        | some d => rw [hd] at e; exact .inr (.inr (dict hd rfl e))
    have put : rIxL X.K x (.int i) H Q ∨ rIxT X.K x (.int i) H Q ∨ rIxD x (.int i) H Q → rIxL X.K x (.int i) H Q ∨ rIxT X.K x (.int i) H Q ∨ rIxS x (.int i) H Q ∨ rIxD x (.int i) H Q := fun e => by
      rcases e with e | e | e
      · exact Or.inl e
      · exact Or.inr (Or.inl e)
      · exact Or.inr (Or.inr (Or.inr e))
    cases rp with
    | str l =>
      refine .inr (.inr (.inl ?_))
      have e : (if lenOk l = true then (Ev.atI l i).map fun c => PV.str [c] else none) = some z := hz
      split at e
      · rename_i hl
        cases ha : Ev.atI l i with
        | none => rw [ha] at e; cases e
        | some c =>
          rw [ha] at e
          cases e
          refine ⟨sOf l, i, c, rfl, rfl, by rw [sOf_len]; exact lenOk_le hl, ?_, k μ H _ (Ext.refl _ _) ok (.str [c])⟩
          exact ha
      · cases e
    | non => exact put (seq hz)
    | bl _ => exact put (seq hz)
    | int _ => exact put (seq hz)
    | tup a b => exact put (seq hz)
    | lst a b => exact put (seq hz)
    | dct a b c => exact put (seq hz)
    | ref a => exact put (seq hz)
  | non => exact .inr (.inr (.inr (gen (by cases p <;> exact hz))))
  | bl _ => exact .inr (.inr (.inr (gen (by cases p <;> exact hz))))
  | str _ => exact .inr (.inr (.inr (gen (by cases p <;> exact hz))))
  | tup _ _ => exact .inr (.inr (.inr (gen (by cases p <;> exact hz))))
  | lst _ _ => exact .inr (.inr (.inr (gen (by cases p <;> exact hz))))
  | dct _ _ _ => exact .inr (.inr (.inr (gen (by cases p <;> exact hz))))
  | ref _ => exact .inr (.inr (.inr (gen (by cases p <;> exact hz))))
theorem se_ix (hu : X.A.units + 1 < cLine) (ha : SE X W a ma) (hb : SE X W b mb) (hs : PlainIx b) : SE X W (.Subscript a b pos) (eOp oIx ma mb) :=
  PE.imp (pe_ix (ix_ok hu) ha hb hs) fun _ _ _ h => two_out h
/-! ### slices -/
theorem sIx_eq : Ev.sIx = HT.sIx := by
  funext n d o
  cases o <;> rfl
theorem cut_rv {K : PySem.W.Frag} {μ : List Addr} {H : Hp} {l : List PV} {xs : List V} {lo hi : Option Int} (rs : RVs K μ H l xs) : RVs K μ H (cutL l lo hi) (L2.cutV xs lo hi) := by
  unfold cutL L2.cutV
  rw [sIx_eq, ← rs.length]
  exact (rs.drop _).take _
theorem SlR.fz {r : V → Option Int → Option Int → Hp → VK → Prop} (h : SlR X r) : SlR X (fun x lo hi H Q => r x lo hi H (Ev.fz Q)) := fun pins s σ H x v vl vu lo hi sl Q I rx hs pl pu q => by
  obtain ⟨T, id, h1, h2, h3⟩ := h pins s σ H x v vl vu lo hi sl _ I rx hs pl pu q
  exact ⟨T, id, h1, h2, thn h3 fun _ _ z => ep_fz z⟩
theorem SlR.imp {r r' : V → Option Int → Option Int → Hp → VK → Prop} (h : SlR X r) (i : ∀ x lo hi H Q, r' x lo hi H Q → r x lo hi H Q) : SlR X r' := fun pins s σ H x v vl vu lo hi sl Q I rx hs pl pu q => h pins s σ H x v vl vu lo hi sl Q I rx hs pl pu (i _ _ _ _ _ q)
def rdSl (X : Cx) (W : Wd) : V → Option Int → Option Int → Hp → VK → Prop := fun x lo hi H Q => ∃ μ st p z, StOk X.K W μ st H ∧ RV X.K μ H p x ∧ Ev.cutV st p lo hi = some z ∧ ∀ μ' H' v, Ext μ H μ' H' → StOk X.K W μ' st H' → RV X.K μ' H' z v → Q v H'
theorem sl_ok : SlR X (rdSl X W) := by
  refine SlR.imp (SlR.fz ((sl_str (X := X)).or ((sl_tupA (X := X)).or (sl_list (X := X))))) fun x lo hi H Q h => ?_
  obtain ⟨μ, st, p, z, ok, rp, hz, k⟩ := h
  have lists : (st.lst? p).map (fun l => PV.lst (cutL l lo hi)) = some z → rSlL X.K x lo hi H (Ev.fz Q) := fun e => by
    cases hl : st.lst? p with
    | none => rw [hl] at e; cases e
    | some l =>
      rw [hl] at e
      cases e
      obtain ⟨a, xs, rfl, h1, rs⟩ := lst_of ok rp hl
      exact ⟨a, xs, rfl, h1, fz_list ok (cut_rv rs) k⟩
  cases rp with
  | str l =>
    have e : (if lenOk l = true then some (PV.str (cutL l lo hi)) else none) = some z := hz
    split at e
    · rename_i hl
      cases e
      refine .inl ⟨sOf l, rfl, by rw [sOf_len]; exact lenOk_le hl, .inl ?_⟩
      have e : cutS (sOf l) lo hi = sOf (cutL l lo hi) := by
        unfold cutS cutL
        rw [sOf_len, sIx_eq]
        rfl
      rw [e]
      exact k μ H _ (Ext.refl _ _) ok (.str _)
    · cases e
  | @tup a l xs hs rs =>
    have e : some (PV.tup (cutL l lo hi)) = some z := hz
    cases e
    refine .inr (.inl ⟨a, xs, rfl, hs, fun hw => .inl ?_, fun _ p hp => .inl (new_tup ok (cut_rv rs) k p hp)⟩)
    have e : cutL l lo hi = l := by
      unfold cutL
      rw [sIx_eq, rs.length, hw.1, hw.2, List.drop_zero, Nat.sub_zero, ← rs.length, List.take_length]
    rw [e] at k
    exact k μ H _ (Ext.refl _ _) ok (.tup hs rs)
  | non => exact .inr (.inr (lists hz))
  | bl _ => exact .inr (.inr (lists hz))
  | int _ => exact .inr (.inr (lists hz))
  | lst _ _ => exact .inr (.inr (lists hz))
  | dct _ _ _ => exact .inr (.inr (lists hz))
  | ref _ => exact .inr (.inr (lists hz))
/-- a slice's part -/
def rdO1 (X : Cx) (W : Wd) (m : Option Ex) : TO := fun σ H Q => ∃ T ρ μ st, Takes X T ∧ EnvOk X.K μ H ρ σ ∧ StOk X.K W μ st H ∧ OutG X W μ H T (fun _ H' i _ => Q i H') (pE m ρ st)
theorem so_none : PO X none (rdO1 X W none) := by
  refine ⟨fun pins s σ H Q I ⟨T, ρ, μ, st, tk, en, ok, out⟩ => ?_⟩
  exact po_none.run pins s σ H Q I (out.now ok)
theorem so_some (ha : SE X W a ma) : PO X (some a) (rdO1 X W (some ma)) := by
  refine ⟨fun pins s σ H Q I ⟨T, ρ, μ, st, tk, en, ok, out⟩ => ?_⟩
  refine (po_some ha).run pins s σ H Q I ⟨T, ρ, μ, st, tk, en, ok, OutG.mono (OutG.bind out) fun μ1 H1 p s1 x1 ok1 h1 v rv => ?_⟩
  cases p with
  | int n =>
    cases rv
    exact ⟨n, rfl, h1.now ok1⟩
  | _ => exact (show False from h1).elim
theorem se_cut {lo hi : Option Expr} {ml mh : Option Ex} {p2 : Pos} (ha : SE X W a ma) (hl : PO X lo (rdO1 X W ml)) (hh : PO X hi (rdO1 X W mh)) : SE X W (.Subscript a (.Slice lo hi none p2) pos) (eCut ma ml mh) := by
  refine PE.imp (pe_slice (sl_ok (W := W)) ha hl hh) fun σ H Q ⟨T, ρ, μ, st, tk, en, ok, out⟩ => ?_
  refine ⟨T, ρ, μ, st, tk, en, ok, out.bind.mono fun μ1 H1 p s1 x1 ok1 h1 v rv => ?_⟩
  refine ⟨T, ρ, μ1, s1, tk, en.ext x1, ok1, OutG.mono (OutG.bind h1) fun μ2 H2 i s2 x2 ok2 h2 => ?_⟩
  refine ⟨T, ρ, μ2, s2, tk, (en.ext x1).ext x2, ok2, OutG.mono (OutG.bind h2) fun μ3 H3 j s3 x3 ok3 h3 => ?_⟩
  obtain ⟨z, hz, h4⟩ := OutG.ofO h3
  exact ⟨μ3, s3, p, z, ok3, (rv.ext x2).ext x3, hz, fun μ' H' v' x' ok' r' => h4 μ' H' x' ok' v' r'⟩
end
end Ev
/-! Ev5: plain data: the order, sorting, numbers as texts. -/
namespace Ev
open PySem PySem.Spec PyProof.Rows L2
/-! ### the order of data -/
mutual
/-- x < y, for data that are alike -/
def ltP : PV → PV → Bool
  | .bl a, .bl b => !a && b
  | .int i, .int j => decide (i < j)
  | .str x, .str y => ltN x y
  | .lst xs, .lst ys => ltPs xs ys
  | .tup xs, .tup ys => ltPs xs ys
  | _, _ => false
def ltPs : List PV → List PV → Bool
  | x :: xs, y :: ys => if eqP x y then ltPs xs ys else ltP x y
  | [], _ :: _ => true
  | _, _ => false
end
mutual
def alP : PV → PV → Bool
  | .non, .non => true
  | .bl _, .bl _ => true
  | .int _, .int _ => true
  | .str _, .str _ => true
  | .lst xs, .lst ys => alPs xs ys
  | .tup xs, .tup ys => alPs xs ys
  | _, _ => false
def alPs : List PV → List PV → Bool
  | x :: xs, y :: ys => alP x y && alPs xs ys
  | _, _ => true
end
mutual
def pd : PV → PyData
  | .bl b => .bool b
  | .int i => .int i
  | .str l => .str (sOf l)
  | .lst l => .list (pds l)
  | .tup l => .tuple (pds l)
  | _ => .none
def pds : List PV → List PyData
  | [] => []
  | x :: xs => pd x :: pds xs
end
theorem pds_map : ∀ l : List PV, pds l = l.map pd
  | [] => rfl
  | x :: xs => by rw [pds, pds_map xs, List.map_cons]
mutual
theorem alP_pd : ∀ (a b : PV), alP a b = true → PySem.W.alike (pd a) (pd b) = true ∧ PyData.eqv (pd a) (pd b) = eqP a b ∧ PySem.W.dataLt (pd a) (pd b) = ltP a b ∧ (eqP a b = true → a = b)
  | .non, b, h => by
    cases b <;> first | cases h | skip
    exact ⟨by simp [pd, PySem.W.alike], by simp [pd, PyData.eqv, eqP], by rw [show ltP .non .non = false from rfl]; exact PyProof.Rows.lex_irrefl _, fun _ => rfl⟩
  | .bl x, b, h => by
    cases b <;> first | cases h | skip
    rename_i y
    refine ⟨by simp [pd, PySem.W.alike], by simp [pd, PyData.eqv, eqP], ?_, fun e => ?_⟩
    · simp only [pd]
      rw [PySem.W.dataLt_bool]
      cases x <;> cases y <;> rfl
    · have : (x == y) = true := e
      rw [eq_of_beq this]
  | .int x, b, h => by
    cases b <;> first | cases h | skip
    rename_i y
    refine ⟨by simp [pd, PySem.W.alike], by simp [pd, PyData.eqv, eqP], ?_, fun e => ?_⟩
    · simp only [pd]
      rw [PySem.W.dataLt_int]; rfl
    · have : (x == y) = true := e
      rw [eq_of_beq this]
  | .str x, b, h => by
    cases b <;> first | cases h | skip
    rename_i y
    refine ⟨by simp [pd, PySem.W.alike], ?_, ?_, fun e => ?_⟩
    · simp only [pd, PyData.eqv, eqP]
      exact str_beq x y
    · simp only [pd]
      rw [PySem.W.dataLt_str]
      exact (ltN_iff x y).symm
    · have : (x == y) = true := e
      rw [eq_of_beq this]
  | .lst x, b, h => by
    cases b <;> first | cases h | skip
    rename_i y
    obtain ⟨h1, h2, h3, h4⟩ := alPs_pds x y h
    refine ⟨by simpa [pd, PySem.W.alike] using h1, by simpa [pd, PyData.eqv, eqP] using h2, ?_, fun e => by rw [h4 e]⟩
    simp only [pd]
    rw [PySem.W.dataLt_list]; exact h3
  | .tup x, b, h => by
    cases b <;> first | cases h | skip
    rename_i y
    obtain ⟨h1, h2, h3, h4⟩ := alPs_pds x y h
    refine ⟨by simpa [pd, PySem.W.alike] using h1, by simpa [pd, PyData.eqv, eqP] using h2, ?_, fun e => by rw [h4 e]⟩
    simp only [pd]
    rw [PySem.W.dataLt_tuple]; exact h3
  | .dct _, b, h => by cases b <;> cases h
  | .ref _, b, h => by cases b <;> cases h
  | .lam _ _, b, h => by cases b <;> cases h
theorem alPs_pds : ∀ (a b : List PV), alPs a b = true → PySem.W.alikeAll (pds a) (pds b) = true ∧ PyData.eqvAll (pds a) (pds b) = eqPs a b ∧ PyProof.Rows.lexLt PyProof.Rows.itemOrd (PySem.W.keyToksAll (pds a)) (PySem.W.keyToksAll (pds b)) = ltPs a b ∧ (eqPs a b = true → a = b)
  | [], [], h => ⟨by simp [pds, PySem.W.alikeAll], by simp [pds, PyData.eqvAll, eqPs], PyProof.Rows.lex_irrefl _, fun _ => rfl⟩
  | [], y :: ys, h => by
    refine ⟨by simp [pds, PySem.W.alikeAll], by simp [pds, PyData.eqvAll, eqPs], ?_, fun e => by simp [eqPs] at e⟩
    rw [show ltPs [] (y :: ys) = true from rfl, pds, pds, PySem.W.toks_all_cons, PySem.W.keyToksAll]
    rw [PySem.W.lex_atom (by simp), PySem.W.lex_one]
    rfl
  | x :: xs, [], h => by
    refine ⟨by simp [pds, PySem.W.alikeAll], by simp [pds, PyData.eqvAll, eqPs], ?_, fun e => by simp [eqPs] at e⟩
    rw [show ltPs (x :: xs) [] = false from rfl, pds, pds, PySem.W.toks_all_cons, PySem.W.keyToksAll]
    rw [PySem.W.lex_atom (by simp), PySem.W.lex_one]
    rfl
  | x :: xs, y :: ys, h => by
    have h' : alP x y = true ∧ alPs xs ys = true := by simpa [alPs] using h
    obtain ⟨a1, a2, a3, a4⟩ := alP_pd x y h'.1
    obtain ⟨b1, b2, b3, b4⟩ := alPs_pds xs ys h'.2
    refine ⟨by simp [pds, PySem.W.alikeAll, a1, b1], by simp only [pds, PyData.eqvAll, eqPs, a2, b2], ?_, fun e => ?_⟩
    · rw [pds, pds, PySem.W.dataLt_cons a1, a2, a3, b3]
      rfl
    · have e' : eqP x y = true ∧ eqPs xs ys = true := by simpa [eqPs] using e
      rw [a4 e'.1, b4 e'.2]
end
/-! ### sorting -/
def insP (x : PV) : List PV → List PV
  | [] => [x]
  | y :: ys => if ltP y x then y :: insP x ys else x :: y :: ys
def srtP : List PV → List PV
  | [] => []
  | x :: xs => insP x (srtP xs)
theorem insP_perm (x : PV) : ∀ l : List PV, (insP x l).Perm (x :: l)
  | [] => .refl _
  | y :: ys => by
    unfold insP
    split
    · exact ((insP_perm x ys).cons y).trans (.swap _ _ _)
    · exact .refl _
theorem srtP_perm : ∀ l : List PV, (srtP l).Perm l
  | [] => .refl _
  | x :: xs => (insP_perm x _).trans ((srtP_perm xs).cons x)
/-- all alike -/
def alAll (l : List PV) : Bool := l.all fun a => l.all fun b => alP a b
theorem alAll_mem {l : List PV} (h : alAll l = true) {a b : PV} (ha : a ∈ l) (hb : b ∈ l) : alP a b = true := List.all_eq_true.mp (List.all_eq_true.mp h a ha) b hb
def dle : PV → PV → Bool := PySem.W.dataLe false pd
theorem dle_eq (a b : PV) : dle a b = !PySem.W.dataLt (pd b) (pd a) := rfl
theorem dle_total : PySem.W.TotalLe dle := PySem.W.sortLe_total _ false _
theorem dle_al {a b : PV} (h : alP b a = true) : dle a b = !ltP b a := by rw [dle_eq, (alP_pd b a h).2.2.1]
theorem dle_anti {a b : PV} (h : alP a b = true) (h1 : dle a b = true) (h2 : dle b a = true) : a = b := by
  obtain ⟨p1, p2, p3, p4⟩ := alP_pd a b h
  rw [dle_eq, Bool.not_eq_true'] at h1 h2
  have e : PySem.W.keyToks (pd a) = PySem.W.keyToks (pd b) := PyProof.Rows.lex_total _ _ h2 h1
  refine p4 ?_
  cases q : eqP a b with
  | true => rfl
  | false =>
    exfalso
    have z := (PySem.W.toks_eqv (pd a) (pd b) p1).2 (p2.trans q)
    have z1 := z [] [Sum.inl 0]
    rw [e, PySem.W.lex_pre] at z1
    rw [show PyProof.Rows.lexLt PyProof.Rows.itemOrd (PySem.W.keyToks (pd b)) (PySem.W.keyToks (pd b)) = false from PyProof.Rows.lex_irrefl _] at z1
    exact absurd z1 (by decide)
theorem insP_sorted (x : PV) : ∀ l : List PV, (∀ a ∈ x :: l, ∀ b ∈ x :: l, alP a b = true) → l.Pairwise (fun a b => dle a b = true) → (insP x l).Pairwise (fun a b => dle a b = true)
  | [], _, _ => by simp [insP]
  | y :: ys, hal, hp => by
    have hxy := hal x (by simp) y (by simp)
    have hyx := hal y (by simp) x (by simp)
    unfold insP
    cases h : ltP y x with
    | true =>
      rw [if_pos rfl]
      have hp' := List.pairwise_cons.mp hp
      refine List.pairwise_cons.mpr ⟨fun b hb => ?_, insP_sorted x ys (fun a ha b hb => hal a ?_ b ?_) hp'.2⟩
      · rcases List.mem_cons.mp ((insP_perm x ys).mem_iff.mp hb) with rfl | hb
        · have t := dle_total.total y b
          rw [dle_al (a := b) (b := y) hyx, h] at t
          simpa using t
        · exact hp'.1 b hb
      · rcases List.mem_cons.mp ha with rfl | ha
        · simp
        · simp [ha]
      · rcases List.mem_cons.mp hb with rfl | hb
        · simp
        · simp [hb]
    | false =>
      rw [if_neg Bool.false_ne_true]
      refine List.pairwise_cons.mpr ⟨fun b hb => ?_, hp⟩
      have h0 : dle x y = true := by rw [dle_al hyx, h]; rfl
      rcases List.mem_cons.mp hb with rfl | hb
      · exact h0
      · exact dle_total.trans _ _ _ h0 ((List.pairwise_cons.mp hp).1 b hb)
theorem srtP_sorted : ∀ l : List PV, (∀ a ∈ l, ∀ b ∈ l, alP a b = true) → (srtP l).Pairwise (fun a b => dle a b = true)
  | [], _ => by simp [srtP]
  | x :: xs, hal => by
    unfold srtP
    refine insP_sorted x _ (fun a ha b hb => hal a ?_ b ?_) (srtP_sorted xs fun a ha b hb => hal a (by simp [ha]) b (by simp [hb]))
    · rcases List.mem_cons.mp ha with rfl | ha
      · simp
      · exact List.mem_cons_of_mem _ ((srtP_perm xs).mem_iff.mp ha)
    · rcases List.mem_cons.mp hb with rfl | hb
      · simp
      · exact List.mem_cons_of_mem _ ((srtP_perm xs).mem_iff.mp hb)
theorem srtP_eq {l : List PV} (h : alAll l = true) : l.mergeSort dle = srtP l := by
  have hal : ∀ a ∈ l, ∀ b ∈ l, alP a b = true := fun a ha b hb => alAll_mem h ha hb
  refine List.Perm.eq_of_pairwise (le := fun a b => dle a b = true) (fun a b ha hb h1 h2 => ?_) (List.pairwise_mergeSort dle_total.trans (fun a b => by rcases dle_total.total a b with q | q <;> simp [q]) l) (srtP_sorted l hal) ((List.mergeSort_perm l dle).trans (srtP_perm l).symm)
  exact dle_anti (hal a ((List.mergeSort_perm l dle).mem_iff.mp ha) b ((srtP_perm l).mem_iff.mp hb)) h1 h2
/-! ### numbers as texts -/
def natF : Nat → Nat → List Nat
  | 0, n => [48 + n]
  | f + 1, n => if Nat.blt n 10 then [48 + n] else natF f (n / 10) ++ [48 + n % 10]
def natT (n : Nat) : List Nat := natF n n
def decT (i : Int) : List Nat := match i with
  | .ofNat n => natT n
  | .negSucc n => 45 :: natT (n + 1)
theorem digitChar_nat {d : Nat} (h : d < 10) : (Nat.digitChar d).toNat = 48 + d := by
  rcases d with _ | _ | _ | _ | _ | _ | _ | _ | _ | _ | d <;> first | rfl | omega
theorem natF_eq : ∀ (f n : Nat), n ≤ f → natF f n = (Nat.toDigits 10 n).map Char.toNat
  | 0, n, h => by
    have : n = 0 := by omega
    subst this
    rfl
  | f + 1, n, h => by
    unfold natF
    cases hn : Nat.blt n 10 with
    | true =>
      have hn' : n < 10 := Nat.le_of_ble_eq_true hn
      rw [if_pos rfl, Nat.toDigits_of_lt_base hn']
      simp [digitChar_nat hn']
    | false =>
      have hn' : 10 ≤ n := by
        by_cases q : n < 10
        · have : Nat.blt n 10 = true := Nat.ble_eq_true_of_le q
          rw [hn] at this; cases this
        · omega
      rw [if_neg Bool.false_ne_true, natF_eq f (n / 10) (by omega)]
      have t : Nat.toDigits 10 (n / 10) ++ Nat.toDigits 10 (n % 10) = Nat.toDigits 10 (10 * (n / 10) + n % 10) := Nat.toDigits_append_toDigits (by decide) (by omega) (Nat.mod_lt _ (by decide))
      rw [Nat.div_add_mod] at t
      have hm : n % 10 < 10 := Nat.mod_lt _ (by decide)
      rw [← t, List.map_append, Nat.toDigits_of_lt_base hm]
      simp [digitChar_nat hm]
theorem natT_eq (n : Nat) : natT n = (Nat.toDigits 10 n).map Char.toNat := natF_eq n n (Nat.le_refl _)
theorem decT_eq (i : Int) : Str.ofString (toString i) = sOf (decT i) := by
  cases i with
  | ofNat n =>
    have e : (Str.ofString (toString (Int.ofNat n))).cps.toList = natT n := by
      rw [natT_eq]
      exact PySem.W.KIN.signs_num n
    generalize Str.ofString (toString (Int.ofNat n)) = z at e ⊢
    cases z with
    | mk c =>
      show (⟨_⟩ : Str) = ⟨_⟩
      congr 1
      rw [← Array.toList_inj]
      exact e
  | negSucc n =>
    have e : (Str.ofString (toString (Int.negSucc n))).cps.toList = 45 :: natT (n + 1) := by
      rw [natT_eq, Str.ofString_eq_toList]
      show ((Int.repr (Int.negSucc n)).toList.map Char.toNat) = _
      unfold Int.repr
      simp [String.toList_append, Nat.toList_repr]
    generalize Str.ofString (toString (Int.negSucc n)) = z at e ⊢
    cases z with
    | mk c =>
      show (⟨_⟩ : Str) = ⟨_⟩
      congr 1
      rw [← Array.toList_inj]
      exact e
/-- a text of figures as a number -/
def figs (l : List Nat) : Bool := l.all fun c => Nat.ble 48 c && Nat.ble c 57
def numV (l : List Nat) : Nat := l.foldl (fun acc c => acc * 10 + (c - 48)) 0
def numT (l : List Nat) : Option Int := if figs l && !l.isEmpty && Nat.ble l.length 640 then some (.ofNat (numV l)) else none
theorem numT_eq {l : List Nat} {n : Int} (h : numT l = some n) : PySem.intText? (sOf l) = some n ∧ (sOf l).length ≤ 640 := by
  unfold numT at h
  split at h
  · rename_i hc
    simp only [Bool.and_eq_true] at hc
    have h1 : (sOf l).length ≤ 640 := by rw [sOf_len]; exact Nat.le_of_ble_eq_true hc.2
    refine ⟨?_, h1⟩
    have e := intText_digits (x := sOf l) (fun c hcc => ?_) (fun q => ?_) (by omega)
    · rw [e, ← h]; rfl
    · have := List.all_eq_true.mp hc.1.1 c hcc
      simp only [Bool.and_eq_true] at this
      exact ⟨Nat.le_of_ble_eq_true this.1, Nat.le_of_ble_eq_true this.2⟩
    · have : l = [] := q
      rw [this] at hc
      simp at hc
  · cases h
end Ev
/-! Ev6: built-in functions by values. -/
namespace Ev
open PySem PySem.Spec PyProof.Rows L2
abbrev Fn := Stt → List PV → Option PV
def bLen : Fn := fun s xs => match xs with
  | [.str l] => if lenOk l then some (.int l.length) else none
  | [x] => match s.seq? x with
    | some l => some (.int l.length)
    | none => (s.dct? x).map fun d => .int d.length
  | _ => none
def bInt : Fn := fun _ xs => match xs with
  | [.int i] => some (.int i)
  | [.bl b] => some (.int (b2n b))
  | [.str l] => (numT l).map .int
  | _ => none
def bStr : Fn := fun _ xs => match xs with
  | [.int i] => if Nat.blt i.natAbs.log2 1920 then some (.str (decT i)) else none
  | [.str l] => some (.str l)
  | _ => none
def bAbs : Fn := fun _ xs => match xs with
  | [.int i] => some (.int (if i < 0 then -i else i))
  | _ => none
def bList : Fn := fun s xs => match xs with
  | [x] => match s.seq? x with
    | some l => some (.lst l)
    | none => (s.dct? x).map fun d => .lst (d.map (·.1))
  | _ => none
def bTuple : Fn := fun s xs => match xs with
  | [.tup l] => some (.tup l)
  | [x] => (s.lst? x).map .tup
  | _ => none
/-- a pair, as what a dict is made of -/
def prP : PV → Option (PV × PV)
  | .tup [k, v] => if keyOk k then some (k, v) else none
  | _ => none
def prsP : List PV → Option (List (PV × PV))
  | [] => some []
  | x :: xs => (prP x).bind fun p => (prsP xs).map fun ps => p :: ps
def bDict : Fn := fun s xs => match xs with
  | [x] => match s.lst? x with
    | some l => (prsP l).map fun ps => .dct (ps.foldl (fun d p => dPut d p.1 p.2) [])
    | none => (s.dct? x).map .dct
  | _ => none
def intsP : List PV → Option (List Int)
  | [] => some []
  | .int i :: xs => (intsP xs).map fun is => i :: is
  | _ => none
def sumI : List Int → Int
  | [] => 0
  | i :: is => i + sumI is
def bSum : Fn := fun s xs => match xs with
  | [x] => (s.lst? x).bind fun l => (intsP l).map fun is => .int (sumI is)
  | _ => none
def hdTup : PV → Bool
  | .tup (_ :: _) => true
  | _ => false
def othP : PV → Bool
  | .bl _ => true
  | .int _ => true
  | .str _ => true
  | .lst _ => true
  | _ => false
def srtOk (l : List PV) : Bool := alAll l && l.all (dOk 60) && (l.all hdTup || l.all othP)
def bSorted : Fn := fun s xs => match xs with
  | [x] => (s.lst? x).bind fun l => if srtOk l then some (.lst (srtP l)) else none
  | _ => none
section
variable {X : Cx} {W : Wd}
/-- the reading of a function of values -/
def rdC (X : Cx) (W : Wd) (f : Fn) : List V → Hp → VK → Prop := fun xs H Q => ∃ μ st ps z, StOk X.K W μ st H ∧ RVs X.K μ H ps xs ∧ f st ps = some z ∧ ∀ μ' H' v, Ext μ H μ' H' → StOk X.K W μ' st H' → RV X.K μ' H' z v → Q v H'
abbrev FnS (X : Cx) (W : Wd) (f : Value) (g : Fn) : Prop := CallR X f (rdC X W g)
theorem fn_out {es : List Expr} {ml : Lx} {g : Fn} {σ : L2.St} {H : Hp} {Q : VK} (h : rdE X W (eFn g ml) σ H Q) : tCB (rdC X W g) (rdA X W ml) σ H Q := by
  obtain ⟨T, ρ, μ, st, tk, en, ok, out⟩ := h
  refine ⟨T, ρ, μ, st, tk, en, ok, out.bind.mono fun μ1 H1 ps s1 x1 ok1 h1 vs rvs => ?_⟩
  obtain ⟨z, hz, h2⟩ := h1.ofO
  exact ⟨μ1, s1, ps, z, ok1, rvs, hz, fun μ' H' v' x' ok' r' => h2 μ' H' x' ok' v' r'⟩
theorem se_fnB {x : Str} {p pos : Pos} {e : Expr} {es : List Expr} {ml : Lx} {id : String} {g : Fn} (hc : FnS X W (.builtin id) g) (hg : Gl X x) (hm : X.mg x = none) (hv : bootBuiltins x = some (.builtin id)) (ha : SA X W (e :: es) ml) (hn : x ≠ "__name__") (hdb : (x == ("__debug__" : Str)) = false)
    (he : starEach (e :: es) X.env = (false, eval e X.env) :: starEach es X.env) (hpl : (backTo pos (starEach es X.env)).any (·.1) = false) : SE X W (.Call (.Name x p) (e :: es) [] pos) (eFn g ml) :=
  PE.imp (pe_callB hc hg hm hv ha hn hdb he hpl) fun _ _ _ h => fn_out (es := es) h
theorem se_fnT {x : Str} {p pos : Pos} {e : Expr} {es : List Expr} {ml : Lx} {T : String} {g : Fn} (hc : FnS X W (.type T) g) (hg : Gl X x) (hm : X.mg x = none) (hv : bootBuiltins x = some (.type T)) (ha : SA X W (e :: es) ml) (hn : x ≠ "__name__") (hdb : (x == ("__debug__" : Str)) = false)
    (he : starEach (e :: es) X.env = (false, eval e X.env) :: starEach es X.env) (hpl : (backTo pos (starEach es X.env)).any (·.1) = false) : SE X W (.Call (.Name x p) (e :: es) [] pos) (eFn g ml) :=
  PE.imp (pe_callTy hc hg hm hv ha hn hdb he hpl) fun _ _ _ h => fn_out (es := es) h
theorem RVs.one' {K : PySem.W.Frag} {μ : List Addr} {H : Hp} {ps : List PV} {p : PV} {vs : List V} (e : ps = [p]) (h : RVs K μ H ps vs) : ∃ v, vs = [v] ∧ RV K μ H p v := by subst e; exact h.one
/-! ### len -/
theorem call_lenRd : CallR X (.builtin "len") (fun xs H Q => ∃ a kvs, xs = [V.ref a] ∧ Rd H a (.dK kvs) ∧ Q (.int kvs.length) H) := by
  intro pins s σ H xs us Q I r h
  obtain ⟨a, kvs, rfl, ha, q⟩ := h
  rw [Vals.ref1 r]
  exact d_len I ha fun t s' I' => ⟨.int kvs.length, H, I', ⟨t, rfl⟩, q⟩
theorem RKs.length {K : PySem.W.Frag} {μ : List Addr} {H : Hp} : ∀ {ps : List (PV × PV)} {vs : List (Key × V)}, RKs K μ H ps vs → ps.length = vs.length
  | _, _, .nil => rfl
  | _, _, .cons _ _ t => by simp [RKs.length t]
theorem fs_len : FnS X W (.builtin "len") bLen := by
  refine CallR.imp ((call_len (X := X)).or call_lenRd) fun xs H Q ⟨μ, st, ps, z, ok, rs, hz, k⟩ => ?_
  have fin : ∀ {i : Int}, z = .int i → Q (.int i) H := fun e => by
    subst e
    exact k μ H _ (Ext.refl _ _) ok (.int _)
  have gen : ∀ {p : PV}, ps = [p] → (match st.seq? p with | some l => some (PV.int l.length) | none => (st.dct? p).map fun d => .int d.length) = some z →
      (∃ x n, xs = [x] ∧ LenV X.K x H n ∧ Q (.int n) H) ∨ ∃ a kvs, xs = [V.ref a] ∧ Rd H a (.dK kvs) ∧ Q (.int kvs.length) H := fun {p} e h => by
    obtain ⟨v, rfl, rv⟩ := RVs.one' e rs
    cases hs : st.seq? p with
    | some l =>
      rw [hs] at h
      cases h
      obtain ⟨a, ys, rfl, h1, r1⟩ := seq_of ok rv hs
      refine .inl ⟨_, ys.length, rfl, ?_, fin (by rw [r1.length])⟩
      rcases h1 with h1 | h1
      · exact .inl ⟨ys, h1, rfl⟩
      · exact .inr ⟨ys, h1, rfl⟩
    | none =>
      rw [hs] at h
      cases hd : st.dct? p with
      | none => rw [hd] at h; cases h
      | some d =>
        rw [hd] at h
        cases h
        obtain ⟨a, kvs, rfl, h1, r1, nd⟩ := dct_of ok rv hd
        exact .inr ⟨a, kvs, rfl, h1, fin (by show PV.int _ = _; rw [r1.length])⟩
  unfold bLen at hz
  split at hz
  · rename_i l
    split at hz
    · rename_i hl
      cases hz
      obtain ⟨v, rfl, rv⟩ := rs.one
      cases rv
      exact .inl ⟨_, l.length, rfl, ⟨by rw [sOf_len]; exact lenOk_le hl, (sOf_len l).symm⟩, fin rfl⟩
    · cases hz
  · rename_i p _
    exact gen rfl hz
  · cases hz
/-! ### int, str, abs -/
theorem fs_int : FnS X W (.type "int") bInt := by
  refine CallR.imp ((call_int1 (X := X)).or call_int_str) fun xs H Q ⟨μ, st, ps, z, ok, rs, hz, k⟩ => ?_
  unfold bInt at hz
  split at hz
  · cases hz
    obtain ⟨v, rfl, rv⟩ := rs.one
    cases rv
    exact .inl (.inl ⟨_, rfl, k μ H _ (Ext.refl _ _) ok (.int _)⟩)
  · cases hz
    obtain ⟨v, rfl, rv⟩ := rs.one
    cases rv
    exact .inl (.inr ⟨_, rfl, k μ H _ (Ext.refl _ _) ok (.int _)⟩)
  · rename_i l
    obtain ⟨v, rfl, rv⟩ := rs.one
    cases rv
    cases hn : numT l with
    | none => rw [hn] at hz; cases hz
    | some n =>
      rw [hn] at hz
      cases hz
      obtain ⟨h1, h2⟩ := numT_eq hn
      exact .inr ⟨_, n, rfl, h1, h2, k μ H _ (Ext.refl _ _) ok (.int _)⟩
  · cases hz
theorem fs_str : FnS X W (.type "str") bStr := by
  refine CallR.imp ((call_str_int (X := X)).or SkE.call_str_str) fun xs H Q ⟨μ, st, ps, z, ok, rs, hz, k⟩ => ?_
  unfold bStr at hz
  split at hz
  · rename_i i
    split at hz
    · rename_i hi
      cases hz
      obtain ⟨v, rfl, rv⟩ := rs.one
      cases rv
      refine .inl ⟨i, rfl, Nat.le_of_ble_eq_true hi, ?_⟩
      rw [decT_eq]
      exact k μ H _ (Ext.refl _ _) ok (.str _)
    · cases hz
  · cases hz
    obtain ⟨v, rfl, rv⟩ := rs.one
    cases rv
    exact .inr ⟨_, rfl, k μ H _ (Ext.refl _ _) ok (.str _)⟩
  · cases hz
theorem fs_abs : FnS X W (.builtin "abs") bAbs := by
  refine CallR.imp (call_abs (X := X)) fun xs H Q ⟨μ, st, ps, z, ok, rs, hz, k⟩ => ?_
  unfold bAbs at hz
  split at hz
  · cases hz
    obtain ⟨v, rfl, rv⟩ := rs.one
    cases rv
    exact ⟨_, rfl, k μ H _ (Ext.refl _ _) ok (.int _)⟩
  · cases hz
/-! ### list, tuple, dict -/
theorem RKs.keys {K : PySem.W.Frag} {μ : List Addr} {H : Hp} : ∀ {ps : List (PV × PV)} {vs : List (Key × V)}, RKs K μ H ps vs → RVs K μ H (ps.map (·.1)) (vs.map fun kv => kV kv.1)
  | _, _, .nil => .nil
  | _, _, .cons (k := k) (key := key) hk _ t => by
    refine .cons ?_ (RKs.keys t)
    cases k <;> cases hk
    · exact .int _
    · exact .str _
theorem fs_list (hc : X.calm = true) : FnS X W (.type "list") bList := by
  refine CallR.imp (CallR.fz ((call_list_of (X := X)).or (call_listD hc))) fun xs H Q ⟨μ, st, ps, z, ok, rs, hz, k⟩ => ?_
  unfold bList at hz
  split at hz
  · rename_i p
    obtain ⟨v, rfl, rv⟩ := rs.one
    cases hs : st.seq? p with
    | some l =>
      rw [hs] at hz
      cases hz
      obtain ⟨a, ys, rfl, h1, r1⟩ := seq_of ok rv hs
      exact .inl ⟨a, ys, rfl, h1, fz_list ok r1 k⟩
    | none =>
      rw [hs] at hz
      cases hd : st.dct? p with
      | none => rw [hd] at hz; cases hz
      | some d =>
        rw [hd] at hz
        cases hz
        obtain ⟨a, kvs, rfl, h1, r1, nd⟩ := dct_of ok rv hd
        exact .inr ⟨a, kvs, rfl, h1, fz_list ok r1.keys k⟩
  · cases hz
theorem fs_tuple : FnS X W (.type "tuple") bTuple := by
  refine CallR.imp (call_tuple_of (X := X)) fun xs H Q ⟨μ, st, ps, z, ok, rs, hz, k⟩ => ?_
  unfold bTuple at hz
  split at hz
  · cases hz
    obtain ⟨v, rfl, rv⟩ := rs.one
    have rv' := rv
    cases rv with
    | tup hs r => exact ⟨_, _, rfl, .inr ⟨hs, k μ H _ (Ext.refl _ _) ok rv'⟩⟩
  · rename_i p _
    obtain ⟨v, rfl, rv⟩ := rs.one
    cases hs : st.lst? p with
    | none => rw [hs] at hz; cases hz
    | some l =>
      rw [hs] at hz
      cases hz
      obtain ⟨a, ys, rfl, h1, r1⟩ := lst_of ok rv hs
      exact ⟨a, ys, rfl, .inl ⟨h1, new_tup ok r1 k⟩⟩
  · cases hz
theorem prP_of {p : PV} {q : PV × PV} (h : prP p = some q) : p = .tup [q.1, q.2] ∧ keyOk q.1 = true := by
  unfold prP at h
  split at h
  · split at h
    · cases h; exact ⟨rfl, by assumption⟩
    · cases h
  · cases h
theorem prs_rv {μ : List Addr} {H : Hp} : ∀ {l : List PV} {ps : List (PV × PV)} {vs : List V}, prsP l = some ps → RVs X.K μ H l vs → ∃ (as : List Addr) (kvs : List (Key × V)), vs = as.map V.ref ∧ Paired (fun p kv => SqT X.K H p [kV kv.1, kv.2]) as kvs ∧ RKs X.K μ H ps kvs
  | [], ps, vs, h, r => by
    cases h
    cases r
    exact ⟨[], [], rfl, .nil, .nil⟩
  | x :: xs, ps, vs, h, r => by
    unfold prsP at h
    cases hp : prP x with
    | none => rw [hp] at h; cases h
    | some q =>
      rw [hp] at h
      cases ht : prsP xs with
      | none => rw [ht] at h; cases h
      | some qs =>
        rw [ht] at h
        cases h
        obtain ⟨rfl, hk⟩ := prP_of hp
        cases r with
        | cons r1 r2 =>
          obtain ⟨as, kvs, rfl, h1, h2⟩ := prs_rv ht r2
          cases r1 with
          | @tup a _ xs' hs rs =>
            obtain ⟨v1, v2, rfl, rk, rv⟩ := rs.two
            obtain ⟨key, e1, rfl⟩ := key_of_rv hk rk
            exact ⟨a :: as, (key, v2) :: kvs, rfl, .cons hs h1, .cons e1 rv h2⟩
theorem nd_putK {kvs : List (Key × V)} {k : Key} {v : V} (h : (kvs.map (·.1)).Nodup) : ((putK kvs k v).map (·.1)).Nodup := by
  unfold putK
  split
  · have e : (kvs.map (fun kv => if kv.1 = k then (kv.1, v) else kv)).map (·.1) = kvs.map (·.1) := by
      rw [List.map_map]
      refine List.map_congr_left fun kv _ => ?_
      show (if kv.1 = k then (kv.1, v) else kv).1 = kv.1
      split <;> rfl
    rw [e]; exact h
  · rename_i hn
    rw [List.map_append, List.nodup_append]
    refine ⟨h, by simp, fun a ha b hb q => hn ?_⟩
    obtain ⟨kv, hkv, rfl⟩ := List.mem_map.mp ha
    have hb' : b = k := by simpa using hb
    exact List.any_eq_true.mpr ⟨kv, hkv, by rw [decide_eq_true_eq]; exact q.trans hb'⟩
theorem rks_fold {μ : List Addr} {H : Hp} : ∀ (ps : List (PV × PV)) (more : List (Key × V)) (d : List (PV × PV)) (kvs : List (Key × V)), RKs X.K μ H ps more → RKs X.K μ H d kvs → (kvs.map (·.1)).Nodup → RKs X.K μ H (ps.foldl (fun d p => dPut d p.1 p.2) d) (mergeK kvs more) ∧ ((mergeK kvs more).map (·.1)).Nodup := by
  intro ps
  induction ps with
  | nil => intro more d kvs r h nd; cases r; exact ⟨h, nd⟩
  | cons p ps ih =>
    intro more d kvs r h nd
    cases r with
    | cons hk rv t => exact (ih _ _ _ t (put_of hk rv h nd) (nd_putK nd) :)
theorem fs_dict (hc : X.calm = true) : FnS X W (.type "dict") bDict := by
  refine CallR.imp (CallR.fz ((call_dictP (X := X) hc).or call_dictD)) fun xs H Q ⟨μ, st, ps, z, ok, rs, hz, k⟩ => ?_
  unfold bDict at hz
  split at hz
  · rename_i p
    obtain ⟨v, rfl, rv⟩ := rs.one
    cases hs : st.lst? p with
    | some l =>
      rw [hs] at hz
      dsimp only at hz
      cases hq : prsP l with
      | none => rw [hq] at hz; cases hz
      | some qs =>
        rw [hq] at hz
        cases hz
        obtain ⟨a, ys, rfl, h1, r1⟩ := lst_of ok rv hs
        obtain ⟨as, kvs, rfl, h2, h3⟩ := prs_rv hq r1
        exact .inl ⟨a, as, kvs, rfl, h1, h2, fz_dict ok (rks_fold _ _ _ _ h3 .nil (by simp)).1 (rks_fold _ _ _ _ h3 .nil (by simp)).2 k⟩
    | none =>
      rw [hs] at hz
      cases hd : st.dct? p with
      | none => rw [hd] at hz; cases hz
      | some d =>
        rw [hd] at hz
        cases hz
        obtain ⟨a, kvs, rfl, h1, r1, nd⟩ := dct_of ok rv hd
        exact .inr ⟨a, kvs, rfl, h1, fz_dict ok r1 nd k⟩
  · cases hz
/-! ### sum, sorted -/
theorem ints_rv {μ : List Addr} {H : Hp} : ∀ {l : List PV} {is : List Int} {vs : List V}, intsP l = some is → RVs X.K μ H l vs → vs = is.map V.int
  | [], is, vs, h, r => by cases h; cases r; rfl
  | x :: xs, is, vs, h, r => by
    unfold intsP at h
    cases x <;> first | cases h | skip
    rename_i i
    cases ht : intsP xs with
    | none => simp [ht] at h
    | some js =>
      simp [ht] at h
      subst h
      cases r with
      | cons r1 r2 =>
        cases r1
        rw [ints_rv ht r2]; rfl
theorem sumI_eq : ∀ l : List Int, sumI l = l.sum
  | [] => rfl
  | i :: is => by rw [sumI, sumI_eq is, List.sum_cons]
theorem fs_sum (hc : X.calm = true) : FnS X W (.builtin "sum") bSum := by
  refine CallR.imp (cr_sum (X := X) hc) fun xs H Q ⟨μ, st, ps, z, ok, rs, hz, k⟩ => ?_
  unfold bSum at hz
  split at hz
  · rename_i p
    obtain ⟨v, rfl, rv⟩ := rs.one
    cases hs : st.lst? p with
    | none => rw [hs] at hz; cases hz
    | some l =>
      rw [hs] at hz
      cases hi : intsP l with
      | none => simp [hi] at hz
      | some is =>
        simp [hi] at hz
        subst hz
        obtain ⟨a, ys, rfl, h1, r1⟩ := lst_of ok rv hs
        rw [ints_rv hi r1] at h1
        refine ⟨a, is, rfl, h1, ?_⟩
        rw [← sumI_eq]
        exact k μ H _ (Ext.refl _ _) ok (.int _)
  · cases hz
theorem depth_le : ∀ (n : Nat) (p : PV), dOk n p = true → (pd p).depth ≤ n := by
  intro n
  induction n with
  | zero =>
    intro p h
    cases p <;> simp [pd, PyData.depth] <;> cases h
  | succ n ih =>
    have all : ∀ l : List PV, dOks n l = true → PyData.depthAll (pds l) ≤ n := fun l => by
      induction l with
      | nil => intro _; simp [pds, PyData.depthAll]
      | cons x xs ihl =>
        intro h
        have h' : dOk n x = true ∧ dOks n xs = true := by simpa [dOks] using h
        have h1 := ih x h'.1
        have h2 := ihl h'.2
        simp only [pds, PyData.depthAll]
        omega
    intro p h
    cases p with
    | lst l =>
      have := all l (by simpa [dOk] using h)
      simp only [pd, PyData.depth]
      omega
    | tup l =>
      have := all l (by simpa [dOk] using h)
      simp only [pd, PyData.depth]
      omega
    | _ => simp [pd, PyData.depth]
theorem reads_of {H : Hp} {pins : List (Addr × Obj)} {σ : L2.St} {s : Shared} (I : Inv X pins σ H s) : ∀ (n : Nat) (p : PV) (x : V) (u : Value), dOk n p = true → RD X.K H p x → RelV x u → ∃ as, Reads s.heap u (pd p) as := by
  intro n
  induction n with
  | zero =>
    intro p x u h r ru
    cases r with
    | non => cases ru; exact ⟨_, .none⟩
    | bl b => cases ru; exact ⟨_, .bool b⟩
    | int i => obtain ⟨t, rfl⟩ := ru; exact ⟨_, .int i t⟩
    | str l => obtain ⟨t, rfl⟩ := ru; exact ⟨_, .str _ t⟩
    | tup _ _ => cases h
    | lst _ _ => cases h
  | succ n ih =>
    have all : ∀ (l : List PV) (xs : List V) (us : List Value), dOks n l = true → RDs X.K H l xs → Vals xs us → ∃ as, ReadsAll s.heap us (pds l) as := fun l => by
      induction l with
      | nil =>
        intro xs us _ r ru
        cases r; cases ru
        exact ⟨_, .nil⟩
      | cons p ps ihl =>
        intro xs us h r ru
        have h' : dOk n p = true ∧ dOks n ps = true := by simpa [dOks] using h
        cases r with
        | cons r1 r2 =>
          cases ru with
          | cons u1 u2 =>
            obtain ⟨as, h1⟩ := ih p _ _ h'.1 r1 u1
            obtain ⟨bs, h2⟩ := ihl _ _ h'.2 r2 u2
            exact ⟨_, .cons h1 h2⟩
    intro p x u h r ru
    cases r with
    | non => cases ru; exact ⟨_, .none⟩
    | bl b => cases ru; exact ⟨_, .bool b⟩
    | int i => obtain ⟨t, rfl⟩ := ru; exact ⟨_, .int i t⟩
    | str l => obtain ⟨t, rfl⟩ := ru; exact ⟨_, .str _ t⟩
    | tup hs rs =>
      cases ru
      obtain ⟨its, r', ⟨o, e, c, m, d⟩, _⟩ := I.tuple hs
      obtain ⟨as, h1⟩ := all _ _ _ (by simpa [dOk] using h) rs r'
      exact ⟨_, .tuple e c d (by simpa using h1)⟩
    | lst hs rs =>
      cases ru
      obtain ⟨its, r', ⟨o, m, e, c, _, d⟩, _⟩ := I.list hs
      obtain ⟨as, h1⟩ := all _ _ _ (by simpa [dOk] using h) rs r'
      exact ⟨_, .list e c d (by simpa using h1)⟩
theorem each_of {H : Hp} {pins : List (Addr × Obj)} {σ : L2.St} {s : Shared} (I : Inv X pins σ H s) {μ : List Addr} : ∀ {l : List PV} {xs : List V} {us : List Value}, l.all (dOk 60) = true → RVs X.K μ H l xs → Vals xs us →
    PySem.W.EachIs (fun (u : Value) (p : PV) => ∃ x, RelV x u ∧ RV X.K μ H p x) us l ∧ PySem.W.EachIs (fun u p => ∃ as, Reads s.heap u (pd p) as) us l
  | [], _, _, _, r, ru => by cases r; cases ru; exact ⟨.nil, .nil⟩
  | p :: ps, _, _, h, r, ru => by
    have h' : dOk 60 p = true ∧ ps.all (dOk 60) = true := by simpa using h
    cases r with
    | cons r1 r2 =>
      cases ru with
      | cons u1 u2 =>
        obtain ⟨e1, e2⟩ := each_of I h'.2 r2 u2
        exact ⟨.cons ⟨_, u1, r1⟩ e1, .cons (reads_of I 60 p _ _ h'.1 (RV.rd h'.1 r1) u1) e2⟩
theorem vals_of_each {K : PySem.W.Frag} {μ : List Addr} {H : Hp} : ∀ {us : List Value} {l : List PV}, PySem.W.EachIs (fun (u : Value) (p : PV) => ∃ x, RelV x u ∧ RV K μ H p x) us l → ∃ xs, Vals xs us ∧ RVs K μ H l xs
  | _, _, .nil => ⟨[], .nil, .nil⟩
  | _, _, .cons ⟨x, h1, h2⟩ t => by
    obtain ⟨xs, t1, t2⟩ := vals_of_each t
    exact ⟨x :: xs, .cons h1 t1, .cons h2 t2⟩
theorem oth_pd {b : PV} (h : othP b = true) : pd b ≠ .none ∧ ∀ xs, pd b ≠ .tuple xs := by
  cases b with
  | bl _ => exact ⟨fun q => by simp [pd] at q, fun xs q => by simp [pd] at q⟩
  | int _ => exact ⟨fun q => by simp [pd] at q, fun xs q => by simp [pd] at q⟩
  | str _ => exact ⟨fun q => by simp [pd] at q, fun xs q => by simp [pd] at q⟩
  | lst _ => exact ⟨fun q => by simp [pd] at q, fun xs q => by simp [pd] at q⟩
  | _ => cases h
theorem fs_sorted (hu : X.A.units + 64 < cLine) : FnS X W (.builtin "sorted") bSorted := by
  refine CallR.imp (CallR.fz (r := fun xs H Q => ∃ μ st ps z, StOk X.K W μ st H ∧ RVs X.K μ H ps xs ∧ bSorted st ps = some z ∧ ∃ l a vs, xs = [V.ref a] ∧ SqL X.K H a vs ∧ RVs X.K μ H l vs ∧ srtOk l = true ∧ ∀ ys p, RVs X.K μ H (srtP l) ys → H p = none → Q (.ref p) (upd H p (.lst ys))) ?_) fun xs H Q ⟨μ, st, ps, z, ok, rs, hz, k⟩ => ?_
  · intro pins s σ H xs us Q I r ⟨μ, st, ps, z, ok, rs, hz, l, a, vs, e, ha, rl, hl, q⟩
    subst e
    rw [Vals.ref1 r]
    obtain ⟨its, rv, pl, hsz⟩ := I.list ha
    unfold srtOk at hl
    simp only [Bool.and_eq_true] at hl
    obtain ⟨⟨h1, h2⟩, h3⟩ := hl
    obtain ⟨e1, e2⟩ := each_of I h2 rl rv
    refine PySem.W.sorted_data (enc := pd) pl.isList e1 e2 ?_ ?_ ?_ ?_ fun out hlen ho => ?_
    · intro d hd d' hd'
      obtain ⟨b, hb, rfl⟩ := List.mem_map.mp hd
      obtain ⟨b', hb', rfl⟩ := List.mem_map.mp hd'
      exact (alP_pd b b' (alAll_mem h1 hb hb')).1
    · rcases Bool.or_eq_true _ _ ▸ h3 with h3 | h3
      · refine .inl fun d hd => ?_
        obtain ⟨b, hb, rfl⟩ := List.mem_map.mp hd
        have := List.all_eq_true.mp h3 b hb
        unfold hdTup at this
        split at this
        · exact ⟨_, _, by rw [pd, pds]⟩
        · cases this
      · refine .inr fun d hd => ?_
        obtain ⟨b, hb, rfl⟩ := List.mem_map.mp hd
        have := List.all_eq_true.mp h3 b hb
        exact oth_pd this
    · rw [rl.length]; exact hsz
    · intro b hb
      have := depth_le 60 b (List.all_eq_true.mp h2 b hb)
      omega
    · have ho' : PySem.W.EachIs (fun (u : Value) (p : PV) => ∃ x, RelV x u ∧ RV X.K μ H p x) out (srtP l) := by
        rw [← srtP_eq h1]
        exact ho
      obtain ⟨ys, v1, v2⟩ := vals_of_each ho'
      obtain ⟨ep, he'⟩ := PyProof.Rows.sortedAll_at s.heap its out.toArray
      have hlen2 : ys.length ≤ sizeLine := by rw [v1.length, hlen, rl.length]; exact hsz
      exact ⟨.ref _, upd H (s.heap.objs.size + 1) (.lst ys), I.laid (t' := s.toks) (fun _ _ => PyProof.Rows.sortedAll_old) (Nat.le_succ _) ⟨hlen2, out, ep, v1, he'⟩, rfl, q ys _ v2 (I.hok.fresh (Nat.le_succ _))⟩
  · have hz' := hz
    unfold bSorted at hz
    split at hz
    · rename_i p
      obtain ⟨v, rfl, rv⟩ := rs.one
      cases hs : st.lst? p with
      | none => rw [hs] at hz; cases hz
      | some l =>
        rw [hs] at hz
        have hz2 : (if srtOk l = true then some (PV.lst (srtP l)) else none) = some z := hz
        split at hz2
        · rename_i hl
          cases hz2
          obtain ⟨a, ys, rfl, h1, r1⟩ := lst_of ok rv hs
          exact ⟨μ, st, [p], _, ok, rs, hz', l, a, ys, rfl, h1, r1, hl, fun ys p r hp => fz_list ok r k p hp⟩
        · cases hz2
    · cases hz
end
end Ev
/-! Ev7: methods of texts. -/
namespace Ev
open PySem PySem.Spec PyProof.Rows L2
/-- a method of a text, with one argument, with none -/
def eM1 (g : Stt → List Nat → PV → Option PV) (a b : Ex) : Ex := fun ρ s => (a ρ s).bind fun x s => match x with
  | .str l => (b ρ s).bind fun y s => .ofO s (g s l y)
  | _ => .bad
def eM0 (g : List Nat → Option PV) (a : Ex) : Ex := fun ρ s => (a ρ s).bind fun x s => match x with
  | .str l => .ofO s (g l)
  | _ => .bad
def txtsP : List PV → Option (List (List Nat))
  | [] => some []
  | .str l :: xs => (txtsP xs).map fun ls => l :: ls
  | _ => none
def joinL (sep : List Nat) : List (List Nat) → List Nat
  | [] => []
  | [x] => x
  | x :: xs => x ++ (sep ++ joinL sep xs)
def sumN : List (List Nat) → Nat
  | [] => 0
  | x :: xs => x.length + sumN xs
def mJoin : Stt → List Nat → PV → Option PV := fun s a y => (s.seq? y).bind fun l => (txtsP l).bind fun ts => if Nat.ble (sumN ts + ts.length * a.length) szl then some (.str (joinL a ts)) else none
def cntL (c : Nat) : List Nat → Nat
  | [] => 0
  | d :: r => if d == c then cntL c r + 1 else cntL c r
def mCount : Stt → List Nat → PV → Option PV := fun _ a y => match y with
  | .str [c] => some (.int (cntL c a))
  | _ => none
def plainS (l : List Nat) : Bool := !l.isEmpty && l.all fun c => Nat.blt c 256
def mSplit : Stt → List Nat → PV → Option PV := fun _ a y => match y with
  | .str b => if plainS b && Nat.ble (a.length + 2) szl then some (.lst ((TL.spl b 0 [] a).map .str)) else none
  | _ => none
def mPart : Stt → List Nat → PV → Option PV := fun _ a y => match y with
  | .str b => if plainS b && Nat.ble a.length szl then some (match TL.par b [] a with
      | some (p, q) => .tup [.str p, .str b, .str q]
      | none => .tup [.str a, .str [], .str []]) else none
  | _ => none
section
variable {X : Cx} {W : Wd} {o e : Expr} {mo me : Ex} {pos apos : Pos}
def rdM1 (X : Cx) (W : Wd) (g : Stt → List Nat → PV → Option PV) : V → List V → Hp → VK → Prop := fun x xs H Q => ∃ μ st l p v z, x = .str (sOf l) ∧ xs = [v] ∧ StOk X.K W μ st H ∧ RV X.K μ H p v ∧ g st l p = some z ∧ ∀ μ' H' v, Ext μ H μ' H' → StOk X.K W μ' st H' → RV X.K μ' H' z v → Q v H'
theorem MtR.imp {id : String} {r r' : V → List V → Hp → VK → Prop} (h : MtR X id r) (i : ∀ x xs H Q, r' x xs H Q → r x xs H Q) : MtR X id r' := fun pins s σ H x xs v us Q I rx rs q => h pins s σ H x xs v us Q I rx rs (i _ _ _ _ q)
theorem MtR.fz {id : String} {r : V → List V → Hp → VK → Prop} (h : MtR X id r) : MtR X id (fun x xs H Q => r x xs H (Ev.fz Q)) := fun pins s σ H x xs v us Q I rx rs q => thn (h pins s σ H x xs v us _ I rx rs q) fun _ _ z => ep_fz z
theorem se_m1 {id : String} {name : Str} {g : Stt → List Nat → PV → Option PV} (slot : Slot "str" name id) (ty : typeOf (.builtin id) = pure (.type "method_descriptor")) (rule : MtR X id (rdM1 X W g)) (ho : SE X W o mo) (he : SE X W e me)
    (hs : starEach [e] X.env = [(false, eval e X.env)]) (hbase : attributeBase o name X.env (eval o X.env) = eval o X.env) (hline : (apos.endLine == pos.line) = true) : SE X W (.Call (.Attribute o name apos) [e] [] pos) (eM1 g mo me) := by
  refine PE.imp (pe_m1 slot ty rule ho he hs hbase hline) fun σ H Q ⟨T, ρ, μ, st, tk, en, ok, out⟩ => ?_
  refine ⟨T, ρ, μ, st, tk, en, ok, out.bind.mono fun μ1 H1 p s1 x1 ok1 h1 v rv => ?_⟩
  cases p with
  | str l =>
    cases rv
    refine ⟨⟨_, rfl⟩, T, ρ, μ1, s1, tk, en.ext x1, ok1, OutG.mono (OutG.bind h1) fun μ2 H2 q s2 x2 ok2 h2 w rw => ?_⟩
    obtain ⟨z, hz, h3⟩ := OutG.ofO h2
    exact ⟨μ2, s2, l, q, w, z, rfl, rfl, ok2, rw, hz, fun μ' H' v' x' ok' r' => h3 μ' H' x' ok' v' r'⟩
  | _ => exact (show False from h1).elim
def rdM0 (X : Cx) (W : Wd) (g : List Nat → Option PV) : V → List V → Hp → VK → Prop := fun x xs H Q => ∃ μ st l z, x = .str (sOf l) ∧ xs = [] ∧ StOk X.K W μ st H ∧ g l = some z ∧ ∀ μ' H' v, Ext μ H μ' H' → StOk X.K W μ' st H' → RV X.K μ' H' z v → Q v H'
theorem se_m0 {id : String} {name : Str} {g : List Nat → Option PV} (slot : Slot "str" name id) (ty : typeOf (.builtin id) = pure (.type "method_descriptor")) (rule : MtR X id (rdM0 X W g)) (ho : SE X W o mo)
    (hbase : attributeBase o name X.env (eval o X.env) = eval o X.env) (hline : (apos.endLine == pos.line) = true) : SE X W (.Call (.Attribute o name apos) [] [] pos) (eM0 g mo) := by
  refine PE.imp (pe_m0 slot ty rule ho hbase hline) fun σ H Q ⟨T, ρ, μ, st, tk, en, ok, out⟩ => ?_
  refine ⟨T, ρ, μ, st, tk, en, ok, out.bind.mono fun μ1 H1 p s1 x1 ok1 h1 v rv => ?_⟩
  cases p with
  | str l =>
    cases rv
    obtain ⟨z, hz, h3⟩ := OutG.ofO h1
    exact ⟨⟨_, rfl⟩, μ1, s1, l, z, rfl, rfl, ok1, hz, fun μ' H' v' x' ok' r' => h3 μ' H' x' ok' v' r'⟩
  | _ => exact (show False from h1).elim
/-! ### join -/
theorem txts_rv {μ : List Addr} {H : Hp} : ∀ {l : List PV} {ts : List (List Nat)} {vs : List V}, txtsP l = some ts → RVs X.K μ H l vs → vs = (ts.map sOf).map V.str
  | [], ts, vs, h, r => by cases h; cases r; rfl
  | x :: xs, ts, vs, h, r => by
    unfold txtsP at h
    cases x <;> first | cases h | skip
    cases ht : txtsP xs with
    | none => simp [ht] at h
    | some js =>
      simp [ht] at h
      subst h
      cases r with
      | cons r1 r2 =>
        cases r1
        rw [txts_rv ht r2]; rfl
theorem glue_join (z : List Nat) : ∀ (x : List Nat) (xs : List (List Nat)), StrLaws.glueT z ((x :: xs).map sOf) = joinL z (x :: xs)
  | x, [] => by simp [StrLaws.glueT, StrLaws.glueL, joinL, sOf]
  | x, y :: ys => by
    have ih := glue_join z y ys
    rw [joinL, ← ih]
    · simp [StrLaws.glueT, StrLaws.glueL, sOf]
    · simp
theorem join_eq (a : List Nat) (ts : List (List Nat)) : Txt.join (sOf a) (ts.map sOf) = sOf (joinL a ts) := by
  cases ts with
  | nil => rfl
  | cons x xs =>
    have e := StrLaws.glued_list (sOf a) (sOf x) (xs.map sOf)
    have e2 : (Txt.join (sOf a) ((x :: xs).map sOf)).cps.toList = joinL a (x :: xs) := by
      rw [← glue_join]
      exact e
    exact TL.ext_tl e2
theorem sumN_eq : ∀ ts : List (List Nat), ((ts.map sOf).map (·.length)).sum = sumN ts
  | [] => rfl
  | x :: xs => by
    rw [List.map_cons, List.map_cons, List.sum_cons, sumN_eq xs, sumN, sOf_len]
theorem ms_join : MtR X "str.join" (rdM1 X W mJoin) := by
  refine MtR.imp (mt_join (X := X)) fun x xs H Q ⟨μ, st, l, p, v, z, ex, exs, ok, rv, hz, k⟩ => ?_
  unfold mJoin at hz
  cases hs : st.seq? p with
  | none => rw [hs] at hz; cases hz
  | some ys =>
    rw [hs] at hz
    cases ht : txtsP ys with
    | none => simp [ht] at hz
    | some ts =>
      have hz2 : (if Nat.ble (sumN ts + ts.length * l.length) szl = true then some (PV.str (joinL l ts)) else none) = some z := by
        simpa [ht] using hz
      split at hz2
      · rename_i hl
        cases hz2
        obtain ⟨a, vs, rfl, h1, r1⟩ := seq_of ok rv hs
        rw [txts_rv ht r1] at h1
        refine ⟨_, a, ts.map sOf, ex, exs, h1, ?_, ?_⟩
        · rw [sumN_eq, List.length_map, sOf_len]
          exact Nat.le_of_ble_eq_true hl
        · rw [join_eq]
          exact k μ H _ (Ext.refl _ _) ok (.str _)
      · cases hz2
/-! ### count, split, partition -/
theorem cntL_eq (c : Nat) : ∀ l : List Nat, (cnt c l : Int) = cntL c l
  | [] => rfl
  | d :: r => by
    rw [cnt_cons, cntL_eq c r, cntL]
    by_cases h : d = c
    · subst h
      simp
      omega
    · have h' : (d == c) = false := beq_eq_false_iff_ne.mpr h
      simp [h, h']
theorem ms_count : MtR X "str.count" (rdM1 X W mCount) := by
  refine MtR.imp (mt_count (X := X)) fun x xs H Q ⟨μ, st, l, p, v, z, ex, exs, ok, rv, hz, k⟩ => ?_
  unfold mCount at hz
  split at hz
  · rename_i c
    cases hz
    cases rv
    refine ⟨_, _, ex, exs, ?_⟩
    have e : Txt.count (sOf l) (sOf [c]) = cntL c l := by
      rw [← cntL_eq]
      exact PyProof.Rows.count_cnt (sOf l) c
    rw [e]
    exact k μ H _ (Ext.refl _ _) ok (.int _)
  · cases hz
theorem plain_kind {b : List Nat} (h : plainS b = true) (a : List Nat) : TL.tl (sOf b) ≠ [] ∧ ((sOf b).length == 0) = false ∧ ¬ Builtin.Str.strKind (sOf a) < Builtin.Str.strKind (sOf b) := by
  unfold plainS at h
  simp only [Bool.and_eq_true] at h
  have hne : b ≠ [] := by
    intro q; rw [q] at h; simp at h
  refine ⟨hne, ?_, TL.kind_ok ?_⟩
  · rw [sOf_len, beq_eq_false_iff_ne]
    exact fun q => hne (List.length_eq_zero_iff.mp q)
  · rw [← Array.all_toList, List.all_eq_true]
    intro c hc
    have := List.all_eq_true.mp h.2 c hc
    exact decide_eq_true (Nat.le_of_ble_eq_true this)
theorem strs_rv {K : PySem.W.Frag} {μ : List Addr} {H : Hp} : ∀ l : List (List Nat), RVs K μ H (l.map .str) ((l.map sOf).map V.str)
  | [] => .nil
  | x :: xs => .cons (.str x) (strs_rv xs)
theorem ms_split : MtR X "str.split" (rdM1 X W mSplit) := by
  refine MtR.imp (MtR.fz (mt_split (X := X))) fun x xs H Q ⟨μ, st, l, p, v, z, ex, exs, ok, rv, hz, k⟩ => ?_
  unfold mSplit at hz
  split at hz
  · rename_i b
    split at hz
    · rename_i hc
      cases hz
      simp only [Bool.and_eq_true] at hc
      cases rv
      obtain ⟨h1, h2, h3⟩ := plain_kind hc.1 l
      refine ⟨_, _, ex, exs, h2, by rw [sOf_len]; exact Nat.le_of_ble_eq_true hc.2, ?_⟩
      have e : Txt.split (sOf l) (sOf b) = (TL.spl b 0 [] l).map sOf := by
        refine TL.map_tl_inj ?_
        rw [TL.split_spl _ _ h1 h3, List.map_map]
        exact (List.map_id _).symm
      intro p hp
      rw [e]
      exact fz_list ok (strs_rv _) k p hp
    · cases hz
  · cases hz
theorem ms_part : MtR X "str.partition" (rdM1 X W mPart) := by
  refine MtR.imp (mt_partition (X := X)) fun x xs H Q ⟨μ, st, l, p, v, z, ex, exs, ok, rv, hz, k⟩ => ?_
  unfold mPart at hz
  split at hz
  · rename_i b
    split at hz
    · rename_i hc
      simp only [Bool.and_eq_true] at hc
      cases rv
      obtain ⟨h1, h2, h3⟩ := plain_kind hc.1 l
      refine ⟨_, _, ex, exs, h2, by rw [sOf_len]; exact Nat.le_of_ble_eq_true hc.2, ?_⟩
      rw [TL.partition_par _ _ h1]
      have e : TL.par (TL.tl (sOf b)) [] (TL.tl (sOf l)) = TL.par b [] l := rfl
      rw [e]
      cases hp : TL.par b [] l with
      | none =>
        rw [hp] at hz
        cases hz
        exact new_tup ok (.cons (.str _) (.cons (.str []) (.cons (.str []) .nil))) k
      | some pq =>
        obtain ⟨p, q⟩ := pq
        rw [hp] at hz
        cases hz
        exact new_tup ok (.cons (.str _) (.cons (.str _) (.cons (.str _) .nil))) k
    · cases hz
  · cases hz
/-! ### lower, upper of plain texts -/
def asciiL (l : List Nat) : Bool := l.all fun c => Nat.blt c 128
def upC (c : Nat) : Nat := if Nat.ble 97 c && Nat.ble c 122 then c - 32 else c
def loC (c : Nat) : Nat := if Nat.ble 65 c && Nat.ble c 90 then c + 32 else c
def mUpper : List Nat → Option PV := fun l => if asciiL l && Nat.ble l.length 5592405 then some (.str (l.map upC)) else none
def mLower : List Nat → Option PV := fun l => if asciiL l && Nat.ble l.length 5592405 then some (.str (l.map loC)) else none
theorem upC_eq (c : Nat) : PyProof.Rows.up1 c = upC c := by
  unfold PyProof.Rows.up1 upC
  by_cases h1 : 97 ≤ c <;> by_cases h2 : c ≤ 122 <;> simp [h1, h2]
theorem loC_eq (c : Nat) : PyProof.Rows.lo1 c = loC c := by
  unfold PyProof.Rows.lo1 loC
  by_cases h1 : 65 ≤ c <;> by_cases h2 : c ≤ 90 <;> simp [h1, h2]
theorem ascii_of {l : List Nat} (h : asciiL l = true) : ∀ c ∈ (sOf l).cps.toList, c < 128 := fun c hc => Nat.le_of_ble_eq_true (List.all_eq_true.mp h c hc)
theorem ms_upper : MtR X "str.upper" (rdM0 X W mUpper) := by
  refine MtR.imp (mt_upper (X := X)) fun x xs H Q ⟨μ, st, l, z, ex, exs, ok, hz, k⟩ => ?_
  unfold mUpper at hz
  split at hz
  · rename_i hc
    cases hz
    simp only [Bool.and_eq_true] at hc
    refine ⟨_, ex, exs, by rw [sOf_len]; exact Nat.le_of_ble_eq_true hc.2, ?_⟩
    have e : Txt.upper (sOf l) = sOf (l.map upC) := by
      rw [PyProof.Rows.upper_ascii (ascii_of hc.1)]
      refine TL.ext_tl ?_
      show (l.toArray.map PyProof.Rows.up1).toList = l.map upC
      rw [Array.toList_map, funext upC_eq]
    rw [e]
    exact k μ H _ (Ext.refl _ _) ok (.str _)
  · cases hz
theorem ms_lower : MtR X "str.lower" (rdM0 X W mLower) := by
  refine MtR.imp (mt_lower (X := X)) fun x xs H Q ⟨μ, st, l, z, ex, exs, ok, hz, k⟩ => ?_
  unfold mLower at hz
  split at hz
  · rename_i hc
    cases hz
    simp only [Bool.and_eq_true] at hc
    refine ⟨_, ex, exs, by rw [sOf_len]; exact Nat.le_of_ble_eq_true hc.2, ?_⟩
    have e : Txt.lower (sOf l) = sOf (l.map loC) := by
      rw [PyProof.Rows.lower_ascii (ascii_of hc.1)]
      refine TL.ext_tl ?_
      show (l.toArray.map PyProof.Rows.lo1).toList = l.map loC
      rw [Array.toList_map, funext loC_eq]
    rw [e]
    exact k μ H _ (Ext.refl _ _) ok (.str _)
  · cases hz
end
end Ev
/-! Ev8: what is walked. -/
namespace Ev
open PySem PySem.Spec PyProof.Rows L2
section
variable {X : Cx} {W : Wd} {μ μ1 : List Addr} {H H1 : Hp} {st : Stt}
/-- the iterator gives the items of f as they stand at each turn -/
def WkOk (X : Cx) (W : Wd) (J : It) (f : Src) (μ : List Addr) (H : Hp) : Prop := ∀ (i : Nat) (μ' : List Addr) (st' : Stt) (H' : Hp) (l : List PV), Ext μ H μ' H' → StOk X.K W μ' st' H' → f st' = some l →
  (∀ p, l[i]? = some p → J.go i H' ∧ ∀ x H'', J.yld i H' x H'' → Ext μ' H' μ' H'' ∧ StOk X.K W μ' st' H'' ∧ RV X.K μ' H'' p x) ∧ (l[i]? = none → J.stop i H')
theorem WkOk.ext {J : It} {f : Src} (e : Ext μ H μ1 H1) (h : WkOk X W J f μ H) : WkOk X W J f μ1 H1 := fun i μ' st' H' l x ok hf => h i μ' st' H' l (e.trans x) ok hf
def rdI (X : Cx) (W : Wd) (m : Ix) : TI := fun σ H R => ∃ T ρ μ st, Takes X T ∧ EnvOk X.K μ H ρ σ ∧ StOk X.K W μ st H ∧ OutG X W μ H T (fun μ1 H1 f s1 => (∃ l, f s1 = some l) ∧ ∀ J, WkOk X W J f μ1 H1 → R J H1) (m ρ st)
abbrev SI (X : Cx) (W : Wd) (tg iter : Expr) (m : Ix) : Prop := PI X tg iter (rdI X W m)
theorem PI.imp {tg e : Expr} {t t' : TI} (h : PI X tg e t) (i : ∀ σ H R, t' σ H R → t σ H R) : PI X tg e t' := ⟨fun pins s σ H R I q => h.run pins s σ H R I (i _ _ _ q)⟩
theorem ixOk_out {T : WX} {P : List Addr → Hp → Src → Stt → Prop} {f : Src} (h : OutG X W μ H T P (ixOk f st)) (ok : StOk X.K W μ st H) : (∃ l, f st = some l) ∧ P μ H f st := by
  unfold ixOk at h
  cases hl : f st with
  | none => rw [hl] at h; exact (show False from h).elim
  | some l => rw [hl] at h; exact ⟨⟨l, rfl⟩, h.now ok⟩
theorem same_walk (ok : StOk X.K W μ st H) : Ext μ H μ H ∧ StOk X.K W μ st H := ⟨Ext.refl _ _, ok⟩
theorem wk_lst {a : Addr} {l : List PV} {xs : List V} (h : FzL X.K H a xs) (r : RVs X.K μ H l xs) : WkOk X W (Itl X.K a) (live (.lst l)) μ H := fun i μ' st' H' l' e ok hf => by
  cases hf
  have h' := (e.fz h).sq
  have r' := r.ext e
  refine ⟨fun p hp => ?_, fun hn => ⟨xs, h', ?_⟩⟩
  · obtain ⟨v, hv, rv⟩ := r'.get hp
    refine ⟨⟨xs, v, h', hv⟩, fun x H'' y => ?_⟩
    obtain ⟨e1, y⟩ := y
    subst e1
    have := y xs h'
    rw [hv] at this
    cases this
    exact ⟨Ext.refl _ _, ok, rv⟩
  · rw [← r'.length]
    exact List.getElem?_eq_none_iff.mp hn
theorem wk_ref {a : Addr} {k : Nat} (h : μ[k]? = some a) : WkOk X W (Itl X.K a) (live (.ref k)) μ H := fun i μ' st' H' l' e ok hf => by
  obtain ⟨o, ho, ro⟩ := ok.ob (e.get h)
  have hf' : (match st'.objs[k]? with | some (.lst l) => some l | _ => none : Option (List PV)) = some l' := hf
  rw [ho] at hf'
  cases o with
  | lst l =>
    cases hf'
    obtain ⟨xs, h1, r'⟩ := ro
    have h' : SqL X.K H' a xs := .of h1
    refine ⟨fun p hp => ?_, fun hn => ⟨xs, h', ?_⟩⟩
    · obtain ⟨v, hv, rv⟩ := r'.get hp
      refine ⟨⟨xs, v, h', hv⟩, fun x H'' y => ?_⟩
      obtain ⟨e1, y⟩ := y
      subst e1
      have := y xs h'
      rw [hv] at this
      cases this
      exact ⟨Ext.refl _ _, ok, rv⟩
    · rw [← r'.length]
      exact List.getElem?_eq_none_iff.mp hn
  | _ => cases hf'
theorem wk_tup {a : Addr} {l : List PV} {xs : List V} (h : SqT X.K H a xs) (r : RVs X.K μ H l xs) : WkOk X W (Itt X.K a) (live (.tup l)) μ H := fun i μ' st' H' l' e ok hf => by
  cases hf
  have h' := e.sqT h
  have r' := r.ext e
  refine ⟨fun p hp => ?_, fun hn => ⟨xs, h', ?_⟩⟩
  · obtain ⟨v, hv, rv⟩ := r'.get hp
    refine ⟨⟨xs, v, h', hv⟩, fun x H'' y => ?_⟩
    obtain ⟨e1, y⟩ := y
    subst e1
    have := y xs h'
    rw [hv] at this
    cases this
    exact ⟨Ext.refl _ _, ok, rv⟩
  · rw [← r'.length]
    exact List.getElem?_eq_none_iff.mp hn
theorem wk_str (l : List Nat) : WkOk X W (Its (sOf l)) (live (.str l)) μ H := fun i μ' st' H' l' e ok hf => by
  cases hf
  have hsz : (sOf l).cps.size = l.length := by simp [sOf]
  have hat : ∀ c, (sOf l).cps[i]? = some c → l[i]? = some c := fun c h => by simpa [sOf] using h
  refine ⟨fun p hp => ?_, fun hn => ?_⟩
  · rw [List.getElem?_map] at hp
    obtain ⟨c, hc, rfl⟩ := Option.map_eq_some_iff.mp hp
    refine ⟨?_, fun x H'' y => ?_⟩
    · show i < _
      rw [hsz]; exact (List.getElem?_eq_some_iff.mp hc).1
    · obtain ⟨e1, d, hd, rfl⟩ := y
      subst e1
      have := hat d hd
      rw [hc] at this
      cases this
      exact ⟨Ext.refl _ _, ok, .str [c]⟩
  · show _ ≤ i
    rw [hsz]
    rw [List.getElem?_map, Option.map_eq_none_iff] at hn
    exact List.getElem?_eq_none_iff.mp hn
theorem wk_keys {d : Addr} {o : Obj} {l : List (PV × PV)} {kvs : List (Key × V)} (h : H d = some (.frz o (.dK kvs))) (r : RKs X.K μ H l kvs) : WkOk X W (Itk d o kvs) (live (.dct l)) μ H := fun i μ' st' H' l' e ok hf => by
  cases hf
  have h' := e.frz _ _ _ h
  have r' := (r.ext e).keys
  refine ⟨fun p hp => ?_, fun hn => ⟨h', ?_⟩⟩
  · obtain ⟨v, hv, rv⟩ := r'.get hp
    rw [List.getElem?_map] at hv
    obtain ⟨kv, hkv, rfl⟩ := Option.map_eq_some_iff.mp hv
    refine ⟨⟨h', (List.getElem?_eq_some_iff.mp hkv).1⟩, fun x H'' y => ?_⟩
    obtain ⟨e1, k, w, hk, rfl⟩ := y
    subst e1
    rw [hkv] at hk
    cases hk
    exact ⟨Ext.refl _ _, ok, rv⟩
  · have := r'.length
    rw [List.length_map, List.length_map] at this
    have hn' := List.getElem?_eq_none_iff.mp hn
    rw [List.length_map] at hn'
    omega
/-- any value that can be walked -/
theorem si_any {tg e : Expr} {m : Ex} (he : SE X W e m) : SI X W tg e (iE m) := by
  refine ⟨fun pins s σ H R I ⟨T, ρ, μ, st, tk, en, ok, out⟩ => ?_⟩
  refine thn (he.run pins s σ H (fun x H1 => ∃ μ1 s1 p, StOk X.K W μ1 s1 H1 ∧ RV X.K μ1 H1 p x ∧ (∃ l, live p s1 = some l) ∧ ∀ J, WkOk X W J (live p) μ1 H1 → R J H1) I ⟨T, ρ, μ, st, tk, en, ok, out.bind.mono fun μ1 H1 p s1 x1 ok1 h1 v rv => ?_⟩) fun v s1 ⟨x, H1, I1, r1, μ1, st1, p, ok1, rv, hl, q⟩ => ?_
  · obtain ⟨hl, _, h2⟩ := ixOk_out h1 ok1
    exact ⟨μ1, s1, p, ok1, rv, hl, h2⟩
  · obtain ⟨l, hl⟩ := hl
    cases rv with
    | str l =>
      obtain ⟨t, rfl⟩ := r1
      have q' := q _ (wk_str l)
      cases ha : (sOf l).cps.all (· < 128)
      · exact wpAny_pyIter_wide ha (pi_one (tk := s1.toks) I1 _ (turn_str _ _ t "str_iterator" (.inr rfl)) ⟨_, Heap.get?_push_size _ rfl, rfl, rfl⟩ q')
      · exact wpAny_pyIter_ascii ha (pi_one (tk := s1.toks) I1 _ (turn_str _ _ t "str_ascii_iterator" (.inl rfl)) ⟨_, Heap.get?_push_size _ rfl, rfl, rfl⟩ q')
    | @tup a l xs hs rs =>
      cases r1
      obtain ⟨its, rv, p, hz⟩ := I1.tuple hs
      exact wpAny_pyIter_tuple (show s1.heap.IsTuple a its.toArray from p) (pi_one (tk := s1.toks) I1 _ (turn_tuple a _) ⟨_, Heap.get?_push_size _ rfl, rfl, rfl⟩ (q _ (wk_tup hs rs)))
    | @lst a l xs hs rs =>
      cases r1
      obtain ⟨its, rv, p, hz⟩ := I1.list hs.sq
      exact wpAny_pyIter_list p.isList (pi_one (tk := s1.toks) I1 _ (turn_list a _) ⟨_, Heap.get?_push_size _ rfl, rfl, rfl⟩ (q _ (wk_lst hs rs)))
    | @ref k a hk =>
      cases r1
      obtain ⟨o, ho, ro⟩ := ok1.ob hk
      have hl' : (match st1.objs[k]? with | some (.lst l) => some l | _ => none : Option (List PV)) = some l := hl
      rw [ho] at hl'
      cases o with
      | lst l' =>
        obtain ⟨xs, h1, rs⟩ := ro
        obtain ⟨its, rv, p, hz⟩ := I1.list (.of h1)
        exact wpAny_pyIter_list p.isList (pi_one (tk := s1.toks) I1 _ (turn_list a _) ⟨_, Heap.get?_push_size _ rfl, rfl, rfl⟩ (q _ (wk_ref hk)))
      | _ => cases hl'
    | @dct a o l kvs hd rs nd =>
      cases r1
      have q' := q _ (wk_keys hd rs)
      obtain ⟨hs, hgd, hx, es, ep, vs, hdt, hsz, kv, hm⟩ := I1.frzK hd
      refine iter_keys hs hgd hx hdt (pi_one (tk := s1.toks) I1 _ (turn_keys _ hdt) ⟨_, Heap.get?_push_size _ rfl, rfl, ?_⟩ q')
      rw [hsz] <;> rfl
    | _ => cases hl
/-! ### range -/
theorem rng_get : ∀ (n : Nat) (i : Int) (j : Nat), (rng i n)[j]? = if j < n then some (.int (i + j)) else none
  | 0, i, j => by simp [rng]
  | n + 1, i, 0 => by simp [rng]
  | n + 1, i, j + 1 => by
    rw [rng, List.getElem?_cons_succ, rng_get n (i + 1) j]
    by_cases h : j < n
    · have : j + 1 < n + 1 := by omega
      rw [if_pos h, if_pos this]
      congr 2
      omega
    · have : ¬ j + 1 < n + 1 := by omega
      rw [if_neg h, if_neg this]
theorem wk_rng (i : Int) (n : Nat) : WkOk X W (Itr i n) (fun _ => some (rng i n)) μ H := fun j μ' st' H' l' e ok hf => by
  cases hf
  rw [rng_get]
  refine ⟨fun p hp => ?_, fun hn => ?_⟩
  · split at hp
    · rename_i hlt
      cases hp
      refine ⟨hlt, fun x H'' y => ?_⟩
      obtain ⟨e1, rfl⟩ := y
      subst e1
      exact ⟨Ext.refl _ _, ok, .int _⟩
    · cases hp
  · split at hn
    · cases hn
    · show n ≤ j
      omega
theorem rng_ok {i : Int} (h : rngOk i = true) : -(2 ^ 62) ≤ i ∧ i < 2 ^ 62 := by
  unfold rngOk at h
  simp only [Bool.and_eq_true, decide_eq_true_eq] at h
  exact h
theorem si_range1 {tg a : Expr} {ma : Ex} {p pos : Pos} (hg : Gl X "range") (hm : X.mg "range" = none) (ha : SE X W a ma) (hs : starEach [a] X.env = [(false, eval a X.env)]) : SI X W tg (.Call (.Name "range" p) [a] [] pos) (iRange1 ma) := by
  refine PI.imp (pi_range1 hg hm (pa_cons ha pa_nil (by rw [hs]; rfl)) hs) fun σ H R ⟨T, ρ, μ, st, tk, en, ok, out⟩ => ?_
  refine ⟨T, ρ, μ, st, tk, en, ok, out.bind.mono fun μ1 H1 p s1 x1 ok1 h1 v rv => ?_⟩
  cases p with
  | int j =>
    cases rv
    have h1' : OutG X W μ1 H1 T (fun μ1 H1 f s1 => (∃ l, f s1 = some l) ∧ ∀ J, WkOk X W J f μ1 H1 → R J H1) (if rngOk j = true then .ok (fun _ => some (rng 0 j.toNat)) s1 else .bad) := h1
    split at h1'
    · rename_i hr
      obtain ⟨h2, h3⟩ := rng_ok hr
      exact ⟨j, rfl, h2, h3, (h1'.now ok1).2 _ (wk_rng 0 j.toNat)⟩
    · exact h1'.elim
  | _ => exact (show False from h1).elim
theorem si_range2 {tg a b : Expr} {ma mb : Ex} {p pos : Pos} (hg : Gl X "range") (hm : X.mg "range" = none) (ha : SE X W a ma) (hb : SE X W b mb) (hs : starEach [a, b] X.env = [(false, eval a X.env), (false, eval b X.env)]) (hs2 : starEach [b] X.env = [(false, eval b X.env)]) :
    SI X W tg (.Call (.Name "range" p) [a, b] [] pos) (iRange2 ma mb) := by
  refine PI.imp (pi_range2 hg hm (pa_cons ha (pa_cons hb pa_nil (by rw [hs2]; rfl)) (by rw [hs, hs2])) hs hs2) fun σ H R ⟨T, ρ, μ, st, tk, en, ok, out⟩ => ?_
  refine ⟨T, ρ, μ, st, tk, en, ok, out.bind.mono fun μ1 H1 p s1 x1 ok1 h1 v rv => ?_⟩
  refine ⟨T, ρ, μ1, s1, tk, en.ext x1, ok1, OutG.mono (OutG.bind h1) fun μ2 H2 q s2 x2 ok2 h2 w rw => ?_⟩
  have rv2 := rv.ext x2
  cases p with
  | int i =>
    cases q with
    | int j =>
      cases rv2
      cases rw
      have h2' : OutG X W μ2 H2 T (fun μ1 H1 f s1 => (∃ l, f s1 = some l) ∧ ∀ J, WkOk X W J f μ1 H1 → R J H1) (if (rngOk i && rngOk j) = true then .ok (fun _ => some (rng i (j - i).toNat)) s2 else .bad) := h2
      split at h2'
      · rename_i hr
        rw [Bool.and_eq_true] at hr
        obtain ⟨h3, h4⟩ := rng_ok hr.1
        obtain ⟨h5, h6⟩ := rng_ok hr.2
        exact ⟨i, j, rfl, ⟨h3, h4, h5, h6⟩, (h2'.now ok2).2 _ (wk_rng i _)⟩
      · exact h2'.elim
    | _ => exact (show False from h2).elim
  | _ => exact (show False from h2).elim
/-! ### enumerate -/
/-- the signs of a text, each in a new pair -/
def ItEs (z : Str) : It := ⟨fun i _ => i < z.cps.size, fun i H v H' => ∃ T c, v = .ref T ∧ H T = none ∧ H' = upd H T (.tup [.int (i : Nat), .str ⟨#[c]⟩]) ∧ z.cps[i]? = some c, fun i _ => z.cps.size ≤ i⟩
theorem turn_enumS {P : Program} {w : World} {K : PySem.W.Frag} {elts : List Expr} {kk : Nat} {tpos : Pos} (z : Str) (t : Tok) (e it : Addr) :
    Turn P w K (.Tuple elts kk tpos) (ItEs z) [e, it] e (fun i h => (∃ old, IsEnum h e it ((i : Nat) : Int) old) ∧ h.IsStrIter it (strIterType z) z t i ∧ e ≠ it ∧ i ≤ z.cps.size) where
  mem := by simp
  obj := fun i h st b hb => by
    obtain ⟨⟨old, he⟩, ⟨o, ho, hc, hd⟩, _⟩ := st
    have e' : b = e ∨ b = it := by simpa using hb
    rcases e' with z | z
    · rw [z]; exact ⟨_, he, fun v q => nomatch q⟩
    · rw [z]; exact ⟨o, ho, fun v q => by rw [hd] at q; cases q⟩
  keep := fun i h h' st k => let ⟨⟨old, he⟩, ⟨o, ho, hr⟩, hne⟩ := st; ⟨⟨old, k e (by simp) _ he⟩, ⟨o, k it (by simp) o ho, hr⟩, hne⟩
  item := by
    intro X hP hw hK hc i pins s σ H E I hf st hg
    subst hP hw hK
    obtain ⟨⟨old, he⟩, hit, hne, hle⟩ := st
    have hel : e < s.heap.objs.size := Heap.lt_size he
    have hil : it < s.heap.objs.size := by obtain ⟨_, q, _⟩ := hit; exact Heap.lt_size q
    refine wpAny_pyNext_enum_itemD (fp := [it]) (PySem.Draws.text (prog := X.prog) (w := X.w) (A := X.A.in1) (I.ok.hd hc) it z t) he hit hg hne (fun q => hne (by simpa using q)) fun u h' tk hP ho hit' hT hsz hk => ?_
    obtain ⟨c, uu, hcx, rfl⟩ := hP
    refine ⟨_, rfl, wpAny_letOwnedTupleGo_enum (s := { s with heap := h', toks := tk + 1 }) ho fun h'' he' sb => ?_⟩
    have hT2 : h''.get? s.heap.objs.size = some { cls := .type "tuple", data := .seq #[.int i tk, .str ⟨#[c]⟩ uu] } := (sb.2 _ (Nat.ne_of_gt hel)).trans hT
    have new : ObjOk X.prog X.w (upd H s.heap.objs.size (.tup [.int (i : Nat), .str ⟨#[c]⟩])) h'' s.heap.objs.size (.tup [.int (i : Nat), .str ⟨#[c]⟩]) :=
      ⟨by show 2 ≤ sizeLine; decide, [.int i tk, .str ⟨#[c]⟩ uu], .cons ⟨tk, rfl⟩ (.cons ⟨uu, rfl⟩ .nil), ⟨_, hT2, rfl, _, rfl⟩⟩
    have I1 : Inv X pins σ (upd H s.heap.objs.size (.tup [.int (i : Nat), .str ⟨#[c]⟩])) { s with heap := h'', toks := tk + 1 } :=
      I.turnedNew (ch := [e, it]) (fun b ob hb q => (sb.2 b (fun z => hb (by simp [z]))).trans (hk b ob (fun z => hb (by simp [z])) (fun z => hb (by simp [z])) q)) hf (Nat.le_refl _) new
    refine ⟨.ref s.heap.objs.size, _, I1, rfl, ⟨_, c, rfl, I.hok.fresh (Nat.le_refl _), rfl, hcx⟩, ⟨⟨.str ⟨#[c]⟩ uu, ?_⟩, (let ⟨o, ho, hr⟩ := hit'; ⟨o, (sb.2 it (Ne.symm hne)).trans ho, hr⟩), hne, hg⟩, fun b hb => ?_⟩
    · have e1 : ((i + 1 : Nat) : Int) = (i : Int) + 1 := by omega
      rw [e1]; exact he'
    · have hb' : b < s.heap.objs.size := by
        have e' : b = e ∨ b = it := by simpa using hb
        rcases e' with z | z
        · rw [z]; exact hel
        · rw [z]; exact hil
      rw [upd_ne (Nat.ne_of_lt hb')]
      exact (hf b hb).1
  done := by
    intro X hP hw hK hc i pins s σ H E I hf st hg
    subst hP hw hK
    obtain ⟨⟨old, he⟩, hit, hne, hle⟩ := st
    obtain ⟨f0, f1, f2, f3, f4, f5⟩ := hf it (by simp)
    have hi : i = z.cps.size := Nat.le_antisymm hle hg
    subst hi
    exact wpAny_pyNext_enum_endD (PySem.Draws.text (prog := X.prog) (w := X.w) (A := X.A.in1) (I.ok.hd hc) it z t) he hit fun h' eb => ⟨rfl, I.turned (t' := s.toks) (fun b o hb q => eb b o hb q) f0 f1 f3 f4 f5⟩
  self := fun A i s Q E st h => let ⟨⟨_, he⟩, _⟩ := st; wpAny_pyIter_enum he h
theorem enumL_get : ∀ (l : List PV) (k : Int) (j : Nat), (enumL k l)[j]? = (l[j]?).map fun x => .tup [.int (k + j), x]
  | [], k, j => by simp [enumL]
  | x :: xs, k, 0 => by simp [enumL]
  | x :: xs, k, j + 1 => by
    rw [enumL, List.getElem?_cons_succ, enumL_get xs (k + 1) j, List.getElem?_cons_succ]
    congr 1
    funext y
    congr 3
    omega
/-- a new pair -/
theorem new_pair {T : Addr} {p q : PV} {x y : V} (hT : H T = none) (ok : StOk X.K W μ st H) (r1 : RV X.K μ H p x) (r2 : RV X.K μ H q y) : Ext μ H μ (upd H T (.tup [x, y])) ∧ StOk X.K W μ st (upd H T (.tup [x, y])) ∧ RV X.K μ (upd H T (.tup [x, y])) (.tup [p, q]) (.ref T) := by
  have e := ext_new (μ := μ) (u := .tup [x, y]) hT
  exact ⟨e, ok.fresh hT, .tup (.of upd_same) (.cons (r1.ext e) (.cons (r2.ext e) .nil))⟩
theorem wk_enum {a : Addr} {p : PV} (hk : ∀ μ' st' H' l, Ext μ H μ' H' → StOk X.K W μ' st' H' → liveE p st' = some l → ∃ xs, SqL X.K H' a xs ∧ RVs X.K μ' H' l xs) : WkOk X W (Ite X.K a) (fun s => (liveE p s).map (enumL 0)) μ H := fun i μ' st' H' l' e ok hf => by
  dsimp only at hf
  cases hl : liveE p st' with
  | none => rw [hl] at hf; cases hf
  | some l =>
    rw [hl] at hf
    cases hf
    obtain ⟨xs, h', r'⟩ := hk μ' st' H' l e ok hl
    rw [enumL_get]
    refine ⟨fun p hp => ?_, fun hn => ⟨xs, h', ?_⟩⟩
    · obtain ⟨q, hq, rfl⟩ := Option.map_eq_some_iff.mp hp
      obtain ⟨v, hv, rv⟩ := r'.get hq
      refine ⟨⟨xs, v, h', hv⟩, fun x H'' y => ?_⟩
      obtain ⟨T, w, rfl, hT, e1, y⟩ := y
      subst e1
      have := y xs h'
      rw [hv] at this
      cases this
      have ei : (0 : Int) + (i : Nat) = (i : Nat) := by omega
      rw [ei]
      exact new_pair hT ok (.int _) rv
    · rw [← r'.length]
      rw [Option.map_eq_none_iff] at hn
      exact List.getElem?_eq_none_iff.mp hn
theorem wk_enumS (l : List Nat) : WkOk X W (ItEs (sOf l)) (fun s => (liveE (.str l) s).map (enumL 0)) μ H := fun i μ' st' H' l' e ok hf => by
  cases hf
  have hsz : (sOf l).cps.size = l.length := by simp [sOf]
  have hat : ∀ c, (sOf l).cps[i]? = some c → l[i]? = some c := fun c h => by simpa [sOf] using h
  rw [enumL_get]
  refine ⟨fun p hp => ?_, fun hn => ?_⟩
  · obtain ⟨q, hq, rfl⟩ := Option.map_eq_some_iff.mp hp
    rw [List.getElem?_map] at hq
    obtain ⟨c, hc, rfl⟩ := Option.map_eq_some_iff.mp hq
    refine ⟨?_, fun x H'' y => ?_⟩
    · show i < _
      rw [hsz]; exact (List.getElem?_eq_some_iff.mp hc).1
    · obtain ⟨T, d, rfl, hT, e1, hd⟩ := y
      subst e1
      have := hat d hd
      rw [hc] at this
      cases this
      have ei : (0 : Int) + (i : Nat) = (i : Nat) := by omega
      rw [ei]
      exact new_pair hT ok (.int _) (.str [c])
  · show _ ≤ i
    rw [hsz]
    rw [Option.map_eq_none_iff, List.getElem?_map, Option.map_eq_none_iff] at hn
    exact List.getElem?_eq_none_iff.mp hn
theorem pie_enumL {elts : List Expr} {kk : Nat} {tpos : Pos} {pins : List (Addr × Obj)} {σ : L2.St} {s1 : Shared} {R : It → Hp → Prop} {a : Addr} {xs : List V} {E : Value → Shared → Prop} (I1 : Inv X pins σ H1 s1) (hq : SqL X.K H1 a xs) (q : R (Ite X.K a) H1) :
    wpAny (model X.prog X.w) X.A (call (.type "enumerate") [.ref a]) (fun v s2 => wpAny (model X.prog X.w) X.A (pyIter v) (PIE X pins σ (.Tuple elts kk tpos) R) E s2) E s1 := by
  obtain ⟨its, rv, p', hz⟩ := I1.list hq
  refine call_enumerate_list p'.isList fun h' he hit hsz hk => wpAny_pyIter_enum he ?_
  have I2 : Inv X pins σ H1 { s1 with heap := h' } := I1.kept (t' := s1.toks) hk
  refine ⟨s1.heap.objs.size + 1, [s1.heap.objs.size + 1, s1.heap.objs.size], _, _, H1, rfl, I2, turn_enum a (s1.heap.objs.size + 1) s1.heap.objs.size, ⟨⟨.none, he⟩, hit, Nat.succ_ne_self _⟩, fun b hb => ?_, q⟩
  have e' : b = s1.heap.objs.size + 1 ∨ b = s1.heap.objs.size := by simpa using hb
  have hle : s1.heap.objs.size ≤ b := by
    rcases e' with z | z
    · rw [z]; exact Nat.le_add_right _ _
    · rw [z]; exact Nat.le_refl _
  exact I1.fpOk hle (I1.hok.fresh hle)
theorem pie_enumS {elts : List Expr} {kk : Nat} {tpos : Pos} {pins : List (Addr × Obj)} {σ : L2.St} {s1 : Shared} {R : It → Hp → Prop} {z : Str} {t : Tok} {E : Value → Shared → Prop} (I1 : Inv X pins σ H1 s1) (q : R (ItEs z) H1) :
    wpAny (model X.prog X.w) X.A (call (.type "enumerate") [.str z t]) (fun v s2 => wpAny (model X.prog X.w) X.A (pyIter v) (PIE X pins σ (.Tuple elts kk tpos) R) E s2) E s1 := by
  refine call_enumerate_str fun h' he hit hsz hk => wpAny_pyIter_enum he ?_
  have I2 : Inv X pins σ H1 { s1 with heap := h' } := I1.kept (t' := s1.toks) hk
  refine ⟨s1.heap.objs.size + 1, [s1.heap.objs.size + 1, s1.heap.objs.size], _, _, H1, rfl, I2, turn_enumS z t (s1.heap.objs.size + 1) s1.heap.objs.size, ⟨⟨.none, he⟩, hit, Nat.succ_ne_self _, Nat.zero_le _⟩, fun b hb => ?_, q⟩
  have e' : b = s1.heap.objs.size + 1 ∨ b = s1.heap.objs.size := by simpa using hb
  have hle : s1.heap.objs.size ≤ b := by
    rcases e' with z | z
    · rw [z]; exact Nat.le_add_right _ _
    · rw [z]; exact Nat.le_refl _
  exact I1.fpOk hle (I1.hok.fresh hle)
/-! ### enumerate of a tuple -/
theorem enumT_new (l : Addr) (items : Array Value) : Meets (Builtin.«enumerate.__new__» ⟨[.type "enumerate", .ref l], []⟩) (fun _ R s => s.heap.IsTuple l items ∧
    R (.ok (.ret (.ref (s.heap.push { cls := .type "tuple_iterator", data := .fields #[.ref l, .int 0 0] }).objs.size)))
      { s with heap := (s.heap.push { cls := .type "tuple_iterator", data := .fields #[.ref l, .int 0 0] }).push { cls := .type "enumerate", data := .fields #[.none, .bool false, .ref s.heap.objs.size, rawInt 0, .none, .none] } }) := .of_wp fun prog w A R s h => by
  obtain ⟨hp, g, d, tk, os⟩ := s
  obtain ⟨hT, h⟩ := h
  have hsub := sub_enumerate
  have hT2 : Heap.IsTuple (Shared.heap ⟨hp, g, d, tk, os⟩) l items := hT
  obtain ⟨⟨c, dc, dt, sl⟩, ho, hc, n, hd⟩ := id hT
  have e1 : c = .type "tuple" := hc
  have e2 : dt = .seq items n := hd
  subst e1 e2
  wp_walk using AutoSeq1.wpAny_loadPart' ho
  refine wpAny_stack_any fun st => wpAny_pure ?_
  split
  · rename_i c _ _ _ _ _
    cases (c == Value.type "enumerate") <;> (wp_walk using AutoSeq1.wpAny_loadPart' ho, wpAny_pyIter_tuple hT2; exact ⟨_, rfl, h⟩)
  · wp_walk using AutoSeq1.wpAny_loadPart' ho, wpAny_pyIter_tuple hT2
    exact ⟨_, rfl, h⟩
theorem call_enumT {prog : Program} {w : World} {A : Around} {E : Value → Shared → Prop} {s : Shared} {l : Addr} {items : Array Value} {Q : Value → Shared → Prop} (hL : s.heap.IsTuple l items)
    (h : ∀ h', IsEnum h' (s.heap.objs.size + 1) s.heap.objs.size 0 .none → h'.IsTupleIter s.heap.objs.size l 0 → (∀ b o, s.heap.get? b = some o → h'.get? b = some o) → Q (.ref (s.heap.objs.size + 1)) { s with heap := h' }) :
    wpAny (model prog w) A (call (.type "enumerate") [.ref l]) Q E s := by
  refine callType_new F.called_enumerate (by decide) (F.typeCall_enumerate_1 _) (F.newCall_enumerate_1 _) (fun obj => F.args_object_init_2 obj _) F.entry_enumerate_new (enumT_new l items) ⟨hL, ?_⟩
  have hz : (s.heap.push { cls := .type "tuple_iterator", data := .fields #[.ref l, .int 0 0] }).objs.size = s.heap.objs.size + 1 := Heap.size_push _ _
  show _ ∧ _
  rw [hz]
  have he : IsEnum ((s.heap.push { cls := .type "tuple_iterator", data := .fields #[.ref l, .int 0 0] }).push { cls := .type "enumerate", data := .fields #[.none, .bool false, .ref s.heap.objs.size, rawInt 0, .none, .none] }) (s.heap.objs.size + 1) s.heap.objs.size 0 .none := by
    have q := Heap.get?_push_size (s.heap.push { cls := .type "tuple_iterator", data := .fields #[.ref l, .int 0 0] }) (o := { cls := .type "enumerate", data := .fields #[.none, .bool false, .ref s.heap.objs.size, rawInt 0, .none, .none] }) rfl
    rw [hz] at q
    exact q
  exact ⟨⟨_, he, rfl⟩, h _ he ⟨_, Heap.get?_push_of_some _ (Heap.get?_push_size _ rfl), rfl, rfl⟩ fun b o x => Heap.get?_push_of_some _ (Heap.get?_push_of_some _ x)⟩
def ItEt (K : PySem.W.Frag) (a : Addr) : It := ⟨fun i H => ∃ xs x, SqT K H a xs ∧ xs[i]? = some x, fun i H v H' => ∃ T x, v = .ref T ∧ H T = none ∧ H' = upd H T (.tup [.int (i : Nat), x]) ∧ ∀ xs, SqT K H a xs → xs[i]? = some x, fun i H => ∃ xs, SqT K H a xs ∧ xs.length ≤ i⟩
theorem turn_enumT {P : Program} {w : World} {K : PySem.W.Frag} {elts : List Expr} {kk : Nat} {tpos : Pos} (a e it : Addr) :
    Turn P w K (.Tuple elts kk tpos) (ItEt K a) [e, it] e (fun i h => (∃ old, IsEnum h e it ((i : Nat) : Int) old) ∧ h.IsTupleIter it a i ∧ e ≠ it) where
  mem := by simp
  obj := fun i h st b hb => by
    obtain ⟨⟨old, he⟩, ⟨o, ho, hc, hd⟩, _⟩ := st
    have e' : b = e ∨ b = it := by simpa using hb
    rcases e' with z | z
    · rw [z]; exact ⟨_, he, fun v q => nomatch q⟩
    · rw [z]; exact ⟨o, ho, fun v q => by rw [hd] at q; cases q⟩
  keep := fun i h h' st k => let ⟨⟨old, he⟩, ⟨o, ho, hr⟩, hne⟩ := st; ⟨⟨old, k e (by simp) _ he⟩, ⟨o, k it (by simp) o ho, hr⟩, hne⟩
  item := by
    intro X hP hw hK hc i pins s σ H E I hf st hg
    subst hP hw hK
    obtain ⟨⟨old, he⟩, hit, hne⟩ := st
    obtain ⟨xs, x, hq, hx⟩ := hg
    obtain ⟨its, rv, p, hz⟩ := I.tuple hq
    obtain ⟨u, hu, ru⟩ := rv.get hx
    have hel : e < s.heap.objs.size := Heap.lt_size he
    have hil : it < s.heap.objs.size := by obtain ⟨_, q, _⟩ := hit; exact Heap.lt_size q
    have hT : s.heap.IsTuple a its.toArray := p
    have hal : a ≠ it := fun z => by
      obtain ⟨o1, q1, c1, _⟩ := hT
      obtain ⟨o2, q2, c2, _⟩ := hit
      rw [z, q2] at q1
      cases q1
      rw [c2] at c1
      exact absurd (Value.type.inj c1) (by decide)
    have hae : a ≠ e := fun z => by
      obtain ⟨o1, q1, c1, _⟩ := hT
      rw [z] at q1
      rw [he] at q1
      cases q1
      exact absurd (Value.type.inj c1) (by decide)
    have hlt : i < its.toArray.size := by
      have := (List.getElem?_eq_some_iff.mp hu).1
      simpa using this
    refine wpAny_pyNext_enum_itemD (fp := [it, a]) (PySem.Draws.tuple (prog := X.prog) (w := X.w) (A := X.A.in1) (I.ok.hd hc) it a hal its.toArray) he ⟨hit, hT⟩ hlt hne (fun q => by
      have q' : e = it ∨ e = a := by simpa using q
      rcases q' with z | z
      · exact hne z
      · exact hae z.symm) fun u2 h' tk hP ho hit' hT' hsz hk => ?_
    have eu : u2 = u := by
      have hP' : its.toArray[i]? = some u2 := hP
      have hu' : its.toArray[i]? = some u := by simpa using hu
      rw [hu'] at hP'
      exact (Option.some.inj hP').symm
    subst eu
    refine ⟨_, rfl, wpAny_letOwnedTupleGo_enum (s := { s with heap := h', toks := tk + 1 }) ho fun h'' he' sb => ?_⟩
    have hT2 : h''.get? s.heap.objs.size = some { cls := .type "tuple", data := .seq #[.int i tk, u2] } := (sb.2 _ (Nat.ne_of_gt hel)).trans hT'
    have new : ObjOk X.prog X.w (upd H s.heap.objs.size (.tup [.int (i : Nat), x])) h'' s.heap.objs.size (.tup [.int (i : Nat), x]) :=
      ⟨by show 2 ≤ sizeLine; decide, [.int i tk, u2], .cons ⟨_, rfl⟩ (.cons ru .nil), ⟨_, hT2, rfl, _, rfl⟩⟩
    have I1 : Inv X pins σ (upd H s.heap.objs.size (.tup [.int (i : Nat), x])) { s with heap := h'', toks := tk + 1 } :=
      I.turnedNew (ch := [e, it]) (fun b ob hb q => (sb.2 b (fun z => hb (by simp [z]))).trans (hk b ob (fun z => hb (by simp [z])) (fun z => hb (by simp [z])) q)) hf (Nat.le_refl _) new
    refine ⟨.ref s.heap.objs.size, _, I1, rfl, ⟨_, x, rfl, I.hok.fresh (Nat.le_refl _), rfl, fun ys hy => by rw [I.tuple_inj hy hq]; exact hx⟩, ⟨⟨u2, ?_⟩, (let ⟨⟨o, ho, hr⟩, _⟩ := hit'; ⟨o, (sb.2 it (Ne.symm hne)).trans ho, hr⟩), hne⟩, fun b hb => ?_⟩
    · have e1 : ((i + 1 : Nat) : Int) = (i : Int) + 1 := by omega
      rw [e1]; exact he'
    · have hb' : b < s.heap.objs.size := by
        have e' : b = e ∨ b = it := by simpa using hb
        rcases e' with z | z
        · rw [z]; exact hel
        · rw [z]; exact hil
      rw [upd_ne (Nat.ne_of_lt hb')]
      exact (hf b hb).1
  done := by
    intro X hP hw hK hc i pins s σ H E I hf st hg
    subst hP hw hK
    obtain ⟨⟨old, he⟩, hit, hne⟩ := st
    obtain ⟨xs, hq, hx⟩ := hg
    obtain ⟨its, rv, p, hz⟩ := I.tuple hq
    have hT : s.heap.IsTuple a its.toArray := p
    have hal : a ≠ it := fun z => by
      obtain ⟨o1, q1, c1, _⟩ := hT
      obtain ⟨o2, q2, c2, _⟩ := hit
      rw [z, q2] at q1
      cases q1
      rw [c2] at c1
      exact absurd (Value.type.inj c1) (by decide)
    obtain ⟨f0, f1, f2, f3, f4, f5⟩ := hf it (by simp)
    have hn : its.toArray[i]? = none := by
      have := rv.length
      simp
      omega
    have D : PySem.Draws X.prog X.w X.A.in1 it [it, a] i (fun _ _ => False) (fun j h => j = i ∧ h.IsTupleIter it a i ∧ h.IsTuple a its.toArray) :=
      ⟨fun j h q => let ⟨o, ho, _⟩ := q.2.1; ⟨o, ho⟩, fun j h h' q k => ⟨q.1, (let ⟨o, ho, r⟩ := q.2.1; ⟨o, k it (by simp) o ho, r⟩), (let ⟨o, ho, r⟩ := q.2.2; ⟨o, k a (by simp) o ho, r⟩)⟩, fun j s' Q' E' hj q _ => absurd q.1 (Nat.ne_of_lt hj),
        fun s' Q' E' q hE => wpAny_nextOf_tuple_end (I.ok.hd hc) q.2.1 q.2.2 hn hE⟩
    exact wpAny_pyNext_enum_endD D he ⟨rfl, hit, hT⟩ fun h' eb => ⟨rfl, I.turned (t' := s.toks) (fun b o hb q => eb b o hb q) f0 f1 f3 f4 f5⟩
  self := fun A i s Q E st h => let ⟨⟨_, he⟩, _⟩ := st; wpAny_pyIter_enum he h
theorem wk_enumT {a : Addr} {l : List PV} {xs : List V} (h : SqT X.K H a xs) (r : RVs X.K μ H l xs) : WkOk X W (ItEt X.K a) (fun s => (liveE (.tup l) s).map (enumL 0)) μ H := fun i μ' st' H' l' e ok hf => by
  have hf' : some (enumL 0 l) = some l' := hf
  cases hf'
  rw [enumL_get]
  have h' := e.sqT h
  have r' := r.ext e
  refine ⟨fun p hp => ?_, fun hn => ⟨xs, h', ?_⟩⟩
  · obtain ⟨q, hq, rfl⟩ := Option.map_eq_some_iff.mp hp
    obtain ⟨v, hv, rv⟩ := r'.get hq
    refine ⟨⟨xs, v, h', hv⟩, fun x H'' y => ?_⟩
    obtain ⟨T, w, rfl, hT, rfl, y⟩ := y
    have e2 := y xs h'
    rw [hv] at e2
    cases e2
    have ei : (0 : Int) + (i : Nat) = (i : Nat) := by omega
    rw [ei]
    exact new_pair hT ok (.int _) rv
  · rw [← r'.length]
    rw [Option.map_eq_none_iff] at hn
    exact List.getElem?_eq_none_iff.mp hn
theorem pie_enumT {elts : List Expr} {kk : Nat} {tpos : Pos} {pins : List (Addr × Obj)} {σ : L2.St} {s1 : Shared} {R : It → Hp → Prop} {a : Addr} {xs : List V} {E : Value → Shared → Prop} (I1 : Inv X pins σ H1 s1) (hq : SqT X.K H1 a xs) (q : R (ItEt X.K a) H1) :
    wpAny (model X.prog X.w) X.A (call (.type "enumerate") [.ref a]) (fun v s2 => wpAny (model X.prog X.w) X.A (pyIter v) (PIE X pins σ (.Tuple elts kk tpos) R) E s2) E s1 := by
  obtain ⟨its, rv, p', hz⟩ := I1.tuple hq
  refine call_enumT (items := its.toArray) p' fun h' he hit hk => wpAny_pyIter_enum he ?_
  have I2 : Inv X pins σ H1 { s1 with heap := h' } := I1.kept (t' := s1.toks) hk
  refine ⟨s1.heap.objs.size + 1, [s1.heap.objs.size + 1, s1.heap.objs.size], _, _, H1, rfl, I2, turn_enumT a (s1.heap.objs.size + 1) s1.heap.objs.size, ⟨⟨.none, he⟩, hit, Nat.succ_ne_self _⟩, fun b hb => ?_, q⟩
  have hle : s1.heap.objs.size ≤ b := by
    have e' : b = s1.heap.objs.size + 1 ∨ b = s1.heap.objs.size := by simpa using hb
    cases e' with
    | inl z => rw [z]; exact Nat.le_succ _
    | inr z => rw [z]; exact Nat.le_refl _
  exact I1.fpOk hle (I1.hok.fresh hle)
/-- enumerate of a list, of a text, of a tuple -/
theorem si_enum {elts : List Expr} {kk : Nat} {tpos p pos : Pos} {e : Expr} {m : Ex} (hg : Gl X "enumerate") (hm : X.mg "enumerate" = none) (he : SE X W e m) (hs : starEach [e] X.env = [(false, eval e X.env)]) :
    SI X W (.Tuple elts kk tpos) (.Call (.Name "enumerate" p) [e] [] pos) (iEnum m) := by
  refine ⟨fun pins s σ H R I ⟨T, ρ, μ, st, tk, en, ok, out⟩ => ?_⟩
  refine Call_ (ld_blt I hg hm boot_enumerate (PyProof.Rows.callWith_type1 (thn ((pa_cons (X := X) he pa_nil (by rw [hs]; rfl)).run pos pins s σ H (fun vs H1 => ∃ x μ1 s1 p, vs = [x] ∧ StOk X.K W μ1 s1 H1 ∧ RV X.K μ1 H1 p x ∧ (∃ l, (liveE p s1).map (enumL 0) = some l) ∧ ∀ J, WkOk X W J (fun s => (liveE p s).map (enumL 0)) μ1 H1 → R J H1) I ⟨T, ρ, μ, st, tk, en, ok, out.bind.mono fun μ1 H1 p s1 x1 ok1 h1 v rv => ?_⟩) fun us s1 ⟨vs, H1, I1, r1, x, μ1, st1, p, ex, ok1, rv, hl, q⟩ => ?_) hs rfl))
  · obtain ⟨hl, _, h2⟩ := ixOk_out h1 ok1
    exact ⟨v, μ1, s1, p, rfl, ok1, rv, hl, h2⟩
  · obtain ⟨l, hl⟩ := hl
    subst ex
    cases r1 with
    | cons r rr =>
      cases rr
      cases rv with
      | str l =>
        obtain ⟨t, rfl⟩ := r
        exact pie_enumS I1 (q _ (wk_enumS l))
      | @tup a l' xs hs rs =>
        cases r
        exact pie_enumT I1 hs (q _ (wk_enumT hs rs))
      | @lst a l' xs hs rs =>
        cases r
        refine pie_enumL I1 hs.sq (q _ (wk_enum fun μ' st' H' l e ok hf => ?_))
        cases hf
        exact ⟨xs, (e.fz hs).sq, rs.ext e⟩
      | @ref k a hk =>
        cases r
        obtain ⟨o, ho, ro⟩ := ok1.ob hk
        have hl' : (match st1.objs[k]? with | some (.lst l) => some l | _ => none : Option (List PV)).map (enumL 0) = some l := hl
        rw [ho] at hl'
        cases o with
        | lst l' =>
          obtain ⟨xs, h1, rs⟩ := ro
          refine pie_enumL I1 (.of h1) (q _ (wk_enum fun μ' st' H' l e ok hf => ?_))
          obtain ⟨o2, ho2, ro2⟩ := ok.ob (e.get hk)
          have hf' : (match st'.objs[k]? with | some (.lst l) => some l | _ => none : Option (List PV)) = some l := hf
          rw [ho2] at hf'
          cases o2 with
          | lst l2 =>
            cases hf'
            obtain ⟨ys, h2, rs2⟩ := ro2
            exact ⟨ys, .of h2, rs2⟩
          | _ => cases hf'
        | _ => cases hl'
      | _ => cases hl
end
end Ev
/-! Ev9: targets, statements. -/
namespace Ev
open PySem PySem.Spec PyProof.Rows L2
section
variable {X : Cx} {W : Wd} {μ μ1 : List Addr} {H H1 : Hp} {st : Stt} {pos : Pos}
/-! ### targets -/
/-- σ' is σ but for the slots is -/
def Touch (is : List Nat) (σ σ' : L2.St) : Prop := σ'.length = σ.length ∧ ∀ j, j ∉ is → σ'[j]? = σ[j]?
theorem Touch.refl (is : List Nat) (σ : L2.St) : Touch is σ σ := ⟨rfl, fun _ _ => rfl⟩
theorem Touch.set (i : Nat) (σ : L2.St) (v : Option V) : Touch [i] σ (σ.set i v) := ⟨List.length_set, fun j hj => List.getElem?_set_ne fun e => hj (by simp [e])⟩
theorem Touch.trans {is js : List Nat} {σ σ1 σ2 : L2.St} (a : Touch is σ σ1) (b : Touch js σ1 σ2) : Touch (is ++ js) σ σ2 := ⟨b.1.trans a.1, fun j hj => (b.2 j fun h => hj (List.mem_append_right _ h)).trans (a.2 j fun h => hj (List.mem_append_left _ h))⟩
def rdG (X : Cx) (W : Wd) (is : List Nat) (g : Gx) : TG := fun v σ H Q => ∃ ρ μ st p ρ', EnvOk X.K μ H ρ σ ∧ StOk X.K W μ st H ∧ RV X.K μ H p v ∧ g p ρ = some ρ' ∧ ∀ σ', EnvOk X.K μ H ρ' σ' → Touch is σ σ' → Q σ' H
def rdGs (X : Cx) (W : Wd) (is : List Nat) (gs : List Gx) : TGs := fun vs σ H Q => ∃ ρ μ st ps ρ', EnvOk X.K μ H ρ σ ∧ StOk X.K W μ st H ∧ RVs X.K μ H ps vs ∧ setAll gs ps ρ = some ρ' ∧ ∀ σ', EnvOk X.K μ H ρ' σ' → Touch is σ σ' → Q σ' H
abbrev SG (X : Cx) (W : Wd) (tg : Expr) (is : List Nat) (g : Gx) : Prop := PG X tg (rdG X W is g)
abbrev SGs (X : Cx) (W : Wd) (tgs : List Expr) (is : List Nat) (gs : List Gx) : Prop := PGs X tgs (rdGs X W is gs)
theorem PG.imp {e : Expr} {t t' : TG} (h : PG X e t) (i : ∀ v σ H Q, t' v σ H Q → t v σ H Q) : PG X e t' := ⟨fun pins s σ H v u Q I r q => h.run pins s σ H v u Q I r (i _ _ _ _ q)⟩
theorem PGs.imp {e : List Expr} {t t' : TGs} (h : PGs X e t) (i : ∀ v σ H Q, t' v σ H Q → t v σ H Q) : PGs X e t' := ⟨fun pins s σ H v u Q I r q => h.run pins s σ H v u Q I r (i _ _ _ _ q)⟩
theorem sg_name {i : Nat} {x : Str} (hN : X.N.Nodup) (hi : X.N[i]? = some x) (hx : Loc X.env.scope x) (hf : X.fn x = true ∨ X.env.scope.names.lookup x = some .local) : SG X W (.Name x pos) [i] (gN i) :=
  PG.imp (pg_name hN hi hx hf) fun v σ H Q ⟨ρ, μ, st, p, ρ', en, ok, rv, hg, q⟩ => by
    cases hg
    exact q _ (en.set rv) (Touch.set i σ _)
theorem sgs_nil : SGs X W [] [] [] := PGs.imp pgs_nil fun vs σ H Q ⟨ρ, μ, st, ps, ρ', en, ok, rv, hg, q⟩ => by
  cases rv with
  | nil => cases hg; exact ⟨rfl, q _ en (Touch.refl _ _)⟩
  | cons _ _ => cases hg
theorem sgs_cons {e : Expr} {es : List Expr} {g : Gx} {gs : List Gx} {is js : List Nat} (h1 : SG X W e is g) (h2 : SGs X W es js gs) (hs : (assignEach (e :: es) X.env).map (·.2) = assign e X.env :: (assignEach es X.env).map (·.2)) : SGs X W (e :: es) (is ++ js) (g :: gs) :=
  PGs.imp (pgs_cons h1 h2 hs) fun vs σ H Q ⟨ρ, μ, st, ps, ρ', en, ok, rv, hg, q⟩ => by
    cases rv with
    | nil => cases hg
    | @cons p v ps vs r rr =>
      have hg' : (g p ρ).bind (fun ρ => setAll gs ps ρ) = some ρ' := hg
      cases h : g p ρ with
      | none => rw [h] at hg'; cases hg'
      | some ρ1 =>
        rw [h] at hg'
        exact ⟨v, vs, rfl, ρ, μ, st, p, ρ1, en, ok, r, h, fun σ' en' t1 => ⟨ρ1, μ, st, ps, ρ', en', ok, rr, hg', fun σ2 en2 t2 => q σ2 en2 (t1.trans t2)⟩⟩
theorem setAll_len : ∀ {gs : List Gx} {ps : List PV} {ρ ρ' : Env}, setAll gs ps ρ = some ρ' → gs.length = ps.length
  | [], [], _, _, _ => rfl
  | [], _ :: _, _, _, h => by cases h
  | _ :: _, [], _, _, h => by cases h
  | g :: gs, p :: ps, ρ, ρ', h => by
    have h' : (g p ρ).bind (fun ρ => setAll gs ps ρ) = some ρ' := h
    cases hg : g p ρ with
    | none => rw [hg] at h'; cases h'
    | some ρ1 =>
      rw [hg] at h'
      rw [List.length_cons, List.length_cons, setAll_len (show setAll gs ps ρ1 = some ρ' from h')]
theorem sg_tup {es : List Expr} {k : Nat} {gs : List Gx} {is : List Nat} (hc : X.calm = true) (h : SGs X W es is gs) (hn : (assignEach es X.env).length = gs.length) (hst : (assignEach es X.env).findIdx? (·.1) = none) : SG X W (.Tuple es k pos) is (gT gs) := by
  refine ⟨fun pins s σ H v u Q I r ⟨ρ, μ, st, p, ρ', en, ok, rv, hg, q⟩ => ?_⟩
  cases rv with
  | @tup a l xs hs rs =>
    have hg' : setAll gs l ρ = some ρ' := hg
    exact (pg_tup (k := k) (pos := pos) hc h hn hst).run pins s σ H _ u Q I r ⟨a, xs, rfl, hs, by rw [← rs.length, setAll_len hg'], ρ, μ, st, l, ρ', en, ok, rs, hg', q⟩
  | @lst a l xs hs rs =>
    have hg' : setAll gs l ρ = some ρ' := hg
    cases r
    obtain ⟨its, rv, pl, hz⟩ := I.list hs.sq
    have hsz : (assignEach es X.env).length = its.toArray.size := by rw [hn, setAll_len hg', rs.length, rv.length, List.size_toArray]
    rw [PyProof.Rows.assign_Tuple]
    refine wpAny_bind (wpAny_standAt ?_)
    unfold unpack
    rw [hsz, hst]
    refine wpAny_bind (wpAny_holding (PySem.W.kun_itemsOf (I.ok.hd hc) pl.isList fun h' hx => ?_))
    have I1 : Inv X pins σ H { s with heap := h' } := I.kept (t' := s.toks) fun b o e => hx b o (Nat.ne_of_lt (Heap.lt_size e)) e
    exact h.run pins _ σ H xs _ Q I1 (by simpa using rv) ⟨ρ, μ, st, l, ρ', en, ok, rs, hg', q⟩
  | _ => cases hg
/-! ### statements -/
variable {e c : Expr} {m : Ex} {sts : List Stmt} {s0 : Stmt} {ma mb : Sx} {t : Tx}
theorem OutS.sbind {α : Type} {T : WX} {D : Ends} {f : α → Stt → SRes} {r : Res α} (h : OutS X W μ H T D (r.sbind f)) : OutG X W μ H T (fun μ1 H1 a s1 => OutS X W μ1 H1 T D (f a s1)) r := OutG.sbind h
theorem OutS.calm {T T' : WX} {D : Ends} : ∀ {r : SRes}, OutS X W μ H T D r.calm → OutS X W μ H T' D r
  | .nx _ _, h => h
  | .rt _ _, h => h
  | .err _ _, h => h.elim
  | .bad, h => h
theorem OutS.nxNow {T : WX} {D : Ends} {ρ : Env} {σ : L2.St} (h : OutS X W μ H T D (.nx ρ st)) (en : EnvOk X.K μ H ρ σ) (ok : StOk X.K W μ st H) : D.nx σ H := h μ H σ (Ext.refl _ _) ok en
theorem OutS.rtNow {T : WX} {D : Ends} {p : PV} {v : V} (h : OutS X W μ H T D (.rt p st)) (r : RV X.K μ H p v) (ok : StOk X.K W μ st H) : D.rt v H := h μ H v (Ext.refl _ _) ok r
theorem sss_nil : SSs X W [] sNop := PSs.imp pss_nil fun D σ H ⟨T, ρ, μ, st, tk, en, ok, out⟩ => out.nxNow en ok
theorem sss_cons (h1 : SS X W s0 ma) (h2 : SSs X W sts mb) : SSs X W (s0 :: sts) (sSeq ma mb) := by
  refine PSs.imp (pss_cons h1 h2) fun D σ H ⟨T, ρ, μ, st, tk, en, ok, out⟩ => ?_
  refine ⟨T, ρ, μ, st, tk, en, ok, ?_⟩
  have out' : OutS X W μ H T D (match ma ρ st with | .nx ρ s => mb ρ s | r => r) := out
  cases hr : ma ρ st with
  | nx ρ1 s1 =>
    rw [hr] at out'
    exact fun μ' H' σ' x ok' en' => ⟨T, ρ1, μ', s1, tk, en', ok', OutS.ext x out'⟩
  | rt v s1 => rw [hr] at out'; exact out'
  | err c s1 => rw [hr] at out'; exact out'
  | bad => rw [hr] at out'; exact out'
theorem ss_pass : SS X W (.Pass pos) sNop := PS.imp ps_pass fun D σ H ⟨T, ρ, μ, st, tk, en, ok, out⟩ => out.nxNow en ok
theorem ss_expr (he : SE X W e m) (hs : swapsWith e none pos.line X.env = pure false) : SS X W (.Expr e pos) (sExpr m) := by
  refine PS.imp (ps_expr he hs) fun D σ H ⟨T, ρ, μ, st, tk, en, ok, out⟩ => ?_
  exact ⟨T, ρ, μ, st, tk, en, ok, out.sbind.mono fun μ1 H1 p s1 x1 ok1 h1 v rv => h1.nxNow (en.ext x1) ok1⟩
theorem ss_ret (he : SE X W e m) : SS X W (.Return (some e) pos) (sRet m) := by
  refine PS.imp (ps_ret he) fun D σ H ⟨T, ρ, μ, st, tk, en, ok, out⟩ => ?_
  exact ⟨T, ρ, μ, st, tk, en, ok, out.sbind.mono fun μ1 H1 p s1 x1 ok1 h1 v rv => h1.rtNow rv ok1⟩
theorem ss_retN : SS X W (.Return none pos) (sRet (eC .non)) := PS.imp ps_retN fun D σ H ⟨T, ρ, μ, st, tk, en, ok, out⟩ => OutS.rtNow (show OutS X W μ H T D (.rt .non st) from out) .non ok
theorem ss_asg {tg : Expr} {g : Gx} {is : List Nat} (he : SE X W e m) (hg : SG X W tg is g) (hs : swapsWithSole [tg] e pos.line X.env = pure false) (hw : swappedStores [tg] e X.env = pure none) (h1 : (assignEach [tg] X.env).map (·.2) = [assign tg X.env]) : SS X W (.Assign [tg] e pos) (sAsg g m) := by
  refine PS.imp (ps_asg he hg hs hw h1) fun D σ H ⟨T, ρ, μ, st, tk, en, ok, out⟩ => ?_
  refine ⟨T, ρ, μ, st, tk, en, ok, out.sbind.mono fun μ1 H1 p s1 x1 ok1 h1 v rv => ?_⟩
  have en1 := en.ext x1
  cases hgp : g p ρ with
  | none => rw [hgp] at h1; exact h1.elim
  | some ρ' =>
    rw [hgp] at h1
    exact ⟨ρ, μ1, s1, p, ρ', en1, ok1, rv, hgp, fun σ' en' _ => OutS.nxNow h1 en' ok1⟩
theorem ss_set {i : Nat} {x : Str} {pos' : Pos} (hN : X.N.Nodup) (hi : X.N[i]? = some x) (hx : Loc X.env.scope x) (he : SE X W e m) (hs : swapsWith e (some (.Name x pos')) pos.line X.env = pure false) (hf : X.fn x = true ∨ X.env.scope.names.lookup x = some .local) : SS X W (.Assign [.Name x pos'] e pos) (sAsg (gN i) m) := by
  refine PS.imp (ps_set hN hi hx he hs hf) fun D σ H ⟨T, ρ, μ, st, tk, en, ok, out⟩ => ?_
  exact ⟨T, ρ, μ, st, tk, en, ok, out.sbind.mono fun μ1 H1 p s1 x1 ok1 h1 v rv => OutS.nxNow h1 ((en.ext x1).set rv) ok1⟩
/-- x, y = a, b -/
def sPar (i j : Nat) (a b : Ex) : Sx := fun ρ s => (a ρ s).sbind fun x s => (b ρ s).sbind fun y s => .nx ((ρ.set i (some x)).set j (some y)) s
theorem ss_par {i j : Nat} {x y : Str} {a b : Expr} {ma mb : Ex} {px py pt : Pos} {kt k2 pt2} (hc : X.calm = true) (hN : X.N.Nodup) (hi : X.N[i]? = some x) (hj : X.N[j]? = some y) (hij : i ≠ j)
    (hx : X.env.scope.names.lookup x = some .local) (hy : X.env.scope.names.lookup y = some .local) (ha : SE X W a ma) (hb : SE X W b mb) (hs1 : starEach [a, b] X.env = (false, eval a X.env) :: starEach [b] X.env) (hs2 : starEach [b] X.env = (false, eval b X.env) :: starEach [] X.env)
    (hw : swappedStores [.Tuple [.Name x px, .Name y py] kt pt] (.Tuple [a, b] k2 pt2) X.env = pure (some [x, y])) (hs : swapsWithSole [.Tuple [.Name x px, .Name y py] kt pt] (.Tuple [a, b] k2 pt2) pos.line X.env = pure false) :
    SS X W (.Assign [.Tuple [.Name x px, .Name y py] kt pt] (.Tuple [a, b] k2 pt2) pos) (sPar i j ma mb) := by
  refine PS.imp (ps_par hc hN hi hj hij hx hy (pa_cons ha (pa_cons hb pa_nil hs2) hs1) hw hs) fun D σ H ⟨T, ρ, μ, st, tk, en, ok, out⟩ => ?_
  refine ⟨T, ρ, μ, st, tk, en, ok, out.sbind.mono fun μ1 H1 p s1 x1 ok1 h1 v rv => ?_⟩
  refine ⟨T, ρ, μ1, s1, tk, en.ext x1, ok1, OutG.mono (OutG.sbind h1) fun μ2 H2 q s2 x2 ok2 h2 w rw => ?_⟩
  exact ⟨v, w, rfl, OutS.nxNow h2 ((((en.ext x1).ext x2).set (rv.ext x2)).set rw) ok2⟩
/-- += -/
def iAdd : Op2 := fun _ x y => match x, y with
  | .int i, .int j => some (.int (i + j))
  | .str a, .str b => if Nat.ble (a.length + b.length) szl then some (.str (a ++ b)) else none
  | _, _ => none
theorem os_iadd : OpS X W (inplaceOp .Add) iAdd := by
  intro pins s σ H x y v u Q I rx ry ⟨μ, st, p, q, z, ok, rp, rq, hz, k⟩
  unfold iAdd at hz
  split at hz
  · cases hz
    cases rp; cases rq
    exact iop_add pins s σ H _ _ v u Q I rx ry ⟨_, _, rfl, rfl, k μ H _ (Ext.refl _ _) ok (.int _)⟩
  · rename_i a b
    split at hz
    · rename_i hl
      cases hz
      cases rp; cases rq
      refine iop_add_str pins s σ H _ _ v u Q I rx ry ⟨_, _, rfl, rfl, ?_, ?_⟩
      · rw [sOf_len, sOf_len]; exact ble_line hl
      · rw [sOf_app]; exact k μ H _ (Ext.refl _ _) ok (.str _)
    · cases hz
  · cases hz
theorem os_isub : OpS X W (inplaceOp .Sub) oSub := by
  intro pins s σ H x y v u Q I rx ry ⟨μ, st, p, q, z, ok, rp, rq, hz, k⟩
  unfold oSub at hz
  split at hz
  · cases hz
    cases rp; cases rq
    exact iop_sub pins s σ H _ _ v u Q I rx ry ⟨_, _, rfl, rfl, k μ H _ (Ext.refl _ _) ok (.int _)⟩
  · cases hz
theorem ss_aug {i : Nat} {x : Str} {op : Operator} {g : Op2} {pos' : Pos} (hN : X.N.Nodup) (hi : X.N[i]? = some x) (hx : Loc X.env.scope x) (he : SE X W e m) (ho : OpS X W (inplaceOp op) g) (hf : X.fn x = true ∨ X.env.scope.names.lookup x = some .local) :
    SS X W (.AugAssign (.Name x pos') op e pos) (sAug i g m) := by
  refine PS.imp (ps_aug hN hi hx he ho hf) fun D σ H ⟨T, ρ, μ, st, tk, en, ok, out⟩ => ?_
  unfold sAug at out
  split at out
  · rename_i p hp
    obtain ⟨v, hv, rv⟩ := en.at_ i p hp
    refine ⟨v, hv, T, ρ, μ, st, tk, en, ok, out.sbind.mono fun μ1 H1 q s1 x1 ok1 h1 w rw => ?_⟩
    cases hg : g s1 p q with
    | none => rw [hg] at h1; exact h1.elim
    | some z =>
      rw [hg] at h1
      exact ⟨μ1, s1, p, q, z, ok1, rv.ext x1, rw, hg, fun μ' H' v' x' ok' r' => h1 μ' H' _ x' ok' (((en.ext x1).ext x').set r')⟩
  · exact out.elim
theorem ss_if {a b : List Stmt} (hc : STt X W c t) (ha : SSs X W a ma) (hb : SSs X W b mb) : SS X W (.If c a b pos) (sIf t ma mb) := by
  refine PS.imp (ps_if hc ha hb) fun D σ H ⟨T, ρ, μ, st, tk, en, ok, out⟩ => ?_
  refine ⟨T, ρ, μ, st, tk, en, ok, out.sbind.mono fun μ1 H1 k s1 x1 ok1 h1 => ?_⟩
  cases k with
  | true =>
    rw [if_pos rfl]
    exact ⟨T, ρ, μ1, s1, tk, en.ext x1, ok1, h1⟩
  | false =>
    rw [if_neg Bool.false_ne_true]
    exact ⟨T, ρ, μ1, s1, tk, en.ext x1, ok1, h1⟩
theorem ss_for {tg iter : Expr} {body : List Stmt} {src : Ix} {g : Gx} {is : List Nat} (hp : PassesOwn (model X.prog X.w) X.A X.env X.xe) (hc : X.calm = true) (hi : SI X W tg iter src) (hg : SG X W tg is g) (hb : SSs X W body mb) (hs : ∀ x, foldedSetIterable iter X.env x = pure x) :
    SS X W (.For tg iter body [] pos) (sFor g src mb) := by
  refine PS.imp (ps_for hp hc hi hg hb hs) fun D σ H ⟨T, ρ, μ, st, tk, en, ok, out⟩ => ?_
  refine ⟨T, ρ, μ, st, tk, en, ok, out.sbind.mono fun μ1 H1 f s1 x1 ok1 h1 => ?_⟩
  cases hl0 : f s1 with
  | none => rw [hl0] at h1; exact h1.elim
  | some l0 =>
    rw [hl0] at h1
    refine ⟨⟨l0, rfl⟩, fun J wk => ?_⟩
    refine ⟨fun i n σ' H' => ∃ ρ' μ' st', EnvOk X.K μ' H' ρ' σ' ∧ StOk X.K W μ' st' H' ∧ Ext μ1 H1 μ' H' ∧ OutS X W μ' H' T D (forV f g mb n i ρ' st'), ⟨_, ρ, μ1, s1, en.ext x1, ok1, Ext.refl _ _, h1⟩, ?_⟩
    rintro i n σ' H' ⟨ρ', μ', st', en', ok', x', out'⟩
    cases n with
    | zero => exact out'.elim
    | succ n =>
      unfold forV at out'
      cases hl : f st' with
      | none => rw [hl] at out'; exact out'.elim
      | some l =>
        rw [hl] at out'
        dsimp only at out'
        obtain ⟨w1, w2⟩ := wk i μ' st' H' l x' ok' hl
        cases hi : l[i]? with
        | none =>
          rw [hi] at out'
          exact .inl ⟨w2 hi, OutS.nxNow out' en' ok'⟩
        | some p =>
          rw [hi] at out'
          dsimp only at out'
          obtain ⟨go, yl⟩ := w1 p hi
          refine .inr ⟨go, _, fun _ _ h => h, fun x H'' y => ?_⟩
          obtain ⟨x2, ok2, rv⟩ := yl x H'' y
          cases hgp : g p ρ' with
          | none => rw [hgp] at out'; exact out'.elim
          | some ρ2 =>
            rw [hgp] at out'
            dsimp only at out'
            refine ⟨ρ', μ', st', p, ρ2, en'.ext x2, ok2, rv, hgp, fun σ2 en2 _ => ⟨T, ρ2, μ', st', tk, en2, ok2, ?_⟩⟩
            have out2 := OutS.ext x2 out'
            cases hr : mb ρ2 st' with
            | nx ρ3 s3 =>
              rw [hr] at out2
              exact fun μ3 H3 σ3 x3 ok3 en3 => ⟨n, Nat.lt_succ_self n, ρ3, μ3, s3, en3, ok3, (x'.trans x2).trans x3, OutS.ext x3 out2⟩
            | rt v s3 => rw [hr] at out2; exact out2
            | err c s3 => rw [hr] at out2; exact out2
            | bad => rw [hr] at out2; exact out2
theorem ss_while {body : List Stmt} {n : Nat} (hp : PassesOwn (model X.prog X.w) X.A X.env X.xe) (hc : STt X W c t) (hb : SSs X W body mb) : SS X W (.While c body [] pos) (whileN t mb n) := by
  refine PS.imp (ps_while hp hc hb) fun D σ H ⟨T, ρ, μ, st, tk, en, ok, out⟩ => ?_
  refine ⟨fun n σ' H' => ∃ ρ' μ' st', EnvOk X.K μ' H' ρ' σ' ∧ StOk X.K W μ' st' H' ∧ OutS X W μ' H' T D (whileN t mb n ρ' st'), ⟨n, ρ, μ, st, en, ok, out⟩, ?_⟩
  rintro n σ' H' ⟨ρ', μ', st', en', ok', out'⟩
  cases n with
  | zero => exact out'.elim
  | succ n =>
    refine ⟨T, ρ', μ', st', tk, en', ok', OutG.mono (OutG.sbind (show OutS X W μ' H' T D ((t ρ' st').sbind fun c s => if c then (match mb ρ' s with | .nx ρ s => whileN t mb n ρ s | r => r) else .nx ρ' s) from out')) fun μ1 H1 k s1 x1 ok1 h1 => ?_⟩
    cases k with
    | false =>
      rw [if_neg Bool.false_ne_true]
      exact OutS.nxNow h1 (en'.ext x1) ok1
    | true =>
      rw [if_pos rfl]
      rw [if_pos rfl] at h1
      refine ⟨_, fun _ _ h => h, T, ρ', μ1, s1, tk, en'.ext x1, ok1, ?_⟩
      cases hr : mb ρ' s1 with
      | nx ρ3 s3 =>
        rw [hr] at h1
        exact fun μ3 H3 σ3 x3 ok3 en3 => ⟨n, Nat.lt_succ_self n, ρ3, μ3, s3, en3, ok3, OutS.ext x3 h1⟩
      | rt v s3 => rw [hr] at h1; exact h1
      | err c s3 => rw [hr] at h1; exact h1
      | bad => rw [hr] at h1; exact h1
/-! ### exceptions -/
theorem ss_raise {e : Expr} {k : Nat} (hc : X.calm = true) (he : PMk X e (fun _ H Q => Q (.ref (W.exc k)) none H)) : SS X W (.Raise (some e) none pos) (sRaise k) := by
  refine ⟨fun pins s σ H D I ⟨T, ρ, μ, st, tk, en, ok, out⟩ => ?_⟩
  exact (ps_raise hc tk he).run pins s σ H D I (out μ H σ none I.len (Ext.refl _ _) ok)
theorem ss_try {x : Str} {body suite : List Stmt} {b₀ : Stmt} {np pos' : Pos} {cv : Value} {cs : List Nat} (hs : X.stack = X.env :: X.outer) (hf : X.env.frame = some X.env.locals) (hc : Names X x cv)
    (hm : ∀ k, PySem.W.exmOne X.K (.ref (W.exc k)) cv = some (cs.contains k))
    (hb : ∀ (pn : List (Addr × Obj)) (xe : Value → Shared → Prop), PassesOwn (model X.prog X.w) X.A X.env xe → SSs (X.tr pn xe) W body ma)
    (hsu : ∀ (a : Addr) (pn : List (Addr × Obj)), SSs (X.suite a pn) W (b₀ :: suite) mb) :
    SS X W (.Try body [.ExceptHandler (some (.Name x np)) none (b₀ :: suite) pos'] [] [] pos) (sTry ma cs mb) := by
  refine ⟨fun pins s σ H D I ⟨T, ρ, μ, st, tk, en, ok, out⟩ => ?_⟩
  refine (ps_try_only (tb := fun W' => fun D σ H => ∃ ρ μ st, EnvOk X.K μ H ρ σ ∧ StOk X.K W μ st H ∧ OutS X W μ H W' D (ma ρ st))
    (ts := fun _ _ _ => fun D σ H => ∃ ρ μ st, EnvOk X.K μ H ρ σ ∧ StOk X.K W μ st H ∧ OutS X W μ H (fun _ _ _ _ => False) D (mb ρ st)) hs hf hc tk
    (fun W' pn xe tk' po => PSs.imp (hb pn xe po) fun D σ H ⟨ρ, μ, st, en, ok, out⟩ => ⟨W', ρ, μ, st, tk', en, ok, out⟩)
    (fun a oe cls d pn _ _ => PSs.imp (hsu a ((a, oe) :: pn)) fun D σ H ⟨ρ, μ, st, en, ok, out⟩ => ⟨fun _ _ _ _ => False, ρ, μ, st, fun u s' ⟨_, _, _, _, _, _, _, _, _, _, _, _, _, _, _, _, w⟩ => w.elim, en, ok, out⟩)).run pins s σ H D I ⟨ρ, μ, st, en, ok, ?_⟩
  unfold sTry at out
  cases hr : ma ρ st with
  | nx ρ3 s3 => rw [hr] at out; exact out
  | rt v s3 => rw [hr] at out; exact out
  | bad => rw [hr] at out; exact out
  | err k s3 =>
    rw [hr] at out
    dsimp only at out
    intro μ' H' σ' d hl x' ok'
    refine ⟨_, hm k, fun hy a ha => ?_, fun hn => ?_⟩
    · rw [if_pos hy] at out
      refine ⟨ρ.map fun _ => none, μ', s3, ⟨by rw [List.length_map, en.len, I.len, hl], fun i p hp => ?_⟩, ok', ?_⟩
      · rw [List.getElem?_map] at hp
        cases hq : ρ[i]? with
        | none => rw [hq] at hp; cases hp
        | some o => rw [hq] at hp; cases hp
      · exact OutS.calm (OutS.ext x' out)
    · rw [if_neg (by rw [hn]; exact Bool.false_ne_true)] at out
      exact out μ' H' σ' d hl x' ok'
end
end Ev
/-! Ev10: comprehensions. -/
namespace Ev
open PySem PySem.Spec PyProof.Rows L2
section
variable {X : Cx} {W : Wd} {μ μ1 : List Addr} {H H1 : Hp} {st : Stt} {pos : Pos}
theorem wipe_get (σ : L2.St) : ∀ (vs : List Nat) (j : Nat), (L2.wipe σ vs)[j]? = if j ∈ vs then (if j < σ.length then some none else none) else σ[j]?
  | [], j => by simp [L2.wipe]
  | v :: vs, j => by
    unfold L2.wipe
    by_cases h : v = j
    · subst h
      rw [if_pos (by simp)]
      by_cases hl : v < σ.length
      · rw [if_pos hl, List.getElem?_set_self (by rw [L2.wipe_length]; exact hl)]
      · rw [if_neg hl, List.getElem?_eq_none (by rw [List.length_set, L2.wipe_length]; omega)]
    · rw [List.getElem?_set_ne h, wipe_get σ vs j]
      by_cases hm : j ∈ vs
      · rw [if_pos hm, if_pos (List.mem_cons_of_mem _ hm)]
      · rw [if_neg hm, if_neg]
        intro hc
        rcases List.mem_cons.mp hc with e | e
        · exact h e.symm
        · exact hm e
theorem wipe_touch {is vs : List Nat} {σ σ' : L2.St} (t : Touch is (L2.wipe σ vs) σ') (hs : ∀ i ∈ is, i ∈ vs) : L2.wipe σ' vs = L2.wipe σ vs := by
  refine List.ext_getElem? fun j => ?_
  rw [wipe_get, wipe_get]
  by_cases hm : j ∈ vs
  · rw [if_pos hm, if_pos hm, t.1, L2.wipe_length]
  · rw [if_neg hm, if_neg hm, t.2 j fun h => hm (hs j h), wipe_get, if_neg hm]
theorem OutG.calm {α : Type} {T T' : WX} {P : List Addr → Hp → α → Stt → Prop} : ∀ {r : Res α}, OutG X W μ H T P r.calm → OutG X W μ H T' P r
  | .ok _ _, h => h
  | .err _ _, h => h.elim
  | .bad, h => h
theorem EnvOk.ex0 {K : PySem.W.Frag} {μ' : List Addr} {H' : Hp} {ρ : Env} {σ : L2.St} (e : Ex0 μ H μ' H') (h : EnvOk K μ H ρ σ) : EnvOk K μ' H' ρ σ := ⟨h.len, fun i p q => by
  obtain ⟨v, a, b⟩ := h.at_ i p q
  exact ⟨v, a, b.ex0 e⟩⟩
theorem Res.bind_assoc {α β γ : Type} (r : Res α) (f : α → Stt → Res β) (g : β → Stt → Res γ) : (r.bind f).bind g = r.bind fun a s => (f a s).bind g := by cases r <;> rfl
theorem PTs.imp {es : List Expr} {t t' : TT} (h : PTs X es t) (i : ∀ σ H Q, t' σ H Q → t σ H Q) : PTs X es t' := ⟨fun pins s σ H Q I q => h.run pins s σ H Q I (i _ _ _ q)⟩
/-- the readings within a block, which no exception leaves -/
def noX : WX := fun _ _ _ _ => False
theorem takes_noX (Y : Cx) : Takes Y noX := fun u s' ⟨_, _, _, _, _, _, _, _, _, _, _, _, _, _, _, _, w⟩ => w.elim
def rdEB (X : Cx) (W : Wd) (m : Ex) : TE := fun σ H Q => ∃ ρ μ st, EnvOk X.K μ H ρ σ ∧ StOk X.K W μ st H ∧ Out X W μ H noX Q (m ρ st)
def rdTB (X : Cx) (W : Wd) (m : Tx) : TT := fun σ H Q => ∃ ρ μ st, EnvOk X.K μ H ρ σ ∧ StOk X.K W μ st H ∧ OutT X W μ H noX Q (m ρ st)
theorem StOk.notin {D : Addr} (h : StOk X.K W μ st H) (hD : H D = none) : D ∉ μ := fun hm => by
  obtain ⟨i, hi⟩ := List.getElem?_of_mem hm
  obtain ⟨o, _, r⟩ := h.ob hi
  obtain ⟨w, hw, _⟩ := r.live
  rw [hD] at hw; cases hw
theorem Ext.beside {μ' : List Addr} {H' : Hp} (e : Ext μ H μ' H') {D : Addr} {xs : List V} (hD : H D = some (.lst xs)) (hm : D ∉ μ) : H' D = some (.lst xs) ∧ D ∉ μ' :=
  ⟨e.keep D _ hD hm (fun ps q => by cases q), fun hm' => by
    rcases e.new D hm' with z | z
    · exact hm z
    · rw [hD] at z; cases z⟩
/-- what a list comprehension does is what its mirror does; the list made is locked, if that is wished -/
theorem comp_rd {own : List (Str × Nat)} {src : Ix} {g : Gx} {is : List Nat} {t : Tx} {me : Ex} {σ : L2.St} {H : Hp} {Q Q' : VK} (hsub : ∀ i ∈ is, i ∈ own.map (·.2)) (hQ : ∀ x H, fz Q x H → Q' x H) (h : rdE X W (eComp (own.map (·.2)) g src t me) σ H Q) :
    tLc (rdI X W src) (rdG X W is g) (rdTB X W t) (rdEB X W me) (own.map (·.2)) σ H Q' := by
  obtain ⟨T, ρ, μ, st, tk, en, ok, out⟩ := h
  have out' : Out X W μ H T Q ((src ρ st).bind fun f s => (match f s with | none => .bad | some l => compV f g t me (wipeE ρ (own.map (·.2))) (l.length + 1) 0 s : Res (List PV)).bind fun xs s => .ok (.lst xs) s) := by
    rw [← Res.bind_assoc]; exact out
  refine ⟨T, ρ, μ, st, tk, en, ok, out'.bind.mono fun μ1 H1 f s1 x1 ok1 h1 => ?_⟩
  cases hl0 : f s1 with
  | none => rw [hl0] at h1; exact h1.elim
  | some l0 =>
    rw [hl0] at h1
    refine ⟨⟨l0, rfl⟩, fun J wk D hD => ?_⟩
    generalize hw : wipeE ρ (own.map (·.2)) = ρw at h1
    have enw : EnvOk X.K μ1 H1 ρw (L2.wipe σ (own.map (·.2))) := by rw [← hw]; exact (en.ext x1).wipe _
    refine ⟨fun i m H' => ∃ μ' st' accP acc, EnvOk X.K μ' H' ρw (L2.wipe σ (own.map (·.2))) ∧ StOk X.K W μ' st' H' ∧ Ext μ1 H1 μ' H' ∧ D ∉ μ' ∧ H' D = some (.lst acc) ∧ RVs X.K μ' H' accP acc ∧ acc.length ≤ i ∧
      Out X W μ1 H1 T Q ((compV f g t me ρw m i st').bind fun xs s => .ok (.lst (accP ++ xs)) s), ⟨l0.length + 1, μ1, s1, [], [], ?_, ok1.fresh hD, ext_new hD, ok1.notin hD, upd_same, .nil, Nat.zero_le _, h1⟩, ?_⟩
    · exact enw.ext (ext_new hD)
    rintro i m H' ⟨μ', st', accP, acc, en', ok', x', hDn, hDl, rvs, hlen, out2⟩
    cases m with
    | zero => exact out2.elim
    | succ n =>
      unfold compV at out2
      cases hl : f st' with
      | none => rw [hl] at out2; exact out2.elim
      | some l =>
        rw [hl] at out2
        dsimp only at out2
        obtain ⟨w1, w2⟩ := wk i μ' st' H' l x' ok' hl
        cases hx : l[i]? with
        | none =>
          rw [hx] at out2
          refine .inl ⟨w2 hx, hQ _ _ (.inr ⟨D, _, rfl, hDl, trivial, fun od => ?_⟩)⟩
          have e : accP ++ [] = accP := List.append_nil _
          have out3 : Out X W μ1 H1 T Q (.ok (.lst (accP ++ [])) st') := out2
          rw [e] at out3
          exact out3 μ' _ (x'.side hD) (ok'.side hDl hDn) _ (.lst (.inl ⟨od, upd_same⟩) (rvs.ex0 (Ex0.side hDl)))
        | some p =>
          rw [hx] at out2
          dsimp only at out2
          cases hb : Nat.blt i szl with
          | false => rw [hb, if_neg Bool.false_ne_true] at out2; exact out2.elim
          | true =>
            rw [hb, if_pos rfl] at out2
            cases hgp : g p ρw with
            | none => rw [hgp] at out2; exact out2.elim
            | some ρ' =>
              rw [hgp] at out2
              dsimp only at out2
              obtain ⟨go, yl⟩ := w1 p hx
              refine .inr ⟨go, _, fun _ h => h, fun x H2 y => ?_⟩
              obtain ⟨x2, ok2, rv2⟩ := yl x H2 y
              obtain ⟨hD2, hDn2⟩ := x2.beside hDl hDn
              refine ⟨ρw, μ', st', p, ρ', en'.ext x2, ok2, rv2, hgp, fun σ2 en2 t2 => ⟨wipe_touch t2 hsub, ρ', μ', st', en2, ok2, ?_⟩⟩
              cases ht2 : t ρ' st' with
              | bad => rw [ht2] at out2; exact out2.elim
              | err c s => rw [ht2] at out2; exact out2.elim
              | ok b s3 =>
                rw [ht2] at out2
                intro μ3 H3 x3 ok3
                obtain ⟨hD3, hDn3⟩ := x3.beside hD2 hDn2
                have x13 := (x'.trans x2).trans x3
                have rvs3 := (rvs.ext x2).ext x3
                have en3 := (en'.ext x2).ext x3
                cases b with
                | false =>
                  rw [if_neg Bool.false_ne_true]
                  exact ⟨n, Nat.lt_succ_self n, μ3, s3, accP, acc, en3, ok3, x13, hDn3, hD3, rvs3, Nat.le_succ_of_le hlen, out2⟩
                | true =>
                  rw [if_pos rfl]
                  have out3 : Out X W μ1 H1 T Q (((me ρ' s3).calm.bind fun y s => (compV f g t me ρw n (i + 1) s).bind fun ys s => .ok (y :: ys) s).bind fun xs s => .ok (.lst (accP ++ xs)) s) := out2
                  refine ⟨ρ', μ3, s3, en2.ext x3, ok3, ?_⟩
                  cases he2 : me ρ' s3 with
                  | bad => rw [he2] at out3; exact out3.elim
                  | err c s => rw [he2] at out3; exact out3.elim
                  | ok q s4 =>
                    rw [he2] at out3
                    intro μ4 H4 x4 ok4 v rv4
                    obtain ⟨hD4, hDn4⟩ := x4.beside hD3 hDn3
                    have hlt : i < szl := Nat.le_of_ble_eq_true hb
                    refine ⟨acc, hD4, by rw [sizeLine_eq]; exact Nat.lt_of_le_of_lt hlen hlt, n, Nat.lt_succ_self n, μ4, s4, accP ++ [q], acc ++ [v], (en3.ext x4).ex0 (Ex0.side hD4), ok4.side hD4 hDn4, (x13.trans x4).side hD, hDn4, upd_same, ?_, by rw [List.length_append, List.length_singleton]; omega, ?_⟩
                    · exact ((rvs3.ext x4).append (.cons rv4 .nil)).ex0 (Ex0.side hD4)
                    · have e : (fun (ys : List PV) (s : Stt) => (Res.ok (.lst ((accP ++ [q]) ++ ys)) s : Res PV)) = fun ys s => (Res.ok (q :: ys) s).bind fun xs s => .ok (.lst (accP ++ xs)) s := by
                        funext ys s
                        show Res.ok _ _ = Res.ok _ _
                        rw [List.append_assoc]; rfl
                      rw [e, ← Res.bind_assoc]
                      exact out3
theorem se_comp {elt tg iter : Expr} {ifs : List Expr} {scope : Scope} {own : List (Str × Nat)} {src : Ix} {g : Gx} {is : List Nat} {t : Tx} {me : Ex} (hc : X.calm = true) (hN : X.N.Nodup) (hi : SI X W tg iter src) (ok : BlkOk X.N X.env.scope scope own)
    (hg : ∀ (s : Shared) (H : Hp) (C : Addr) (cl : List (Str × Addr)) (fp : List Addr), SG (X.blk s H scope (compEnvC scope cl C X.env) fp) W tg is g) (hsub : ∀ i ∈ is, i ∈ own.map (·.2))
    (ht : ∀ (s : Shared) (H : Hp) (C : Addr) (cl : List (Str × Addr)) (fp : List Addr), PTs (X.blk s H scope (compEnvC scope cl C X.env) fp) ifs (rdT (X.blk s H scope (compEnvC scope cl C X.env) fp) W t))
    (he : ∀ (s : Shared) (H : Hp) (C : Addr) (cl : List (Str × Addr)) (fp : List Addr), SE (X.blk s H scope (compEnvC scope cl C X.env) fp) W elt me) (hs : ∀ x, foldedSetIterable iter X.env x = pure x) :
    SE X W (.ListComp elt [⟨tg, iter, ifs, 0⟩] scope pos) (eComp (own.map (·.2)) g src t me) := by
  refine PE.imp (pe_fz (pe_lc (g := rdG X W is g) (tt := rdTB X W t) (te := rdEB X W me) hc hN hi ok hg
    (fun s H C cl fp => PTs.imp (ht s H C cl fp) fun σ H Q ⟨ρ, μ, st, en, ok, out⟩ => ⟨noX, ρ, μ, st, takes_noX _, en, ok, out⟩)
    (fun s H C cl fp => PE.imp (he s H C cl fp) fun σ H Q ⟨ρ, μ, st, en, ok, out⟩ => ⟨noX, ρ, μ, st, takes_noX _, en, ok, out⟩) hs)) fun σ H Q h => comp_rd hsub (fun _ _ q => q) h
/-- behind a statement something is locked -/
def lockD (D : Ends) : Ends := { D with nx := fun σ H => D.nx σ H ∨ ∃ p u, H p = some u ∧ Mut (some u) ∧ ∀ od, D.nx σ (upd H p (.frz od u)) }
theorem PS.impL {s0 : Stmt} {t t' : TS} (h : PS X s0 t) (i : ∀ D σ H, t' D σ H → t (lockD D) σ H) : PS X s0 t' := ⟨fun pins s σ H D I q => thn (h.run pins s σ H (lockD D) I (i _ _ _ q)) fun f s' x => by
  cases f with
  | next =>
    obtain ⟨σ', H', I', q'⟩ := x
    rcases q' with q' | ⟨p, u, hp, mu, q'⟩
    · exact ⟨σ', H', I', q'⟩
    · obtain ⟨od, I2⟩ := I'.lock hp mu
      exact ⟨σ', _, I2, q' od⟩
  | brk => exact x
  | cont => exact x
  | ret u => exact x⟩
theorem asg_wish {i : Nat} {m : Ex} {D : Ends} {σ : L2.St} {H : Hp} (h : rdS X W (sAsg (Ev.gN i) m) D σ H) : rdE X W m σ H (fun x H1 => D.nx (σ.set i (some x)) H1) := by
  obtain ⟨T, ρ, μ, st, tk, en, ok, out⟩ := h
  exact ⟨T, ρ, μ, st, tk, en, ok, OutG.mono (OutG.sbind out) fun μ1 H1 p s1 x1 ok1 h1 v rv => OutS.nxNow h1 ((en.ext x1).set rv) ok1⟩
theorem lock_wish {i : Nat} {D : Ends} {σ : L2.St} : ∀ x H, fz (fun x H1 => D.nx (σ.set i (some x)) H1) x H → (lockD D).nx (σ.set i (some x)) H := fun x H q => by
  rcases q with q | ⟨p, u, rfl, hp, mu, q⟩
  · exact .inl q
  · exact .inr ⟨p, u, hp, mu, q⟩
/-- name = [.. for ..] on one line -/
theorem ss_setLc {i : Nat} {y : Str} {py spos : Pos} {elt tg iter : Expr} {ifs : List Expr} {scope : Scope} {own : List (Str × Nat)} {src : Ix} {g : Gx} {is : List Nat} {t : Tx} {me : Ex} (hy : X.N[i]? = some y) (hyl : X.env.scope.names.lookup y = some .local)
    (hsw : swapsWith (.ListComp elt [⟨tg, iter, ifs, 0⟩] scope pos) (some (.Name y py)) spos.line X.env = pure true) (hc : X.calm = true) (hN : X.N.Nodup) (hi : SI X W tg iter src) (ok : BlkOk X.N X.env.scope scope own)
    (hg : ∀ (s : Shared) (H : Hp) (C : Addr) (cl : List (Str × Addr)) (fp : List Addr), SG (X.blk s H scope (compEnvC scope cl C X.env) fp) W tg is g) (hsub : ∀ i ∈ is, i ∈ own.map (·.2))
    (ht : ∀ (s : Shared) (H : Hp) (C : Addr) (cl : List (Str × Addr)) (fp : List Addr), PTs (X.blk s H scope (compEnvC scope cl C X.env) fp) ifs (rdT (X.blk s H scope (compEnvC scope cl C X.env) fp) W t))
    (he : ∀ (s : Shared) (H : Hp) (C : Addr) (cl : List (Str × Addr)) (fp : List Addr), SE (X.blk s H scope (compEnvC scope cl C X.env) fp) W elt me) (hs : ∀ x, foldedSetIterable iter X.env x = pure x) :
    SS X W (.Assign [.Name y py] (.ListComp elt [⟨tg, iter, ifs, 0⟩] scope pos) spos) (sAsg (Ev.gN i) (eComp (own.map (·.2)) g src t me)) :=
  PS.impL (ps_setLc (g := rdG X W is g) (tt := rdTB X W t) (te := rdEB X W me) hc hN hy hyl hsw hi ok hg
    (fun s H C cl fp => PTs.imp (ht s H C cl fp) fun σ H Q ⟨ρ, μ, st, en, ok, out⟩ => ⟨noX, ρ, μ, st, takes_noX _, en, ok, out⟩)
    (fun s H C cl fp => PE.imp (he s H C cl fp) fun σ H Q ⟨ρ, μ, st, en, ok, out⟩ => ⟨noX, ρ, μ, st, takes_noX _, en, ok, out⟩) hs) fun D σ H h => comp_rd hsub lock_wish (asg_wish h)
theorem sts_nil : PTs X [] (rdT X W Ev.tYes) := PTs.imp pts_nil fun σ H Q ⟨T, ρ, μ, st, tk, en, ok, out⟩ => out.now ok
theorem sts_one {c : Expr} {t : Tx} (h : STt X W c t) : PTs X [c] (rdT X W t) := pts_one h
end
end Ev
/-! Ev11: what changes an object of the store. -/
namespace Ev
open PySem PySem.Spec PyProof.Rows L2
/-- l.append(v) -/
def eApp (o v : Ex) : Ex := fun ρ s => (o ρ s).bind fun o s => match o with
  | .ref k => (match s.objs[k]? with
    | some (.lst _) => (v ρ s).bind fun v s => match s.objs[k]? with
      | some (.lst l) => if Nat.blt l.length szl then .ok .non (s.set k (.lst (l ++ [v]))) else .bad
      | _ => .bad
    | _ => .bad)
  | _ => .bad
section
variable {X : Cx} {W : Wd} {μ μ1 : List Addr} {H H1 : Hp} {st : Stt} {pos : Pos}
theorem blt_line {n : Nat} (h : Nat.blt n szl = true) : n < sizeLine := by
  rw [sizeLine_eq]
  exact Nat.le_of_ble_eq_true h
/-- what an object of the store is -/
theorem ref_ob {k : Nat} {v : V} {o : Ob} (ok : StOk X.K W μ st H) (r : RV X.K μ H (.ref k) v) (h : st.objs[k]? = some o) : ∃ a, v = .ref a ∧ μ[k]? = some a ∧ RO X.K W μ H a o := by
  cases r with
  | @ref _ a hk =>
    obtain ⟨o', ho, ro⟩ := ok.ob hk
    rw [h] at ho
    cases ho
    exact ⟨a, rfl, hk, ro⟩
theorem se_app {o e : Expr} {mo me : Ex} {apos : Pos} (ho : SE X W o mo) (he : SE X W e me) (hbase : attributeBase o "append" X.env (eval o X.env) = eval o X.env)
    (hfew : ((backTo pos (starEach [e] X.env)).all (fun x => !x.1) && (backToKw pos (keywordEach [] X.env)).all (fun x => x.1.isSome)
      && decide ([e].length + ([] : List Keyword).length + (if ([] : List Keyword).isEmpty then 0 else 1) < 30)) = true)
    (hline : (apos.endLine == pos.line) = true) (hs : starEach [e] X.env = (false, eval e X.env) :: starEach [] X.env) : SE X W (.Call (.Attribute o "append" apos) [e] [] pos) (eApp mo me) := by
  refine PE.imp (pe_bm F.plainAttrs_list F.slot_list_append F.type_list_append mt_append ho (pa_cons he pa_nil hs) hbase hfew hline hs rfl) fun σ H Q ⟨T, ρ, μ, st, tk, en, ok, out⟩ => ?_
  refine ⟨T, ρ, μ, st, tk, en, ok, out.bind.mono fun μ1 H1 p s1 x1 ok1 h1 v rv => ?_⟩
  cases p with
  | ref k =>
    dsimp only at h1
    split at h1
    · rename_i l0 hk0
      obtain ⟨a, rfl, hk, xs0, hx0, _⟩ := ref_ob ok1 rv hk0
      refine ⟨.inl ⟨rfl, xs0, .of hx0⟩, T, ρ, μ1, s1, tk, en.ext x1, ok1, OutG.mono (OutG.bind h1) fun μ2 H2 q s2 x2 ok2 h2 w rw => ?_⟩
      split at h2
      · rename_i l hk2
        split at h2
        · rename_i hl
          have hk' := x2.get hk
          obtain ⟨a', ea, hk3, xs, hx, rs⟩ := ref_ob ok2 (.ref hk') hk2
          cases ea
          refine ⟨a, xs, w, rfl, rfl, hx, by rw [← rs.length]; exact blt_line hl, ?_⟩
          obtain ⟨ok3, x3⟩ := ok2.set (o := .lst (l ++ [q])) (u := .lst (xs ++ [w])) hk' ⟨_, upd_same, (rs.append (.cons rw .nil)).ex0 (Ex0.side hx)⟩
          exact h2 μ2 _ x3 ok3 _ .non
        · exact (show False from h2).elim
      · exact (show False from h2).elim
    · exact (show False from h1).elim
  | _ => exact (show False from h1).elim
/-! ### o[i] = v -/
def rdSet (X : Cx) (W : Wd) : TSet := fun o i v H Q => ∃ μ st po pi pv st', StOk X.K W μ st H ∧ RV X.K μ H po o ∧ RV X.K μ H pi i ∧ RV X.K μ H pv v ∧ setIt st po pi pv = some st' ∧ ∀ μ' H', Ext μ H μ' H' → StOk X.K W μ' st' H' → Q H'
theorem Ex0.sideD {D : Addr} {xs : List (Key × V)} {u : HO} (hD : H D = some (.dK xs)) : Ex0 μ H μ (upd H D u) :=
  ⟨List.prefix_refl _, fun b xs' q => by rw [upd_ne fun z => by rw [z, hD] at q; cases q]; exact q, fun b o v q => by rw [upd_ne fun z => by rw [z, hD] at q; cases q]; exact q⟩
theorem ixN_eq (n : Nat) (i : Int) : Ev.ixN n i = L2.ixN n i := rfl
theorem set_ok (hu : X.A.units + 1 < cLine) : PSet X (rdSet X W) := by
  intro pins s σ H o i v ov iv u Q I ro ri rv ⟨μ, st, po, pi, pv, st', ok, r1, r2, r3, hz, k⟩
  unfold setIt at hz
  split at hz
  · rename_i kk
    split at hz
    · rename_i l n hk
      obtain ⟨a, rfl, hka, xs, hx, rs⟩ := ref_ob ok r1 hk
      cases r2
      cases hj : Ev.ixN l.length n with
      | none => rw [hj] at hz; cases hz
      | some j =>
        rw [hj] at hz
        cases hz
        refine set_list pins s σ H _ _ v ov iv u Q I ro ri rv ⟨a, xs, n, j, rfl, rfl, hx, by rw [← ixN_eq, ← rs.length]; exact hj, ?_⟩
        obtain ⟨ok3, x3⟩ := ok.set (o := .lst (l.set j pv)) (u := .lst (xs.set j v)) hka ⟨_, upd_same, (rs.set r3 j).ex0 (Ex0.side hx)⟩
        exact k μ _ x3 ok3
    · rename_i pi d hk
      obtain ⟨a, rfl, hka, kvs, hx, rs, nd⟩ := ref_ob ok r1 hk
      split at hz
      · rename_i hc
        rw [Bool.and_eq_true] at hc
        cases hz
        obtain ⟨key, hk1, rfl⟩ := key_of_rv hc.1 r2
        refine set_dict hu pins s σ H _ _ v ov iv u Q I ro ri rv ⟨a, _, rfl, DPut.k hx (by rw [← rs.length]; exact blt_line hc.2), ?_⟩
        obtain ⟨ok3, x3⟩ := ok.set (o := .dct (dPut d _ pv)) (u := .dK (putK kvs key v)) hka ⟨_, upd_same, (put_of hk1 r3 rs nd).ex0 (Ex0.sideD hx), nd_putK nd⟩
        exact k μ _ x3 ok3
      · cases hz
    · cases hz
  · cases hz
theorem RKs.ex0' {K : PySem.W.Frag} {μ' : List Addr} {H' : Hp} (e : Ex0 μ H μ' H') {p : List (PV × PV)} {v : List (Key × V)} (h : RKs K μ H p v) : RKs K μ' H' p v := h.ex0 e
theorem ss_put {o i e : Expr} {mo mi me : Ex} {tpos : Pos} (hu : X.A.units + 1 < cLine) (he : SE X W e me) (ho : SE X W o mo) (hi : SE X W i mi)
    (ha : ∀ v, assign (.Subscript o i tpos) X.env v = (do
      let ov ← holding [v] (eval o X.env)
      let iv ← holding [v, ov] (eval i X.env)
      standAt tpos
      holding [v, ov, iv] (setItem ov iv v)
      release [v, ov, iv] []))
    (hs : swapsWithSole [.Subscript o i tpos] e pos.line X.env = pure false) (hw : swappedStores [.Subscript o i tpos] e X.env = pure none) (h1 : (assignEach [.Subscript o i tpos] X.env).map (·.2) = [assign (.Subscript o i tpos) X.env]) :
    SS X W (.Assign [.Subscript o i tpos] e pos) (sPut mo mi me) := by
  refine PS.imp (ps_asg he (pg_sub ho hi (set_ok (W := W) hu) ha) hs hw h1) fun D σ H ⟨T, ρ, μ, st, tk, en, ok, out⟩ => ?_
  refine ⟨T, ρ, μ, st, tk, en, ok, out.sbind.mono fun μ1 H1 p s1 x1 ok1 h1 v rv => ?_⟩
  refine ⟨T, ρ, μ1, s1, tk, en.ext x1, ok1, OutG.mono (OutG.sbind h1) fun μ2 H2 q s2 x2 ok2 h2 w rw => ?_⟩
  refine ⟨T, ρ, μ2, s2, tk, (en.ext x1).ext x2, ok2, OutG.mono (OutG.sbind h2) fun μ3 H3 r s3 x3 ok3 h3 z rz => ?_⟩
  cases hst : setIt s3 q r p with
  | none => rw [hst] at h3; exact h3.elim
  | some s4 =>
    rw [hst] at h3
    exact ⟨μ3, s3, q, r, p, s4, ok3, rw.ext x3, rz, (rv.ext x2).ext x3, hst, fun μ' H' x' ok' => h3 μ' H' _ x' ok' ((((en.ext x1).ext x2).ext x3).ext x')⟩
end
end Ev
/-! Ev12: defs and their calls. -/
namespace Ev
open PySem PySem.Spec PyProof.Rows L2
/-- what a call of F may end in -/
def OutC (K : PySem.W.Frag) (W : Wd) (μ : List Addr) (H : Hp) (Q : VK) (E : XK) : Res PV → Prop
  | .ok p s => ∀ μ' H' v, Ext μ H μ' H' → StOk K W μ' s H' → RV K μ' H' p v → Q v H'
  | .err c s => ∀ μ' H' d, Ext μ H μ' H' → StOk K W μ' s H' → E (.ref (W.exc c)) d H'
  | .bad => False
/-- a def's promise: it does as F -/
def spF (K : PySem.W.Frag) (W : Wd) (F : Fx) : Sp := fun vs H Q E => ∃ μ st ps, StOk K W μ st H ∧ RVs K μ H ps vs ∧ OutC K W μ H Q E (F ps st)
abbrev FnE (P : Program) (w : World) (K : PySem.W.Frag) (mg : Str → Option Value) (base : Heap) (W : Wd) (k : Nat) (f : Addr) (fd : FuncData) (ps : List Str) (F : Fx) : Prop := FnOk P w K mg base (L2.CX P w) k f fd ps (spF K W F)
section
variable {X : Cx} {W : Wd} {k : Nat} {f : Addr} {fd : FuncData} {ps : List Str} {F : Fx} {x : Str} {p pos : Pos}
theorem se_call {e : Expr} {es : List Expr} {ml : Lx} (FO : FnE X.prog X.w X.K X.mg X.base W k f fd ps F) (hr : Room k X.A) (hg : Gl X x) (hm : X.mg x = some (.ref f)) (hk : PySem.W.keepIn X.K (.ref f) = true) (hb : Binds X.K fd ps [])
    (ha : SA X W (e :: es) ml) (hdb : (x == ("__debug__" : Str)) = false) (he : starEach (e :: es) X.env = (false, eval e X.env) :: starEach es X.env) (hpl : (backTo pos (starEach es X.env)).any (·.1) = false) : SE X W (.Call (.Name x p) (e :: es) [] pos) (eCall F ml) := by
  refine ⟨fun pins s σ H Q I ⟨T, ρ, μ, st, tk, en, ok, out⟩ => ?_⟩
  refine (pe_callS FO hr hg hm hk hb (fun σ => passAt tk σ) ha hdb he hpl).run pins s σ H Q I ⟨T, ρ, μ, st, tk, en, ok, OutG.mono (OutG.bind out) fun μ1 H1 ps s1 x1 ok1 h1 vs rvs => ⟨μ1, s1, ps, ok1, rvs, ?_⟩⟩
  cases hr : F ps s1 with
  | ok v s2 => rw [hr] at h1; exact fun μ' H' v' x' ok' r' => h1 μ' H' x' ok' v' r'
  | err c s2 => rw [hr] at h1; exact fun μ' H' d x' ok' => h1 μ' H' σ d I.len x' ok'
  | bad => rw [hr] at h1; exact h1.elim
theorem se_call0 (FO : FnE X.prog X.w X.K X.mg X.base W k f fd ps F) (hr : Room k X.A) (hg : Gl X x) (hm : X.mg x = some (.ref f)) (hk : PySem.W.keepIn X.K (.ref f) = true) (hb : Binds X.K fd ps [])
    (hdb : (x == ("__debug__" : Str)) = false) : SE X W (.Call (.Name x p) [] [] pos) (eCall F lNil) := by
  refine ⟨fun pins s σ H Q I ⟨T, ρ, μ, st, tk, en, ok, out⟩ => ?_⟩
  refine wpAny_Call_Name_kw (ld_glob I hg hm ?_ hdb)
  refine PySem.W.callWith_K0 I.kIn hk (run_fnS (us := []) (vs := []) (E := fun σ => WE T σ) FO hr hb (passAt tk σ) I .nil ⟨μ, st, [], ok, .nil, ?_⟩)
  have out' : Out X W μ H T Q (F [] st) := out
  cases hr : F [] st with
  | ok v s2 => rw [hr] at out'; exact fun μ' H' v' x' ok' r' => out' μ' H' x' ok' v' r'
  | err c s2 => rw [hr] at out'; exact fun μ' H' d x' ok' => out' μ' H' σ d I.len x' ok'
  | bad => rw [hr] at out'; exact out'.elim
end
theorem start_env {K : PySem.W.Frag} {μ : List Addr} {H : Hp} {N : List Str} {ps : List PV} {vs : List V} (r : RVs K μ H ps vs) : EnvOk K μ H (ps.map some ++ List.replicate (N.length - ps.length) none) (L2.start N vs) := by
  refine ⟨?_, fun i p h => ?_⟩
  · unfold L2.start
    rw [List.length_append, List.length_append, List.length_map, List.length_map, List.length_replicate, List.length_replicate, r.length]
  · unfold L2.start
    by_cases hi : i < ps.length
    · rw [List.getElem?_append_left (by simpa using hi), List.getElem?_map] at h
      cases hq : ps[i]? with
      | none => rw [hq] at h; cases h
      | some q =>
        rw [hq] at h
        cases h
        obtain ⟨v, hv, rv⟩ := r.get hq
        refine ⟨v, ?_, rv⟩
        rw [List.getElem?_append_left (by rw [List.length_map, ← r.length]; exact hi), List.getElem?_map, hv]
        rfl
    · rw [List.getElem?_append_right (by simpa using hi), List.getElem?_replicate] at h
      split at h <;> cases h
section
variable {P : Program} {w : World} {K : PySem.W.Frag} {mg : Str → Option Value} {base : Heap} {W : Wd}
/-- A DEF: if its body does as m in every context of a call, the def does as mkFn .. m -/
theorem fn_ev {x qual : Str} {params : Arguments} {body : List Stmt} {scope : Scope} {f : Addr} {fd : FuncData} {N ps : List Str} {k : Nat} {m : Sx} {dvs : List V} {kws : List (Str × V)} (F : FunD K x qual params body scope dvs kws f fd) (S : FnScope N ps scope)
    (hb : ∀ (cdv : Value) (A : Around) (outer : List PySem.Env) (s : Shared) (H : Hp) (E : XK), Room k (A.deeper (envOfC qual scope s.heap.objs.size f cdv)) → SSs (cxOf (L2.CX P w) P w K mg base N qual scope f cdv A outer s H E) W body m) :
    FnE P w K mg base W (k + 1) f fd ps (mkFn N.length ps.length m) := by
  refine F.ok S (fun vs H Q E ⟨μ, st, qs, ok, rvs, out⟩ => ?_) fun cdv A outer s H vs Q E hr ⟨μ, st, qs, ok, rvs, out⟩ => ⟨_, hb cdv A outer s H E hr, ?_⟩
  · unfold mkFn at out
    split at out
    · rename_i hl
      rw [← rvs.length]
      exact eq_of_beq hl
    · exact out.elim
  · unfold mkFn at out
    split at out
    · rename_i hl
      have hl' : qs.length = ps.length := eq_of_beq hl
      have en := start_env (N := N) rvs
      rw [hl'] at en
      refine ⟨fun cls d _ H' => E cls d H', _, μ, st, takes_of rfl rfl rfl rfl, en, ok, ?_⟩
      cases hm : m (qs.map some ++ List.replicate (N.length - ps.length) none) st with
      | nx ρ s2 => rw [hm] at out; exact fun μ' H' σ' x' ok' en' => out μ' H' _ x' ok' .non
      | rt v s2 => rw [hm] at out; exact out
      | err c s2 => rw [hm] at out; exact fun μ' H' σ' d hl x' ok' => out μ' H' d x' ok'
      | bad => rw [hm] at out; exact out
    · exact out.elim
end
end Ev
/-! Ev13: generator expressions: their frame, their turns. -/
namespace Ev
open PySem PySem.Spec PyProof.Rows L2
abbrev PEnv := PySem.Env
/-- the context of a generator expression's frame, woken in A -/
def gxOf (X : Cx) (A : Around) (s : Shared) (H : Hp) (cenv : PEnv) (ex : List Addr) : Cx :=
  { X with A := A.deeper cenv, s_0 := s, H_0 := H, env := cenv, outer := X.stack, stack := cenv :: X.stack, ex := ex, fn := fun _ => false, calm := true, pn := [], xe := fun _ _ => False }
abbrev gxEnv (X : Cx) (scope : Scope) (C : Addr) (code : Value) : PEnv := genEnv scope (cloFrom X.env.cells scope.names []) C code builtinsNs X.env
theorem over_gx {A : Around} {elt : Expr} {gens : List Comprehension} {scope : Scope} {pos : Pos} {it acc : Value} {cenv : PEnv} : A.over (.compLoop (.GeneratorExp elt gens scope pos) 0 it acc cenv) [] = A.deeper cenv := by
  first
    | rfl
    | (obtain ⟨hd, d, fr, gs, u⟩ := A; simp [Around.over, Around.deeper, marksOver, frameCount, unitsOf, envsOf, guardsOf, pushEnvs, pushGuards, Code.envs, Code.env?, Code.isFrame, Code.guards, Code.isGuard, Code.weight, Code.frames, Code.isCreation, Code.isCaller, Code.cUnits])
theorem over_gx0 {A : Around} {elt : Expr} {gens : List Comprehension} {scope : Scope} {pos : Pos} {it acc : Value} {cenv : PEnv} : A.over (.compStart (.GeneratorExp elt gens scope pos) 0 it acc cenv) [] = A.deeper cenv := by
  first
    | rfl
    | (obtain ⟨hd, d, fr, gs, u⟩ := A; simp [Around.over, Around.deeper, marksOver, frameCount, unitsOf, envsOf, guardsOf, pushEnvs, pushGuards, Code.envs, Code.env?, Code.isFrame, Code.guards, Code.isGuard, Code.weight, Code.frames, Code.isCreation, Code.isCaller, Code.cUnits])
section
variable {X : Cx} {pins : List (Addr × Obj)} {σ : L2.St} {H : Hp} {s : Shared}
theorem gx_start {A : Around} {scope : Scope} {own : List (Str × Nat)} {code : Value} {ex : List Addr} {h' : Heap} {s2 : Shared} {it : Value} (I : Inv X pins σ H s) (ok : BlkOk X.N X.env.scope scope own) (hN : X.N.Nodup) (hcell : ∀ y ∈ scope.names, y.2 ≠ .cell)
    (hA : A.handled = none) (hfr : A.frames = some X.stack) (hfp : ∀ b ∈ ex, FpOk X pins H b ∧ b < s.heap.objs.size) (hns : h'.Ns s.heap.objs.size (fun y => if y = ".0" then some it else none)) (hsb : Heap.SameBut s.heap.objs.size (s.heap.push { cls := .type "frame", data := .dict #[] }) h')
    (hk : ∀ b o, h'.get? b = some o → s2.heap.get? b = some o) (hos : s2.os = s.os) (hb : AllBare s2.gens) :
    Inv (gxOf X A s H (gxEnv X scope s.heap.objs.size code) ex) [] (L2.wipe σ (own.map (·.2))) H s2 := by
  have hfree : ∀ y ∈ scope.names, y.2 = .free → ∃ c, X.env.cells.lookup y.1 = some c := fun y hy e => by
    rcases ok.free y hy e with k | k
    · exact I.ok.has _ (.inl k)
    · exact I.ok.has _ (.inr k)
  have kp0 : ∀ b o, s.heap.get? b = some o → h'.get? b = some o := fun b o e => hsb.extBut b o (Nat.ne_of_lt (Heap.lt_size e)) (Heap.get?_push_of_some _ e)
  have kp : ∀ b o, s.heap.get? b = some o → s2.heap.get? b = some o := fun b o e => hk b o (kp0 b o e)
  have cm : ∀ {y c}, (cloFrom X.env.cells scope.names []).lookup y = some c → X.env.cells.lookup y = some c ∧ c < s.heap.objs.size := fun {y c} e => by
    rcases cloFrom_mem (PySem.mem_of_lookup e) with hm | ⟨h1, h2⟩
    · cases hm
    · obtain ⟨c1, hc⟩ := hfree _ h1 rfl
      have hc : X.env.cells.lookup y = some c1 := hc
      have e2 : c = c1 := by
        rw [h2, hc] <;> rfl
      rw [e2]
      obtain ⟨w, z⟩ := I.cell _ _ hc
      exact ⟨hc, z.lt⟩
  have look : ∀ {y}, scope.names.lookup y = some .free → ∃ c, (cloFrom X.env.cells scope.names []).lookup y = some c := fun {y} hl => by
    have hy : (y, NameKind.free) ∈ scope.names := PySem.mem_of_lookup hl
    exact mem_lookup (cloFrom_has (cells := X.env.cells) (acc := []) hy)
  refine ⟨⟨I.ok.mod, ok.kind, I.ok.glob, rfl, Nat.le_refl _, fun y z c e1 e2 => I.ok.inj y z c (cm e1).1 (cm e2).1, fun y hy => ?_, fun y c z _ => (by cases z), fun _ => hA, Around.frames_deeper hfr, .inr ⟨rfl, rfl⟩, fun b hb => ⟨Nat.ne_of_lt (hfp b hb).2, fun y c e z => ?_⟩,
      I.bs, Nat.le_trans I.ok.bsz I.sz, fun b o e hb => ?_, fun b hb z => ?_, I.stack, I.stkFree⟩,
    hos, hb, Un.kept kp, ⟨_, hns.keeps hk, fun i y v e1 e2 e3 => ?_⟩, fun y c e => ?_, I.hok.fresh (Nat.le_refl _), fun y c e => ?_, fun q hq => absurd (show q ∈ ([] : List (Addr × Obj)) ++ [] from hq) (by simp), I.hok.kept kp, by rw [wipe_length]; exact I.len⟩
  · have hy : scope.names.lookup y = some .cell ∨ scope.names.lookup y = some .free := hy
    rcases hy with hy | hy
    · exact absurd rfl (hcell _ (PySem.mem_of_lookup hy))
    · exact look hy
  · exact (hfp b hb).1.2.2.2.2.1 y c (cm e).1 z
  · rcases (hfp b hb).1.2.2.2.1 with z | z
    · exact I.ok.noex b o e z
    · exact absurd (Nat.lt_of_lt_of_le (Heap.lt_size e) (Nat.le_trans I.ok.bsz z)) (Nat.lt_irrefl _)
  · rcases List.mem_cons.mp (I.stkSub b z) with z | z
    · exact (hfp b hb).1.2.1 z
    · exact (hfp b hb).1.2.2.1 z
  · obtain ⟨e2, hne⟩ := wipe_some e2
    have no : ∀ k', scope.names.lookup y = some k' → ¬ (k' = .local ∨ k' = .cell) := fun k' e hh => by
      rcases ok.own _ (PySem.mem_of_lookup e) hh with e' | e'
      · obtain ⟨p, hp, hpy⟩ := List.mem_map.mp e'
        have e3 := ok.ix p hp
        have : p.1 = y := hpy
        rw [this] at e3
        exact hne (List.mem_map.mpr ⟨p, hp, nodup_ix hN e3 e1⟩)
      · exact e' (List.mem_of_getElem? e1)
    have e3 : Vis scope y := e3
    rcases e3 with k | k | k
    · exact absurd (.inl rfl) (no _ k)
    · exact absurd (.inr rfl) (no _ k)
    · obtain ⟨m, hn, hl⟩ := I.loc
      have hvis : Vis X.env.scope y := (ok.free _ (PySem.mem_of_lookup k) rfl).elim (fun k => .inr (.inl k)) (fun k => .inr (.inr k))
      obtain ⟨w', r, q⟩ := hl i y v e1 e2 hvis
      obtain ⟨c2, h2⟩ := look k
      refine ⟨w', r, .inr ⟨.inr k, c2, h2, ?_⟩⟩
      have c1 := (cm h2).1
      rcases q with ⟨k', _⟩ | ⟨_, c3, e', z⟩
      · have k' : X.env.scope.names.lookup y = some .local := k'
        rcases ok.free _ (PySem.mem_of_lookup k) rfl with k2 | k2 <;> rw [show X.env.scope.names.lookup y = _ from k2] at k' <;> cases k'
      · rw [c1] at e'
        cases e'
        exact z.keeps kp
  · obtain ⟨w', z⟩ := I.cell y c (cm e).1
    exact ⟨w', z.keeps kp⟩
  · exact I.freeC y c (cm e).1
/-- behind a wait: all but what stands at ch is kept -/
theorem waited {s' : Shared} {ch : List Addr} (I : Inv X pins σ H s) (k : ∀ b o, b ∉ ch → s.heap.get? b = some o → s'.heap.get? b = some o) (ht : ∀ b ∈ ch, (∃ o, s.heap.get? b = some o) → ∃ o, s'.heap.get? b = some o) (hos : s'.os = s.os) (hb : AllBare s'.gens) (hf : ∀ b ∈ ch, FpOk X pins H b) : Inv X pins σ H s' := by
  have nit : ∀ b u, H b = some u → b ∉ ch := fun b u e z => by
    have q := (hf b z).1
    rw [q] at e; cases e
  refine I.call' (ch := ch) hos ⟨fun b o e _ _ hx => k b o hx e, fun b o e _ _ hx => ⟨o.slots, k b o hx e⟩, fun _ _ _ n _ => n, fun b o e hx => ⟨o, k b o hx e⟩, fun _ _ q => q, fun _ _ _ q => q, fun _ ps q => ⟨#[], by rw [q]; simp⟩⟩ (fun b u e => ?_) hb fun b hb => ⟨(hf b hb).2.2.2.1, (hf b hb).2.1, (hf b hb).2.2.2.2.1, (hf b hb).2.2.2.2.2⟩
  refine (I.hok b u e).stay (fun c v hc q => k c v ?_ q) (fun _ q => q) fun _ _ q => q
  rcases hc with rfl | hc
  · exact nit _ _ e
  · exact nit _ _ hc
end
/-! ### the turns -/
section
variable {X : Cx} {W : Wd}
/-- how the turns may go on: fuel, index, store -/
structure GenK (f : Src) (g : Gx) (t : Tx) (me : Ex) (ρw : Env) (Kn : Nat → Nat → Nat → Stt → Prop) (Yd : Nat → Nat → Nat → PV → Stt → Prop) (Fin : Nat → Stt → Prop) : Prop where
  step : ∀ N n i st, n ≤ N → Kn N n i st → ∃ m l, n = m + 1 ∧ f st = some l ∧ (l[i]? = none → Fin N st) ∧ ∀ x, l[i]? = some x → ∃ ρ' c s1, g x ρw = some ρ' ∧ t ρ' st = .ok c s1 ∧ (c = false → Kn N m (i + 1) s1) ∧ (c = true → ∃ y s2, me ρ' s1 = .ok y s2 ∧ Yd (N - 1) m (i + 1) y s2)
/-- where a turn of the frame begins, where it stands when it yields -/
structure GxAt (X : Cx) (W : Wd) (Φ : Heap → List Addr → Hp → Prop) (X' : Cx) (μ1 : List Addr) (H1 : Hp) (ρw : Env) (σw : L2.St) (fp Ss : List Addr) (s₀ s : Shared) (μ' : List Addr) (st' : Stt) (H' : Hp) : Prop where
  inv : Inv X' (pinsAt Ss s₀.heap) σw H' s
  en : EnvOk X.K μ' H' ρw σw
  ok : StOk X.K W μ' st' H'
  ext : Ext μ1 H1 μ' H'
  nfp : ∀ b ∈ fp, H' b = none
  phi : Φ s₀.heap μ' H'
/-- what the consumer may have done meanwhile -/
structure Wake (Ss : List Addr) (s s' : Shared) : Prop where
  keep : ∀ b o, b ∉ Ss → s.heap.get? b = some o → s'.heap.get? b = some o
  there : ∀ b ∈ Ss, ∃ o, s'.heap.get? b = some o ∧ ∀ v, o.data ≠ .cell v
  os : s'.os = s.os
  bare : AllBare s'.gens
theorem FpOk.nil {Y : Cx} {pins : List (Addr × Obj)} {H : Hp} {b : Addr} (h : FpOk Y pins H b) (hp : Y.pn = []) : FpOk Y [] H b := ⟨h.1, h.2.1, h.2.2.1, h.2.2.2.1, h.2.2.2.2.1, fun p q => by rw [hp] at q; simp at q⟩
/-- the consumer's own objects: younger than the frame, apart from all -/
def Apt (X' : Cx) (Ss : List Addr) : Prop := ∀ b ∈ Ss, X'.s_0.heap.objs.size ≤ b ∧ b ≠ X'.env.locals ∧ b ∉ X'.fs ∧ ∀ x c, X'.env.cells.lookup x = some c → c ≠ b
theorem GxAt.woken {Φ : Heap → List Addr → Hp → Prop} {X' : Cx} {μ1 : List Addr} {H1 : Hp} {ρw : Env} {σw : L2.St} {fp Ss : List Addr} {s₀ s s'' : Shared} {μ' : List Addr} {st' : Stt} {H' : Hp} (h : GxAt X W Φ X' μ1 H1 ρw σw fp Ss s₀ s μ' st' H') (hp : X'.pn = []) (apt : Apt X' Ss) (h0 : ∀ b ∈ Ss, ∃ o, s₀.heap.get? b = some o) (w : Wake Ss s s'') (hph : Φ s''.heap μ' H') :
    GxAt X W Φ X' μ1 H1 ρw σw fp Ss s'' s'' μ' st' H' := by
  have I0 : Inv X' [] σw H' s := (show Inv X' ([] ++ pinsAt Ss s₀.heap) σw H' s from h.inv).unpinned
  have hf : ∀ b ∈ Ss, FpOk X' [] H' b := fun b hb => by
    obtain ⟨o, e⟩ := h0 b hb
    obtain ⟨_, n, _, _, _⟩ := h.inv.pin (b, o) (List.mem_append_right _ (mem_pinsAt hb e))
    obtain ⟨a1, a2, a3, a4⟩ := apt b hb
    exact ⟨n, a2, a3, .inr a1, a4, fun p q => by rw [hp] at q; simp at q⟩
  have I1 := waited (ch := Ss) I0 w.keep (fun b hb _ => let ⟨o, e, _⟩ := w.there b hb; ⟨o, e⟩) w.os w.bare hf
  exact ⟨by simpa using I1.pinned (fp := Ss) hf w.there, h.en, h.ok, h.ext, h.nfp, hph⟩
def gxR (X : Cx) (W : Wd) (Φ : Heap → List Addr → Hp → Prop) (X' : Cx) (μ1 : List Addr) (H1 : Hp) (ρw : Env) (σw : L2.St) (fp Ss : List Addr) (Fin : Nat → Stt → Prop) : GenEnd := fun N s₀ r s1 => r = .ok .next ∧ ∃ μ' st' H', GxAt X W Φ X' μ1 H1 ρw σw fp Ss s₀ s1 μ' st' H' ∧ Fin N st'
def gxY (X : Cx) (W : Wd) (Φ : Heap → List Addr → Hp → Prop) (X' : Cx) (μ1 : List Addr) (H1 : Hp) (ρw : Env) (σw : L2.St) (fp Ss : List Addr) (Kn : Nat → Nat → Nat → Stt → Prop) (Yd : Nat → Nat → Nat → PV → Stt → Prop) : Protocol := fun N s₀ v s1 kap =>
  ∃ m i y x μ' st' H', m ≤ N ∧ GxAt X W Φ X' μ1 H1 ρw σw fp Ss s₀ s1 μ' st' H' ∧ RelV x v ∧ RV X.K μ' H' y x ∧ Yd N m i y st' ∧ ∀ s'', Wake Ss s1 s'' → Φ s''.heap μ' H' → Kn N m i st' → kap (.send .none) s''
theorem seg_gx {X : Cx} {Φ : Heap → List Addr → Hp → Prop} (hΦ : ∀ h μ H μ' H', Ext μ H μ' H' → Φ h μ H → Φ h μ' H') {A : Around} {s : Shared} {H : Hp} {cenv : PEnv} {W : Wd} {elt tg iter : Expr} {ifs : List Expr} {scope : Scope} {pos : Pos} {f : Src} {g : Gx} {is vs : List Nat} {t : Tx} {me : Ex} {J : It} {fp Ss : List Addr} {it : Addr} {tn : Nat → Heap → Prop} {σ : L2.St} {μ1 : List Addr} {H1 : Hp} {ρw : Env}
    {Kn : Nat → Nat → Nat → Stt → Prop} {Yd : Nat → Nat → Nat → PV → Stt → Prop} {Fin : Nat → Stt → Prop} (K : GenK f g t me ρw Kn Yd Fin) (hco : cenv.scope.isCoroutine = false) (T : Turn X.prog X.w X.K tg J fp it tn) (wk : WkOk X W J f μ1 H1)
    (pg : PG (gxOf X A s H cenv fp) tg (rdG X W is g)) (hsub : ∀ i ∈ is, i ∈ vs) (pt : PTs (gxOf X A s H cenv fp) ifs (rdTB X W t)) (pe : PE (gxOf X A s H cenv fp) elt (rdEB X W me)) (apt : Apt (gxOf X A s H cenv fp) Ss) (hfp : ∀ b ∈ fp, b < s.heap.objs.size) :
    ∀ (n N i : Nat) (s₀ s' : Shared) (μ' : List Addr) (st' : Stt) (H' : Hp), n ≤ N → (∀ b ∈ Ss, ∃ o, s₀.heap.get? b = some o) → GxAt X W Φ (gxOf X A s H cenv fp) μ1 H1 ρw (L2.wipe σ vs) fp Ss s₀ s' μ' st' H' → tn i s'.heap → Kn N n i st' →
      Seg (model X.prog X.w) A (gxR X W Φ (gxOf X A s H cenv fp) μ1 H1 ρw (L2.wipe σ vs) fp Ss Fin) (gxY X W Φ (gxOf X A s H cenv fp) μ1 H1 ρw (L2.wipe σ vs) fp Ss Kn Yd) N s₀
        (.compLoop (.GeneratorExp elt [⟨tg, iter, ifs, 0⟩] scope pos) 0 (.ref it) .none cenv) ((model X.prog X.w).den (.compLoop (.GeneratorExp elt [⟨tg, iter, ifs, 0⟩] scope pos) 0 (.ref it) .none cenv)) [] s' := by
  have oA : A.over (.compLoop (.GeneratorExp elt [⟨tg, iter, ifs, 0⟩] scope pos) 0 (.ref it) .none cenv) [] = (gxOf X A s H cenv fp).A := over_gx
  have stat : ∀ {pins : List (Addr × Obj)} {σ' : L2.St} {H' : Hp} {s' : Shared}, Inv (gxOf X A s H cenv fp) pins σ' H' s' → (∀ p ∈ pins, p.1 ∉ fp) → (∀ b ∈ fp, H' b = none) → ∀ b ∈ fp, FpOk (gxOf X A s H cenv fp) pins H' b := fun {pins σ' H' s'} I' hpf hn b hb =>
    ⟨hn b hb, (I'.ok.exf b hb).1, I'.ok.exfs b hb, .inl hb, fun x c e => (I'.ok.exf b hb).2 x c e, fun p hp z => by
      have hp' : p ∈ pins := hp
      exact hpf p hp' (z ▸ hb)⟩
  intro n
  induction n with
  | zero =>
    intro N i s₀ s' μ' st' H' hN h0 G st hk
    obtain ⟨m, l, e, _⟩ := K.step N 0 i st' hN hk
    cases e
  | succ n ih =>
    intro N i s₀ s' μ' st' H' hN h0 G st hk
    obtain ⟨m, l, e, hl, hfin, hgo⟩ := K.step N (n + 1) i st' hN hk
    cases e
    obtain ⟨w1, w2⟩ := wk i μ' st' H' l G.ext G.ok hl
    have hpf : ∀ p ∈ pinsAt Ss s₀.heap, p.1 ∉ fp := fun p hp hb => by
      obtain ⟨hS, e⟩ := of_pinsAt hp
      exact absurd (Nat.lt_of_lt_of_le (hfp p.1 hb) (apt p.1 hS).1) (Nat.lt_irrefl _)
    show Seg _ A _ _ _ s₀ _ ((compTurn (.GeneratorExp elt [⟨tg, iter, ifs, 0⟩] scope pos) 0 (.ref it) .none cenv).onRaise (leaving cenv)) [] s'
    rw [compTurn_gen, Sem.onRaise_eq_wrap]
    refine seg_bind_wrap (wpAny_standAt ?_)
    have fpk := stat G.inv hpf G.nfp
    cases hx : l[i]? with
    | none =>
      have td := T.done (gxOf X A s H cenv fp) rfl rfl rfl rfl i _ s' _ H' (fun _ _ => False) G.inv fpk st (w2 hx)
      refine seg_bind_wrap (wpAny_mono td (fun r s1 hr => ?_) fun _ _ z => False.elim z)
      obtain ⟨hr, I1⟩ := hr
      subst hr
      exact seg_end (.ok .next) ⟨rfl, μ', st', H', ⟨I1, G.en, G.ok, G.ext, G.nfp, G.phi⟩, hfin hx⟩
    | some p =>
      obtain ⟨go, yl⟩ := w1 p hx
      obtain ⟨ρ', c, st1, hg1, ht1, hc0, hc1⟩ := hgo p hx
      have ti := T.item (gxOf X A s H cenv fp) rfl rfl rfl rfl i _ s' _ H' (fun _ _ => False) G.inv fpk st go
      refine seg_bind_wrap (wpAny_mono ti (fun r s1 hr => ?_) fun _ _ z => False.elim z)
      obtain ⟨u, hr, hlet⟩ := hr
      subst hr
      refine seg_bind_wrap (wpAny_mono hlet (fun _ s2 h2 => ?_) fun _ _ z => False.elim z)
      obtain ⟨x, H2, I2, r2, y2, st2, n2⟩ := h2
      obtain ⟨x2, ok2, rv2⟩ := yl x H2 y2
      have I2' := I2.pinned (stat I2 hpf n2) (T.obj _ _ st2)
      have asg := pg.run _ s2 _ H2 x u (fun σ3 H3 => H3 = H2 ∧ EnvOk X.K μ' H2 ρ' σ3 ∧ L2.wipe σ3 vs = L2.wipe σ vs) I2' r2 ⟨ρw, μ', st', p, ρ', G.en.ext x2, ok2, rv2, hg1, fun σ3 en3 t3 => ⟨rfl, en3, wipe_touch t3 hsub⟩⟩
      refine seg_bind_wrap (wpAny_mono asg (fun _ s3 h3 => ?_) fun _ _ z => False.elim z)
      obtain ⟨σ3, H3, I3, eH, en3, hw3⟩ := h3
      have eH' := eH.symm
      subst eH'
      have tst := pt.run _ s3 σ3 H2 (fun b H4 => b = c ∧ ∃ μ4, Ext μ' H2 μ4 H4 ∧ StOk X.K W μ4 st1 H4) I3 ⟨ρ', μ', st', en3, ok2, by
        rw [ht1]
        exact fun μ4 H4 x4 ok4 => ⟨rfl, μ4, x4, ok4⟩⟩
      refine seg_bind_wrap (wpAny_mono tst (fun b s4 h4 => ?_) fun _ _ z => False.elim z)
      obtain ⟨H4, I4, rfl, μ4, x4, ok4⟩ := h4
      have pin' : ∀ {σ' : L2.St} {H' : Hp} {s' : Shared}, Inv (gxOf X A s H cenv fp) (pinsAt Ss s₀.heap ++ pinsAt fp s2.heap) σ' H' s' → ∀ b ∈ fp, ∀ o, s2.heap.get? b = some o → s'.heap.get? b = some o ∧ H' b = none := fun {σ' H' s'} I' b hb o e =>
        let z := I'.pin (b, o) (List.mem_append_right _ (List.mem_append_right _ (mem_pinsAt hb e)))
        ⟨z.1, z.2.1⟩
      have back : ∀ {H' : Hp} {s' : Shared}, Inv (gxOf X A s H cenv fp) (pinsAt Ss s₀.heap ++ pinsAt fp s2.heap) σ3 H' s' → Inv (gxOf X A s H cenv fp) (pinsAt Ss s₀.heap) (L2.wipe σ vs) H' s' ∧ tn (i + 1) s'.heap ∧ ∀ b ∈ fp, H' b = none := fun {H' s'} I' => by
        have hl : (L2.wipe σ vs).length = σ3.length := by rw [← hw3, wipe_length]
        refine ⟨I'.unpinned.weak hl fun j v e => ?_, T.keep _ _ _ st2 fun b hb o e => (pin' I' b hb o e).1, fun b hb => ?_⟩
        · rw [← hw3] at e
          exact (wipe_some e).1
        · obtain ⟨o, e, _⟩ := T.obj _ _ st2 b hb
          exact (pin' I' b hb o e).2
      cases b with
      | false =>
        obtain ⟨J4, st4, n4⟩ := back I4
        simp only [Bool.false_eq_true, if_false]
        exact seg_again rfl (ih N (i + 1) s₀ s4 μ4 st1 H4 (Nat.le_of_succ_le hN) h0 ⟨J4, (G.en.ext x2).ext x4, ok4, (G.ext.trans x2).trans x4, n4, hΦ _ _ _ _ _ (x2.trans x4) G.phi⟩ st4 (hc0 rfl))
      | true =>
        obtain ⟨y, st5, he5, hy⟩ := hc1 rfl
        cases N with
        | zero => exact absurd hN (by omega)
        | succ N =>
          simp only [if_true]
          have hyo : ∀ v, yieldOut cenv v = yieldValue v := fun v => by simp only [yieldOut, hco, Bool.false_eq_true, if_false]
          simp only [hyo]
          rw [Sem.bind_eq_wrap', Sem.bind_eq_wrap', Sem.wrap_wrap, Sem.wrap_wrap]
          have ev := pe.run _ s4 σ3 H4 (fun v H5 => ∃ μ5, Ext μ4 H4 μ5 H5 ∧ StOk X.K W μ5 st5 H5 ∧ RV X.K μ5 H5 y v) I4 ⟨ρ', μ4, st1, en3.ext x4, ok4, by
            rw [he5]
            exact fun μ5 H5 x5 ok5 v rv => ⟨μ5, x5, ok5, rv⟩⟩
          refine seg_wrap (wpAny_mono ev (fun v s5 h5 => ?_) fun _ _ z => False.elim z)
          obtain ⟨v5, H5, I5, r5, μ5, x5, ok5, rv5⟩ := h5
          obtain ⟨J5, st5', n5⟩ := back I5
          have G5 : GxAt X W Φ (gxOf X A s H cenv fp) μ1 H1 ρw (L2.wipe σ vs) fp Ss s₀ s5 μ5 st5 H5 := ⟨J5, ((G.en.ext x2).ext x4).ext x5, ok5, ((G.ext.trans x2).trans x4).trans x5, n5, hΦ _ _ _ _ _ ((x2.trans x4).trans x5) G.phi⟩
          refine seg_at (seg_yield rfl rfl rfl ⟨n, i + 1, y, v5, μ5, st5, H5, by omega, G5, r5, rv5, hy, fun s'' w hph hk' => ?_⟩)
          refine seg_again rfl (ih N (i + 1) s'' s'' μ5 st5 H5 (by omega) (fun b hb => let ⟨o, e, _⟩ := w.there b hb; ⟨o, e⟩) (G5.woken rfl apt h0 w hph) (T.keep _ _ _ st5' fun b hb o e => w.keep b o (fun hS => ?_) e) hk')
          exact absurd (Nat.lt_of_lt_of_le (hfp b hb) (apt b hS).1) (Nat.lt_irrefl _)
end
end Ev
/-! Ev14: any, all of a generator expression. -/
namespace Ev
open PySem PySem.Spec PyProof.Rows L2 GenW
section
variable {X : Cx} {W : Wd} {μ μ1 : List Addr} {H H1 : Hp} {st : Stt} {pos : Pos}
/-- a generator expression has been made -/
structure GxMade (X : Cx) (W : Wd) (pins : List (Addr × Obj)) (σ : L2.St) (vs : List Nat) (ρw : Env) (tg elt iter : Expr) (ifs : List Expr) (scope : Scope) (pos : Pos) (f : Src) (st : Stt) (a : Addr) (s : Shared) (μ : List Addr) (H : Hp) (code : Value) (s4 : Shared) (it : Addr) (fp : List Addr) (tn : Nat → Heap → Prop) (J : It) (g : Nat) : Prop where
  inv : Inv X pins σ H s4
  fpk : ∀ b ∈ fp, FpOk X pins H b ∧ b < s4.heap.objs.size
  turn : Turn X.prog X.w X.K tg J fp it tn
  tn0 : tn 0 s4.heap
  wk : WkOk X W J f μ H
  en : EnvOk X.K μ H ρw (L2.wipe σ vs)
  ok : StOk X.K W μ st H
  isg : s.heap.IsGen a g
  fresh : s.gens[g]? = some (.fresh (.compStart (.GeneratorExp elt [⟨tg, iter, ifs, 0⟩] scope pos) 0 (.ref it) .none (gxEnv X scope s4.heap.objs.size code)))
  os : s.os = s4.os
  bare : AllBare s.gens
  young : s4.heap.objs.size < a ∧ a < s.heap.objs.size
  kept : ∀ b o, s4.heap.get? b = some o → s.heap.get? b = some o
  frame : ∃ h', h'.Ns s4.heap.objs.size (fun y => if y = ".0" then some (.ref it) else none) ∧ Heap.SameBut s4.heap.objs.size (s4.heap.push { cls := .type "frame", data := .dict #[] }) h' ∧ ∀ b o, h'.get? b = some o → s.heap.get? b = some o
theorem genexp_make {pins : List (Addr × Obj)} {σ : L2.St} {s : Shared} {c P : Addr} {elt tg iter : Expr} {ifs : List Expr} {scope : Scope} {gpos : Pos} {own : List (Str × Nat)} {k : Nat} {src : Ix} {Q' : Value → Shared → Prop} {T : WX} {ρ : Env} {PP : List Addr → Hp → Src → Stt → Prop}
    (hr : Room k X.A) (TB : GxR.TabB X.base X.mg c P) (hcode : X.env.code = .ref c) (hP : (P, none) ∈ W.tabs) (hPu : ∀ p ∈ W.tabs, p.1 = P → p.2 = none) (ok : BlkOk X.N X.env.scope scope own) (hco : scope.isCoroutine = false) (hcell : ∀ y ∈ scope.names, y.2 ≠ .cell) (h0 : scope.names.lookup (".0" : Str) = some NameKind.local)
    (hi : SI X W tg iter src) (hs : ∀ v, genFold iter X.env v = pure v) (I : Inv X pins σ H s) (tk : Takes X T) (en : EnvOk X.K μ H ρ σ) (sok : StOk X.K W μ st H) (out : OutG X W μ H T PP (src ρ st)) (hPl : ∀ μ1 H1 f s1, PP μ1 H1 f s1 → ∃ l, f s1 = some l)
    (hQ : ∀ a s5 μ1 H1 μ4 H4 f st1 code s4 it fp tn J g, src ρ st = .ok f st1 → PP μ1 H1 f st1 → Ext μ H μ1 H1 → Ext μ1 H1 μ4 H4 → (∃ l, f st1 = some l) → GxMade X W pins σ (own.map (·.2)) (wipeE ρ (own.map (·.2))) tg elt iter ifs scope gpos f st1 a s5 μ4 H4 code s4 it fp tn J g → Q' (.ref a) s5) :
    wpAny (model X.prog X.w) X.A (eval (.GeneratorExp elt [⟨tg, iter, ifs, 0⟩] scope gpos) X.env) Q' X.xe s := by
  have hfree : ∀ y ∈ scope.names, y.2 = .free → ∃ c, X.env.cells.lookup y.1 = some c := fun y hy e => by
    rcases ok.free y hy e with k | k
    · exact I.ok.has _ (.inl k)
    · exact I.ok.has _ (.inr k)
  refine wpAny_GeneratorExp_make hco (closure_ok hfree) hcell h0 ok.kind (by have := hr.dp; omega) ?_ hs
  refine thn (hi.run pins s σ H (fun J H1 => ∃ μ1 f st1, src ρ st = .ok f st1 ∧ PP μ1 H1 f st1 ∧ Ext μ H μ1 H1 ∧ StOk X.K W μ1 st1 H1 ∧ WkOk X W J f μ1 H1 ∧ ∃ l, f st1 = some l) I ⟨T, ρ, μ, st, tk, en, sok, ?_⟩) fun xv s1 hx => thn hx fun itv s2 h2 => ?_
  · cases hsrc : src ρ st with
    | bad => rw [hsrc] at out; exact out
    | err cc ss => rw [hsrc] at out; exact out
    | ok f st1 =>
      rw [hsrc] at out
      intro μ1 H1 x1 ok1
      have hp := out μ1 H1 x1 ok1
      exact ⟨hPl _ _ _ _ hp, fun J wk => ⟨μ1, f, st1, rfl, hp, x1, ok1, wk, hPl _ _ _ _ hp⟩⟩
  obtain ⟨it, fp, tn, J, H2, e, I2, T2, st2, f2, μ1, f, st1, hsrc, hp, x1, ok1, wk, hl⟩ := h2
  subst e
  refine ⟨I2.nolimit, ?_⟩
  obtain ⟨ps, hPt, ht⟩ := (ok1.tabs _ hP).g
  have hPs : s2.heap.get? P = some { cls := .none, data := .fields ps } := I2.hok P _ hPt
  have nPfp : P ∉ fp := fun hb => by
    have := (f2 P hb).1
    rw [hPt] at this; cases this
  have cont : ∀ (code : Value) (H4 : Hp) (s3 : Shared), Inv X pins σ H4 s3 → (∀ b, b ≠ P → H4 b = H2 b) → Ext μ1 H2 μ1 H4 → StOk X.K W μ1 st1 H4 → (∀ b o, b ≠ P → s2.heap.get? b = some o → s3.heap.get? b = some o) → s2.heap.objs.size ≤ s3.heap.objs.size →
      wpAny (model X.prog X.w) X.A (builtinsFor X.env.globals X.env.builtins) (fun bi s₄ => ∀ h', h'.Ns s₄.heap.objs.size (fun y => if y = ".0" then some (.ref it) else none) → Heap.SameBut s₄.heap.objs.size (s₄.heap.push { cls := .type "frame", data := .dict #[] }) h' →
          Q' (.ref h'.objs.size) { s₄ with
            gens := s₄.gens.push (.fresh (.compStart (.GeneratorExp elt [⟨tg, iter, ifs, 0⟩] scope gpos) 0 (.ref it) .none (genEnv scope (cloFrom X.env.cells scope.names []) s₄.heap.objs.size code bi X.env))),
            toks := s₄.toks + 1 + 1 + 1,
            heap := h'.push { cls := .type "generator", data := .fields #[.int s₄.gens.size 0, .str "<genexpr>" (s₄.toks + 1), .str (X.env.qual ++ "<genexpr>") (s₄.toks + 1 + 1)] } }) X.xe s3 := by
    intro code H4 s3 I3 hHP x3 ok3 kp hsz
    obtain ⟨bm, ob, e1, e2, e3, e4, e5, e6, e7, e8⟩ := TB.bm
    refine wpAny_builtinsFor (m := X.mg) (by rw [I3.ok.glob]; exact I3.mod.glob.keeps I3.bk) e1 e2 (I3.bk _ _ e5) e6 e7 e8 ?_
    intro h' hn hsb
    have hsz' : h'.objs.size = s3.heap.objs.size + 1 := by rw [hsb.1, Heap.size_push]
    have keep' : ∀ b o, s3.heap.get? b = some o → h'.get? b = some o := fun b o e => hsb.extBut b o (Nat.ne_of_lt (Heap.lt_size e)) (Heap.get?_push_of_some _ e)
    have flt : ∀ b ∈ fp, b < s2.heap.objs.size := fun b hb => by
      obtain ⟨o, e, _⟩ := T2.obj _ _ st2 b hb
      exact Heap.lt_size e
    have nfp4 : ∀ b ∈ fp, H4 b = none := fun b hb => by
      rw [hHP b fun z => nPfp (by rw [← z]; exact hb)]; exact (f2 b hb).1
    refine hQ _ _ μ1 H2 μ1 H4 f st1 code s3 it fp tn J s3.gens.size hsrc hp x1 x3 hl ⟨I3, fun b hb => ⟨⟨nfp4 b hb, (f2 b hb).2⟩, Nat.lt_of_lt_of_le (flt b hb) hsz⟩, T2, T2.keep _ _ _ st2 fun b hb o e => kp b o (fun z => nPfp (z ▸ hb)) e, wk.ext x3, ((en.ext (x1.trans x3)).wipe _), ok3, ?_, ?_, rfl, ?_, ?_, ?_, ?_⟩
    · exact ⟨_, _, _, Heap.get?_push_size _ rfl, rfl, rfl, rfl⟩
    · exact Array.getElem?_push_size ..
    · exact AllBare.push I3.bare rfl
    · refine ⟨by omega, ?_⟩
      show h'.objs.size < (h'.push _).objs.size
      rw [Heap.size_push]; exact Nat.lt_succ_self _
    · exact fun b o e => Heap.get?_push_of_some _ (keep' b o e)
    · exact ⟨h', hn, hsb, fun b o e => Heap.get?_push_of_some _ e⟩
  have cd : PySem.W.CodeHd s2.heap c P := TB.code.keeps fun b u e => I2.bk b u e
  cases hf : codeAmong gpos ps.toList with
  | none =>
    refine wpAny_genexprCodeX hcode (cd.code hPs ht) (cd.tab hPs) hf fun c' h' tk hx hge hlt hco' _ htab' _ => ?_
    obtain ⟨o1, vs, f1, tf, fl, tg', inF, tx, tt, op, _, _, _, _, _, _, _, _, _, htr, _⟩ := hco'
    have J1 := GxR.inv_tab (h' := h') (g' := s2.gens) (d' := s2.drawn) (t' := tk) I2 hPt (fun b o hb e => hx b o hb e) htab'.2 I2.bare
    have nP : ∀ b u, H2 b = some u → (∀ q, u ≠ .tbl q) → b ≠ P := fun b u e q z => by
      rw [z, hPt] at e
      exact q ps (Option.some.inj e).symm
    have hE : Ext μ1 H2 μ1 (upd H2 P (.tbl (ps ++ #[rawInt gpos.line, rawInt gpos.col, .ref c']))) := by
      refine ⟨List.prefix_refl _, fun b xs e => ?_, fun b o u e => ?_, fun b u e _ n => ?_, fun b qs e => ?_, fun _ h => .inl h⟩
      · rw [upd_ne (nP b _ e fun q z => by cases z)]; exact e
      · rw [upd_ne (nP b _ e fun q z => by cases z)]; exact e
      · rw [upd_ne (nP b _ e n)]; exact e
      · by_cases hb : b = P
        · exact ⟨_, by rw [hb, upd_same]⟩
        · exact ⟨qs, by rw [upd_ne hb]; exact e⟩
    have hnm : P ∉ μ1 := fun hm => by
      obtain ⟨i, hi⟩ := List.getElem?_of_mem hm
      obtain ⟨o, _, r⟩ := ok1.ob hi
      obtain ⟨w, hw, _, _, n3, _⟩ := r.live
      rw [hPt] at hw
      exact n3 _ (Option.some.inj hw).symm
    refine cont _ _ _ J1 (fun b hb => upd_ne hb) hE (ok1.keep hE (fun a ha => upd_ne fun z => hnm ((show a = P from z) ▸ ha)) fun p hp => ?_) (fun b o hb e => hx b o hb e) (Nat.le_trans hge (Nat.le_of_lt hlt))
    obtain ⟨Q, q⟩ := p
    by_cases hQ : Q = P
    · have hq : q = none := hPu _ hp hQ
      subst hQ hq
      exact ⟨_, upd_same .., htr⟩
    · have hk := ok1.tabs _ hp
      cases q with
      | none =>
        obtain ⟨qs, h1, h2⟩ := hk
        exact ⟨qs, by rw [upd_ne hQ]; exact h1, h2⟩
      | some q =>
        obtain ⟨qs, h1, h2, h3⟩ := hk
        refine ⟨qs, by rw [upd_ne hQ]; exact h1, h2, fun pos cv hc => ?_⟩
        obtain ⟨c, e1, e2⟩ := h3 pos cv hc
        exact ⟨c, e1, by rw [upd_ne (nP c _ e2 fun q z => by cases z)]; exact e2⟩
  | some cv =>
    refine wpAny_genexprCode_hit hcode (cd.code hPs ht) hf ?_
    exact cont cv H2 s2 I2 (fun _ _ => rfl) (Ext.refl _ _) ok1 (fun _ _ _ e => e) (Nat.le_refl _)
/-! ### the generator between its turns -/
def GxW (P : Program) (w : World) (A : Around) (R : GenEnd) (Y : Protocol) (Ss : List Addr) (a : Addr) (g N : Nat) (Ψ : Heap → Prop) (s : Shared) : Prop :=
  a ∈ Ss ∧ s.heap.IsGen a g ∧ s.heap.NoLimit ∧ AllBare s.gens ∧ (∀ b ∈ Ss, ∃ o, s.heap.get? b = some o ∧ ∀ v, o.data ≠ .cell v) ∧ ∃ gs, s.gens[g]? = some gs ∧ ∀ s', Wake Ss s s' → Ψ s'.heap → gs.Goes (model P w) A.in1 R Y N (.send .none) s'
theorem Wake.trans {Ss : List Addr} {s s1 s2 : Shared} (a : Wake Ss s s1) (b : Wake Ss s1 s2) : Wake Ss s s2 := ⟨fun c o h e => b.keep c o h (a.keep c o h e), b.there, b.os.trans a.os, b.bare⟩
theorem GxW.moved {P : Program} {w : World} {A : Around} {R : GenEnd} {Y : Protocol} {Ss : List Addr} {a : Addr} {g N : Nat} {Ψ : Heap → Prop} {s s2 : Shared} (h : GxW P w A R Y Ss a g N Ψ s) (k : Wake Ss s s2) (hg : s2.gens[g]? = s.gens[g]?) (hi : s2.heap.get? a = s.heap.get? a) (hl : s2.heap.NoLimit) : GxW P w A R Y Ss a g N Ψ s2 := by
  obtain ⟨h1, ⟨o, nm, qn, ho, r⟩, _, _, _, gs, e, f⟩ := h
  exact ⟨h1, ⟨o, nm, qn, by rw [hi]; exact ho, r⟩, hl, k.bare, k.there, gs, by rw [hg]; exact e, fun s' k' => f s' (k.trans k')⟩
theorem gx_next {Φ : Heap → List Addr → Hp → Prop} {Ψ : Heap → Prop} {A : Around} {X' : Cx} {H1 : Hp} {ρw : Env} {σw : L2.St} {fp Ss : List Addr} {Kn : Nat → Nat → Nat → Stt → Prop} {Yd : Nat → Nat → Nat → PV → Stt → Prop} {Fin : Nat → Stt → Prop} {a : Addr} {g N : Nat} {s : Shared} {Q : Option Value → Shared → Prop} {E : Value → Shared → Prop}
    {f : Src} {gg : Gx} {t : Tx} {me : Ex} (K : GenK f gg t me ρw Kn Yd Fin) (hh : A.handled = none) (hroom : A.depth < recursionLimit) (hw : GxW X.prog X.w A (gxR X W Φ X' μ1 H1 ρw σw fp Ss Fin) (gxY X W Φ X' μ1 H1 ρw σw fp Ss Kn Yd) Ss a g N Ψ s) (hψ : Ψ s.heap)
    (hdone : ∀ s1 s2 μ' st' H', GxAt X W Φ X' μ1 H1 ρw σw fp Ss (s.setGen g .running) s1 μ' st' H' → Fin N st' → (∀ b o, s1.heap.get? b = some o → s2.heap.get? b = some o) → s2.os = s1.os → AllBare s2.gens → Q none s2)
    (hitem : ∀ m i y x v s1 s2 μ' st' H', GxAt X W Φ X' μ1 H1 ρw σw fp Ss (s.setGen g .running) s1 μ' st' H' → RelV x v → RV X.K μ' H' y x → Yd (N - 1) m i y st' → s2.heap = s1.heap → s2.os = s1.os → AllBare s2.gens →
      (Kn (N - 1) m i st' → ∃ M, N = M + 1 ∧ GxW X.prog X.w A (gxR X W Φ X' μ1 H1 ρw σw fp Ss Fin) (gxY X W Φ X' μ1 H1 ρw σw fp Ss Kn Yd) Ss a g M (fun h => Φ h μ' H') s2) → Q (some v) s2) :
    wpAny (model X.prog X.w) A (pyNext (.ref a)) Q E s := by
  obtain ⟨hS, hg, hl, hb, hSs, gs, hgs, hgo⟩ := hw
  have hgl : g < s.gens.size := (Array.getElem?_eq_some_iff.mp hgs).1
  have hgo' := hgo (s.setGen g .running) ⟨fun _ _ _ e => e, hSs, rfl, allBare_setGen hb rfl⟩ hψ
  refine wpAny_gsz (n := g + 1) hgl (wpAny_pyNext_genexpQ (A := A) hh hl hroom hg hgs hgo' (fun v s₁ gs' hbare hv => ?_) (fun s₁ hp h' hk => ?_))
  · intro hsz
    obtain ⟨m, i, y, x, μ', st', H', hm, G, rx, ry, hyd, kap⟩ := hv
    have hsz1 : g < s₁.gens.size := by
      have q : (s₁.setGen g gs').gens.size = s₁.gens.size := setGen_size _ _ _
      have hsz' : g + 1 ≤ (s₁.setGen g gs').gens.size := hsz
      omega
    have pinned : ∀ b ∈ Ss, ∀ o, s.heap.get? b = some o → s₁.heap.get? b = some o ∧ ∀ v, o.data ≠ .cell v := fun b hb o e => by
      obtain ⟨p1, _, _, _, p2⟩ := G.inv.pin (b, o) (List.mem_append_right _ (mem_pinsAt hb e))
      exact ⟨p1, p2⟩
    refine hitem m i y x v s₁ _ μ' st' H' G rx ry hyd rfl rfl (allBare_setGen G.inv.bare hbare) fun kn => ?_
    cases N with
    | zero =>
      obtain ⟨m', _, e, _⟩ := K.step _ m i st' hm kn
      rw [e] at hm
      exact absurd hm (by omega)
    | succ M =>
      refine ⟨M, rfl, hS, ?_, G.inv.nolimit, allBare_setGen G.inv.bare hbare, fun b hb => let ⟨o, e, _⟩ := hSs b hb; ⟨o, (pinned b hb o e).1, (pinned b hb o e).2⟩, gs', setGen_at hsz1, fun s' k hph => ?_⟩
      · obtain ⟨o, nm, qn, ho, r⟩ := hg
        exact ⟨o, nm, qn, (pinned a hS o ho).1, r⟩
      · exact kap s' ⟨k.keep, k.there, k.os, k.bare⟩ hph kn
  · intro hsz
    obtain ⟨μ', st', H', G, hf⟩ := hp
    exact hdone s₁ _ μ' st' H' G hf hk rfl (allBare_setGen G.inv.bare rfl)
/-- back in the frame that made it -/
theorem gx_back {Φ : Heap → List Addr → Hp → Prop} {pins : List (Addr × Obj)} {σ : L2.St} {vs : List Nat} {ρw : Env} {tg elt iter : Expr} {ifs : List Expr} {scope : Scope} {gpos : Pos} {f : Src} {a : Addr} {s5 : Shared} {code : Value} {s4 : Shared} {it : Addr} {fp Ss : List Addr} {tn : Nat → Heap → Prop} {J : It} {g : Nat} {A : Around} {σw : L2.St}
    {s₀ s1 s2 : Shared} {μ' : List Addr} {st' : Stt} {H' : Hp} (M : GxMade X W pins σ vs ρw tg elt iter ifs scope gpos f st a s5 μ H code s4 it fp tn J g)
    (G : GxAt X W Φ (gxOf X A s4 H (gxEnv X scope s4.heap.objs.size code) fp) μ H ρw σw fp Ss s₀ s1 μ' st' H') (k : ∀ b o, s1.heap.get? b = some o → s2.heap.get? b = some o) (os : s2.os = s1.os) (hb : AllBare s2.gens) :
    Inv X pins σ H' s2 := by
  have J1 := G.inv
  refine M.inv.call' (ch := fp) (by rw [os]; exact J1.os.trans rfl) (J1.base.trans (Un.kept k)) (J1.hok.kept k) hb fun b hb => ⟨(M.fpk b hb).1.2.2.2.1, (M.fpk b hb).1.2.1, (M.fpk b hb).1.2.2.2.2.1, (M.fpk b hb).1.2.2.2.2.2⟩
/-- what the consumer owns: made behind the generator -/
theorem gx_apt {pins : List (Addr × Obj)} {σ : L2.St} {s4 : Shared} {H : Hp} {scope : Scope} {own : List (Str × Nat)} {code : Value} {A : Around} {fp Ss : List Addr} (I : Inv X pins σ H s4) (ok : BlkOk X.N X.env.scope scope own) (hS : ∀ b ∈ Ss, s4.heap.objs.size < b) :
    Apt (gxOf X A s4 H (gxEnv X scope s4.heap.objs.size code) fp) Ss := by
  have hfree : ∀ y ∈ scope.names, y.2 = .free → ∃ c, X.env.cells.lookup y.1 = some c := fun y hy e => by
    rcases ok.free y hy e with k | k
    · exact I.ok.has _ (.inl k)
    · exact I.ok.has _ (.inr k)
  intro b hb
  have hlt := hS b hb
  refine ⟨Nat.le_of_lt hlt, Nat.ne_of_gt hlt, fun hf => ?_, fun x c e z => ?_⟩
  · have hf : b ∈ frs X.stack := hf
    rcases List.mem_cons.mp (I.stkSub b hf) with q | q
    · have := I.lt
      rw [← q] at this
      exact absurd (Nat.lt_trans this hlt) (Nat.lt_irrefl _)
    · exact I.nofs (Nat.le_of_lt hlt) q
  · rcases cloFrom_mem (PySem.mem_of_lookup (show (cloFrom X.env.cells scope.names []).lookup x = some c from e)) with hm | ⟨h1, h2⟩
    · cases hm
    · obtain ⟨c1, hc⟩ := hfree _ h1 rfl
      have hc : X.env.cells.lookup x = some c1 := hc
      have e2 : c = c1 := by
        rw [h2, hc] <;> rfl
      obtain ⟨w, q⟩ := I.cell _ _ hc
      have := q.lt
      rw [← e2, z] at this
      exact absurd (Nat.lt_trans this hlt) (Nat.lt_irrefl _)
/-- before its first turn -/
theorem gx_first {Φ : Heap → List Addr → Hp → Prop} (hΦ : ∀ h μ H μ' H', Ext μ H μ' H' → Φ h μ H → Φ h μ' H') {pins : List (Addr × Obj)} {σ : L2.St} {own : List (Str × Nat)} {ρw : Env} {tg elt iter : Expr} {ifs : List Expr} {scope : Scope} {gpos : Pos} {f : Src} {a : Addr} {s5 s6 : Shared} {code : Value} {s4 : Shared} {it : Addr} {fp Ss : List Addr} {tn : Nat → Heap → Prop} {J : It} {g' : Nat} {A : Around}
    {gg : Gx} {is : List Nat} {t : Tx} {me : Ex} {Kn : Nat → Nat → Nat → Stt → Prop} {Yd : Nat → Nat → Nat → PV → Stt → Prop} {Fin : Nat → Stt → Prop} {n N : Nat}
    (M : GxMade X W pins σ (own.map (·.2)) ρw tg elt iter ifs scope gpos f st a s5 μ H code s4 it fp tn J g') (K : GenK f gg t me ρw Kn Yd Fin) (ok : BlkOk X.N X.env.scope scope own) (hN : X.N.Nodup) (hcell : ∀ y ∈ scope.names, y.2 ≠ .cell) (hco : scope.isCoroutine = false)
    (hA : A.handled = none) (hfr : A.frames = some X.stack) (hsub : ∀ i ∈ is, i ∈ own.map (·.2))
    (pg : PG (gxOf X A.in1 s4 H (gxEnv X scope s4.heap.objs.size code) fp) tg (rdG X W is gg)) (pt : PTs (gxOf X A.in1 s4 H (gxEnv X scope s4.heap.objs.size code) fp) ifs (rdTB X W t)) (pe : PE (gxOf X A.in1 s4 H (gxEnv X scope s4.heap.objs.size code) fp) elt (rdEB X W me))
    (k6 : ∀ b o, s5.heap.get? b = some o → s6.heap.get? b = some o) (os6 : s6.os = s5.os) (hb6 : AllBare s6.gens) (hg6 : s6.gens[g']? = s5.gens[g']?) (ha : a ∈ Ss) (hSs : ∀ b ∈ Ss, s4.heap.objs.size < b ∧ ∃ o, s6.heap.get? b = some o ∧ ∀ v, o.data ≠ .cell v) (kn : Kn N n 0 st) (hnN : n ≤ N) :
    GxW X.prog X.w A (gxR X W Φ (gxOf X A.in1 s4 H (gxEnv X scope s4.heap.objs.size code) fp) μ H ρw (L2.wipe σ (own.map (·.2))) fp Ss Fin) (gxY X W Φ (gxOf X A.in1 s4 H (gxEnv X scope s4.heap.objs.size code) fp) μ H ρw (L2.wipe σ (own.map (·.2))) fp Ss Kn Yd) Ss a g' N (fun h => Φ h μ H) s6 := by
  obtain ⟨h', hns, hsb, hh5⟩ := M.frame
  have hsz' : h'.objs.size = s4.heap.objs.size + 1 := by rw [hsb.1, Heap.size_push]
  have k4 : ∀ b o, s4.heap.get? b = some o → h'.get? b = some o := fun b o e => hsb.extBut b o (Nat.ne_of_lt (Heap.lt_size e)) (Heap.get?_push_of_some _ e)
  refine ⟨ha, M.isg.keeps k6, (M.inv.nolimit.keeps M.kept).keeps k6, hb6, fun b hb => (hSs b hb).2, _, by rw [hg6]; exact M.fresh, ?_⟩
  intro s' wk hph
  refine ⟨rfl, ?_⟩
  have kS : ∀ b o, h'.get? b = some o → s'.heap.get? b = some o := fun b o e => by
    refine wk.keep b o (fun hb => ?_) (k6 b o (hh5 b o e))
    have q2 := Heap.lt_size e
    rw [hsz'] at q2
    exact absurd (Nat.lt_of_lt_of_le (hSs b hb).1 (Nat.le_of_lt_succ q2)) (Nat.lt_irrefl _)
  have apt := gx_apt (A := A.in1) (code := code) (fp := fp) M.inv ok fun b hb => (hSs b hb).1
  have I0 : Inv (gxOf X A.in1 s4 H (gxEnv X scope s4.heap.objs.size code) fp) [] (L2.wipe σ (own.map (·.2))) H s' :=
    gx_start M.inv ok hN hcell hA hfr M.fpk hns hsb kS ((wk.os.trans os6).trans M.os) wk.bare
  have hf : ∀ b ∈ Ss, FpOk (gxOf X A.in1 s4 H (gxEnv X scope s4.heap.objs.size code) fp) [] H b := fun b hb => by
    obtain ⟨a1, a2, a3, a4⟩ := apt b hb
    exact ⟨M.inv.hok.fresh (Nat.le_of_lt (hSs b hb).1), a2, a3, .inr a1, a4, fun p q => absurd (show p ∈ ([] : List (Addr × Obj)) ++ [] from q) (by simp)⟩
  have I1 := I0.pinned (fp := Ss) hf wk.there
  have G : GxAt X W Φ (gxOf X A.in1 s4 H (gxEnv X scope s4.heap.objs.size code) fp) μ H ρw (L2.wipe σ (own.map (·.2))) fp Ss s' s' μ st H := ⟨by simpa using I1, M.en, M.ok, Ext.refl _ _, fun b hb => (M.fpk b hb).1.1, hph⟩
  have st0 : tn 0 s'.heap := M.turn.keep _ _ _ M.tn0 fun b hb o e => kS b o (k4 b o e)
  have loop := seg_gx hΦ (A := A.in1) (X := X) (elt := elt) (tg := tg) (iter := iter) (ifs := ifs) (scope := scope) (pos := gpos) (Ss := Ss) K (show (gxEnv X scope s4.heap.objs.size code).scope.isCoroutine = false from hco) M.turn M.wk pg hsub pt pe apt (fun b hb => (M.fpk b hb).2) n N 0 s' s' μ st H hnN (fun b hb => let ⟨o, e, _⟩ := wk.there b hb; ⟨o, e⟩) G st0 kn
  show Seg _ A.in1 _ _ _ s' _ ((compStart (.GeneratorExp elt [⟨tg, iter, ifs, 0⟩] scope gpos) 0 (.ref it) .none _).onRaise (leaving _)) [] s'
  unfold compStart
  rw [Sem.onRaise_eq_wrap]
  show Seg _ A.in1 _ _ _ s' _ ((ask >>= _).wrap _ _ _ _) [] s'
  refine seg_bind_wrap (wpAny_askSetting ?_)
  split
  · exact seg_again rfl loop
  · first
      | exact seg_bind_wrap (wpAny_rule (seg_bind_wrap (wpAny_standAt (seg_bind_wrap (M.turn.self _ 0 s' _ _ st0 (seg_again rfl loop))))))
      | (refine seg_bind_wrap (wpAny_rule ?_); show Seg _ A.in1 _ _ _ s' _ ((standAt iter.pos >>= _).wrap _ _ _ _) [] s'; exact seg_bind_wrap (wpAny_standAt (seg_bind_wrap (M.turn.self _ 0 s' _ _ st0 (seg_again rfl loop)))))
end
end Ev
/-! Ev15: any, all of a generator expression. -/
namespace Ev
open PySem PySem.Spec PyProof.Rows L2 GenW
/-- any (b), all (not b): the first item whose truth is b decides; the items are bools -/
def anyV (b : Bool) (f : Src) (g : Gx) (t : Tx) (e : Ex) (ρ : Env) : Nat → Nat → Stt → Res Bool
  | 0, _, _ => .bad
  | n + 1, i, s => match f s with
    | none => .bad
    | some l => match l[i]? with
      | none => .ok (!b) s
      | some x => match g x ρ with
        | none => .bad
        | some ρ' => (t ρ' s).calm.bind fun c s => if c then (e ρ' s).calm.bind fun y s => (match y with
          | .bl k => if k == b then .ok b s else anyV b f g t e ρ n (i + 1) s
          | _ => .bad) else anyV b f g t e ρ n (i + 1) s
def eAny (b : Bool) (own : List Nat) (g : Gx) (src : Ix) (t : Tx) (e : Ex) : Ex := fun ρ s => (src ρ s).bind fun f s => match f s with
  | none => .bad
  | some l => (anyV b f g t e (wipeE ρ own) (l.length + 1) 0 s).bind fun k s => .ok (.bl k) s
abbrev phiT : Heap → List Addr → Hp → Prop := fun _ _ _ => True
section
variable {b : Bool} {f : Src} {g : Gx} {t : Tx} {e : Ex} {ρ : Env} {R0 : Res Bool}
def anyY (b : Bool) (f : Src) (g : Gx) (t : Tx) (e : Ex) (ρ : Env) (R0 : Res Bool) : Nat → Nat → Nat → PV → Stt → Prop := fun _ m i y st => ∃ k, y = .bl k ∧ (if k == b then Res.ok b st else anyV b f g t e ρ m i st) = R0
theorem any_genK (h : ∃ k s, R0 = .ok k s) : GenK f g t e ρ (fun _ n i st => anyV b f g t e ρ n i st = R0) (anyY b f g t e ρ R0) (fun _ st => R0 = .ok (!b) st) := by
  obtain ⟨k0, s0, rfl⟩ := h
  refine ⟨fun N n i st hN h => ?_⟩
  cases n with
  | zero => cases h
  | succ m =>
    unfold anyV at h
    cases hl : f st with
    | none => rw [hl] at h; cases h
    | some l =>
      rw [hl] at h
      refine ⟨m, l, rfl, rfl, fun hx => ?_, fun x hx => ?_⟩
      · dsimp only at h
        rw [hx] at h
        exact h.symm
      · dsimp only at h
        rw [hx] at h
        dsimp only at h
        cases hg : g x ρ with
        | none => rw [hg] at h; cases h
        | some ρ' =>
          rw [hg] at h
          dsimp only at h
          cases ht : t ρ' st with
          | bad => rw [ht] at h; cases h
          | err c s => rw [ht] at h; cases h
          | ok c s1 =>
            rw [ht] at h
            refine ⟨ρ', c, s1, rfl, ht, fun hc => ?_, fun hc => ?_⟩
            · subst hc
              exact h
            · subst hc
              have h2 : ((e ρ' s1).calm.bind fun y s => (match y with
                | .bl k => if k == b then .ok b s else anyV b f g t e ρ m (i + 1) s
                | _ => .bad : Res Bool)) = .ok k0 s0 := h
              cases he : e ρ' s1 with
              | bad => rw [he] at h2; cases h2
              | err c s => rw [he] at h2; cases h2
              | ok y s2 =>
                rw [he] at h2
                refine ⟨y, s2, rfl, ?_⟩
                cases y with
                | bl k => exact ⟨k, rfl, h2⟩
                | _ => cases h2
theorem anyV_calm : ∀ {n i : Nat} {s : Stt} {c : Nat} {s1 : Stt}, anyV b f g t e ρ n i s ≠ .err c s1 := by
  intro n
  induction n with
  | zero => intro i s c s1 h; cases h
  | succ n ih =>
    intro i s c s1 h
    unfold anyV at h
    split at h
    · cases h
    · split at h
      · cases h
      · split at h
        · cases h
        · rename_i ρ' _
          cases ht : t ρ' s with
          | bad => rw [ht] at h; cases h
          | err c s => rw [ht] at h; cases h
          | ok c2 s2 =>
            rw [ht] at h
            cases c2 with
            | false => exact ih h
            | true =>
              have h2 : ((e ρ' s2).calm.bind fun y s => (match y with
                | .bl k => if k == b then .ok b s else anyV b f g t e ρ n (i + 1) s
                | _ => .bad : Res Bool)) = .err c s1 := h
              cases he : e ρ' s2 with
              | bad => rw [he] at h2; cases h2
              | err c s => rw [he] at h2; cases h2
              | ok y s3 =>
                rw [he] at h2
                cases y with
                | bl k =>
                  have h3 : (if k == b then Res.ok b s3 else anyV b f g t e ρ n (i + 1) s3) = .err c s1 := h2
                  split at h3
                  · cases h3
                  · exact ih h3
                | _ => cases h2
end
section
variable {X : Cx} {W : Wd} {μ μ1 : List Addr} {H H1 : Hp} {st : Stt} {pos : Pos}
theorem code_any_gx {A : Around} {X' : Cx} {ρw : Env} {σw : L2.St} {fp : List Addr} {f : Src} {gg : Gx} {t : Tx} {e : Ex} {R0 : Res Bool} {a : Addr} {g : Nat} {R : Result → Shared → Prop} (hR0 : ∃ k s, R0 = .ok k s) (hh : A.handled = none) (hroom : A.depth < recursionLimit)
    (hend : ∀ k s₀ s1 s2 μ' st' H', GxAt X W phiT X' μ1 H1 ρw σw fp [a] s₀ s1 μ' st' H' → R0 = .ok k st' → (∀ b o, s1.heap.get? b = some o → s2.heap.get? b = some o) → s2.os = s1.os → AllBare s2.gens → R (.ok (.ret (.bool k))) s2) :
    ∀ (N : Nat) (s : Shared), GxW X.prog X.w A.in1 (gxR X W phiT X' μ1 H1 ρw σw fp [a] (fun _ st => R0 = .ok (!true) st)) (gxY X W phiT X' μ1 H1 ρw σw fp [a] (fun _ n i st => anyV true f gg t e ρw n i st = R0) (anyY true f gg t e ρw R0)) [a] a g N (fun _ => True) s →
      codeAny (model X.prog X.w) A (.builtin "any.loop" ⟨[.ref a], []⟩) R s := by
  intro N
  induction N with
  | zero =>
    intro s hw
    refine codeAny_builtin F.entry_any_loop ?_
    rw [Around.under_plainId F.plain_any_loop _]
    show wpAny _ A.in1 (pyNext (.ref a) >>= _) _ _ s
    refine wpAny_bind (gx_next (any_genK hR0) hh hroom hw trivial (fun s1 s2 μ' st' H' G hf k os hb => ?_) (fun m i y x v s1 s2 μ' st' H' G rx ry hy eh eo hb kn => ?_))
    · refine wpAny_bind (wpAny_rule (wpAny_pure ?_))
      exact hend _ _ _ _ _ _ _ G hf k os hb
    · obtain ⟨k, rfl, hk⟩ := hy
      cases ry
      cases rx
      refine wpAny_bind (wpAny_holding (wpAny_truthy_bool ?_))
      refine wpAny_bind (wpAny_letGo ?_)
      cases k with
      | true =>
        simp only [if_true]
        refine wpAny_bind (wpAny_rule (wpAny_pure ?_))
        exact hend _ _ _ _ _ _ _ G hk.symm (fun b o e => by rw [eh]; exact e) eo hb
      | false =>
        obtain ⟨M, hM, _⟩ := kn hk
        cases hM
  | succ N ih =>
    intro s hw
    refine codeAny_builtin F.entry_any_loop ?_
    rw [Around.under_plainId F.plain_any_loop _]
    show wpAny _ A.in1 (pyNext (.ref a) >>= _) _ _ s
    refine wpAny_bind (gx_next (any_genK hR0) hh hroom hw trivial (fun s1 s2 μ' st' H' G hf k os hb => ?_) (fun m i y x v s1 s2 μ' st' H' G rx ry hy eh eo hb kn => ?_))
    · refine wpAny_bind (wpAny_rule (wpAny_pure ?_))
      exact hend _ _ _ _ _ _ _ G hf k os hb
    · obtain ⟨k, rfl, hk⟩ := hy
      cases ry
      cases rx
      refine wpAny_bind (wpAny_holding (wpAny_truthy_bool ?_))
      refine wpAny_bind (wpAny_letGo ?_)
      cases k with
      | true =>
        simp only [if_true]
        refine wpAny_bind (wpAny_rule (wpAny_pure ?_))
        exact hend _ _ _ _ _ _ _ G hk.symm (fun b o e => by rw [eh]; exact e) eo hb
      | false =>
        obtain ⟨M, hM, hw'⟩ := kn hk
        cases hM
        simp only [Bool.false_eq_true, if_false]
        exact wpAny_pure ⟨plainId_quiet F.plain_any_loop _, ih s2 hw'⟩
theorem code_all_gx {A : Around} {X' : Cx} {ρw : Env} {σw : L2.St} {fp : List Addr} {f : Src} {gg : Gx} {t : Tx} {e : Ex} {R0 : Res Bool} {a : Addr} {g : Nat} {R : Result → Shared → Prop} (hR0 : ∃ k s, R0 = .ok k s) (hh : A.handled = none) (hroom : A.depth < recursionLimit)
    (hend : ∀ k s₀ s1 s2 μ' st' H', GxAt X W phiT X' μ1 H1 ρw σw fp [a] s₀ s1 μ' st' H' → R0 = .ok k st' → (∀ b o, s1.heap.get? b = some o → s2.heap.get? b = some o) → s2.os = s1.os → AllBare s2.gens → R (.ok (.ret (.bool k))) s2) :
    ∀ (N : Nat) (s : Shared), GxW X.prog X.w A.in1 (gxR X W phiT X' μ1 H1 ρw σw fp [a] (fun _ st => R0 = .ok (!false) st)) (gxY X W phiT X' μ1 H1 ρw σw fp [a] (fun _ n i st => anyV false f gg t e ρw n i st = R0) (anyY false f gg t e ρw R0)) [a] a g N (fun _ => True) s →
      codeAny (model X.prog X.w) A (.builtin "all.loop" ⟨[.ref a], []⟩) R s := by
  intro N
  induction N with
  | zero =>
    intro s hw
    refine codeAny_builtin F.entry_all_loop ?_
    rw [Around.under_plainId F.plain_all_loop _]
    show wpAny _ A.in1 (pyNext (.ref a) >>= _) _ _ s
    refine wpAny_bind (gx_next (any_genK hR0) hh hroom hw trivial (fun s1 s2 μ' st' H' G hf k os hb => ?_) (fun m i y x v s1 s2 μ' st' H' G rx ry hy eh eo hb kn => ?_))
    · refine wpAny_bind (wpAny_rule (wpAny_pure ?_))
      exact hend _ _ _ _ _ _ _ G hf k os hb
    · obtain ⟨k, rfl, hk⟩ := hy
      cases ry
      cases rx
      refine wpAny_bind (wpAny_holding (wpAny_truthy_bool ?_))
      refine wpAny_bind (wpAny_letGo ?_)
      cases k with
      | false =>
        simp only [Bool.false_eq_true, if_false]
        refine wpAny_bind (wpAny_rule (wpAny_pure ?_))
        exact hend _ _ _ _ _ _ _ G hk.symm (fun b o e => by rw [eh]; exact e) eo hb
      | true =>
        obtain ⟨M, hM, _⟩ := kn hk
        cases hM
  | succ N ih =>
    intro s hw
    refine codeAny_builtin F.entry_all_loop ?_
    rw [Around.under_plainId F.plain_all_loop _]
    show wpAny _ A.in1 (pyNext (.ref a) >>= _) _ _ s
    refine wpAny_bind (gx_next (any_genK hR0) hh hroom hw trivial (fun s1 s2 μ' st' H' G hf k os hb => ?_) (fun m i y x v s1 s2 μ' st' H' G rx ry hy eh eo hb kn => ?_))
    · refine wpAny_bind (wpAny_rule (wpAny_pure ?_))
      exact hend _ _ _ _ _ _ _ G hf k os hb
    · obtain ⟨k, rfl, hk⟩ := hy
      cases ry
      cases rx
      refine wpAny_bind (wpAny_holding (wpAny_truthy_bool ?_))
      refine wpAny_bind (wpAny_letGo ?_)
      cases k with
      | false =>
        simp only [Bool.false_eq_true, if_false]
        refine wpAny_bind (wpAny_rule (wpAny_pure ?_))
        exact hend _ _ _ _ _ _ _ G hk.symm (fun b o e => by rw [eh]; exact e) eo hb
      | true =>
        obtain ⟨M, hM, hw'⟩ := kn hk
        cases hM
        simp only [if_true]
        exact wpAny_pure ⟨plainId_quiet F.plain_all_loop _, ih s2 hw'⟩
/-- what a generator expression's parts must do -/
structure GxParts (X : Cx) (W : Wd) (tg elt iter : Expr) (ifs : List Expr) (scope : Scope) (own : List (Str × Nat)) (src : Ix) (gg : Gx) (is : List Nat) (t : Tx) (e : Ex) (c P : Addr) (k : Nat) : Prop where
  room : Room (k + 8) X.A
  tb : GxR.TabB X.base X.mg c P
  code : X.env.code = .ref c
  tab : (P, none) ∈ W.tabs
  tabs : ∀ p ∈ W.tabs, p.1 = P → p.2 = none
  ok : BlkOk X.N X.env.scope scope own
  nd : X.N.Nodup
  co : scope.isCoroutine = false
  cell : ∀ y ∈ scope.names, y.2 ≠ .cell
  dot : scope.names.lookup (".0" : Str) = some NameKind.local
  it : SI X W tg iter src
  sub : ∀ i ∈ is, i ∈ own.map (·.2)
  fold : ∀ v, genFold iter X.env v = pure v
  pg : ∀ A s H C code fp, PG (gxOf X A s H (gxEnv X scope C code) fp) tg (rdG X W is gg)
  pt : ∀ A s H C code fp, Room k (A.deeper (gxEnv X scope C code)) → PTs (gxOf X A s H (gxEnv X scope C code) fp) ifs (rdTB X W t)
  pe : ∀ A s H C code fp, Room k (A.deeper (gxEnv X scope C code)) → PE (gxOf X A s H (gxEnv X scope C code) fp) elt (rdEB X W e)
theorem room_gx {k : Nat} {A : Around} (h : Room (k + 8) A) (env : PEnv) : Room k (A.in1.in1.deeper env) := ((h.mono (by omega : k + 3 ≤ k + 8)).in1.in1).deeper env
theorem boot_all' : bootBuiltins "all" = some (.builtin "all") := by decide +kernel
section
variable {elt tg iter : Expr} {ifs : List Expr} {scope : Scope} {own : List (Str × Nat)} {src : Ix} {gg : Gx} {is : List Nat} {t : Tx} {e : Ex} {c P : Addr} {k : Nat} {gpos p : Pos}
/-- the shape of the two rules -/
theorem gx_any_run {b : Bool} {pins : List (Addr × Obj)} {s : Shared} {σ : L2.St} {Q : VK} {T : WX} {ρ : Env} {Q' : Value → Shared → Prop} (hp : GxParts X W tg elt iter ifs scope own src gg is t e c P k) (I : Inv X pins σ H s) (tk : Takes X T) (en : EnvOk X.K μ H ρ σ) (ok : StOk X.K W μ st H)
    (out : Out X W μ H T Q (eAny b (own.map (·.2)) gg src t e ρ st))
    (h : ∀ a s5 X' μ4 H4 ρw σw fp f g R0 N, (∃ k s, R0 = .ok k s) →
      GxW X.prog X.w X.A.in1 (gxR X W phiT X' μ4 H4 ρw σw fp [a] (fun _ st => R0 = .ok (!b) st)) (gxY X W phiT X' μ4 H4 ρw σw fp [a] (fun _ n i st => anyV b f gg t e ρw n i st = R0) (anyY b f gg t e ρw R0)) [a] a g N (fun _ => True) s5 → s5.heap.IsGen a g →
      (∀ k s₀ s1 s2 μ' st' H', GxAt X W phiT X' μ4 H4 ρw σw fp [a] s₀ s1 μ' st' H' → R0 = .ok k st' → (∀ b o, s1.heap.get? b = some o → s2.heap.get? b = some o) → s2.os = s1.os → AllBare s2.gens → EP X pins σ Q (.bool k) s2) → Q' (.ref a) s5) :
    wpAny (model X.prog X.w) X.A (eval (.GeneratorExp elt [⟨tg, iter, ifs, 0⟩] scope gpos) X.env) Q' X.xe s := by
  refine genexp_make (k := k + 8) hp.room hp.tb hp.code hp.tab hp.tabs hp.ok hp.co hp.cell hp.dot hp.it hp.fold I tk en ok (PP := fun μ1 H1 f s1 => (∃ l, f s1 = some l) ∧ OutG X W μ1 H1 T (fun μ' H' p _ => ∀ v, RV X.K μ' H' p v → Q v H') (match f s1 with
    | none => .bad
    | some l => (anyV b f gg t e (wipeE ρ (own.map (·.2))) (l.length + 1) 0 s1).bind fun k s => .ok (.bl k) s : Res PV)) ?_ (fun _ _ _ _ h => h.1) ?_
  · refine (OutG.bind out).mono fun μ1 H1 f s1 x1 ok1 h1 => ?_
    refine ⟨?_, h1⟩
    cases hl : f s1 with
    | none => rw [hl] at h1; exact h1.elim
    | some l => exact ⟨l, rfl⟩
  · intro a s5 μ1 H1 μ4 H4 f st1 code s4 it fp tn J g hsrc hPP x1 x4 hl M
    obtain ⟨_, out1⟩ := hPP
    obtain ⟨l, hl⟩ := hl
    rw [hl] at out1
    dsimp only at out1
    generalize hR : anyV b f gg t e (wipeE ρ (own.map (·.2))) (l.length + 1) 0 st1 = R0 at out1
    have hok : ∃ k s, R0 = .ok k s := by
      cases R0 with
      | ok k s => exact ⟨k, s, rfl⟩
      | err c s => exact (anyV_calm hR).elim
      | bad => exact out1.elim
    have hr := hp.room
    refine h a s5 (gxOf X X.A.in1.in1 s4 H4 (gxEnv X scope s4.heap.objs.size code) fp) μ4 H4 _ (L2.wipe σ (own.map (·.2))) fp f g R0 (l.length + 1) hok (gx_first (Φ := phiT) (fun _ _ _ _ _ _ h => h) (A := X.A.in1) (n := l.length + 1) M (any_genK hok) hp.ok hp.nd hp.cell hp.co hr.hd M.inv.ok.frames hp.sub (hp.pg _ _ _ _ _ _) (hp.pt _ _ _ _ _ _ (room_gx hr _)) (hp.pe _ _ _ _ _ _ (room_gx hr _)) (fun _ _ e => e) rfl M.bare rfl (List.mem_singleton.mpr rfl) (fun b hb => ?_) hR (Nat.le_refl _)) M.isg (fun k s₀ s1 s2 μ' st' H' G hk kp os hb => ?_)
    · rw [List.mem_singleton.mp hb]
      obtain ⟨o, nm, qn, ho, hc, hd, hsl⟩ := M.isg
      exact ⟨M.young.1, o, ho, fun v z => by rw [hd] at z; cases z⟩
    · rw [hk] at out1
      exact ⟨.bl k, H', gx_back M G kp os hb, rfl, out1 μ' H' (x4.trans G.ext) G.ok _ (.bl k)⟩
theorem se_any {pos : Pos} (hp : GxParts X W tg elt iter ifs scope own src gg is t e c P k) (hg : Gl X "any") (hm : X.mg "any" = none)
    (he : starEach [.GeneratorExp elt [⟨tg, iter, ifs, 0⟩] scope gpos] X.env = (false, eval (.GeneratorExp elt [⟨tg, iter, ifs, 0⟩] scope gpos) X.env) :: starEach [] X.env) :
    SE X W (.Call (.Name "any" p) [.GeneratorExp elt [⟨tg, iter, ifs, 0⟩] scope gpos] [] pos) (eAny true (own.map (·.2)) gg src t e) := by
  refine ⟨fun pins s σ H Q I ⟨T, ρ, μ, st, tk, en, ok, out⟩ => ?_⟩
  refine wpAny_Call_Name_kw (ld_blt I hg hm boot_any ?_)
  refine PyProof.Rows.callWith_builtin1 ?_ he (by rfl)
  rw [he]
  show wpAny _ _ (spliced ((false, eval (.GeneratorExp elt [⟨tg, iter, ifs, 0⟩] scope gpos) X.env) :: backTo pos (starEach [] X.env))) _ _ s
  refine Calls.spliced_cons (gx_any_run hp I tk en ok out fun a s5 X' μ4 H4 ρw σw fp f g R0 N hok hw hgen hend => ?_)
  refine Calls.spliced_nil ?_
  refine call_function_tree F.kind_any F.plain_any F.entry_any (F.args_any1 _) ?_
  unfold Builtin.«any»
  refine wpAny_bind (m := oneArg "any" _) (wpAny_pure ?_)
  refine wpAny_bind (wpAny_pyIter_gen hgen ?_)
  have hr := hp.room
  refine wpAny_pure ⟨plainId_quiet F.plain_any_loop _, code_any_gx (A := X.A) hok hr.hd (by have := hr.dp; show X.A.depth < _; omega) (fun k s₀ s1 s2 μ' st' H' G hk kp os hb => ?_) N s5 hw⟩
  exact hend k s₀ s1 s2 μ' st' H' G hk kp os hb
theorem se_all {pos : Pos} (hp : GxParts X W tg elt iter ifs scope own src gg is t e c P k) (hg : Gl X "all") (hm : X.mg "all" = none)
    (he : starEach [.GeneratorExp elt [⟨tg, iter, ifs, 0⟩] scope gpos] X.env = (false, eval (.GeneratorExp elt [⟨tg, iter, ifs, 0⟩] scope gpos) X.env) :: starEach [] X.env) :
    SE X W (.Call (.Name "all" p) [.GeneratorExp elt [⟨tg, iter, ifs, 0⟩] scope gpos] [] pos) (eAny false (own.map (·.2)) gg src t e) := by
  refine ⟨fun pins s σ H Q I ⟨T, ρ, μ, st, tk, en, ok, out⟩ => ?_⟩
  refine wpAny_Call_Name_kw (ld_blt I hg hm boot_all' ?_)
  refine PyProof.Rows.callWith_builtin1 ?_ he (by rfl)
  rw [he]
  show wpAny _ _ (spliced ((false, eval (.GeneratorExp elt [⟨tg, iter, ifs, 0⟩] scope gpos) X.env) :: backTo pos (starEach [] X.env))) _ _ s
  refine Calls.spliced_cons (gx_any_run hp I tk en ok out fun a s5 X' μ4 H4 ρw σw fp f g R0 N hok hw hgen hend => ?_)
  refine Calls.spliced_nil ?_
  refine call_function_tree F.kind_all F.plain_all F.entry_all (F.args_all1 _) ?_
  unfold Builtin.«all»
  refine wpAny_bind (m := oneArg "all" _) (wpAny_pure ?_)
  refine wpAny_bind (wpAny_pyIter_gen hgen ?_)
  have hr := hp.room
  refine wpAny_pure ⟨plainId_quiet F.plain_all_loop _, code_all_gx (A := X.A) hok hr.hd (by have := hr.dp; show X.A.depth < _; omega) (fun k s₀ s1 s2 μ' st' H' G hk kp os hb => ?_) N s5 hw⟩
  exact hend k s₀ s1 s2 μ' st' H' G hk kp os hb
end
end
end Ev
/-! Ev16: what a generator expression hands out, collected: tuple, sorted. -/
namespace Ev
open PySem PySem.Spec PyProof.Rows L2 GenW
section
variable {f : Src} {g : Gx} {t : Tx} {e : Ex} {ρ : Env} {whole : List PV} {sF : Stt} {N0 : Nat}
def colK (f : Src) (g : Gx) (t : Tx) (e : Ex) (ρ : Env) (whole : List PV) (sF : Stt) (N0 : Nat) : Nat → Nat → Nat → Stt → Prop := fun N n i st => N ≤ N0 ∧ compV f g t e ρ n i st = .ok (whole.drop (N0 - N)) sF
def colY (f : Src) (g : Gx) (t : Tx) (e : Ex) (ρ : Env) (whole : List PV) (sF : Stt) (N0 : Nat) : Nat → Nat → Nat → PV → Stt → Prop := fun N m i y st => N + 1 ≤ N0 ∧ whole[N0 - (N + 1)]? = some y ∧ compV f g t e ρ m i st = .ok (whole.drop (N0 - N)) sF
def colF (whole : List PV) (sF : Stt) (N0 : Nat) : Nat → Stt → Prop := fun N st => N ≤ N0 ∧ whole.length ≤ N0 - N ∧ st = sF
theorem col_genK : GenK f g t e ρ (colK f g t e ρ whole sF N0) (colY f g t e ρ whole sF N0) (colF whole sF N0) := by
  refine ⟨fun N n i st hN ⟨h0, h⟩ => ?_⟩
  cases n with
  | zero => cases h
  | succ m =>
    unfold compV at h
    cases hl : f st with
    | none => rw [hl] at h; cases h
    | some l =>
      rw [hl] at h
      refine ⟨m, l, rfl, rfl, fun hx => ?_, fun x hx => ?_⟩
      · dsimp only at h
        rw [hx] at h
        have h' : Res.ok ([] : List PV) st = Res.ok (whole.drop (N0 - N)) sF := h
        injection h' with h1 h2
        exact ⟨h0, List.drop_eq_nil_iff.mp h1.symm, h2⟩
      · dsimp only at h
        rw [hx] at h
        dsimp only at h
        split at h
        · cases hg : g x ρ with
          | none => rw [hg] at h; cases h
          | some ρ' =>
            rw [hg] at h
            dsimp only at h
            cases ht : t ρ' st with
            | bad => rw [ht] at h; cases h
            | err c s => rw [ht] at h; cases h
            | ok c s1 =>
              rw [ht] at h
              refine ⟨ρ', c, s1, rfl, ht, fun hc => ?_, fun hc => ?_⟩
              · subst hc
                exact ⟨h0, h⟩
              · subst hc
                have h2 : ((e ρ' s1).calm.bind fun y s => (compV f g t e ρ m (i + 1) s).bind fun ys s => .ok (y :: ys) s) = .ok (whole.drop (N0 - N)) sF := h
                cases he : e ρ' s1 with
                | bad => rw [he] at h2; cases h2
                | err c s => rw [he] at h2; cases h2
                | ok y s2 =>
                  rw [he] at h2
                  have h3 : ((compV f g t e ρ m (i + 1) s2).bind fun ys s => .ok (y :: ys) s) = .ok (whole.drop (N0 - N)) sF := h2
                  cases hr : compV f g t e ρ m (i + 1) s2 with
                  | bad => rw [hr] at h3; cases h3
                  | err c s => rw [hr] at h3; cases h3
                  | ok ys s3 =>
                    rw [hr] at h3
                    have h4 : Res.ok (y :: ys) s3 = Res.ok (whole.drop (N0 - N)) sF := h3
                    injection h4 with h5 h6
                    subst h6
                    have hN1 : N - 1 + 1 = N := by omega
                    refine ⟨y, s2, rfl, by omega, ?_, ?_⟩
                    · rw [hN1]
                      have : (whole.drop (N0 - N))[0]? = some y := by rw [← h5]; rfl
                      rwa [List.getElem?_drop, Nat.add_zero] at this
                    · rw [hr]
                      have : ys = (whole.drop (N0 - N)).drop 1 := by rw [← h5]; rfl
                      rw [this, List.drop_drop]
                      rw [show N0 - N + 1 = N0 - (N - 1) by omega]
        · cases h
theorem compV_len : ∀ {n i : Nat} {s : Stt} {ys : List PV} {s1 : Stt}, compV f g t e ρ n i s = .ok ys s1 → ys.length = 0 ∨ ys.length + i ≤ szl := by
  intro n
  induction n with
  | zero => intro i s ys s1 h; cases h
  | succ n ih =>
    intro i s ys s1 h
    unfold compV at h
    split at h
    · cases h
    · split at h
      · injection h with h1 h2
        rw [← h1]; exact .inl rfl
      · split at h
        · rename_i hb
          have hlt : i < szl := Nat.le_of_ble_eq_true hb
          split at h
          · cases h
          · rename_i ρ' _
            cases ht : t ρ' s with
            | bad => rw [ht] at h; cases h
            | err c s => rw [ht] at h; cases h
            | ok c2 s2 =>
              rw [ht] at h
              cases c2 with
              | false =>
                rcases ih h with q | q
                · exact .inl q
                · exact .inr (by omega)
              | true =>
                have h2 : ((e ρ' s2).calm.bind fun y s => (compV f g t e ρ n (i + 1) s).bind fun ys s => .ok (y :: ys) s) = .ok ys s1 := h
                cases he : e ρ' s2 with
                | bad => rw [he] at h2; cases h2
                | err c s => rw [he] at h2; cases h2
                | ok y s3 =>
                  rw [he] at h2
                  have h3 : ((compV f g t e ρ n (i + 1) s3).bind fun ys s => .ok (y :: ys) s) = .ok ys s1 := h2
                  cases hr : compV f g t e ρ n (i + 1) s3 with
                  | bad => rw [hr] at h3; cases h3
                  | err c s => rw [hr] at h3; cases h3
                  | ok zs s4 =>
                    rw [hr] at h3
                    have h4 : Res.ok (y :: zs) s4 = Res.ok ys s1 := h3
                    injection h4 with h5 h6
                    right
                    rw [← h5, List.length_cons]
                    rcases ih hr with q | q <;> omega
        · cases h
theorem compV_calm : ∀ {n i : Nat} {s : Stt} {c : Nat} {s1 : Stt}, compV f g t e ρ n i s ≠ .err c s1 := by
  intro n
  induction n with
  | zero => intro i s c s1 h; cases h
  | succ n ih =>
    intro i s c s1 h
    unfold compV at h
    split at h
    · cases h
    · split at h
      · cases h
      · split at h
        · split at h
          · cases h
          · rename_i ρ' _
            cases ht : t ρ' s with
            | bad => rw [ht] at h; cases h
            | err c s => rw [ht] at h; cases h
            | ok c2 s2 =>
              rw [ht] at h
              cases c2 with
              | false => exact ih h
              | true =>
                have h2 : ((e ρ' s2).calm.bind fun y s => (compV f g t e ρ n (i + 1) s).bind fun ys s => .ok (y :: ys) s) = .err c s1 := h
                cases he : e ρ' s2 with
                | bad => rw [he] at h2; cases h2
                | err c s => rw [he] at h2; cases h2
                | ok y s3 =>
                  rw [he] at h2
                  have h3 : ((compV f g t e ρ n (i + 1) s3).bind fun ys s => .ok (y :: ys) s) = .err c s1 := h2
                  cases hr : compV f g t e ρ n (i + 1) s3 with
                  | bad => rw [hr] at h3; cases h3
                  | err c s => exact ih hr
                  | ok zs s4 => rw [hr] at h3; cases h3
        · cases h
end
section
variable {X : Cx} {W : Wd} {μ μ1 : List Addr} {H H1 : Hp} {st : Stt} {pos : Pos}
/-- the list at S holds what has been handed out -/
def colP (K : PySem.W.Frag) (whole : List PV) (S : Addr) : Heap → List Addr → Hp → Prop := fun h μ H => ∃ acc c vs, h.get? S = some (lstObj acc c) ∧ Vals vs acc.toList ∧ RVs K μ H (whole.take acc.size) vs
theorem colP_mono {K : PySem.W.Frag} : ∀ whole S h μ H μ' H', Ext μ H μ' H' → colP K whole S h μ H → colP K whole S h μ' H' := fun whole S h μ H μ' H' x ⟨acc, c, vs, e, r, rs⟩ => ⟨acc, c, vs, e, r, rs.ext x⟩
theorem code_extend_gx {A : Around} {X' : Cx} {ρw : Env} {σw : L2.St} {fp : List Addr} {f : Src} {gg : Gx} {t : Tx} {e : Ex} {whole : List PV} {sF : Stt} {N0 : Nat} {a S : Addr} {g : Nat} {res : Value} {R : Result → Shared → Prop} (hh : A.handled = none) (hroom : A.depth < recursionLimit) (hSa : S ≠ a) (hSc : S ≠ cStatics) (hw0 : whole.length ≤ szl)
    (hend : ∀ s₀ s1 s2 μ' H' acc c vs, GxAt X W (colP X.K whole S) X' μ1 H1 ρw σw fp [a, S] s₀ s1 μ' sF H' → s1.heap.get? S = some (lstObj acc c) → Vals vs acc.toList → RVs X.K μ' H' whole vs → H' S = none → (∀ b o, s1.heap.get? b = some o → s2.heap.get? b = some o) → s2.os = s1.os → AllBare s2.gens → R (.ok (.ret res)) s2) :
    ∀ (N : Nat) (s : Shared) (Ψ : Heap → Prop) (acc : Array Value) (c : Nat), GxW X.prog X.w A.in1 (gxR X W (colP X.K whole S) X' μ1 H1 ρw σw fp [a, S] (colF whole sF N0)) (gxY X W (colP X.K whole S) X' μ1 H1 ρw σw fp [a, S] (colK f gg t e ρw whole sF N0) (colY f gg t e ρw whole sF N0)) [a, S] a g N Ψ s →
      Ψ s.heap → s.heap.get? S = some (lstObj acc c) → acc.size = N0 - N → codeAny (model X.prog X.w) A (.builtin "list.extend.loop" ⟨[.ref S, .ref a, res], []⟩) R s := by
  have step : ∀ (N : Nat) (s : Shared) (Ψ : Heap → Prop) (acc : Array Value) (c : Nat),
      (∀ M, N = M + 1 → ∀ (s : Shared) (Ψ : Heap → Prop) (acc : Array Value) (c : Nat), GxW X.prog X.w A.in1 (gxR X W (colP X.K whole S) X' μ1 H1 ρw σw fp [a, S] (colF whole sF N0)) (gxY X W (colP X.K whole S) X' μ1 H1 ρw σw fp [a, S] (colK f gg t e ρw whole sF N0) (colY f gg t e ρw whole sF N0)) [a, S] a g M Ψ s →
        Ψ s.heap → s.heap.get? S = some (lstObj acc c) → acc.size = N0 - M → codeAny (model X.prog X.w) A (.builtin "list.extend.loop" ⟨[.ref S, .ref a, res], []⟩) R s) →
      GxW X.prog X.w A.in1 (gxR X W (colP X.K whole S) X' μ1 H1 ρw σw fp [a, S] (colF whole sF N0)) (gxY X W (colP X.K whole S) X' μ1 H1 ρw σw fp [a, S] (colK f gg t e ρw whole sF N0) (colY f gg t e ρw whole sF N0)) [a, S] a g N Ψ s →
      Ψ s.heap → s.heap.get? S = some (lstObj acc c) → acc.size = N0 - N → codeAny (model X.prog X.w) A (.builtin "list.extend.loop" ⟨[.ref S, .ref a, res], []⟩) R s := by
    intro N s Ψ acc c ih hw hψ hS hsz
    refine codeAny_builtin F.entry_extend_loop ?_
    rw [Around.under_plainId F.plain_extend_loop _]
    show wpAny _ A.in1 (pyNext (.ref a) >>= _) _ _ s
    refine wpAny_bind (gx_next col_genK hh hroom hw hψ (fun s1 s2 μ' st' H' G hf k os hb => ?_) (fun m i y x v s1 s2 μ' st' H' G rx ry hy eh eo hb kn => ?_))
    · obtain ⟨h1, h2, rfl⟩ := hf
      obtain ⟨acc', c', vs, e', r', rs⟩ := G.phi
      have e2 : s.heap.get? S = some (lstObj acc' c') := e'
      rw [hS] at e2
      have e3 : acc = acc' := by
        have := Option.some.inj e2
        unfold lstObj at this
        injection this with q1 q2 q3 q4
        injection q3
      subst e3
      obtain ⟨p1, p2, _⟩ := G.inv.pin (S, lstObj acc c) (List.mem_append_right _ (mem_pinsAt (List.mem_cons_of_mem _ (List.mem_singleton.mpr rfl)) hS))
      refine wpAny_pure (hend _ s1 s2 μ' H' acc c vs G p1 r' ?_ p2 k os hb)
      rw [hsz, List.take_of_length_le h2] at rs
      exact rs
    · obtain ⟨y1, y2, y3⟩ := hy
      have hS1 : s1.heap.get? S = some (lstObj acc c) := (G.inv.pin (S, lstObj acc c) (List.mem_append_right _ (mem_pinsAt (List.mem_cons_of_mem _ (List.mem_singleton.mpr rfl)) hS))).1
      obtain ⟨M, hM, hw2⟩ := kn ⟨by omega, y3⟩
      subst hM
      have hM1 : M + 1 - 1 = M := rfl
      rw [hM1] at y1 y2 y3
      have hlt : acc.size < whole.length := by
        rw [hsz]
        exact (List.getElem?_eq_some_iff.mp y2).1
      have hasz : acc.size < sizeLine := by rw [sizeLine_eq]; exact Nat.lt_of_lt_of_le hlt hw0
      have hS2 : s2.heap.get? S = some (lstObj acc c) := by rw [eh]; exact hS1
      show wpAny _ A.in1 (updateSeq S (·.push v) >>= _) _ _ _
      refine wpAny_bind ?_
      refine wpAny_updateSeq hS2 rfl (wpAny_pure ⟨plainId_quiet F.plain_extend_loop _, ?_⟩) (Nat.le_of_lt hasz) (by show (acc.push v).size ≤ sizeLine + 1; rw [Array.size_push]; omega)
      have keep3 : ∀ b o, b ≠ S → s2.heap.get? b = some o → (s2.heap.update S (Obj.mapSeq (·.push v))).get? b = some o := fun b o hbS e => (Heap.get?_update_other _ _ (Ne.symm hbS)).trans e
      have hS3 := Heap.get?_update_self (Obj.mapSeq (·.push v)) hS2 rfl
      obtain ⟨acc', c', vs, e', r', rs⟩ := G.phi
      have e2 : s.heap.get? S = some (lstObj acc' c') := e'
      rw [hS] at e2
      have e3 : acc = acc' := by
        have := Option.some.inj e2
        unfold lstObj at this
        injection this with q1 q2 q3 q4
        injection q3
      subst e3
      have hsz' : (acc.push v).size = N0 - M := by rw [Array.size_push, hsz]; omega
      refine ih M rfl { s2 with heap := s2.heap.update S (Obj.mapSeq (·.push v)) } _ (acc.push v) _ (hw2.moved ⟨fun b o hb e => keep3 b o (fun z => hb (z ▸ List.mem_cons_of_mem _ (List.mem_singleton.mpr rfl))) e, fun b hb => ?_, rfl, hb⟩ rfl (Heap.get?_update_other _ _ hSa) ?_) ⟨acc.push v, _, vs ++ [x], hS3, ?_, ?_⟩ hS3 hsz'
      · rcases List.mem_cons.mp hb with rfl | hb
        · obtain ⟨o, e, n⟩ := hw2.2.2.2.2.1 _ hb
          exact ⟨o, keep3 _ _ (Ne.symm hSa) e, n⟩
        · rw [List.mem_singleton.mp hb]
          exact ⟨_, hS3, fun z q => by cases q⟩
      · obtain ⟨mc, hns, hnn⟩ := hw2.2.2.1
        exact ⟨mc, hns.at' fun o e => keep3 _ o (Ne.symm hSc) e, hnn⟩
      · rw [Array.toList_push]; exact r'.append (.cons rx .nil)
      · rw [Array.size_push, List.take_add_one, hsz, y2]
        rw [hsz] at rs
        exact rs.append (.cons ry .nil)
  intro N
  induction N with
  | zero => exact fun s Ψ acc c => step 0 s Ψ acc c fun M h => by cases h
  | succ N ih => exact fun s Ψ acc c => step (N + 1) s Ψ acc c fun M h => by cases h; exact ih
/-- a generator expression that has been made, all of whose items are known -/
def ColMade (X : Cx) (W : Wd) (Φ : List PV → Addr → Heap → List Addr → Hp → Prop) (k : Nat) (pins : List (Addr × Obj)) (σ : L2.St) (P : List Addr → Hp → List PV → Stt → Prop) (whole : List PV) (a : Addr) (s5 : Shared) : Prop :=
  ∃ (X' : Around → Cx) (ρw : Env) (σw : L2.St) (fp : List Addr) (f : Src) (gg : Gx) (t : Tx) (e : Ex) (sF : Stt) (g N0 : Nat) (μ4 : List Addr) (H4 : Hp), whole.length ≤ szl ∧ s5.heap.IsGen a g ∧ s5.heap.NoLimit ∧ AllBare s5.gens ∧
    (∀ A S s6, Room (k + 2) A → A.frames = some X.stack → s5.heap.objs.size ≤ S → (∀ b o, s5.heap.get? b = some o → s6.heap.get? b = some o) → s6.os = s5.os → AllBare s6.gens → s6.gens[g]? = s5.gens[g]? → (∃ o, s6.heap.get? S = some o ∧ ∀ v, o.data ≠ .cell v) →
      GxW X.prog X.w A (gxR X W (Φ whole S) (X' A) μ4 H4 ρw σw fp [a, S] (colF whole sF N0)) (gxY X W (Φ whole S) (X' A) μ4 H4 ρw σw fp [a, S] (colK f gg t e ρw whole sF N0) (colY f gg t e ρw whole sF N0)) [a, S] a g N0 (fun h => Φ whole S h μ4 H4) s6) ∧
    (∀ A S s₀ s1 s2 μ' H', GxAt X W (Φ whole S) (X' A) μ4 H4 ρw σw fp [a, S] s₀ s1 μ' sF H' → (∀ b o, s1.heap.get? b = some o → s2.heap.get? b = some o) → s2.os = s1.os → AllBare s2.gens → Inv X pins σ H' s2 ∧ StOk X.K W μ' sF H' ∧ P μ' H' whole sF)
theorem gx_col_run {Φ : List PV → Addr → Heap → List Addr → Hp → Prop} (hΦ : ∀ whole S h μ H μ' H', Ext μ H μ' H' → Φ whole S h μ H → Φ whole S h μ' H') {elt tg iter : Expr} {ifs : List Expr} {scope : Scope} {own : List (Str × Nat)} {src : Ix} {gg : Gx} {is : List Nat} {t : Tx} {e : Ex} {c Pt : Addr} {k : Nat} {gpos : Pos} {pins : List (Addr × Obj)} {s : Shared} {σ : L2.St} {T : WX} {ρ : Env} {Q' : Value → Shared → Prop} {P : List Addr → Hp → List PV → Stt → Prop}
    (hp : GxParts X W tg elt iter ifs scope own src gg is t e c Pt k) (I : Inv X pins σ H s) (tk : Takes X T) (en : EnvOk X.K μ H ρ σ) (ok : StOk X.K W μ st H)
    (out : OutG X W μ H T P (lComp (own.map (·.2)) gg src t e ρ st))
    (h : ∀ a s5 whole sF, lComp (own.map (·.2)) gg src t e ρ st = .ok whole sF → ColMade X W Φ k pins σ P whole a s5 → Q' (.ref a) s5) :
    wpAny (model X.prog X.w) X.A (eval (.GeneratorExp elt [⟨tg, iter, ifs, 0⟩] scope gpos) X.env) Q' X.xe s := by
  refine genexp_make (k := k + 8) hp.room hp.tb hp.code hp.tab hp.tabs hp.ok hp.co hp.cell hp.dot hp.it hp.fold I tk en ok (PP := fun μ1 H1 f s1 => (∃ l, f s1 = some l) ∧ OutG X W μ1 H1 T P (match f s1 with
    | none => .bad
    | some l => compV f gg t e (wipeE ρ (own.map (·.2))) (l.length + 1) 0 s1 : Res (List PV))) ?_ (fun _ _ _ _ h => h.1) ?_
  · refine (OutG.bind out).mono fun μ1 H1 f s1 x1 ok1 h1 => ?_
    refine ⟨?_, h1⟩
    cases hl : f s1 with
    | none => rw [hl] at h1; exact h1.elim
    | some l => exact ⟨l, rfl⟩
  · intro a s5 μ1 H1 μ4 H4 f st1 code s4 it fp tn J g hsrc hPP x1 x4 hl M
    obtain ⟨_, out1⟩ := hPP
    obtain ⟨l, hl⟩ := hl
    rw [hl] at out1
    dsimp only at out1
    cases hR : compV f gg t e (wipeE ρ (own.map (·.2))) (l.length + 1) 0 st1 with
    | bad => rw [hR] at out1; exact out1.elim
    | err c s => exact (compV_calm hR).elim
    | ok whole sF =>
      rw [hR] at out1
      have hlen : whole.length ≤ szl := by
        rcases compV_len hR with q | q
        · rw [q]; exact Nat.zero_le _
        · exact q
      refine h a s5 whole sF (by unfold lComp; rw [hsrc]; show (match f st1 with | none => .bad | some l => compV f gg t e (wipeE ρ (own.map (·.2))) (l.length + 1) 0 st1 : Res (List PV)) = _; rw [hl]; exact hR) ⟨fun A => gxOf X A.in1 s4 H4 (gxEnv X scope s4.heap.objs.size code) fp, wipeE ρ (own.map (·.2)), L2.wipe σ (own.map (·.2)), fp, f, gg, t, e, sF, g, l.length + 1, μ4, H4, hlen, M.isg, M.inv.nolimit.keeps M.kept, M.bare, fun A S s6 hr hfr hS k6 os6 hb6 hg6 hSl => ?_, fun A S s₀ s1 s2 μ' H' G kp os hb => ?_⟩
      · have hrd : Room k (A.in1.deeper (gxEnv X scope s4.heap.objs.size code)) := (hr.in1).deeper _
        refine gx_first (Φ := Φ whole S) (n := l.length + 1) (hΦ whole S) M col_genK hp.ok hp.nd hp.cell hp.co hr.hd hfr hp.sub (hp.pg _ _ _ _ _ _) (hp.pt _ _ _ _ _ _ hrd) (hp.pe _ _ _ _ _ _ hrd) k6 os6 hb6 hg6 (List.mem_cons_self ..) (fun b hb => ?_) ⟨Nat.le_refl _, by rw [Nat.sub_self, List.drop_zero]; exact hR⟩ (Nat.le_refl _)
        rcases List.mem_cons.mp hb with rfl | hb
        · obtain ⟨o, nm, qn, ho, hc, hd, hsl⟩ := M.isg
          exact ⟨M.young.1, o, k6 _ _ ho, fun v z => by rw [hd] at z; cases z⟩
        · rw [List.mem_singleton.mp hb]
          exact ⟨Nat.lt_of_lt_of_le M.young.1 (Nat.le_trans (Nat.le_of_lt M.young.2) hS), hSl⟩
      · exact ⟨gx_back M G kp os hb, G.ok, out1 μ' H' (x4.trans G.ext) G.ok⟩
theorem collect_gx {k : Nat} {pins : List (Addr × Obj)} {σ : L2.St} {P : List Addr → Hp → List PV → Stt → Prop} {whole : List PV} {a : Addr} {s : Shared} {A : Around} {Q : List Value → Shared → Prop} {E : Value → Shared → Prop} (C : ColMade X W (colP X.K) k pins σ P whole a s) (hr : Room (k + 3) A) (hfr : A.frames = some X.stack)
    (hQ : ∀ s2 acc vs μ' H' sF, Inv X pins σ H' s2 → Vals vs acc → RVs X.K μ' H' whole vs → StOk X.K W μ' sF H' → P μ' H' whole sF → vs.length ≤ sizeLine → Q acc s2) : wpAny (model X.prog X.w) A (collect (.ref a)) Q E s := by
  obtain ⟨X', ρw, σw, fp, f, gg, t, e, sF, g, N0, μ4, H4, hlen, hg, hl, hb, start, fin⟩ := C
  have hSa : s.heap.objs.size ≠ a := fun q => by
    obtain ⟨o, nm, qn, ho, _⟩ := hg
    rw [← q] at ho
    exact absurd (Heap.lt_size ho) (Nat.lt_irrefl _)
  have hcl : cStatics < s.heap.objs.size := let ⟨_, hn, _⟩ := hl; hn.lt
  have hSc : s.heap.objs.size ≠ cStatics := Nat.ne_of_gt hcl
  unfold collect
  refine wpAny_bind (wpAny_runValue (codeAny_builtin F.entry_proto_collect ?_))
  rw [Around.under_plainId F.plain_proto_collect _]
  show wpAny _ A.in1 (newList [] >>= fun l => again (.builtin "list.__iadd__" ⟨[l, .ref a], []⟩)) _ _ s
  refine wpAny_bind (wpAny_newObj_type ?_)
  refine wpAny_pure ⟨plainId_quiet F.plain_list_iadd _, codeAny_builtin F.entry_list_iadd ?_⟩
  rw [Around.under_plainId F.plain_list_iadd _]
  show wpAny _ A.in1 (Builtin.List.listExtendWith (.ref s.heap.objs.size) (.ref a) (.ref s.heap.objs.size)) _ _ _
  unfold Builtin.List.listExtendWith
  have k1 : ∀ b o, s.heap.get? b = some o → (s.heap.push { cls := .type "list", data := .seq ([] : List Value).toArray }).get? b = some o := fun b o e => Heap.get?_push_of_some _ e
  have gty : ∀ {h : Heap}, (∀ b o, s.heap.get? b = some o → h.get? b = some o) → h.IsGen a g := fun {h} q => hg.keeps q
  refine wpAny_bind (wpAny_typeOf (Heap.IsGen.typeIs (s := { s with heap := _ }) (gty k1)) ?_)
  have h1 : Builtin.List.listSameRef (.ref s.heap.objs.size) (.ref a) = false := by simp [Builtin.List.listSameRef, hSa]
  have h2 : (Value.type "generator" == Value.type "list") = false := by decide
  have h3 : (Value.type "generator" == Value.type "tuple") = false := by decide
  simp only [h1, h2, h3, Bool.or_false, Bool.false_eq_true, if_false]
  refine wpAny_bind (wpAny_pyIter_gen (s := { s with heap := _ }) (gty k1) ?_)
  refine wpAny_bind (wpAny_holding ?_)
  unfold Builtin.List.listLengthHint
  refine wpAny_bind (wpAny_specialOf (Heap.IsGen.typeIs (s := { s with heap := _ }) (gty k1)) F.gen_no_len ?_)
  show wpAny _ A.in1 (specialOf (Value.ref a) (Str.ofString "__length_hint__") >>= _) _ _ _
  refine wpAny_bind (wpAny_specialOf (Heap.IsGen.typeIs (s := { s with heap := _ }) (gty k1)) F.gen_no_hint ?_)
  refine wpAny_pure ?_
  show wpAny _ A.in1 (rule "list.extend.makes-room" >>= fun _ => Builtin.List.listTouch (.ref s.heap.objs.size) >>= fun _ =>
    again (.builtin "list.extend.loop" ⟨[.ref s.heap.objs.size, .ref a, .ref s.heap.objs.size], []⟩)) _ _ _
  refine wpAny_bind (wpAny_rule ?_)
  have hS₁ : (s.heap.push { cls := .type "list", data := .seq ([] : List Value).toArray }).get? s.heap.objs.size = some { cls := .type "list", data := .seq ([] : List Value).toArray } := Heap.get?_push_size _ rfl
  refine wpAny_bind ?_
  show wpAny _ A.in1 (updateSeq s.heap.objs.size (·.push .none) >>= fun _ => updateSeq s.heap.objs.size (·.pop)) _ _ _
  refine wpAny_bind (wpAny_updateSeq hS₁ rfl ?_)
  have hS₂ := Heap.get?_update_self (Obj.mapSeq (·.push Value.none)) hS₁ rfl
  refine wpAny_updateSeq (hz := by seq_fits) hS₂ rfl ?_
  have hS₃ := Heap.get?_update_self (Obj.mapSeq (·.pop)) hS₂ rfl
  have up : ∀ (h : Heap) (f : Obj → Obj), (∀ b o, s.heap.get? b = some o → h.get? b = some o) → ∀ b o, s.heap.get? b = some o → (h.update s.heap.objs.size f).get? b = some o := fun h f q b o e =>
    (Heap.get?_update_other _ _ (Ne.symm (Nat.ne_of_lt (Heap.lt_size e)))).trans (q b o e)
  have k3 := up _ (Obj.mapSeq (·.pop)) (up _ (Obj.mapSeq (·.push Value.none)) k1)
  have hw := start A.in1 s.heap.objs.size { s with heap := _ } (hr.in1) hfr (Nat.le_refl _) k3 rfl hb rfl ⟨_, hS₃, fun v z => by cases z⟩
  refine wpAny_pure ⟨plainId_quiet F.plain_extend_loop _, code_extend_gx hr.hd (by have := hr.dp; show A.depth < _; omega) hSa hSc hlen (fun s₀ s1 s2 μ' H' acc c vs G e1 r rs hn kp os hb => ?_) N0 _ _ _ _ hw ⟨_, _, [], hS₃, .nil, ?_⟩ hS₃ (by rw [Nat.sub_self]; rfl)⟩
  · obtain ⟨I2, ok2, hP⟩ := fin _ _ _ _ _ _ _ G kp os hb
    show wpAny _ A (load s.heap.objs.size >>= _) _ _ s2
    refine wpAny_bind (wpAny_load (kp _ _ e1) ?_)
    exact wpAny_pure (hQ s2 acc.toList vs μ' H' sF I2 r rs ok2 hP (by rw [← rs.length, sizeLine_eq]; exact hlen))
  · exact .nil
end
end Ev
/-! Ev17: tuple, sorted, sum of a generator expression. -/
namespace Ev
open PySem PySem.Spec PyProof.Rows L2 GenW
/-- tuple(e for ..) -/
def eTupG (l : Lx) : Ex := fun ρ s => (l ρ s).bind fun xs s => .ok (.tup xs) s
/-- sorted(e for ..) -/
def eSortG (l : Lx) : Ex := fun ρ s => (l ρ s).bind fun xs s => if srtOk xs then .ok (.lst (srtP xs)) s else .bad
mutual
theorem reads_in {h : Heap} : ∀ {v : Value} {d : PyData} {as : List Addr}, Reads h v d as → ∀ b ∈ as, b < h.objs.size
  | _, _, _, .none => fun b hb => absurd hb (by simp)
  | _, _, _, .bool _ => fun b hb => absurd hb (by simp)
  | _, _, _, .int _ _ => fun b hb => absurd hb (by simp)
  | _, _, _, .str _ _ => fun b hb => absurd hb (by simp)
  | _, _, _, .list e _ _ r => fun b hb => by
    rcases List.mem_cons.mp hb with rfl | hb
    · exact Heap.lt_size e
    · exact readsAll_in r b hb
  | _, _, _, .tuple e _ _ r => fun b hb => readsAll_in r b hb
  | _, _, _, .dict e _ _ r1 r2 => fun b hb => by
    rcases List.mem_cons.mp hb with rfl | hb
    · exact Heap.lt_size e
    · rcases List.mem_append.mp hb with hb | hb
      · exact readsAll_in r1 b hb
      · exact readsAll_in r2 b hb
theorem readsAll_in {h : Heap} : ∀ {v : List Value} {d : List PyData} {as : List Addr}, ReadsAll h v d as → ∀ b ∈ as, b < h.objs.size
  | _, _, _, .nil => fun b hb => absurd hb (by simp)
  | _, _, _, .cons r1 r2 => fun b hb => by
    rcases List.mem_append.mp hb with hb | hb
    · exact reads_in r1 b hb
    · exact readsAll_in r2 b hb
end
section
variable {X : Cx} {W : Wd} {μ μ1 : List Addr} {H H1 : Hp} {st : Stt} {pos : Pos}
theorem ColMade.isg {k : Nat} {pins : List (Addr × Obj)} {σ : L2.St} {P : List Addr → Hp → List PV → Stt → Prop} {whole : List PV} {a : Addr} {s : Shared} (C : ColMade X W (colP X.K) k pins σ P whole a s) : ∃ g, s.heap.IsGen a g := by
  obtain ⟨_, _, _, _, _, _, _, _, _, g, _, _, _, _, h, _⟩ := C
  exact ⟨g, h⟩
theorem code_tuple_new_gx {k : Nat} {pins : List (Addr × Obj)} {σ : L2.St} {P : List Addr → Hp → List PV → Stt → Prop} {whole : List PV} {a : Addr} {s : Shared} {A : Around} {Q₁ : Value → Shared → Prop} {E : Value → Shared → Prop} (C : ColMade X W (colP X.K) k pins σ P whole a s) (hr : Room (k + 4) A) (hfr : A.frames = some X.stack)
    (h : ∀ s2 acc vs μ' H' sF, Inv X pins σ H' s2 → Vals vs acc → RVs X.K μ' H' whole vs → StOk X.K W μ' sF H' → P μ' H' whole sF → vs.length ≤ sizeLine → Q₁ (.ref s2.heap.objs.size) { s2 with heap := s2.heap.push { cls := .type "tuple", data := .seq acc.toArray } }) :
    codeAny (model X.prog X.w) A (.call (.builtin "tuple.__new__") ⟨[.type "tuple", .ref a], []⟩) (wants Q₁ E) s := by
  refine codeAny_of_tree ?_
  show wpAny _ A.in1 (do checkBuiltinCall "tuple.__new__" ⟨[.type "tuple", .ref a], []⟩; again (.builtin "tuple.__new__" ⟨[.type "tuple", .ref a], []⟩)) _ _ s
  refine wpAny_bind (wpAny_of_eq (F.newCall_tuple_1 _) (wpAny_pure ⟨plainId_quiet F.plain_tuple_new _, codeAny_builtin F.entry_tuple_new ?_⟩))
  rw [Around.under_plainId F.plain_tuple_new _]
  have hsub := sub_tuple_self
  have hinit := init_tuple_lookup
  have hmh := madeHere_tuple
  obtain ⟨g, hg⟩ := C.isg
  have hTI : s.TypeIs (.ref a) "generator" := hg.typeIs
  have hr1 := hr.in1
  wp_walk using wpAny_typeOf hTI, collect_gx C hr1 hfr
  intro s2 acc vs μ' H' sF I2 r rs ok2 hP hlen
  show wpAny _ _ (Builtin.Tuple.tupleExact acc.toArray >>= fun v => ret v) _ _ _
  unfold Builtin.Tuple.tupleExact
  refine wpAny_bind (wpAny_newObj_type ?_ (by show acc.toArray.size ≤ sizeLine; rw [List.size_toArray, ← r.length]; exact hlen))
  refine wpAny_pure ?_
  exact h s2 acc vs μ' H' sF I2 r rs ok2 hP hlen
theorem call_tuple_gx {k : Nat} {pins : List (Addr × Obj)} {σ : L2.St} {P : List Addr → Hp → List PV → Stt → Prop} {whole : List PV} {a : Addr} {s : Shared} {A : Around} {Q : Value → Shared → Prop} {E : Value → Shared → Prop} (C : ColMade X W (colP X.K) k pins σ P whole a s) (hr : Room (k + 5) A) (hfr : A.frames = some X.stack)
    (hQ : ∀ s2 acc vs μ' H' sF, Inv X pins σ H' s2 → Vals vs acc → RVs X.K μ' H' whole vs → StOk X.K W μ' sF H' → P μ' H' whole sF → vs.length ≤ sizeLine → Q (.ref s2.heap.objs.size) { s2 with heap := s2.heap.push { cls := .type "tuple", data := .seq acc.toArray } }) :
    wpAny (model X.prog X.w) A (call (.type "tuple") [.ref a]) Q E s := by
  refine callType_codes (Q₁ := fun obj s₁ => s₁.TypeIs obj "tuple" ∧ Q obj s₁) F.called_tuple (F.typeCall_tuple_1 _) F.entry_object_init
    (code_tuple_new_gx C hr.in1 hfr fun s2 acc vs μ' H' sF I2 r rs ok2 hP hlen => ⟨⟨_, Heap.get?_push_size _ rfl, rfl⟩, hQ s2 acc vs μ' H' sF I2 r rs ok2 hP hlen⟩) fun obj s₁ h₁ => ?_
  exact ⟨h₁.1, F.args_object_init_2 obj _, object_init_meets F.called_tuple.init.lookup F.called_tuple.made (by decide) X.prog X.w A.in1 _ s₁ ⟨h₁.1, rfl, h₁.2⟩⟩
section
variable {elt tg iter : Expr} {ifs : List Expr} {scope : Scope} {own : List (Str × Nat)} {src : Ix} {gg : Gx} {is : List Nat} {t : Tx} {e : Ex} {c P : Addr} {k : Nat} {gpos p : Pos}
theorem se_tupG {pos : Pos} (hp : GxParts X W tg elt iter ifs scope own src gg is t e c P k) (hg : Gl X "tuple") (hm : X.mg "tuple" = none)
    (he : starEach [.GeneratorExp elt [⟨tg, iter, ifs, 0⟩] scope gpos] X.env = (false, eval (.GeneratorExp elt [⟨tg, iter, ifs, 0⟩] scope gpos) X.env) :: starEach [] X.env) :
    SE X W (.Call (.Name "tuple" p) [.GeneratorExp elt [⟨tg, iter, ifs, 0⟩] scope gpos] [] pos) (eTupG (lComp (own.map (·.2)) gg src t e)) := by
  refine ⟨fun pins s σ H Q I ⟨T, ρ, μ, st, tk, en, ok, out⟩ => ?_⟩
  refine wpAny_Call_Name_kw (ld_blt I hg hm (by decide +kernel : bootBuiltins "tuple" = some (.type "tuple")) ?_)
  refine callWith_type1 ?_ he (by rfl)
  rw [he]
  show wpAny _ _ (spliced ((false, eval (.GeneratorExp elt [⟨tg, iter, ifs, 0⟩] scope gpos) X.env) :: backTo pos (starEach [] X.env))) _ _ s
  refine Calls.spliced_cons (gx_col_run (Φ := colP X.K) colP_mono hp I tk en ok (OutG.bind out) fun a s5 whole _ _ C => ?_)
  refine Calls.spliced_nil ?_
  have hr := hp.room
  refine call_tuple_gx C (hr.mono (by omega)) I.ok.frames fun s2 acc vs μ' H' sF I2 r rs ok2 hP hlen => ?_
  have I3 : Inv X pins σ (upd H' s2.heap.objs.size (.tup vs)) { s2 with heap := s2.heap.push { cls := .type "tuple", data := .seq acc.toArray } } :=
    I2.laid (t' := s2.toks) (fun b o e => Heap.get?_push_of_some _ e) (Nat.le_refl _) (show ObjOk X.prog X.w _ _ _ (.tup vs) from ⟨hlen, acc, r, IsTup.new _ _⟩)
  refine ⟨.ref s2.heap.objs.size, _, I3, rfl, ?_⟩
  exact new_tup ok2 rs (fun μ'' H'' v x' ok' r' => hP μ'' H'' x' ok' v r') _ (I2.hok.fresh (Nat.le_refl _))
theorem se_sortG {pos : Pos} (hp : GxParts X W tg elt iter ifs scope own src gg is t e c P k) (hu : X.A.units + 80 < cLine) (hg : Gl X "sorted") (hm : X.mg "sorted" = none)
    (he : starEach [.GeneratorExp elt [⟨tg, iter, ifs, 0⟩] scope gpos] X.env = (false, eval (.GeneratorExp elt [⟨tg, iter, ifs, 0⟩] scope gpos) X.env) :: starEach [] X.env) :
    SE X W (.Call (.Name "sorted" p) [.GeneratorExp elt [⟨tg, iter, ifs, 0⟩] scope gpos] [] pos) (eSortG (lComp (own.map (·.2)) gg src t e)) := by
  suffices hs : PE X (.Call (.Name "sorted" p) [.GeneratorExp elt [⟨tg, iter, ifs, 0⟩] scope gpos] [] pos) (fun σ H Q => ∃ T ρ μ st, Takes X T ∧ EnvOk X.K μ H ρ σ ∧ StOk X.K W μ st H ∧
      OutG X W μ H T (fun μ' H' xs s' => srtOk xs = true ∧ ∀ ys p, RVs X.K μ' H' (srtP xs) ys → H' p = none → Q (.ref p) (upd H' p (.lst ys))) (lComp (own.map (·.2)) gg src t e ρ st)) from by
    refine PE.imp (pe_fz hs) fun σ H Q ⟨T, ρ, μ, st, tk, en, ok, out⟩ => ⟨T, ρ, μ, st, tk, en, ok, (OutG.bind out).mono fun μ' H' xs s' x' ok' h => ?_⟩
    split at h
    · rename_i hl
      exact ⟨hl, fun ys p rs hp => fz_list ok' rs (fun μ'' H'' v x'' ok'' r'' => h μ'' H'' x'' ok'' v r'') p hp⟩
    · exact h.elim
  refine ⟨fun pins s σ H Q I ⟨T, ρ, μ, st, tk, en, ok, out⟩ => ?_⟩
  refine wpAny_Call_Name_kw (ld_blt I hg hm (by decide +kernel : bootBuiltins "sorted" = some (.builtin "sorted")) ?_)
  refine PyProof.Rows.callWith_builtin1 ?_ he (by rfl)
  rw [he]
  show wpAny _ _ (spliced ((false, eval (.GeneratorExp elt [⟨tg, iter, ifs, 0⟩] scope gpos) X.env) :: backTo pos (starEach [] X.env))) _ _ s
  refine Calls.spliced_cons (gx_col_run (Φ := colP X.K) colP_mono hp I tk en ok out fun a s5 whole _ _ C => ?_)
  refine Calls.spliced_nil ?_
  have hr := hp.room
  refine Calls.call_function_entry kind_sorted plain_sorted entry_sorted (args_sorted1 _) ?_
  unfold Builtin.«sorted»
  refine wpAny_bind (m := checkCount "sorted" 1 1 _) (wpAny_pure ?_)
  refine wpAny_bind (collect_gx C (hr.mono (by omega : k + 4 ≤ k + 8)).in1 I.ok.frames fun s2 acc vs μ' H' sF I2 r rs ok2 hP hlen => ?_)
  obtain ⟨hl, q⟩ := hP
  have hal : acc.length ≤ sizeLine := by rw [← r.length]; exact hlen
  refine wpAny_bind (wpAny_newList ?_ hal)
  have hl' := hl
  unfold srtOk at hl'
  simp only [Bool.and_eq_true] at hl'
  obtain ⟨⟨h1, h2⟩, h3⟩ := hl'
  obtain ⟨e1, e2⟩ := each_of I2 h2 rs r
  have k3 : ∀ b o, s2.heap.get? b = some o → (s2.heap.push { cls := .type "list", data := .seq acc.toArray }).get? b = some o := fun b o e => Heap.get?_push_of_some _ e
  have hoL : (s2.heap.push { cls := .type "list", data := .seq acc.toArray }).get? s2.heap.objs.size = some (seqObj "list" acc.toArray 0) := Heap.get?_push_size _ rfl
  refine wpAny_bind (wpAny_holding (wpAny_mono (PySem.W.list_sort_data (A := X.A.in1) (Q := fun _ s' => EP X pins σ Q (.ref s2.heap.objs.size) s') (enc := pd) hoL e1 (e2.mono fun u b ⟨as, h⟩ => ⟨as, PyProof.Rows.Reads.keeps k3 h, fun hm => Nat.lt_irrefl _ (reads_in h _ hm)⟩) ?_ ?_ ?_ ?_ fun out ho eo => ?_) (fun _ s' x => ?_) fun _ _ e => e))
  · intro d hd d' hd'
    obtain ⟨b, hb, rfl⟩ := List.mem_map.mp hd
    obtain ⟨b', hb', rfl⟩ := List.mem_map.mp hd'
    exact (alP_pd b b' (alAll_mem h1 hb hb')).1
  · rcases Bool.or_eq_true _ _ ▸ h3 with h3 | h3
    · refine .inl fun d hd => ?_
      obtain ⟨b, hb, rfl⟩ := List.mem_map.mp hd
      have := List.all_eq_true.mp h3 b hb
      unfold hdTup at this
      split at this
      · exact ⟨_, _, by rw [pd, pds]⟩
      · cases this
    · refine .inr fun d hd => ?_
      obtain ⟨b, hb, rfl⟩ := List.mem_map.mp hd
      have := List.all_eq_true.mp h3 b hb
      exact oth_pd this
  · rw [rs.length]; exact hlen
  · intro b hb
    have := depth_le 60 b (List.all_eq_true.mp h2 b hb)
    show X.A.units + 1 + 1 + _ < cLine
    omega
  · have ho' : PySem.W.EachIs (fun (u : Value) (p : PV) => ∃ x, RelV x u ∧ RV X.K μ' H' p x) out (srtP whole) := by
      rw [← srtP_eq h1]
      exact eo
    obtain ⟨ys, v1, v2⟩ := vals_of_each ho'
    obtain ⟨ep, he'⟩ := sortedHeap_at (vs := acc) (out := out.toArray) hoL
    have hlen2 : ys.length ≤ sizeLine := by rw [v1.length, ho, rs.length]; exact hlen
    exact ⟨.ref _, upd H' s2.heap.objs.size (.lst ys), I2.laid (t' := s2.toks) (fun b o e => (sortedHeap_old (Nat.ne_of_lt (Heap.lt_size e)) (Heap.lt_size (k3 b o e))).trans (k3 b o e)) (Nat.le_refl _) ⟨hlen2, out, ep, v1, he'⟩, rfl, q ys _ v2 (I2.hok.fresh (Nat.le_refl _))⟩
  · exact wpAny_pure ⟨_, rfl, x⟩
end
end
end Ev
/-! Ev18: sum of a generator expression. -/
namespace Ev
open PySem PySem.Spec PyProof.Rows L2 GenW
/-- ints that are small -/
def smallI (i : Int) : Bool := decide (-(2 ^ 38) < i) && decide (i < 2 ^ 38)
/-- sum(e for ..): small ints -/
def eSumG (l : Lx) : Ex := fun ρ s => (l ρ s).bind fun xs s => match intsP xs with
  | some is => if is.all smallI then .ok (.int (sumI is)) s else .bad
  | none => .bad
theorem sumI_app : ∀ (a b : List Int), sumI (a ++ b) = sumI a + sumI b
  | [], b => by simp [sumI]
  | x :: a, b => by
    show x + sumI (a ++ b) = x + sumI a + sumI b
    rw [sumI_app a b, Int.add_assoc]
theorem sumI_small : ∀ (a : List Int), a.all smallI = true → -(2 ^ 38 * (a.length : Int)) ≤ sumI a ∧ sumI a ≤ 2 ^ 38 * (a.length : Int)
  | [], _ => by simp [sumI]
  | x :: a, h => by
    have h' : smallI x = true ∧ a.all smallI = true := by simpa using h
    have ih := sumI_small a h'.2
    have hx : -(2 ^ 38) < x ∧ x < 2 ^ 38 := by simpa [smallI] using h'.1
    show _ ≤ x + sumI a ∧ x + sumI a ≤ _
    rw [List.length_cons]
    omega
theorem intsP_get : ∀ {xs : List PV} {is : List Int} {j : Nat} {y : PV}, intsP xs = some is → xs[j]? = some y → ∃ i, y = .int i ∧ is[j]? = some i
  | [], _, _, _, _, h => by simp at h
  | x :: xs, is, j, y, h, e => by
    unfold intsP at h
    cases x <;> first | cases h | skip
    rename_i i
    cases ht : intsP xs with
    | none => simp [ht] at h
    | some js =>
      simp [ht] at h
      subst h
      cases j with
      | zero => simp at e; subst e; exact ⟨i, rfl, rfl⟩
      | succ j => simp at e; simpa using intsP_get ht e
theorem intsP_len : ∀ {xs : List PV} {is : List Int}, intsP xs = some is → is.length = xs.length
  | [], _, h => by cases h; rfl
  | x :: xs, is, h => by
    unfold intsP at h
    cases x <;> first | cases h | skip
    cases ht : intsP xs with
    | none => simp [ht] at h
    | some js =>
      simp [ht] at h
      subst h
      simp [intsP_len ht]
section
variable {X : Cx} {W : Wd} {μ μ1 : List Addr} {H H1 : Hp} {st : Stt} {pos : Pos}
theorem code_sum_gx {A : Around} {X' : Cx} {ρw : Env} {σw : L2.St} {fp : List Addr} {f : Src} {gg : Gx} {t : Tx} {e : Ex} {whole : List PV} {is : List Int} {sF : Stt} {N0 : Nat} {a S : Addr} {g : Nat} {R : Result → Shared → Prop} (hh : A.handled = none) (hroom : A.depth < recursionLimit) (hSa : S ≠ a) (hSc : S ≠ cStatics) (hw0 : whole.length ≤ szl) (hi : intsP whole = some is) (hs : is.all smallI = true)
    (hend : ∀ s₀ s1 s2 μ' H' tk, GxAt X W phiT X' μ1 H1 ρw σw fp [a, S] s₀ s1 μ' sF H' → (∀ b o, s1.heap.get? b = some o → s2.heap.get? b = some o) → s2.os = s1.os → AllBare s2.gens → R (.ok (.ret (.int (sumI is) tk))) s2) :
    ∀ (N : Nat) (s : Shared) (tA : Tok) (c : Nat), GxW X.prog X.w A.in1 (gxR X W phiT X' μ1 H1 ρw σw fp [a, S] (colF whole sF N0)) (gxY X W phiT X' μ1 H1 ρw σw fp [a, S] (colK f gg t e ρw whole sF N0) (colY f gg t e ρw whole sF N0)) [a, S] a g N (fun _ => True) s →
      s.heap.get? S = some (lstObj #[.int (sumI (is.take (N0 - N))) tA] c) → codeAny (model X.prog X.w) A (.builtin "sum.loop" ⟨[.ref a, .ref S, rawInt 0, rawInt 0], []⟩) R s := by
  have step : ∀ (N : Nat) (s : Shared) (tA : Tok) (c : Nat),
      (∀ M, N = M + 1 → ∀ (s : Shared) (tA : Tok) (c : Nat), GxW X.prog X.w A.in1 (gxR X W phiT X' μ1 H1 ρw σw fp [a, S] (colF whole sF N0)) (gxY X W phiT X' μ1 H1 ρw σw fp [a, S] (colK f gg t e ρw whole sF N0) (colY f gg t e ρw whole sF N0)) [a, S] a g M (fun _ => True) s →
        s.heap.get? S = some (lstObj #[.int (sumI (is.take (N0 - M))) tA] c) → codeAny (model X.prog X.w) A (.builtin "sum.loop" ⟨[.ref a, .ref S, rawInt 0, rawInt 0], []⟩) R s) →
      GxW X.prog X.w A.in1 (gxR X W phiT X' μ1 H1 ρw σw fp [a, S] (colF whole sF N0)) (gxY X W phiT X' μ1 H1 ρw σw fp [a, S] (colK f gg t e ρw whole sF N0) (colY f gg t e ρw whole sF N0)) [a, S] a g N (fun _ => True) s →
      s.heap.get? S = some (lstObj #[.int (sumI (is.take (N0 - N))) tA] c) → codeAny (model X.prog X.w) A (.builtin "sum.loop" ⟨[.ref a, .ref S, rawInt 0, rawInt 0], []⟩) R s := by
    intro N s tA c ih hw hS
    refine codeAny_builtin F.entry_sum_loop ?_
    rw [Around.under_plainId F.plain_sum_loop _]
    show wpAny _ A.in1 (seqItems? (.ref S) >>= _) _ _ s
    refine wpAny_bind (wpAny_seqItems hS rfl ?_)
    show wpAny _ A.in1 (tryCatch (pyNext (.ref a)) _ >>= _) _ _ s
    refine wpAny_bind (wpAny_tryCatch (gx_next col_genK hh hroom hw trivial (fun s1 s2 μ' st' H' G hf k os hb => ?_) (fun m i y x v s1 s2 μ' st' H' G rx ry hy eh eo hb kn => ?_)))
    · obtain ⟨h1, h2, rfl⟩ := hf
      rw [List.take_of_length_le (by rw [intsP_len hi]; exact h2)]
      exact wpAny_pure (hend _ s1 s2 μ' H' tA G k os hb)
    · obtain ⟨y1, y2, y3⟩ := hy
      have hS1 := (G.inv.pin (S, lstObj #[.int (sumI (is.take (N0 - N))) tA] c) (List.mem_append_right _ (mem_pinsAt (List.mem_cons_of_mem _ (List.mem_singleton.mpr rfl)) hS))).1
      obtain ⟨M, hM, hw2⟩ := kn ⟨by omega, y3⟩
      subst hM
      have hM1 : M + 1 - 1 = M := rfl
      rw [hM1] at y1 y2 y3
      obtain ⟨z, rfl, hz⟩ := intsP_get hi y2
      cases ry
      obtain ⟨tz, rfl⟩ := rx
      have hS2 : s2.heap.get? S = some (lstObj #[.int (sumI (is.take (N0 - (M + 1)))) tA] c) := by rw [eh]; exact hS1
      have etk : is.take (N0 - M) = is.take (N0 - (M + 1)) ++ [z] := by
        have e1 : N0 - M = N0 - (M + 1) + 1 := by omega
        rw [e1, List.take_add_one, hz]; rfl
      have esum : sumI (is.take (N0 - M)) = sumI (is.take (N0 - (M + 1))) + z := by
        rw [etk, sumI_app]
        show _ + (z + 0) = _
        rw [Int.add_zero]
      have hzs : smallI z = true := List.all_eq_true.mp hs z (List.mem_of_getElem? hz)
      have hsz : -(2 ^ 38) < z ∧ z < 2 ^ 38 := by simpa [smallI] using hzs
      have htk : (is.take (N0 - M)).all smallI = true := List.all_eq_true.mpr fun x hx => List.all_eq_true.mp hs x (List.mem_of_mem_take hx)
      have b1 := sumI_small _ htk
      have b2 : (is.take (N0 - M)).length ≤ szl := by rw [List.length_take]; exact Nat.le_trans (Nat.min_le_right _ _) (by rw [intsP_len hi]; exact hw0)
      have b3 : (szl : Nat) = 16777216 := rfl
      rw [esum] at b1
      have hc : ((decide (-(2 ^ 63) ≤ z) && decide (z < 2 ^ 63)) && (decide (-(2 ^ 63) ≤ sumI (is.take (N0 - (M + 1))) + z) && decide (sumI (is.take (N0 - (M + 1))) + z < 2 ^ 63))) = true := by
        simp only [Bool.and_eq_true, decide_eq_true_eq]
        omega
      show wpAny _ A.in1 (if (_ : Bool) = true then (mkInt (sumI (is.take (N0 - (M + 1))) + z) >>= _) else _) _ _ _
      split
      · refine wpAny_bind (wpAny_mkInt ?_)
        show wpAny _ A.in1 (updateSeq S (fun _ => #[.int (sumI (is.take (N0 - (M + 1))) + z) s2.toks]) >>= _) _ _ _
        refine wpAny_bind ?_
        refine wpAny_updateSeq hS2 rfl (wpAny_pure ⟨plainId_quiet F.plain_sum_loop _, ?_⟩)
        have keep3 : ∀ b o, b ≠ S → s2.heap.get? b = some o → (s2.heap.update S (Obj.mapSeq (fun _ => #[.int (sumI (is.take (N0 - (M + 1))) + z) s2.toks]))).get? b = some o := fun b o hbS e => (Heap.get?_update_other _ _ (Ne.symm hbS)).trans e
        have hS3 := Heap.get?_update_self (Obj.mapSeq (fun _ => #[.int (sumI (is.take (N0 - (M + 1))) + z) s2.toks])) hS2 rfl
        refine ih M rfl { s2 with heap := s2.heap.update S (Obj.mapSeq (fun _ => #[.int (sumI (is.take (N0 - (M + 1))) + z) s2.toks])), toks := _ } s2.toks _ (hw2.moved ⟨fun b o hb e => keep3 b o (fun z => hb (z ▸ List.mem_cons_of_mem _ (List.mem_singleton.mpr rfl))) e, fun b hb => ?_, rfl, hb⟩ rfl (Heap.get?_update_other _ _ hSa) ?_) (by rw [esum]; exact hS3)
        · rcases List.mem_cons.mp hb with rfl | hb
          · obtain ⟨o, e, n⟩ := hw2.2.2.2.2.1 _ hb
            exact ⟨o, keep3 _ _ (Ne.symm hSa) e, n⟩
          · rw [List.mem_singleton.mp hb]
            exact ⟨_, hS3, fun z q => by cases q⟩
        · obtain ⟨mc, hns, hnn⟩ := hw2.2.2.1
          exact ⟨mc, hns.at' fun o e => keep3 _ o (Ne.symm hSc) e, hnn⟩
      · rename_i hneg
        exact absurd hc hneg
  intro N
  induction N with
  | zero => exact fun s tA c => step 0 s tA c fun M h => by cases h
  | succ N ih => exact fun s tA c => step (N + 1) s tA c fun M h => by cases h; exact ih
section
variable {elt tg iter : Expr} {ifs : List Expr} {scope : Scope} {own : List (Str × Nat)} {src : Ix} {gg : Gx} {is : List Nat} {t : Tx} {e : Ex} {c P : Addr} {k : Nat} {gpos p : Pos}
theorem se_sumG {pos : Pos} (hp : GxParts X W tg elt iter ifs scope own src gg is t e c P k) (hg : Gl X "sum") (hm : X.mg "sum" = none)
    (he : starEach [.GeneratorExp elt [⟨tg, iter, ifs, 0⟩] scope gpos] X.env = (false, eval (.GeneratorExp elt [⟨tg, iter, ifs, 0⟩] scope gpos) X.env) :: starEach [] X.env) :
    SE X W (.Call (.Name "sum" p) [.GeneratorExp elt [⟨tg, iter, ifs, 0⟩] scope gpos] [] pos) (eSumG (lComp (own.map (·.2)) gg src t e)) := by
  refine ⟨fun pins s σ H Q I ⟨T, ρ, μ, st, tk, en, ok, out⟩ => ?_⟩
  refine wpAny_Call_Name_kw (ld_blt I hg hm (by decide +kernel : bootBuiltins "sum" = some (.builtin "sum")) ?_)
  refine PyProof.Rows.callWith_builtin1 ?_ he (by rfl)
  rw [he]
  show wpAny _ _ (spliced ((false, eval (.GeneratorExp elt [⟨tg, iter, ifs, 0⟩] scope gpos) X.env) :: backTo pos (starEach [] X.env))) _ _ s
  refine Calls.spliced_cons (gx_col_run (Φ := fun _ _ _ _ _ => True) (fun _ _ _ _ _ _ _ _ h => h) hp I tk en ok (OutG.bind out) fun a s5 whole sF0 hcomp C => ?_)
  refine Calls.spliced_nil ?_
  have hr := hp.room
  obtain ⟨X', ρw, σw, fp, f, gg', t', e', sF, g, N0, μ4, H4, hlen, hgen, hl, hb, start, fin⟩ := C
  refine call_function_tree F.kind_sum F.plain_sum F.entry_sum (F.args_sum1 _) ?_
  unfold Builtin.«sum»
  simp only [List.length_cons, List.length_nil]
  rw [if_neg (by decide)]
  refine wpAny_bind (wpAny_of_eq (show Builtin.Builtins.bindParams "sum" ["start"] 0 { } = pure [none] from rfl) ?_)
  refine wpAny_bind (wpAny_pyIter_gen hgen ?_)
  refine wpAny_bind (wpAny_mkInt ?_)
  refine wpAny_bind (wpAny_pure ?_)
  simp only [List.forIn_cons, List.forIn_nil]
  refine wpAny_bind (wpAny_bind (wpAny_bind (wpAny_isInstance (T := "int") (b := false) (typeIs_int _ _ _) PySem.sub_int_str ?_)))
  simp only [Bool.false_eq_true, if_false]
  refine wpAny_pure (wpAny_bind (wpAny_bind (wpAny_isInstance (T := "int") (b := false) (typeIs_int _ _ _) PySem.sub_int_bytes ?_)))
  simp only [Bool.false_eq_true, if_false]
  refine wpAny_pure (wpAny_bind (wpAny_bind (wpAny_isInstance (T := "int") (b := false) (typeIs_int _ _ _) PySem.sub_int_bytearray ?_)))
  simp only [Bool.false_eq_true, if_false]
  refine wpAny_pure (wpAny_pure ?_)
  refine wpAny_bind (wpAny_newObj_type ?_)
  have out0 := out
  unfold eSumG at out0
  rw [hcomp] at out0
  have out0 : Out X W μ H T Q (match intsP whole with
    | some is => if is.all smallI then .ok (.int (sumI is)) sF0 else .bad
    | none => .bad : Res PV) := out0
  cases hi : intsP whole with
  | none => rw [hi] at out0; exact out0.elim
  | some is' =>
    rw [hi] at out0
    dsimp only at out0
    cases hs : is'.all smallI with
    | false => rw [hs, if_neg Bool.false_ne_true] at out0; exact out0.elim
    | true =>
      have hSa : s5.heap.objs.size ≠ a := fun q => by
        obtain ⟨o, nm, qn, ho, _⟩ := hgen
        rw [← q] at ho
        exact absurd (Heap.lt_size ho) (Nat.lt_irrefl _)
      have hcl : cStatics < s5.heap.objs.size := let ⟨_, hn, _⟩ := hl; hn.lt
      have hSc : s5.heap.objs.size ≠ cStatics := Nat.ne_of_gt hcl
      have hS := Heap.get?_push_size (h := s5.heap) (o := { cls := .type "list", data := .seq [Value.int 0 s5.toks].toArray }) (by first | rfl | exact rfl)
      have hw := start X.A.in1 s5.heap.objs.size { s5 with heap := s5.heap.push { cls := .type "list", data := .seq [Value.int 0 s5.toks].toArray }, toks := s5.toks + 1 } ((hr.mono (by omega : k + 3 ≤ k + 8)).in1) I.ok.frames (Nat.le_refl _) (fun b o e => Heap.get?_push_of_some _ e) rfl hb rfl ⟨_, Heap.get?_push_size _ rfl, fun v z => by cases z⟩
      refine wpAny_pure ⟨plainId_quiet F.plain_sum_loop _, code_sum_gx (A := X.A) hr.hd (by have := hr.dp; show X.A.depth < _; omega) hSa hSc hlen hi hs (fun s₀ s1 s2 μ' H' tk G kp os hb' => ?_) N0 _ s5.toks 0 hw ?_⟩
      · obtain ⟨I2, ok2, hP⟩ := fin _ _ _ _ _ _ _ G kp os hb'
        rw [hi] at hP
        dsimp only at hP
        rw [hs, if_pos rfl] at hP
        exact ⟨.int _, H', I2, ⟨_, rfl⟩, hP μ' H' (Ext.refl _ _) ok2 _ (.int _)⟩
      · rw [Nat.sub_self]
        exact Heap.get?_push_size _ rfl
end
end
end Ev
/-! Ev19: lambdas: made, told. -/
namespace Ev
open PySem PySem.Spec PyProof.Rows L2
/-- what a def that calls its argument, and catches cs, makes of a lambda -/
def eTold (cs : List Nat) (ret : List Nat) (m : Ex) : Ex := fun ρ s => match m ρ s with
  | .ok v s => .ok v s
  | .err d s => if cs.contains d then .ok (.str ret) s else .bad
  | .bad => .bad
/-- f is such a lambda, its code known -/
def LamAt (H : Hp) (q : Str) (cl : List (Str × Addr)) (params : Arguments) (body : Expr) (scope : Scope) (f : Addr) : Prop :=
  ∃ (pm ctv : Value) (c' : Addr), H f = some (.ext fun h => h.get? f = some (PySem.W.kla_obj "<lambda>" q params body scope cl pm c' ctv)) ∧ H c' = some (LamX.CodeO c' q)
section
variable {X : Cx} {W : Wd} {pins : List (Addr × Obj)} {σ : L2.St} {H : Hp} {s : Shared} {μ μ' : List Addr} {st : Stt}
theorem upd_comm {H : Hp} {a b : Addr} {x y : HO} (h : a ≠ b) : upd (upd H a x) b y = upd (upd H b y) a x := by
  funext z
  by_cases h1 : z = a
  · subst h1
    rw [upd_ne h, upd_same, upd_same]
  · rw [upd_ne h1]
    by_cases h2 : z = b
    · subst h2
      rw [upd_same, upd_same]
    · rw [upd_ne h2, upd_ne h2, upd_ne h1]
theorem ext_tab {P : Addr} {ps ps' : Array Value} (hP : H P = some (.tbl ps)) : Ext μ H μ (upd H P (.tbl ps')) := by
  have nP : ∀ b u, H b = some u → (∀ q, u ≠ .tbl q) → b ≠ P := fun b u e q z => by
    rw [z, hP] at e
    exact q ps (Option.some.inj e).symm
  refine ⟨List.prefix_refl _, fun b xs e => ?_, fun b o u e => ?_, fun b u e _ n => ?_, fun b qs e => ?_, fun _ h => .inl h⟩
  · rw [upd_ne (nP b _ e fun q z => by cases z)]; exact e
  · rw [upd_ne (nP b _ e fun q z => by cases z)]; exact e
  · rw [upd_ne (nP b _ e n)]; exact e
  · by_cases hb : b = P
    · exact ⟨_, by rw [hb, upd_same]⟩
    · exact ⟨qs, by rw [upd_ne hb]; exact e⟩
theorem stok_tab {P : Addr} {ps ps' : Array Value} (ok : StOk X.K W μ st H) (hP : H P = some (.tbl ps)) (hT : ∀ p ∈ W.tabs, p.1 = P → TabK (upd H P (.tbl ps')) p) : StOk X.K W μ st (upd H P (.tbl ps')) := by
  have nP : ∀ b u, H b = some u → (∀ q, u ≠ .tbl q) → b ≠ P := fun b u e q z => by
    rw [z, hP] at e
    exact q ps (Option.some.inj e).symm
  have hnm : P ∉ μ := fun hm => by
    obtain ⟨i, hi⟩ := List.getElem?_of_mem hm
    obtain ⟨o, _, r⟩ := ok.ob hi
    obtain ⟨w, hw, _, _, n3, _⟩ := r.live
    rw [hP] at hw
    exact n3 _ (Option.some.inj hw).symm
  refine ok.keep (ext_tab hP) (fun a ha => upd_ne fun z => hnm ((show a = P from z) ▸ ha)) fun p hp => ?_
  by_cases hQ : p.1 = P
  · exact hT p hp hQ
  · have hk := ok.tabs _ hp
    obtain ⟨Q, q⟩ := p
    cases q with
    | none =>
      obtain ⟨qs, h1, h2⟩ := hk
      exact ⟨qs, by rw [upd_ne hQ]; exact h1, h2⟩
    | some q =>
      obtain ⟨qs, h1, h2, h3⟩ := hk
      refine ⟨qs, by rw [upd_ne hQ]; exact h1, h2, fun pos cv hc => ?_⟩
      obtain ⟨c, e1, e2⟩ := h3 pos cv hc
      exact ⟨c, e1, by rw [upd_ne (nP c _ e2 fun q z => by cases z)]; exact e2⟩
/-- a lambda is made -/
theorem lam_make3 {c P : Addr} {params : Arguments} {body : Expr} {scope : Scope} {pos : Pos} {E : Value → Shared → Prop} {Q : Value → Shared → Prop} (I : Inv X pins σ H s) (TB : LamX.TabB X.base X.mg c P) (hcode : X.env.code = .ref c)
    (hm : (P, some (X.env.qual ++ "<lambda>")) ∈ W.tabs) (hu : ∀ p ∈ W.tabs, p.1 = P → p.2 = some (X.env.qual ++ "<lambda>")) (ok : StOk X.K W μ st H) (hdef : defaultsOf params X.env = ([], [])) (hfree : ∀ y ∈ scope.names, y.2 = .free → ∃ c, X.env.cells.lookup y.1 = some c)
    (h : ∀ (f : Addr) (H1 : Hp) (s' : Shared), Inv X pins σ H1 s' → Ext μ H μ H1 → StOk X.K W μ st H1 → LamAt H1 (X.env.qual ++ "<lambda>") (cloFrom X.env.cells scope.names []) params body scope f → f ∉ frs X.stack → H f = none → Q (.ref f) s') :
    wpAny (model X.prog X.w) X.A (eval (.Lambda params body scope pos) X.env) Q E s := by
  obtain ⟨ps, hP, ht, ha⟩ := (show LamX.TabS H P _ from ok.tabs _ hm)
  refine PySem.W.kla_eval hdef ?_
  have bP : s.heap.BuiltinsAt X.mg P := TB.bm.keeps I.bk
  have hP' : s.heap.get? P = some { cls := .none, data := .fields ps } := I.hok P _ hP
  have nofr : ∀ f, s.heap.objs.size ≤ f → f ∉ frs X.stack := fun f hf z => by
    rcases List.mem_cons.mp (I.stkSub _ z) with e | e
    · have h1 := I.lt
      rw [← e] at h1
      exact Nat.lt_irrefl _ (Nat.lt_of_lt_of_le h1 hf)
    · exact I.nofs hf e
  have lam : ∀ (H1 : Hp) (h' : Heap) (tk : Nat) (c' : Addr) (ctv : Value), Inv X pins σ H1 { s with heap := h', toks := tk } → Ext μ H μ H1 → StOk X.K W μ st H1 → H1 c' = some (LamX.CodeO c' (X.env.qual ++ "<lambda>")) → s.heap.objs.size ≤ h'.objs.size →
      Q (.ref h'.objs.size) { s with heap := h'.push (PySem.W.kla_obj "<lambda>" (X.env.qual ++ "<lambda>") params body scope (cloFrom X.env.cells scope.names []) ((X.mg "__name__").getD .none) c' ctv), toks := tk } := by
    intro H1 h' tk c' ctv I1 x1 ok1 hc' hsz
    have hf : H1 h'.objs.size = none := I1.hok.fresh (Nat.le_refl _)
    have I2 : Inv X pins σ (upd H1 h'.objs.size (.ext fun h => h.get? h'.objs.size = some (PySem.W.kla_obj "<lambda>" (X.env.qual ++ "<lambda>") params body scope (cloFrom X.env.cells scope.names []) ((X.mg "__name__").getD .none) c' ctv))) { s with heap := h'.push (PySem.W.kla_obj "<lambda>" (X.env.qual ++ "<lambda>") params body scope (cloFrom X.env.cells scope.names []) ((X.mg "__name__").getD .none) c' ctv), toks := tk } :=
      I1.laid (t' := tk) (fun b o e => Heap.get?_push_of_some _ e) (Nat.le_refl _) ⟨Heap.get?_push_size _ rfl, ⟨_, Heap.get?_push_size _ rfl⟩, fun h1 h2 a st => st _ a⟩
    exact h _ _ _ I2 (x1.trans (ext_new hf)) (ok1.fresh hf) ⟨_, _, c', upd_same, by rw [upd_ne (ne_of_none hc' hf)]; exact hc'⟩ (nofr _ hsz) (I.hok.fresh hsz)
  cases hc : codeAmong pos ps.toList with
  | none =>
    refine PySem.W.kla_makeFunction (mg := X.mg) (c := c) (P := P) (ps := ps) (closure_ok hfree) I.ok.glob (I.mod.glob.keeps I.bk) hcode (TB.code.keeps I.bk) hP' ht hc TB.gP bP fun c' ctv h' tk hx hge hlt hrec htb => ?_
    obtain ⟨c2, oc, vs, t, e2, hoc, hd, hv⟩ := hrec
    cases e2
    have hsz : s.heap.objs.size ≤ h'.objs.size := Nat.le_trans hge (Nat.le_of_lt hlt)
    have nC : H c' = none := I.hok.fresh hge
    have nPc : P ≠ c' := ne_of_none hP nC
    have I1 := LamX.inv_table (t' := tk) (more := #[rawInt pos.line, rawInt pos.col, .ref c']) (h' := h') I hP (fun b o hb e => hx b o hb e) htb hge ⟨oc, vs, t, hoc, hd, hv⟩
    rw [upd_comm nPc] at I1
    have hP2 : upd H c' (LamX.CodeO c' (X.env.qual ++ "<lambda>")) P = some (.tbl ps) := by rw [upd_ne nPc]; exact hP
    have eL : (ps ++ #[rawInt pos.line, rawInt pos.col, .ref c']).toList = ps.toList ++ [rawInt pos.line, rawInt pos.col, .ref c'] := by simp
    refine lam _ h' tk c' ctv I1 ((ext_new nC).trans (ext_tab hP2)) (stok_tab (ok.fresh nC) hP2 fun p hp hpP => ?_) (by rw [upd_ne (Ne.symm nPc), upd_same]) hsz
    obtain ⟨Q', q'⟩ := p
    have hpP : Q' = P := hpP
    have hq : q' = some (X.env.qual ++ "<lambda>") := hu _ hp hpP
    subst hpP hq
    refine ⟨_, upd_same, by rw [eL]; exact PySem.TriplesOk_snoc _ _ _ _ ht, fun p' cv hcv => ?_⟩
    rw [eL] at hcv
    rcases LamX.among_app _ ht hcv with z | z
    · obtain ⟨c0, e1, e2⟩ := ha p' cv z
      exact ⟨c0, e1, by rw [upd_ne (fun w => by rw [w, hP] at e2; cases e2), upd_ne (ne_of_none e2 nC)]; exact e2⟩
    · exact ⟨c', z, by rw [upd_ne (Ne.symm nPc), upd_same]⟩
  | some cv =>
    obtain ⟨c', e, hco⟩ := ha pos cv hc
    subst e
    refine PySem.W.kla_makeFunctionHit (mg := X.mg) (c := c) (P := P) (ps := ps) (closure_ok hfree) I.ok.glob (I.mod.glob.keeps I.bk) hcode (TB.code.keeps I.bk) hP' ht hc bP fun ctv h' tk hx hsz => ?_
    exact lam H h' tk c' ctv (I.kept fun b o e => hx b o e) (Ext.refl _ _) ok hco hsz
/-- x(), in the def that got the lambda: as the kit's, but the function object is known to the heap -/
theorem pe_act2 {CXg : CXT} {Eg : XK} {Ng : List Str} {qg : Str} {sg : Scope} {g f c' : Addr} {cdg pm ctv : Value} {params : Arguments} {body : Expr} {scope : Scope} {k i : Nat} {a : Str} {pn : List (Addr × Obj)} {xe : Value → Shared → Prop} {Wx : WX} {E : XK} {tb : TE} {p1 p2 : Pos}
    (I : Inv X pins σ H s) (L : LamX.LamS X.env.scope scope)
    (hbind : bindArgs (PySem.W.kla_fn "<lambda>" (X.env.qual ++ "<lambda>") params body scope (cloFrom X.env.cells scope.names []) pm (.ref c') ctv) ⟨[], []⟩ = pure [])
    (tk : Takes ((cxOf CXg X.prog X.w X.K X.mg X.base Ng qg sg g cdg X.A X.stack s H Eg).tr pn xe) Wx) (hW : ∀ cls d σ' H', E cls d H' → Wx cls d σ' H') (hr : Room (k + 1) (X.A.deeper (envOfC qg sg s.heap.objs.size g cdg)))
    (hbody : ∀ (A : Around) (outer : List PySem.Env) (s : Shared) (H : Hp), Room k (A.deeper (LamX.lamEnv X scope s.heap.objs.size f c')) → PE (LamX.lamCx X A outer s H E scope f c') body tb)
    (hN : Ng[i]? = some a) (hv : Vis sg a) (hd : (a == ("__debug__" : Str)) = false := by decide) (hcd : (a == ("__classdict__" : Str)) = false := by decide) :
    PE ((cxOf CXg X.prog X.w X.K X.mg X.base Ng qg sg g cdg X.A X.stack s H Eg).tr pn xe) (.Call (.Name a p1) [] [] p2)
      (fun σZ HZ Q => σZ[i]? = some (some (.ref f)) ∧ HZ c' = some (LamX.CodeO c' (X.env.qual ++ "<lambda>")) ∧ HZ f = some (.ext fun h => h.get? f = some (PySem.W.kla_obj "<lambda>" (X.env.qual ++ "<lambda>") params body scope (cloFrom X.env.cells scope.names []) pm c' ctv)) ∧ tb σ HZ Q) := by
  refine ⟨fun pinsZ sZ σZ HZ Q IZ h => ?_⟩
  obtain ⟨hs, hc, hf, ht⟩ := h
  refine wpAny_Call_Name_kw (thn ((pe_var (pos := p1) (i := i) hN hv hd hcd).run pinsZ sZ σZ HZ (fun v H1 => v = .ref f ∧ H1 = HZ) IZ ⟨.ref f, hs, rfl, rfl⟩) fun u s1 ⟨v, H1, I1, r1, q1⟩ => ?_)
  obtain ⟨ev, eH⟩ := q1
  subst ev
  rw [eH] at I1
  obtain rfl : u = Value.ref f := r1
  have of1 : s1.heap.get? f = some (PySem.W.kla_obj "<lambda>" (X.env.qual ++ "<lambda>") params body scope (cloFrom X.env.cells scope.names []) pm c' ctv) := (I1.hok f _ hf).1
  refine PySem.W.callWith_F0 ⟨_, _, _, _, of1⟩ ?_
  have un : Un (frs X.stack) [] H HZ s.heap s1.heap := I1.base
  obtain ⟨⟨oc, vs, t, hoc, hdc, hvc⟩, _, _⟩ := I1.hok c' _ hc
  have rc : codeAny (model X.prog X.w) (X.A.deeper (envOfC qg sg s.heap.objs.size g cdg)) (.call (.ref f) ⟨[], []⟩) (CR (L2.CX X.prog X.w) (envOfC qg sg s.heap.objs.size g cdg :: X.stack) X.prog X.w HZ s1 Q E) s1 := by
    refine PySem.W.kla_callFunE hr.depth of1 rfl L.co L.gen rfl ⟨c', oc, vs, t, rfl, hoc, hdc, hvc⟩ ?_
    rw [hbind]
    refine wpAny_pure (wpAny_newFunctionEnv (fun y hy => (L.own y hy).2) (fun y hy => absurd hy (by simp)) (fun h₁ hns hsb => ⟨I1.nolimit.fresh _ hsb, ?_⟩) L.kind)
    show codeAny _ _ (.expr body (LamX.lamEnv X scope s1.heap.objs.size f c')) _ _
    have kp : ∀ b o, s1.heap.get? b = some o → h₁.get? b = some o := fun b o e => hsb.extBut b o (Nat.ne_of_lt (Heap.lt_size e)) (Heap.get?_push_of_some _ e)
    have J : Inv (LamX.lamCx X (X.A.deeper (envOfC qg sg s.heap.objs.size g cdg)) (envOfC qg sg s.heap.objs.size g cdg :: X.stack) s1 HZ E scope f c') [] σ HZ { s1 with heap := h₁, toks := s1.toks + ([] : List (Str × Value)).length } :=
      LamX.lam_start2 I L I1.env0 hr.hd un hns kp
    refine PySem.W.kla_codeExpr (wpAny_mono ((hbody _ _ s1 HZ (hr.deeper _)).run [] _ _ HZ Q J ht) (fun v s' hq => ?_) fun e s' hq => hq)
    obtain ⟨w', H', J', rv, q⟩ := hq
    exact ⟨w', H', J'.os, J'.bare, J'.base, J'.hok, rv, q⟩
  have hx : Passes (L2.CX X.prog X.w) ((cxOf CXg X.prog X.w X.K X.mg X.base Ng qg sg g cdg X.A X.stack s H Eg).tr pn xe) E := passes_call tk hW
  refine wpAny_call (codeAny_mono rc fun r s' hq => ?_)
  cases r with
  | error e => exact hx pinsZ σZ HZ s1 e s' I1 hq
  | ok fl =>
    cases fl with
    | ret u => exact I1.after hq
    | next => exact False.elim hq
    | brk => exact False.elim hq
    | cont => exact False.elim hq
/-- the def that tells what its argument gives: what does not hang on the caller's frame -/
structure ToldD (K : PySem.W.Frag) (mg : Str → Option Value) (W : Wd) (x : Str) (g CS : Addr) (cs : List Nat) (ret : List Nat) (Ng : List Str) (a : Str) (pg : Arguments) (bg : List Stmt) (sg : Scope) (cdv : Value) : Prop where
  hmg : mg x = some (.ref g)
  hkeep : PySem.W.keepIn K (.ref g) = true
  lk : ∃ dV kV doc pm ct oc an od osl, K.lookup g = some ⟨oc, od, .func (PySem.W.fnOf x x pg bg sg dV kV doc pm an cdv ct), osl⟩ ∧ L2.Binds K (PySem.W.fnOf x x pg bg sg dV kV doc pm an cdv ct) [a] []
  code : PySem.W.codeIn K cdv x = true
  scope : FnScope Ng [a] sg
  slot : Ng[0]? = some a
  vis : Vis sg a
  nd : (a == ("__debug__" : Str)) = false
  ncd : (a == ("__classdict__" : Str)) = false
  body : ∃ (e : Str) (j : Nat) (p1 p2 p3 p4 p5 p6 p7 p8 : Pos), bg = [.Try [.Return (some (.Call (.Name a p1) [] [] p2)) p3] [.ExceptHandler (some (.Name e p4)) none [.Return (some (.Constant (.str (sOf ret)) j p5)) p6] p7] [] [] p8] ∧ sg.names.lookup e = some .globalImplicit ∧ mg e = some (.ref CS) ∧ (e == ("__debug__" : Str)) = false
  start : ∀ f : Addr, (L2.start Ng [V.ref f])[0]? = some (some (V.ref f))
  caught : ∀ d ∈ cs, PySem.W.exmOne K (.ref (W.exc d)) (.ref CS) = some true
/-- the lambda's body does as me -/
abbrev LamBody (X : Cx) (W : Wd) (scope : Scope) (body : Expr) (me : Ex) (k : Nat) : Prop := ∀ (A : Around) (outer : List PySem.Env) (s : Shared) (H : Hp) (E : XK) (f c' : Addr), Room k (A.deeper (LamX.lamEnv X scope s.heap.objs.size f c')) → SE (LamX.lamCx X A outer s H E scope f c') W body me
theorem told_code {x a : Str} {g CS : Addr} {cs ret : List Nat} {Ng : List Str} {pg : Arguments} {bg : List Stmt} {sg : Scope} {cdv : Value} {k : Nat} {params : Arguments} {body : Expr} {scope : Scope} {me : Ex} {f : Addr} {Q : VK} {T : WX} {ρ : Env}
    (D : ToldD X.K X.mg W x g CS cs ret Ng a pg bg sg cdv) (hr : Room (k + 2) X.A) (L : LamX.LamS X.env.scope scope)
    (hbind : ∀ (q : Str) (cl : List (Str × Addr)) (pm cv ctv : Value), bindArgs (PySem.W.kla_fn "<lambda>" q params body scope cl pm cv ctv) ⟨[], []⟩ = pure [])
    (hbody : LamBody X W scope body me k) (I : Inv X pins σ H s) (en : EnvOk X.K μ H ρ σ) (ok : StOk X.K W μ st H) (hf : LamAt H (X.env.qual ++ "<lambda>") (cloFrom X.env.cells scope.names []) params body scope f)
    (out : Out X W μ H T Q (eTold cs ret me ρ st)) : codeAny (model X.prog X.w) X.A (.call (.ref g) ⟨[.ref f], []⟩) (CR C8.CX0 X.stack X.prog X.w H s Q C8.E0) s := by
  obtain ⟨pm', ctv, c', hf1, hc1⟩ := hf
  obtain ⟨dV, kV, doc, pm, ct, oc, an, od, osl, lk, hb⟩ := D.lk
  obtain ⟨e, j, p1, p2, p3, p4, p5, p6, p7, p8, rfl, hge, hme, hde⟩ := D.body
  have hG : LamX.GivesTo X Ng x sg g cdv _ a (X.env.qual ++ "<lambda>") (LamX.TTold X.K CS (sOf ret)) := LamX.told_gives (X := X) (x := x) (g := g) (cdg := cdv) (j := j) (p1 := p1) (p2 := p2) (p3 := p3) (p4 := p4) (p5 := p5) (p6 := p6) (p7 := p7) (p8 := p8) (q := X.env.qual ++ "<lambda>") (ret := sOf ret) hge hme hde D.start
  refine LamX.run_ofS (N := Ng) (ps := [a]) (us := [.ref f]) (vs := [.ref f]) lk D.code D.scope hr I.env0 (hb s [.ref f] I.kIn rfl) (.cons rfl .nil) rfl fun hr' => ?_
  let tl : XK → Hp → VK → Prop := fun E H' Q' => H' f = some (.ext fun h => h.get? f = some (PySem.W.kla_obj "<lambda>" (X.env.qual ++ "<lambda>") params body scope (cloFrom X.env.cells scope.names []) pm' c' ctv)) ∧
      ∃ ρ μ st, EnvOk X.K μ H' ρ σ ∧ StOk X.K W μ st H' ∧ Out X W μ H' (fun cls d _ H' => E cls d H') Q' (me ρ st)
  have hT : LamX.TTold X.K CS (sOf ret) tl H Q := by
    refine ⟨hf1, ρ, μ, st, en, ok, ?_⟩
    unfold eTold at out
    cases hm : me ρ st with
    | bad => rw [hm] at out; exact out.elim
    | ok v s2 => rw [hm] at out; exact out
    | err d s2 =>
      rw [hm] at out
      have out' : Out X W μ H T Q (if cs.contains d then .ok (.str ret) s2 else .bad) := out
      cases hcs : cs.contains d with
      | false => rw [hcs] at out'; exact out'.elim
      | true =>
        rw [hcs, if_pos rfl] at out'
        exact fun μ' H' σ' dd hl x' ok' => ⟨true, D.caught d (List.contains_iff_mem.mp hcs), fun _ => out' μ' H' x' ok' _ (.str ret), fun z => by cases z⟩
  obtain ⟨t', ht', hq'⟩ := hG f c' s H Q tl
    (fun Wx pn xe E p1 p2 tk hW => pe_act2 (i := 0) (k := k) (tb := fun σ H' Q' => ∃ ρ μ st, EnvOk X.K μ H' ρ σ ∧ StOk X.K W μ st H' ∧ Out X W μ H' (fun cls d _ H' => E cls d H') Q' (me ρ st)) I L (hbind _ _ _ _ _) tk hW hr' (fun A outer s H hr2 => PE.imp (hbody A outer s H E f c' hr2) fun σ H Q ⟨ρ, μ, st, en, ok, out⟩ => ⟨fun cls d _ H' => E cls d H', ρ, μ, st, takes_of rfl rfl rfl rfl, en, ok, out⟩) D.slot D.vis D.nd D.ncd) hc1 hT
  exact ⟨t', ht'.nox, hq'⟩
/-- what it ends in, in any context of the same frames -/
theorem told_end {Y : Cx} {pins : List (Addr × Obj)} {σ : L2.St} {H : Hp} {s : Shared} {g f : Addr} {Q : VK} {E' : Value → Shared → Prop} (I : Inv Y pins σ H s)
    (rc : codeAny (model Y.prog Y.w) Y.A (.call (.ref g) ⟨[.ref f], []⟩) (CR C8.CX0 Y.stack Y.prog Y.w H s Q C8.E0) s) : wpAny (model Y.prog Y.w) Y.A (call (.ref g) [.ref f]) (EP Y pins σ Q) E' s := by
  refine wpAny_call (codeAny_mono rc fun r s2 hq => ?_)
  cases r with
  | error e => exact (show False from hq).elim
  | ok fl =>
    cases fl with
    | ret u => exact I.after hq
    | next => exact False.elim hq
    | brk => exact False.elim hq
    | cont => exact False.elim hq
/-- what a lambda asks of the frame that makes it -/
structure LamMk (X : Cx) (W : Wd) (c P : Addr) (params : Arguments) (body : Expr) (scope : Scope) : Prop where
  tb : LamX.TabB X.base X.mg c P
  code : X.env.code = .ref c
  tab : (P, some (X.env.qual ++ "<lambda>")) ∈ W.tabs
  tabs : ∀ p ∈ W.tabs, p.1 = P → p.2 = some (X.env.qual ++ "<lambda>")
  dflt : defaultsOf params X.env = ([], [])
  sc : LamX.LamS X.env.scope scope
  bind : ∀ (q : Str) (cl : List (Str × Addr)) (pm cv ctv : Value), bindArgs (PySem.W.kla_fn "<lambda>" q params body scope cl pm cv ctv) ⟨[], []⟩ = pure []
/-- x(lambda: body) -/
theorem se_told {x a : Str} {g CS c P : Addr} {cs ret : List Nat} {Ng : List Str} {pg : Arguments} {bg : List Stmt} {sg : Scope} {cdv : Value} {k : Nat} {params : Arguments} {body : Expr} {scope : Scope} {me : Ex} {p lpos pos : Pos}
    (D : ToldD X.K X.mg W x g CS cs ret Ng a pg bg sg cdv) (hg : Gl X x) (hr : Room (k + 2) X.A) (M : LamMk X W c P params body scope) (hbody : LamBody X W scope body me k) (hdb : (x == ("__debug__" : Str)) = false := by decide) :
    SE X W (.Call (.Name x p) [.Lambda params body scope lpos] [] pos) (eTold cs ret me) := by
  refine ⟨fun pins s σ H Q I ⟨T, ρ, μ, st, tk, en, ok, out⟩ => ?_⟩
  refine wpAny_Call_Name_kw (ld_glob I hg D.hmg ?_ hdb)
  refine PySem.W.callWith_K (h₀ := X.base) I.ok.mod.kin D.hkeep ?_ (by rfl) (by rfl)
  show wpAny _ _ (spliced ((false, eval (.Lambda params body scope lpos) X.env) :: backTo pos (starEach [] X.env))) _ _ s
  refine Calls.spliced_cons (lam_make3 I M.tb M.code M.tab M.tabs ok M.dflt (M.sc.has I.ok) fun f H1 s' I1 x1 ok1 hf hfr _ => ?_)
  refine Calls.spliced_nil ⟨I1.kIn, ?_⟩
  exact told_end I1 (told_code D hr M.sc M.bind hbody I1 (en.ext x1) ok1 hf (OutG.ext x1 out))
end
end Ev
/-! Ev20: a comprehension whose parts see the maker's invariant. -/
namespace Ev
open PySem PySem.Spec PyProof.Rows L2
section
variable {X : Cx}
/-- the block that a comprehension runs in -/
abbrev blkOf (X : Cx) (s : Shared) (H : Hp) (scope : Scope) (cl : List (Str × Addr)) (C : Addr) (fp : List Addr) : Cx := X.blk s H scope (compEnvC scope cl C X.env) fp
theorem comp_with {pins : List (Addr × Obj)} {s : Shared} {σ : L2.St} {H : Hp} {Q : VK} {elt tg iter : Expr} {ifs : List Expr} {scope : Scope} {own : List (Str × Nat)} {pos : Pos} {wi : TI} {g : TG} {tt : TT} {te : TE}
    (calm : X.calm = true) (hN : X.N.Nodup) (I : Inv X pins σ H s) (hi : PI X tg iter wi) (ok : BlkOk X.N X.env.scope scope own)
    (hg : ∀ s H C cl fp, PG (blkOf X s H scope cl C fp) tg g) (ht : ∀ s H C cl fp, Inv X pins σ H s → (∀ b ∈ fp, FpOk X pins H b) → PTs (blkOf X s H scope cl C fp) ifs tt)
    (he : ∀ s H C cl fp, PE (blkOf X s H scope cl C fp) elt te) (hs : ∀ x, foldedSetIterable iter X.env x = pure x) (h : tLc wi g tt te (own.map (·.2)) σ H Q) :
    wpAny (model X.prog X.w) X.A (eval (.ListComp elt [⟨tg, iter, ifs, 0⟩] scope pos) X.env) (EP X pins σ Q) X.xe s := by
  have cells : ∀ y ∈ scope.names, y.2 = .free → ∃ c, X.env.cells.lookup y.1 = some c := by
    intro y hy e
    rcases ok.free y hy e with k | k
    · exact I.ok.has _ (Or.inl k)
    · exact I.ok.has _ (Or.inr k)
  rw [eval_ListComp]
  apply wpAny_comprehension_free (use := none) rfl hs (closure_ok cells) ok.kind (fun y hy e => by rw [ok.uniq y hy, e])
  refine thn (hi.run pins s σ H _ I h) fun xv sa hx => thn hx fun itv sb hy => ?_
  obtain ⟨it, fp, tn, J, Hb, e, Ib, T, tb, fb, q⟩ := hy
  subst e
  refine wpAny_newObj_type (newEnv_comp ?_) (by show 0 ≤ sizeLine; decide)
  have dn : Hb sb.heap.objs.size = none := Ib.hok.fresh (Nat.le_refl _)
  obtain ⟨Wq, ⟨m0, w0⟩, turn⟩ := q _ dn
  generalize hD : sb.heap.objs.size = D at *
  have Ic : Inv X pins σ (upd Hb D (.lst [])) { sb with heap := sb.heap.push { cls := .type "list", data := .seq ([] : List Value).toArray } } := by
    apply Ib.laid (t' := sb.toks) (fun b o e => Heap.get?_push_of_some _ e) (Nat.le_of_eq hD)
    exact ⟨Nat.zero_le _, [], 0, .nil, by rw [← hD]; exact Heap.get?_push_size _ rfl⟩
  have fc : ∀ b ∈ fp, FpOk X pins (upd Hb D (.lst [])) b ∧ b < (sb.heap.push { cls := .type "list", data := .seq ([] : List Value).toArray }).objs.size := by
    intro b hb
    obtain ⟨o, e, _⟩ := T.obj _ _ tb b hb
    have lt := Heap.lt_size e
    exact ⟨⟨by rw [upd_ne (by rw [← hD]; exact Nat.ne_of_lt lt)]; exact (fb b hb).1, (fb b hb).2⟩, by rw [Heap.size_push]; exact Nat.lt_succ_of_lt lt⟩
  have tc : tn 0 (sb.heap.push { cls := .type "list", data := .seq ([] : List Value).toArray }) := T.keep _ _ _ tb fun b _ o e => Heap.get?_push_of_some _ e
  generalize hsc : ({ sb with heap := sb.heap.push { cls := .type "list", data := .seq ([] : List Value).toArray } } : Shared) = sc at Ic
  have hch : sc.heap = sb.heap.push { cls := .type "list", data := .seq ([] : List Value).toArray } := by rw [← hsc]
  rw [← hch] at tc fc
  have Id := block_start Ic ok hN fc
  have pg := hg sc (upd Hb D (.lst [])) sc.heap.objs.size (cellsFrom (sc.heap.objs.size + 1) scope.names (cloFrom X.env.cells scope.names [])) fp
  have pt := ht sc (upd Hb D (.lst [])) sc.heap.objs.size (cellsFrom (sc.heap.objs.size + 1) scope.names (cloFrom X.env.cells scope.names [])) fp Ic fun b hb => (fc b hb).1
  have pe := he sc (upd Hb D (.lst [])) sc.heap.objs.size (cellsFrom (sc.heap.objs.size + 1) scope.names (cloFrom X.env.cells scope.names [])) fp
  have td4 : tn 0 ({ sc with heap := pushCells (sc.heap.push { cls := .type "dict", data := .dict #[] }) scope.names } : Shared).heap := T.keep _ _ _ tc fun b _ o e => pushCells_keeps _ _ _ _ (Heap.get?_push_of_some _ e)
  have nfp : ∀ b ∈ fp, (upd Hb D (.lst [])) b = none := fun b hb => (fc b hb).1.1
  show codeAny _ _ (.compStart (.ListComp elt [⟨tg, iter, ifs, 0⟩] scope pos) 0 (.ref it) (.ref D) (blkOf X sc (upd Hb D (.lst [])) scope (cellsFrom (sc.heap.objs.size + 1) scope.names (cloFrom X.env.cells scope.names [])) sc.heap.objs.size fp).env) (compPost (model X.prog X.w) X.A X.xe none (EP X pins σ Q) (.ref D) sc.heap.objs.size) _
  generalize ({ sc with heap := pushCells (sc.heap.push { cls := .type "dict", data := .dict #[] }) scope.names } : Shared) = sd at Id td4 ⊢
  generalize hHc : upd Hb D (.lst []) = Hc at *
  unfold blkOf at pg pt pe ⊢
  generalize hce : compEnvC scope (cellsFrom (sc.heap.objs.size + 1) scope.names (cloFrom X.env.cells scope.names [])) sc.heap.objs.size X.env = ce at Id pg pt pe ⊢
  have cL : ce.locals = sc.heap.objs.size := by rw [← hce]; rfl
  have nopin : ∀ {b : Addr} (p : Addr × Obj), p ∈ (X.blk sc Hc scope ce fp).pn ++ [] → p.1 ≠ b := fun p hp => absurd (show p ∈ ([] : List (Addr × Obj)) ++ [] from hp) (by simp)
  have still : ∀ {σ' H' s'}, Inv (X.blk sc Hc scope ce fp) [] σ' H' s' → (∀ b ∈ fp, H' b = none) → ∀ b ∈ fp, FpOk (X.blk sc Hc scope ce fp) [] H' b :=
    fun I' hn b hb => ⟨hn b hb, (I'.ok.exf b hb).1, I'.ok.exfs b hb, .inl hb, fun x c e => (I'.ok.exf b hb).2 x c e, nopin⟩
  have loop : codeAny (model X.prog X.w) X.A (.compLoop (.ListComp elt [⟨tg, iter, ifs, 0⟩] scope pos) 0 (.ref it) (.ref D) ce) (compPost (model X.prog X.w) X.A X.xe none (EP X pins σ Q) (.ref D) sc.heap.objs.size) sd := by
    apply compLoop_any (fun n s' => ∃ i H', Inv (X.blk sc Hc scope ce fp) [] (L2.wipe σ (own.map (·.2))) H' s' ∧ tn i s'.heap ∧ (∀ b ∈ fp, H' b = none) ∧ Wq i n H') ?_ m0 ⟨0, Hc, Id, td4, nfp, w0⟩
    rintro n s5 ⟨i, H5, I5, t5, n5, w5⟩
    rcases turn i n H5 w5 with ⟨stop, last⟩ | ⟨go, Nx, less, step⟩
    · refine thnF (T.done (X.blk sc Hc scope ce fp) rfl rfl rfl calm i [] s5 _ H5 (fun _ _ => False) I5 (still I5 n5) t5 stop) fun r s6 ⟨hr, I6⟩ => ?_
      subst hr
      have back : Inv X pins σ H5 s6 := by
        apply Ic.call' (ch := fp) I6.os I6.base I6.hok I6.bare
        intro b hb
        have f := (fc b hb).1.2
        exact ⟨f.2.2.1, f.1, f.2.2.2.1, f.2.2.2.2⟩
      obtain ⟨m, hn, _⟩ := I6.loc
      have hn' : s6.heap.Ns ce.locals m := hn
      have fr' : H5 ce.locals = none := I6.free
      rw [cL] at hn' fr'
      obtain ⟨f0, f1, f2, f3, f4, f5⟩ := Ic.fpOk (Nat.le_refl _) fr'
      exact ⟨m, hn', fun h'' sb => ⟨.ref D, H5, back.turned (t' := s6.toks) (fun b o hb e => (sb.2 b hb).trans e) f0 f1 f3 f4 f5, rfl, last⟩⟩
    · refine thnF (T.item (X.blk sc Hc scope ce fp) rfl rfl rfl calm i [] s5 _ H5 (fun _ _ => False) I5 (still I5 n5) t5 go) fun r s6 ⟨u, hr, h6⟩ => ?_
      subst hr
      refine thnF h6 fun _ s7 ⟨x, H7, I7, r7, y7, t7, n7⟩ => ?_
      have I8 := I7.pinned (still I7 n7) (T.obj _ _ t7)
      refine thnF (pg.run _ s7 _ H7 x u _ I8 r7 (step x H7 y7)) fun _ s8 ⟨σ8, H8, I9, same, q8⟩ => ?_
      refine thnF (pt.run _ s8 σ8 H8 _ I9 q8) fun b s9 ⟨H9, I10, q9⟩ => ?_
      have fin : ∀ {s' H'}, Inv (X.blk sc Hc scope ce fp) ([] ++ pinsAt fp s7.heap) σ8 H' s' → Nx H' → ∃ m, m < n ∧ ∃ i H', Inv (X.blk sc Hc scope ce fp) [] (L2.wipe σ (own.map (·.2))) H' s' ∧ tn i s'.heap ∧ (∀ b ∈ fp, H' b = none) ∧ Wq i m H' := by
        intro s' H' I' nx
        obtain ⟨m', hm, w'⟩ := less H' nx
        have held : ∀ b ∈ fp, ∀ o, s7.heap.get? b = some o → s'.heap.get? b = some o ∧ H' b = none := by
          intro b hb o e
          have z := I'.pin (b, o) (List.mem_append_right _ (List.mem_append_right _ (mem_pinsAt hb e)))
          exact ⟨z.1, z.2.1⟩
        have hl : (L2.wipe σ (own.map (·.2))).length = σ8.length := by rw [← same, wipe_length]
        have Iw : Inv (X.blk sc Hc scope ce fp) [] (L2.wipe σ (own.map (·.2))) H' s' := (I'.unpinned (pins := [])).weak hl fun j v e => by
          rw [← same] at e
          exact (wipe_some e).1
        refine ⟨m', hm, i + 1, H', Iw, T.keep _ _ _ t7 fun b hb o e => (held b hb o e).1, fun b hb => ?_, w'⟩
        obtain ⟨o, e, _⟩ := T.obj _ _ t7 b hb
        exact (held b hb o e).2
      cases b with
      | false =>
        simp only [Bool.false_eq_true, if_false] at q9 ⊢
        exact fin I10 q9
      | true =>
        simp only [if_true] at q9 ⊢
        refine thnF (pe.run _ s9 σ8 H9 _ I10 q9) fun z s10 ⟨yv, H10, I11, r10, acc, hD10, hz10, nx⟩ => ?_
        exact app_ok (X := X.blk sc Hc scope ce fp) I11 hD10 hz10 r10 fun s11 I12 => fin I12 nx
  exact codeAny_compStart_list loop (T.self X.A 0 _ _ _ td4 loop)
end
end Ev
/-! Ev21: a list of lambdas, all of which are told. -/
namespace Ev
open PySem PySem.Spec PyProof.Rows L2
/-- a lambda and what its body does -/
structure LSp where
  params : Arguments
  body : Expr
  scope : Scope
  me : Ex
/-- all of them raise what is caught -/
def badV (cs : List Nat) : List Ex → Ex
  | [], _, s => .ok (.lst []) s
  | m :: ms, ρ, s => match m ρ s with
    | .err d s1 => if cs.contains d then badV cs ms ρ s1 else .bad
    | _ => .bad
section
variable {X : Cx} {W : Wd} {pins : List (Addr × Obj)} {σ : L2.St} {H H1 H' : Hp} {s : Shared} {μ μ' : List Addr} {st st' : Stt}
abbrev LamOf (X : Cx) (H : Hp) (l : LSp) (f : Addr) : Prop := LamAt H (X.env.qual ++ "<lambda>") (cloFrom X.env.cells l.scope.names []) l.params l.body l.scope f
inductive LsAt (X : Cx) (H : Hp) : List LSp → List Addr → Prop
  | nil : LsAt X H [] []
  | cons {l : LSp} {f : Addr} {ls : List LSp} {fs : List Addr} : LamOf X H l f → LsAt X H ls fs → LsAt X H (l :: ls) (f :: fs)
def BadAt (X : Cx) (μ : List Addr) (H : Hp) (L : Addr) (ls : List LSp) : Prop := L ∉ μ ∧ ∃ fs : List Addr, H L = some (.lst (fs.map V.ref)) ∧ LsAt X H ls fs
theorem StOk.noext (ok : StOk X.K W μ st H) {f : Addr} {φ : Heap → Prop} (h : H f = some (.ext φ)) : f ∉ μ := fun hm => by
  obtain ⟨i, hi⟩ := List.getElem?_of_mem hm
  obtain ⟨o, _, r⟩ := ok.ob hi
  obtain ⟨w, hw, _, _, _, n4⟩ := r.live
  rw [h] at hw
  exact n4 _ (Option.some.inj hw).symm
theorem Ext.ext' (e : Ext μ H μ' H') (ok : StOk X.K W μ st H) {f : Addr} {φ : Heap → Prop} (h : H f = some (.ext φ)) : H' f = some (.ext φ) :=
  e.keep f _ h (ok.noext h) fun ps z => by cases z
theorem LamAt.on {q : Str} {cl : List (Str × Addr)} {params : Arguments} {body : Expr} {scope : Scope} {f : Addr} (ok : StOk X.K W μ st H) (e : Ext μ H μ' H') (h : LamAt H q cl params body scope f) : LamAt H' q cl params body scope f := by
  obtain ⟨pm, ctv, c', h1, h2⟩ := h
  exact ⟨pm, ctv, c', e.ext' ok h1, e.ext' ok h2⟩
theorem LsAt.on (ok : StOk X.K W μ st H) (e : Ext μ H μ' H') : ∀ {ls : List LSp} {fs : List Addr}, LsAt X H ls fs → LsAt X H' ls fs
  | _, _, .nil => .nil
  | _, _, .cons h t => .cons (h.on ok e) (LsAt.on ok e t)
theorem LsAt.len : ∀ {ls : List LSp} {fs : List Addr}, LsAt X H ls fs → fs.length = ls.length
  | _, _, .nil => rfl
  | _, _, .cons _ t => by simp [LsAt.len t]
theorem LsAt.app : ∀ {ls ks : List LSp} {fs gs : List Addr}, LsAt X H ls fs → LsAt X H ks gs → LsAt X H (ls ++ ks) (fs ++ gs)
  | _, _, _, _, .nil, u => u
  | _, _, _, _, .cons h t, u => .cons h (LsAt.app t u)
theorem LsAt.get : ∀ {ls : List LSp} {fs : List Addr} {j : Nat} {l : LSp}, LsAt X H ls fs → ls[j]? = some l → ∃ f, fs[j]? = some f ∧ LamOf X H l f
  | _, _, _, _, .nil, e => by simp at e
  | _, _, 0, _, .cons h t, e => by simp at e; subst e; exact ⟨_, rfl, h⟩
  | _, _, j + 1, l, .cons h t, e => by simpa using LsAt.get (j := j) (l := l) t (by simpa using e)
theorem BadAt.on {L : Addr} {ls : List LSp} (ok : StOk X.K W μ st H) (e : Ext μ H μ' H') (h : BadAt X μ H L ls) : BadAt X μ' H' L ls := by
  obtain ⟨hL, fs, h1, h2⟩ := h
  obtain ⟨a, b⟩ := e.beside h1 hL
  exact ⟨b, fs, a, h2.on ok e⟩
/-- the lambdas of a display -/
inductive Lams (X : Cx) (W : Wd) (c P : Addr) : List Expr → List LSp → Prop
  | nil : Lams X W c P [] []
  | cons {l : LSp} {pos : Pos} {es : List Expr} {ls : List LSp} : LamMk X W c P l.params l.body l.scope → starEach (.Lambda l.params l.body l.scope pos :: es) X.env = (false, eval (.Lambda l.params l.body l.scope pos) X.env) :: starEach es X.env →
      Lams X W c P es ls → Lams X W c P (.Lambda l.params l.body l.scope pos :: es) (l :: ls)
theorem pe_lamB {c P : Addr} {l : LSp} {pos : Pos} (M : LamMk X W c P l.params l.body l.scope) : PE X (.Lambda l.params l.body l.scope pos) (fun σ H Q => ∃ μ st, StOk X.K W μ st H ∧ ∀ H1 f, Ext μ H μ H1 → StOk X.K W μ st H1 → LamOf X H1 l f → Q (.ref f) H1) := by
  refine ⟨fun pins s σ H Q I ⟨μ, st, ok, h⟩ => ?_⟩
  exact lam_make3 I M.tb M.code M.tab M.tabs ok M.dflt (M.sc.has I.ok) fun f H1 s' I1 x1 ok1 hf _ _ => ⟨.ref f, H1, I1, rfl, h H1 f x1 ok1 hf⟩
theorem pa_lams {c P : Addr} : ∀ {es : List Expr} {ls : List LSp}, Lams X W c P es ls → PA X es (fun σ H Q => ∃ μ st, StOk X.K W μ st H ∧ ∀ H1 fs, Ext μ H μ H1 → StOk X.K W μ st H1 → LsAt X H1 ls fs → Q (fs.map V.ref) H1)
  | _, _, .nil => PA.imp pa_nil fun σ H Q ⟨μ, st, ok, h⟩ => h H [] (Ext.refl _ _) ok .nil
  | _, _, .cons M hs t => PA.imp (pa_cons (pe_lamB M) (pa_lams t) hs) fun σ H Q ⟨μ, st, ok, h⟩ =>
      ⟨μ, st, ok, fun H1 f x1 ok1 lf => ⟨μ, st, ok1, fun H2 fs x2 ok2 lsf => h H2 (f :: fs) (x1.trans x2) ok2 (.cons (lf.on ok1 x2) lsf)⟩⟩
/-- [λ, ..] -/
theorem pe_bad {c P : Addr} {es : List Expr} {ls : List LSp} {pos : Pos} (hl : Lams X W c P es ls) (hn : ls.length ≤ szl) : PE X (.List es pos) (fun σ H Q => ∃ μ st, StOk X.K W μ st H ∧ ∀ H1 L, Ext μ H μ H1 → StOk X.K W μ st H1 → BadAt X μ H1 L ls → Q (.ref L) H1) :=
  PE.imp (pe_lst (pa_lams hl)) fun σ H Q ⟨μ, st, ok, h⟩ => ⟨μ, st, ok, fun H1 fs x1 ok1 lsf => ⟨by rw [List.length_map, lsf.len, sizeLine_eq]; exact hn, fun p hp =>
    h _ p (x1.trans (ext_new hp)) (ok1.fresh hp) ⟨ok1.notin hp, fs, upd_same, lsf.on ok1 (ext_new hp)⟩⟩⟩
theorem EnvOk.hole {K : PySem.W.Frag} {ρ : Env} {i : Nat} {v : Option V} (h : EnvOk K μ H ρ σ) : EnvOk K μ H (ρ.set i none) (σ.set i v) := by
  refine ⟨by rw [List.length_set, List.length_set]; exact h.len, fun j p e => ?_⟩
  by_cases hj : i = j
  · subst hj
    by_cases hl : i < ρ.length
    · rw [List.getElem?_set_self hl] at e; cases e
    · rw [List.getElem?_eq_none (by simpa using hl)] at e; cases e
  · rw [List.getElem?_set_ne hj] at e
    rw [List.getElem?_set_ne hj]
    exact h.at_ j p e
/-- the rest of a suite, behind `bad = ..` at the slot i -/
def PB (X : Cx) (W : Wd) (i : Nat) (ls : List LSp) (rest : List Stmt) (m : Sx) : Prop :=
  PSs X rest fun D σ H => ∃ T ρ μ st L, Takes X T ∧ ρ[i]? = some none ∧ EnvOk X.K μ H ρ σ ∧ StOk X.K W μ st H ∧ σ[i]? = some (some (.ref L)) ∧ BadAt X μ H L ls ∧ OutS X W μ H T D (m ρ st)
def sBad0 (i : Nat) (m : Sx) : Sx := fun ρ s => if Nat.blt i ρ.length then m (ρ.set i none) s else .bad
theorem pb_start {c P : Addr} {i : Nat} {x : Str} {es : List Expr} {ls : List LSp} {rest : List Stmt} {m : Sx} {p pos lpos : Pos} (hl : Lams X W c P es ls) (hn : ls.length ≤ szl) (hN : X.N.Nodup) (hi : X.N[i]? = some x) (hx : Loc X.env.scope x) (hf : X.fn x = true ∨ X.env.scope.names.lookup x = some .local)
    (hs : swapsWithSole [.Name x p] (.List es lpos) pos.line X.env = pure false) (hw : swappedStores [.Name x p] (.List es lpos) X.env = pure none) (h1 : (assignEach [.Name x p] X.env).map (·.2) = [assign (.Name x p) X.env])
    (hr : PB X W i ls rest m) : SSs X W (.Assign [.Name x p] (.List es lpos) pos :: rest) (sBad0 i m) := by
  refine PSs.imp (pss_cons (ps_asg (pe_bad hl hn) (pg_name hN hi hx hf) hs hw h1) hr) fun D σ H ⟨T, ρ, μ, st, tk, en, ok, out⟩ => ?_
  unfold sBad0 at out
  cases hb : Nat.blt i ρ.length with
  | false => rw [hb] at out; exact (show False from out).elim
  | true =>
    rw [hb, if_pos rfl] at out
    have hlt : i < ρ.length := Nat.le_of_ble_eq_true hb
    refine ⟨μ, st, ok, fun H1 L x1 ok1 bad => ?_⟩
    exact ⟨T, ρ.set i none, μ, st, L, tk, by rw [List.getElem?_set_self hlt], (en.ext x1).hole, ok1, by rw [List.getElem?_set_self (by rw [← en.len]; exact hlt)], bad, OutS.ext x1 out⟩
theorem pb_more {c P : Addr} {i : Nat} {x : Str} {es : List Expr} {ls ks : List LSp} {rest : List Stmt} {m : Sx} {p p2 bpos pos lpos : Pos} (hl : Lams X W c P es ks) (hn : ls.length + ks.length ≤ szl) (hN : X.N.Nodup) (hi : X.N[i]? = some x) (hx : Loc X.env.scope x) (hv : Vis X.env.scope x) (hf : X.fn x = true ∨ X.env.scope.names.lookup x = some .local)
    (hd : (x == ("__debug__" : Str)) = false) (hcd : (x == ("__classdict__" : Str)) = false)
    (hs : swapsWithSole [.Name x p] (.BinOp (.Name x p2) .Add (.List es lpos) bpos) pos.line X.env = pure false) (hw : swappedStores [.Name x p] (.BinOp (.Name x p2) .Add (.List es lpos) bpos) X.env = pure none) (h1 : (assignEach [.Name x p] X.env).map (·.2) = [assign (.Name x p) X.env])
    (hr : PB X W i (ls ++ ks) rest m) : PB X W i ls (.Assign [.Name x p] (.BinOp (.Name x p2) .Add (.List es lpos) bpos) pos :: rest) m := by
  refine PSs.imp (pss_cons (ps_asg (pe_op op_cat (pe_var hi hv hd hcd) (pe_bad hl (Nat.le_trans (Nat.le_add_left _ _) hn))) (pg_name hN hi hx hf) hs hw h1) hr) fun D σ H ⟨T, ρ, μ, st, L, tk, hρ, en, ok, hσ, bad, out⟩ => ?_
  refine ⟨_, hσ, μ, st, ok, fun H1 L1 x1 ok1 bad1 => ?_⟩
  obtain ⟨n0, fs, e0, l0⟩ := bad.on ok x1
  obtain ⟨n1, gs, e1, l1⟩ := bad1
  refine ⟨L, L1, _, _, rfl, rfl, e0, e1, by rw [List.length_map, List.length_map, l0.len, l1.len, sizeLine_eq]; exact hn, fun p hp => ?_⟩
  have x2 := ext_new (μ := μ) (u := .lst (fs.map V.ref ++ gs.map V.ref)) hp
  have hlt : i < σ.length := (List.getElem?_eq_some_iff.mp hσ).1
  refine ⟨T, ρ, μ, st, p, tk, hρ, ?_, ok1.fresh hp, by rw [List.getElem?_set_self hlt], ⟨ok1.notin hp, fs ++ gs, by rw [upd_same, List.map_append], (l0.app l1).on ok1 x2⟩, OutS.ext (x1.trans x2) out⟩
  have h2 := ((en.ext x1).ext x2).hole (i := i) (v := some (.ref p))
  have e3 : ρ.set i none = ρ := by
    apply List.ext_getElem?
    intro j
    by_cases hj : i = j
    · subst hj
      rw [List.getElem?_set_self (by rw [en.len]; exact hlt), hρ]
    · rw [List.getElem?_set_ne hj]
  rw [e3] at h2
  exact h2
end
end Ev
/-! Ev22: the list of lambdas walked, each told. -/
namespace Ev
open PySem PySem.Spec PyProof.Rows L2
section
variable {X : Cx} {W : Wd}
/-- a walk over the list at the slot i: each lambda comes into the slot jf -/
structure BadWalk (X : Cx) (W : Wd) (i jf : Nat) (tg iter : Expr) (wi : TI) (g : TG) (is : List Nat) : Prop where
  pi : PI X tg iter wi
  start : ∀ (σ : L2.St) (H : Hp) (μ : List Addr) (st : Stt) (L : Addr) (ls : List LSp) (R : It → Hp → Prop), σ[i]? = some (some (.ref L)) → StOk X.K W μ st H → BadAt X μ H L ls →
    (∀ J : It, (∀ (k : Nat) (μ' : List Addr) (st' : Stt) (H' : Hp), Ext μ H μ' H' → StOk X.K W μ' st' H' → BadAt X μ' H' L ls →
      (∀ l, ls[k]? = some l → J.go k H' ∧ ∀ x H'', J.yld k H' x H'' → Ext μ' H' μ' H'' ∧ StOk X.K W μ' st' H'' ∧ ∃ f, LamOf X H'' l f ∧ ∀ (σ1 : L2.St) (Qc : L2.St → Hp → Prop), jf < σ1.length → (∀ σ2, Touch is σ1 σ2 → σ2[jf]? = some (some (.ref f)) → Qc σ2 H'') → g x σ1 H'' Qc) ∧ (ls[k]? = none → J.stop k H')) → R J H) → wi σ H R
/-- for f in bad -/
theorem badwalk_name {i jf : Nat} {x fx : Str} {p q : Pos} (hi : X.N[i]? = some x) (hv : Vis X.env.scope x) (hd : (x == ("__debug__" : Str)) = false) (hcd : (x == ("__classdict__" : Str)) = false) :
    BadWalk X W i jf (.Name fx p) (.Name x q) (iList X.K (tVar i)) (gName jf) [jf] := by
  refine ⟨pi_list (pe_var hi hv hd hcd), fun σ H μ st L ls R hσ ok bad h => ?_⟩
  obtain ⟨hn, fs, hL, hfs⟩ := id bad
  refine ⟨_, hσ, L, rfl, ⟨_, .of hL⟩, h _ fun k μ' st' H' x' ok' bad' => ?_⟩
  obtain ⟨hn', gs, hL', hgs⟩ := id bad'
  have hsq : SqL X.K H' L (gs.map V.ref) := .of hL'
  refine ⟨fun l hl => ?_, fun hl => ⟨_, hsq, ?_⟩⟩
  · obtain ⟨f, hf, hof⟩ := hgs.get hl
    have hgf : (gs.map V.ref)[k]? = some (.ref f) := by rw [List.getElem?_map, hf]; rfl
    refine ⟨⟨_, _, hsq, hgf⟩, fun x H'' ⟨e, q⟩ => ?_⟩
    subst e
    have hx := q _ hsq
    rw [hgf] at hx
    cases hx
    exact ⟨Ext.refl _ _, ok', f, hof, fun σ1 Qc hlt hq => hq _ (Touch.set jf σ1 _) (List.getElem?_set_self hlt)⟩
  · rw [List.length_map, hgs.len]
    exact List.getElem?_eq_none_iff.mp hl
/-- each of them is made, its body does as its mirror -/
def LamsOk (X : Cx) (W : Wd) (c P : Addr) (k : Nat) (ls : List LSp) : Prop := ∀ l ∈ ls, LamMk X W c P l.params l.body l.scope ∧ LamBody X W l.scope l.body l.me k
theorem LamsOk.nil {X : Cx} {W : Wd} {c P : Addr} {k : Nat} : LamsOk X W c P k [] := fun _ h => by cases h
theorem LamsOk.cons {X : Cx} {W : Wd} {c P : Addr} {k j : Nat} {params : Arguments} {body : Expr} {scope : Scope} {me : Ex} {ls : List LSp} (h1 : LamMk X W c P params body scope) (h2 : LamBody X W scope body me j) (hj : j ≤ k) (t : LamsOk X W c P k ls) : LamsOk X W c P k (⟨params, body, scope, me⟩ :: ls) := fun q hq => by
  cases hq with
  | head => exact ⟨h1, fun A outer s H E f c' hr => h2 A outer s H E f c' (hr.mono hj)⟩
  | tail _ hq => exact t q hq
/-- _law_told(f) != ret, within the comprehension -/
theorem pt_badTest {pins : List (Addr × Obj)} {σ : L2.St} {H0 : Hp} {s0 : Shared} {scope : Scope} {cl : List (Str × Addr)} {C : Addr} {fp : List Addr} {x a fx : Str} {g CS c P : Addr} {cs ret : List Nat} {Ng : List Str} {pg : Arguments} {bg : List Stmt} {sg : Scope} {cdv : Value} {k jf j : Nat} {ρ : Env} {ls : List LSp} {p1 p2 p3 p4 p5 : Pos}
    (D : ToldD X.K X.mg W x g CS cs ret Ng a pg bg sg cdv) (hr : Room (k + 2) X.A) (hls : LamsOk X W c P k ls)
    (hg : (compEnvC scope cl C X.env).kindOf x = some .globalImplicit) (hN : X.N[jf]? = some fx) (hv : Vis (compEnvC scope cl C X.env).scope fx) (hd : (x == ("__debug__" : Str)) = false) (hfd : (fx == ("__debug__" : Str)) = false) (hfc : (fx == ("__classdict__" : Str)) = false)
    (hst : starEach [.Name fx p2] (compEnvC scope cl C X.env) = (false, eval (.Name fx p2) (compEnvC scope cl C X.env)) :: starEach [] (compEnvC scope cl C X.env))
    (I0 : Inv X pins σ H0 s0) (f0 : ∀ b ∈ fp, FpOk X pins H0 b) :
    PTs (blkOf X s0 H0 scope cl C fp) [.Compare (.Call (.Name x p1) [.Name fx p2] [] p3) [.NotEq] [.Constant (.str (sOf ret)) j p4] p5]
      (fun σ4 H4 Qb => ∃ f l μ st d st1, σ4[jf]? = some (some (.ref f)) ∧ l ∈ ls ∧ LamOf X H4 l f ∧ EnvOk X.K μ H4 ρ σ ∧ StOk X.K W μ st H4 ∧ l.me ρ st = .err d st1 ∧ cs.contains d = true ∧ ∀ μ' H', Ext μ H4 μ' H' → StOk X.K W μ' st1 H' → Qb false H') := by
  have call : PE (blkOf X s0 H0 scope cl C fp) (.Call (.Name x p1) [.Name fx p2] [] p3) (fun σ4 H4 Q => ∃ f l μ st d st1, σ4[jf]? = some (some (.ref f)) ∧ l ∈ ls ∧ LamOf X H4 l f ∧ EnvOk X.K μ H4 ρ σ ∧ StOk X.K W μ st H4 ∧ l.me ρ st = .err d st1 ∧ cs.contains d = true ∧ ∀ μ' H', Ext μ H4 μ' H' → StOk X.K W μ' st1 H' → Q (.str (sOf ret)) H') := by
    refine ⟨fun pins' s4 σ4 H4 Q IY ⟨f, l, μ, st, d, st1, hσ, hl, hof, en, ok, hm, hcs, q⟩ => ?_⟩
    refine wpAny_Call_Name_kw (ld_glob IY (show Gl (blkOf X s0 H0 scope cl C fp) x from hg) D.hmg ?_ hd)
    refine PySem.W.callWith_K (h₀ := X.base) IY.ok.mod.kin D.hkeep ?_ hst (by rfl)
    rw [hst]
    show wpAny _ _ (spliced ((false, eval (.Name fx p2) (compEnvC scope cl C X.env)) :: backTo p3 (starEach [] (compEnvC scope cl C X.env)))) _ _ s4
    refine Calls.spliced_cons (thn ((pe_var (X := blkOf X s0 H0 scope cl C fp) (pos := p2) (i := jf) hN hv hfd hfc).run pins' s4 σ4 H4 (fun v H1 => v = .ref f ∧ H1 = H4) IY ⟨.ref f, hσ, rfl, rfl⟩) fun u s5 ⟨v, H5, I5, r5, q5⟩ => ?_)
    obtain ⟨ev, eH⟩ := q5
    subst ev
    rw [eH] at I5
    obtain rfl : u = Value.ref f := r5
    refine Calls.spliced_nil ⟨I5.kIn, ?_⟩
    have back : Inv X pins σ H4 s5 := by
      apply I0.call' (ch := fp) I5.os I5.base I5.hok I5.bare
      intro b hb
      have f := (f0 b hb).2
      exact ⟨f.2.2.1, f.1, f.2.2.2.1, f.2.2.2.2⟩
    obtain ⟨M, hb⟩ := hls l hl
    refine told_end I5 (told_code (X := X) (T := noX) (Q := Q) D hr M.sc M.bind hb back en ok hof ?_)
    unfold eTold
    rw [hm]
    show Out X W μ H4 noX Q (if cs.contains d then .ok (.str ret) st1 else .bad)
    rw [hcs, if_pos rfl]
    exact fun μ' H' x' ok' v rv => by cases rv; exact q μ' H' x' ok'
  refine pts_one (PT.imp (pt_cmpR op_ne call pe_str ?_) fun σ4 H4 Qb ⟨f, l, μ, st, d, st1, hσ, hl, hof, en, ok, hm, hcs, q⟩ => ⟨f, l, μ, st, d, st1, hσ, hl, hof, en, ok, hm, hcs, fun μ' H' x' ok' => ⟨rfl, _, rfl, ?_⟩⟩)
  · exact nobehind _ (by decide) (by decide)
  · have : decide (V.str (sOf ret) = V.str (sOf ret)) = true := by simp
    rw [this]
    exact q μ' H' x' ok'
theorem badV_is (cs : List Nat) : ∀ (ms : List Ex) (ρ : Env) (s : Stt), badV cs ms ρ s = .bad ∨ ∃ s', badV cs ms ρ s = .ok (.lst []) s'
  | [], ρ, s => .inr ⟨s, rfl⟩
  | m :: ms, ρ, s => by
    unfold badV
    cases m ρ s with
    | ok v s1 => exact .inl rfl
    | bad => exact .inl rfl
    | err d s1 =>
      show (if cs.contains d then badV cs ms ρ s1 else .bad) = .bad ∨ ∃ s', (if cs.contains d then badV cs ms ρ s1 else .bad) = .ok (.lst []) s'
      cases hc : cs.contains d with
      | false => exact .inl rfl
      | true =>
        rw [if_pos rfl]
        exact badV_is cs ms ρ s1
theorem badV_step {cs : List Nat} {m : Ex} {ms : List Ex} {ρ : Env} {s s' : Stt} (h : badV cs (m :: ms) ρ s = .ok (.lst []) s') : ∃ d s1, m ρ s = .err d s1 ∧ cs.contains d = true ∧ badV cs ms ρ s1 = .ok (.lst []) s' := by
  unfold badV at h
  cases hm : m ρ s with
  | ok v s1 => rw [hm] at h; cases h
  | bad => rw [hm] at h; cases h
  | err d s1 =>
    rw [hm] at h
    have h' : (if cs.contains d then badV cs ms ρ s1 else .bad) = .ok (.lst []) s' := h
    cases hc : cs.contains d with
    | false => rw [hc] at h'; cases h'
    | true => rw [hc, if_pos rfl] at h'; exact ⟨d, s1, rfl, hc, h'⟩
/-- the state that the walk asks -/
def rdB (X : Cx) (W : Wd) (i : Nat) (ls : List LSp) (m : Ex) : TE := fun σ H Q => ∃ T ρ μ st L, EnvOk X.K μ H ρ σ ∧ StOk X.K W μ st H ∧ σ[i]? = some (some (.ref L)) ∧ BadAt X μ H L ls ∧ Out X W μ H T Q (m ρ st)
theorem pe_badComp {rs : Str} {x a fx : Str} {g CS c P : Addr} {cs ret : List Nat} {Ng : List Str} {pg : Arguments} {bg : List Stmt} {sg : Scope} {cdv : Value} {k i jf j : Nat} {ls : List LSp} {p1 p2 p3 p4 p5 pos : Pos} {elt tg iter : Expr} {scope : Scope} {own : List (Str × Nat)} {wi : TI} {gt : TG} {te : TE} {is : List Nat}
    (hrs : rs = sOf ret) (D : ToldD X.K X.mg W x g CS cs ret Ng a pg bg sg cdv) (calm : X.calm = true) (hN : X.N.Nodup) (hr : Room (k + 2) X.A) (hls : LamsOk X W c P k ls) (bw : BadWalk X W i jf tg iter wi gt is) (ok : BlkOk X.N X.env.scope scope own)
    (hgt : ∀ s H C cl fp, PG (blkOf X s H scope cl C fp) tg gt) (hsub : ∀ i ∈ is, i ∈ own.map (·.2)) (he : ∀ s H C cl fp, PE (blkOf X s H scope cl C fp) elt te) (hs : ∀ x, foldedSetIterable iter X.env x = pure x)
    (hg : ∀ cl C, (compEnvC scope cl C X.env).kindOf x = some .globalImplicit) (hNj : X.N[jf]? = some fx) (hv : ∀ cl C, Vis (compEnvC scope cl C X.env).scope fx) (hd : (x == ("__debug__" : Str)) = false) (hfd : (fx == ("__debug__" : Str)) = false) (hfc : (fx == ("__classdict__" : Str)) = false)
    (hst : ∀ cl C, starEach [.Name fx p2] (compEnvC scope cl C X.env) = (false, eval (.Name fx p2) (compEnvC scope cl C X.env)) :: starEach [] (compEnvC scope cl C X.env)) :
    PE X (.ListComp elt [⟨tg, iter, [.Compare (.Call (.Name x p1) [.Name fx p2] [] p3) [.NotEq] [.Constant (.str rs) j p4] p5], 0⟩] scope pos) (rdB X W i ls (badV cs (ls.map (·.me)))) := by
  subst hrs
  suffices h0 : PE X (.ListComp elt [⟨tg, iter, [.Compare (.Call (.Name x p1) [.Name fx p2] [] p3) [.NotEq] [.Constant (.str (sOf ret)) j p4] p5], 0⟩] scope pos) (fun σ H Q => ∃ ρ μ st L sF, EnvOk X.K μ H ρ σ ∧ StOk X.K W μ st H ∧ σ[i]? = some (some (.ref L)) ∧ BadAt X μ H L ls ∧ badV cs (ls.map (·.me)) ρ st = .ok (.lst []) sF ∧
      ∀ μ' H' D, Ext μ H μ' H' → StOk X.K W μ' sF H' → H' D = some (.lst []) → D ∉ μ' → H D = none → Q (.ref D) H') from by
    refine PE.imp (pe_fz h0) fun σ H Q ⟨T, ρ, μ, st, L, en, ok, hσ, bad, out⟩ => ?_
    rcases badV_is cs (ls.map (·.me)) ρ st with e | ⟨sF, e⟩
    · rw [e] at out; exact out.elim
    · rw [e] at out
      refine ⟨ρ, μ, st, L, sF, en, ok, hσ, bad, e, fun μ' H' D x' ok' hD hn hD0 => .inr ⟨D, _, rfl, hD, trivial, fun od => ?_⟩⟩
      exact out μ' _ (x'.side hD0) (ok'.side hD hn) _ (.lst (.inl ⟨od, upd_same⟩) .nil)
  refine ⟨fun pins s σ H Q I ⟨ρ, μ, st, L, sF, en, okst, hσ, bad, hV, q⟩ => ?_⟩
  refine comp_with calm hN I bw.pi ok hgt (fun s0 H0 C cl fp I0 f0 => pt_badTest (ρ := ρ) D hr hls (hg cl C) hNj (hv cl C) hd hfd hfc (hst cl C) I0 f0) he hs ?_
  refine bw.start σ H μ st L ls _ hσ okst bad fun J good D' hD => ?_
  have hjl : jf < (L2.wipe σ (own.map (·.2))).length := by
    rw [wipe_length, I.len]
    exact (List.getElem?_eq_some_iff.mp hNj).1
  have x0 := ext_new (μ := μ) (u := .lst []) hD
  refine ⟨fun n m H' => ∃ μ' st', m = ls.length - n ∧ n ≤ ls.length ∧ Ext μ H μ' H' ∧ StOk X.K W μ' st' H' ∧ BadAt X μ' H' L ls ∧ EnvOk X.K μ' H' ρ σ ∧ H' D' = some (.lst []) ∧ D' ∉ μ' ∧ badV cs ((ls.drop n).map (·.me)) ρ st' = .ok (.lst []) sF,
    ⟨ls.length, μ, st, rfl, Nat.zero_le _, x0, okst.fresh hD, bad.on okst x0, en.ext x0, upd_same, okst.notin hD, hV⟩, ?_⟩
  rintro n m H' ⟨μ', st', rfl, hn, x', ok', bad', en', hDl, hDn, hV'⟩
  obtain ⟨g1, g2⟩ := good n μ' st' H' x' ok' bad'
  cases hl : ls[n]? with
  | none =>
    refine .inl ⟨g2 hl, ?_⟩
    have hle : ls.length ≤ n := List.getElem?_eq_none_iff.mp hl
    rw [List.drop_eq_nil_iff.mpr hle] at hV'
    have e : st' = sF := by
      have : Res.ok (.lst []) st' = Res.ok (PV.lst []) sF := hV'
      injection this
    subst e
    exact q μ' H' D' x' ok' hDl hDn hD
  | some l =>
    obtain ⟨go, yl⟩ := g1 l hl
    have hlt : n < ls.length := (List.getElem?_eq_some_iff.mp hl).1
    have hdrop : ls.drop n = l :: ls.drop (n + 1) := by
      rw [List.drop_eq_getElem_cons hlt]
      have := (List.getElem?_eq_some_iff.mp hl).2
      rw [this]
    rw [hdrop] at hV'
    obtain ⟨d, s1, hm, hc, hV2⟩ := badV_step hV'
    refine .inr ⟨go, fun H3 => ∃ μ3, Ext μ H μ3 H3 ∧ StOk X.K W μ3 s1 H3 ∧ BadAt X μ3 H3 L ls ∧ EnvOk X.K μ3 H3 ρ σ ∧ H3 D' = some (.lst []) ∧ D' ∉ μ3, fun H3 ⟨μ3, a1, a2, a3, a4, a5, a6⟩ => ⟨ls.length - (n + 1), by omega, μ3, s1, rfl, hlt, a1, a2, a3, a4, a5, a6, hV2⟩, fun xv H'' hy => ?_⟩
    obtain ⟨x2, ok2, f, hof, hg2⟩ := yl xv H'' hy
    refine hg2 _ _ hjl fun σ2 t2 hσ2 => ⟨wipe_touch t2 hsub, f, l, μ', st', d, s1, hσ2, List.mem_of_getElem? hl, hof, en'.ext x2, ok2, hm, hc, fun μ3 H3 x3 ok3 => ?_⟩
    dsimp only
    rw [if_neg Bool.false_ne_true]
    obtain ⟨hD2, hDn2⟩ := x2.beside hDl hDn
    obtain ⟨hD3, hDn3⟩ := x3.beside hD2 hDn2
    exact ⟨μ3, (x'.trans x2).trans x3, ok3, (bad'.on ok' x2).on ok2 x3, (en'.ext x2).ext x3, hD3, hDn3⟩
end
end Ev
/-! Ev23: what stands behind a list of lambdas. -/
namespace Ev
open PySem PySem.Spec PyProof.Rows L2
section
variable {X : Cx} {W : Wd} {i : Nat} {ls : List LSp} {cs : List Nat} {ms : List Ex}
def rdTb (X : Cx) (W : Wd) (i : Nat) (ls : List LSp) (m : Tx) : TT := fun σ H Q => ∃ T ρ μ st L, Takes X T ∧ ρ[i]? = some none ∧ EnvOk X.K μ H ρ σ ∧ StOk X.K W μ st H ∧ σ[i]? = some (some (.ref L)) ∧ BadAt X μ H L ls ∧ OutT X W μ H T Q (m ρ st)
/-- [..] != [] -/
def tBadNe (cs : List Nat) (ms : List Ex) : Tx := fun ρ s => (badV cs ms ρ s).bind fun _ s => .ok false s
/-- [..] == [] -/
def eBadEq (cs : List Nat) (ms : List Ex) : Ex := fun ρ s => (badV cs ms ρ s).bind fun _ s => .ok (.bl true) s
theorem badV_out {μ : List Addr} {H : Hp} {T : WX} {α : Type} {P : List Addr → Hp → α → Stt → Prop} {ρ : Env} {st : Stt} {f : PV → Stt → Res α} (h : OutG X W μ H T P ((badV cs ms ρ st).bind f)) : ∃ sF, badV cs ms ρ st = .ok (.lst []) sF ∧ OutG X W μ H T P (f (.lst []) sF) := by
  rcases badV_is cs ms ρ st with e | ⟨sF, e⟩
  · rw [e] at h; exact h.elim
  · rw [e] at h; exact ⟨sF, e, h⟩
theorem pt_badNe {C : Expr} {p pos : Pos} (hu : X.A.units + 64 < cLine) (hC : PE X C (rdB X W i ls (badV cs ms))) : PT X (.Compare C [.NotEq] [.List [] p] pos) (rdTb X W i ls (tBadNe cs ms)) := by
  refine PT.imp (pt_cmpR (os_ne (W := W) hu) hC (se_lst (W := W) sa_nil) (nobehind _ (by decide) (by decide))) fun σ H Q ⟨T, ρ, μ, st, L, tk, _, en, ok, hσ, bad, out⟩ => ?_
  obtain ⟨sF, e, out⟩ := badV_out out
  refine ⟨T, ρ, μ, st, L, en, ok, hσ, bad, ?_⟩
  rw [e]
  intro μ1 H1 x1 ok1 v rv
  refine ⟨T, ρ, μ1, sF, tk, en.ext x1, ok1, ?_⟩
  show OutG X W μ1 H1 T _ (Res.ok (PV.lst []) sF)
  intro μ2 H2 x2 ok2 w rw
  refine ⟨μ2, sF, .lst [], .lst [], .bl false, ok2, rv.ext x2, rw, rfl, fun μ' H' v' x' ok' r' => ?_⟩
  cases r'
  exact ⟨false, rfl, out μ' H' ((x1.trans x2).trans x') ok'⟩
theorem pe_badEq {C : Expr} {p pos : Pos} (hu : X.A.units + 64 < cLine) (hC : PE X C (rdB X W i ls (badV cs ms))) : PE X (.Compare C [.Eq] [.List [] p] pos) (fun σ H Q => ∃ T ρ μ st L, Takes X T ∧ ρ[i]? = some none ∧ EnvOk X.K μ H ρ σ ∧ StOk X.K W μ st H ∧ σ[i]? = some (some (.ref L)) ∧ BadAt X μ H L ls ∧ Out X W μ H T Q (eBadEq cs ms ρ st)) := by
  refine PE.imp (pe_cmpR (os_eq (W := W) hu) hC (se_lst (W := W) sa_nil) (nobehind _ (by decide) (by decide))) fun σ H Q ⟨T, ρ, μ, st, L, tk, _, en, ok, hσ, bad, out⟩ => ?_
  obtain ⟨sF, e, out⟩ := badV_out out
  refine ⟨T, ρ, μ, st, L, en, ok, hσ, bad, ?_⟩
  rw [e]
  intro μ1 H1 x1 ok1 v rv
  refine ⟨T, ρ, μ1, sF, tk, en.ext x1, ok1, ?_⟩
  show OutG X W μ1 H1 T _ (Res.ok (PV.lst []) sF)
  intro μ2 H2 x2 ok2 w rw
  exact ⟨μ2, sF, .lst [], .lst [], .bl true, ok2, rv.ext x2, rw, rfl, fun μ' H' v' x' ok' r' => out μ' H' ((x1.trans x2).trans x') ok' v' r'⟩
theorem pb_if {c : Expr} {a rest : List Stmt} {pos : Pos} {mt : Tx} {ma mr : Sx} (hc : PT X c (rdTb X W i ls mt)) (ha : SSs X W a ma) (hr : SSs X W rest mr) : PB X W i ls (.If c a [] pos :: rest) (sSeq (sIf mt ma sNop) mr) := by
  refine PSs.imp (pss_cons (ps_if hc ha (sss_nil (W := W))) hr) fun D σ H ⟨T, ρ, μ, st, L, tk, hρ, en, ok, hσ, bad, out⟩ => ?_
  refine ⟨T, ρ, μ, st, L, tk, hρ, en, ok, hσ, bad, ?_⟩
  have out' : OutS X W μ H T D (match (mt ρ st).sbind fun c s => if c then ma ρ s else sNop ρ s with | .nx ρ s => mr ρ s | r => r) := out
  cases hm : mt ρ st with
  | bad => rw [hm] at out'; exact out'.elim
  | err d s => rw [hm] at out'; exact out'
  | ok k s1 =>
    rw [hm] at out'
    intro μ1 H1 x1 ok1
    cases k with
    | false =>
      rw [if_neg Bool.false_ne_true]
      have out2 : OutS X W μ H T D (mr ρ s1) := out'
      exact ⟨T, ρ, μ1, s1, tk, en.ext x1, ok1, fun μ2 H2 σ2 x2 ok2 en2 => ⟨T, ρ, μ2, s1, tk, en2, ok2, OutS.ext (x1.trans x2) out2⟩⟩
    | true =>
      rw [if_pos rfl]
      have out2 : OutS X W μ H T D (match ma ρ s1 with | .nx ρ s => mr ρ s | r => r) := out'
      refine ⟨T, ρ, μ1, s1, tk, en.ext x1, ok1, ?_⟩
      cases hma : ma ρ s1 with
      | bad => rw [hma] at out2; exact out2.elim
      | err d s => rw [hma] at out2; exact OutS.ext (D := D) (r := .err d s) x1 out2
      | rt v s => rw [hma] at out2; exact OutS.ext (D := D) (r := .rt v s) x1 out2
      | nx ρ2 s2 =>
        rw [hma] at out2
        exact fun μ2 H2 σ2 x2 ok2 en2 => ⟨T, ρ2, μ2, s2, tk, en2, ok2, OutS.ext (x1.trans x2) out2⟩
theorem pb_ret {C : Expr} {p pos rp : Pos} (hu : X.A.units + 64 < cLine) (hC : PE X C (rdB X W i ls (badV cs ms))) : PB X W i ls [.Return (some (.Compare C [.Eq] [.List [] p] pos)) rp] (sRet (eBadEq cs ms)) := by
  refine PSs.imp (pss_cons (ps_ret (pe_badEq hu hC)) pss_nil) fun D σ H ⟨T, ρ, μ, st, L, tk, hρ, en, ok, hσ, bad, out⟩ => ?_
  refine ⟨T, ρ, μ, st, L, tk, hρ, en, ok, hσ, bad, out.sbind.mono fun μ1 H1 p s1 x1 ok1 h1 v rv => h1.rtNow rv ok1⟩
/-- for k, f in enumerate(bad) -/
theorem badwalk_enum {jk jf : Nat} {x kx fx : Str} {kk : Nat} {p q pe pk pf tpos pos : Pos} (hi : X.N[i]? = some x) (hv : Vis X.env.scope x) (hd : (x == ("__debug__" : Str)) = false) (hcd : (x == ("__classdict__" : Str)) = false) (hg : Gl X "enumerate") (hm : X.mg "enumerate" = none) (hkf : jk ≠ jf)
    (hs : starEach [.Name x q] X.env = [(false, eval (.Name x q) X.env)]) :
    BadWalk X W i jf (.Tuple [.Name kx pk, .Name fx pf] kk tpos) (.Call (.Name "enumerate" pe) [.Name x q] [] pos) (L2.iEnum X.K (tCons (tVar i) tNil)) (gTup X.K 2 (gCons (gName jk) (gCons (gName jf) gNil))) [jk, jf] := by
  refine ⟨pi_enum hg hm (pa_cons (pe_var hi hv hd hcd) pa_nil (by rw [hs]; rfl)) hs, fun σ H μ st L ls R hσ ok bad h => ?_⟩
  obtain ⟨hn, fs, hL, hfs⟩ := id bad
  refine ⟨_, hσ, L, _, rfl, .of hL, h _ fun k μ' st' H' x' ok' bad' => ?_⟩
  obtain ⟨hn', gs, hL', hgs⟩ := id bad'
  have hsq : SqL X.K H' L (gs.map V.ref) := .of hL'
  refine ⟨fun l hl => ?_, fun hl => ⟨_, hsq, ?_⟩⟩
  · obtain ⟨f, hf, hof⟩ := hgs.get hl
    have hgf : (gs.map V.ref)[k]? = some (.ref f) := by rw [List.getElem?_map, hf]; rfl
    refine ⟨⟨_, _, hsq, hgf⟩, fun x H'' ⟨Tt, y, e1, e2, e3, e4⟩ => ?_⟩
    subst e1 e3
    have hx := e4 _ hsq
    rw [hgf] at hx
    cases hx
    have x2 := ext_new (μ := μ') (u := .tup [.int (k : Nat), .ref f]) e2
    refine ⟨x2, ok'.fresh e2, f, hof.on ok' x2, fun σ1 Qc hlt hq => ⟨Tt, _, rfl, .of upd_same, rfl, .int (k : Nat), [.ref f], rfl, .ref f, [], rfl, rfl, ?_⟩⟩
    refine hq _ ⟨by rw [List.length_set, List.length_set], fun j hj => ?_⟩ ?_
    · rw [List.getElem?_set_ne (fun e => hj (by simp [e])), List.getElem?_set_ne (fun e => hj (by simp [e]))]
    · rw [List.getElem?_set_self (by rw [List.length_set]; exact hlt)]
  · rw [List.length_map, hgs.len]
    exact List.getElem?_eq_none_iff.mp hl
theorem pt_badOr {c1 b : Expr} {rest : List Expr} {pos : Pos} {m1 m2 : Tx} (h1 : PT X c1 (rdTb X W i ls m1)) (h2 : SW X W (.BoolOp .Or (b :: rest) pos) m2) : PT X (.BoolOp .Or (c1 :: b :: rest) pos) (rdTb X W i ls (Ev.tOr m1 m2)) := by
  refine PT.imp (pw_or h1 h2).pt fun σ H Q ⟨T, ρ, μ, st, L, tk, hρ, en, ok, hσ, bad, out⟩ => ⟨T, ρ, μ, st, L, tk, hρ, en, ok, hσ, bad, (OutG.bind out).mono fun μ1 H1 k s1 x1 ok1 h => ?_⟩
  cases k with
  | true => rw [if_pos rfl] at h ⊢; exact h.now ok1
  | false => rw [if_neg Bool.false_ne_true] at h ⊢; exact ⟨T, ρ, μ1, s1, tk, en.ext x1, ok1, h⟩
end
end Ev
/-! Ev24: dict comprehensions. -/
namespace Ev
open PySem PySem.Spec PyProof.Rows L2
def dcompV (f : Src) (g : Gx) (t : Tx) (ek ev : Ex) (ρ : Env) : Nat → Nat → List (PV × PV) → Stt → Res (List (PV × PV))
  | 0, _, _, _ => .bad
  | n + 1, i, d, s => match f s with
    | none => .bad
    | some l => match l[i]? with
      | none => .ok d s
      | some x => if Nat.blt i szl then (match g x ρ with
        | none => .bad
        | some ρ' => (t ρ' s).calm.bind fun c s => if c then (ek ρ' s).calm.bind fun k s => (ev ρ' s).calm.bind fun v s => (if keyOk k then dcompV f g t ek ev ρ n (i + 1) (dPut d k v) s else .bad) else dcompV f g t ek ev ρ n (i + 1) d s) else .bad
/-- {ek: ev for g in src if t} -/
def eDcomp (own : List Nat) (g : Gx) (src : Ix) (t : Tx) (ek ev : Ex) : Ex := fun ρ s => (src ρ s).bind fun f s => match f s with
  | none => .bad
  | some l => (dcompV f g t ek ev (wipeE ρ own) (l.length + 1) 0 [] s).bind fun d s => .ok (.dct d) s
section
variable {X : Cx} {W : Wd} {μ μ' : List Addr} {H H' : Hp} {st : Stt} {pos : Pos}
/-- a list, a dict: what may be changed -/
def Soft (u : HO) : Prop := (∀ xs, u ≠ .tup xs) ∧ (∀ o v, u ≠ .frz o v) ∧ (∀ ps, u ≠ .tbl ps) ∧ ∀ φ, u ≠ .ext φ
theorem soft_dK (kvs : List (Key × V)) : Soft (.dK kvs) := by
  refine And.intro (fun _ z => ?_) (And.intro (fun _ _ z => ?_) (And.intro (fun _ z => ?_) fun _ z => ?_)) <;> cases z
theorem Ext.besideS (e : Ext μ H μ' H') {D : Addr} {u : HO} (hu : Soft u) (hD : H D = some u) (hm : D ∉ μ) : H' D = some u ∧ D ∉ μ' :=
  ⟨e.keep D _ hD hm hu.2.2.1, fun hm' => by
    rcases e.new D hm' with z | z
    · exact hm z
    · rw [hD] at z; cases z⟩
theorem Ex0.sideS {D : Addr} {u w : HO} (hu : Soft u) (hD : H D = some u) : Ex0 μ H μ (upd H D w) :=
  ⟨List.prefix_refl _, fun b xs q => by rw [upd_ne fun z => by rw [z, hD] at q; exact hu.1 _ (Option.some.inj q)]; exact q, fun b o v q => by rw [upd_ne fun z => by rw [z, hD] at q; exact hu.2.1 _ _ (Option.some.inj q)]; exact q⟩
theorem StOk.sideS {D : Addr} {u w : HO} (h : StOk X.K W μ st H) (hu : Soft u) (hD : H D = some u) (hm : D ∉ μ) : StOk X.K W μ st (upd H D w) :=
  h.keep0 (Ex0.sideS hu hD) (fun a ha => upd_ne fun z => hm (z ▸ ha)) fun P hP => by
    exact (h.tabs P hP).keep (fun b ps q => by rw [upd_ne fun z => by rw [z, hD] at q; exact hu.2.2.1 _ (Option.some.inj q)]; exact q) fun b φ q => by rw [upd_ne fun z => by rw [z, hD] at q; exact hu.2.2.2 _ (Option.some.inj q)]; exact q
theorem key_rv {k : PV} {v : V} (hk : keyOk k = true) (r : RV X.K μ H k v) : ∃ key, keyP k = some key ∧ v = kV key := by
  cases k with
  | int i => cases r; exact ⟨.inl i, rfl, rfl⟩
  | str l => cases r; exact ⟨.inr (sOf l), rfl, rfl⟩
  | _ => cases hk
theorem dcomp_rd {own : List (Str × Nat)} {src : Ix} {g : Gx} {is : List Nat} {t : Tx} {mk mv : Ex} {σ : L2.St} {H : Hp} {Q Q' : VK} (hsub : ∀ i ∈ is, i ∈ own.map (·.2)) (hQ : ∀ x H, fz Q x H → Q' x H) (h : rdE X W (eDcomp (own.map (·.2)) g src t mk mv) σ H Q) :
    tDc (rdI X W src) (rdG X W is g) (rdTB X W t) (rdEB X W mk) (rdEB X W mv) (own.map (·.2)) σ H Q' := by
  obtain ⟨T, ρ, μ, st, tk, en, ok, out⟩ := h
  refine ⟨T, ρ, μ, st, tk, en, ok, out.bind.mono fun μ1 H1 f s1 x1 ok1 h1 => ?_⟩
  cases hl0 : f s1 with
  | none => rw [hl0] at h1; exact h1.elim
  | some l0 =>
    rw [hl0] at h1
    refine ⟨⟨l0, rfl⟩, fun J wk D hD => ?_⟩
    generalize hw : wipeE ρ (own.map (·.2)) = ρw at h1
    have enw : EnvOk X.K μ1 H1 ρw (L2.wipe σ (own.map (·.2))) := by rw [← hw]; exact (en.ext x1).wipe _
    refine ⟨fun i m H' => ∃ μ' st' d kvs, EnvOk X.K μ' H' ρw (L2.wipe σ (own.map (·.2))) ∧ StOk X.K W μ' st' H' ∧ Ext μ1 H1 μ' H' ∧ D ∉ μ' ∧ H' D = some (.dK kvs) ∧ RKs X.K μ' H' d kvs ∧ (kvs.map (·.1)).Nodup ∧ kvs.length ≤ i ∧
      Out X W μ1 H1 T Q ((dcompV f g t mk mv ρw m i d st').bind fun d s => .ok (.dct d) s), ⟨l0.length + 1, μ1, s1, [], [], enw.ext (ext_new hD), ok1.fresh hD, ext_new hD, ok1.notin hD, upd_same, .nil, List.nodup_nil, Nat.zero_le _, h1⟩, ?_⟩
    rintro i m H' ⟨μ', st', d, kvs, en', ok', x', hDn, hDl, rks, nd, hlen, out2⟩
    cases m with
    | zero => exact out2.elim
    | succ n =>
      unfold dcompV at out2
      cases hl : f st' with
      | none => rw [hl] at out2; exact out2.elim
      | some l =>
        rw [hl] at out2
        dsimp only at out2
        obtain ⟨w1, w2⟩ := wk i μ' st' H' l x' ok' hl
        cases hx : l[i]? with
        | none =>
          rw [hx] at out2
          refine .inl ⟨w2 hx, hQ _ _ (.inr ⟨D, _, rfl, hDl, trivial, fun od => ?_⟩)⟩
          have out3 : Out X W μ1 H1 T Q (.ok (.dct d) st') := out2
          exact out3 μ' _ (x'.side hD) (ok'.sideS (soft_dK _) hDl hDn) _ (.dct upd_same (rks.ex0 (Ex0.sideS (soft_dK _) hDl)) nd)
        | some p =>
          rw [hx] at out2
          dsimp only at out2
          cases hb : Nat.blt i szl with
          | false => rw [hb, if_neg Bool.false_ne_true] at out2; exact out2.elim
          | true =>
            rw [hb, if_pos rfl] at out2
            cases hgp : g p ρw with
            | none => rw [hgp] at out2; exact out2.elim
            | some ρ' =>
              rw [hgp] at out2
              dsimp only at out2
              obtain ⟨go, yl⟩ := w1 p hx
              refine .inr ⟨go, _, fun _ h => h, fun x H2 y => ?_⟩
              obtain ⟨x2, ok2, rv2⟩ := yl x H2 y
              obtain ⟨hD2, hDn2⟩ := x2.besideS (soft_dK _) hDl hDn
              refine ⟨ρw, μ', st', p, ρ', en'.ext x2, ok2, rv2, hgp, fun σ2 en2 t2 => ⟨wipe_touch t2 hsub, ρ', μ', st', en2, ok2, ?_⟩⟩
              cases ht2 : t ρ' st' with
              | bad => rw [ht2] at out2; exact out2.elim
              | err c s => rw [ht2] at out2; exact out2.elim
              | ok b s3 =>
                rw [ht2] at out2
                intro μ3 H3 x3 ok3
                obtain ⟨hD3, hDn3⟩ := x3.besideS (soft_dK _) hD2 hDn2
                have x13 := (x'.trans x2).trans x3
                have rks3 := (rks.ext x2).ext x3
                have en3 := (en'.ext x2).ext x3
                cases b with
                | false =>
                  rw [if_neg Bool.false_ne_true]
                  exact ⟨n, Nat.lt_succ_self n, μ3, s3, d, kvs, en3, ok3, x13, hDn3, hD3, rks3, nd, Nat.le_succ_of_le hlen, out2⟩
                | true =>
                  rw [if_pos rfl]
                  have out3 : Out X W μ1 H1 T Q (((mk ρ' s3).calm.bind fun k s => (mv ρ' s).calm.bind fun v s => (if keyOk k then dcompV f g t mk mv ρw n (i + 1) (dPut d k v) s else .bad)).bind fun d s => .ok (.dct d) s) := out2
                  refine ⟨ρ', μ3, s3, en2.ext x3, ok3, ?_⟩
                  cases he2 : mk ρ' s3 with
                  | bad => rw [he2] at out3; exact out3.elim
                  | err c s => rw [he2] at out3; exact out3.elim
                  | ok q s4 =>
                    rw [he2] at out3
                    intro μ4 H4 x4 ok4 kv rk4
                    obtain ⟨hD4, hDn4⟩ := x4.besideS (soft_dK _) hD3 hDn3
                    have out4 : Out X W μ1 H1 T Q (((mv ρ' s4).calm.bind fun v s => (if keyOk q then dcompV f g t mk mv ρw n (i + 1) (dPut d q v) s else .bad)).bind fun d s => .ok (.dct d) s) := out3
                    refine ⟨ρ', μ4, s4, (en2.ext x3).ext x4, ok4, ?_⟩
                    cases hv2 : mv ρ' s4 with
                    | bad => rw [hv2] at out4; exact out4.elim
                    | err c s => rw [hv2] at out4; exact out4.elim
                    | ok z s5 =>
                      rw [hv2] at out4
                      intro μ5 H5 x5 ok5 zv rz5
                      obtain ⟨hD5, hDn5⟩ := x5.besideS (soft_dK _) hD4 hDn4
                      have out5 : Out X W μ1 H1 T Q ((if keyOk q then dcompV f g t mk mv ρw n (i + 1) (dPut d q z) s5 else .bad).bind fun d s => .ok (.dct d) s) := out4
                      cases hko : keyOk q with
                      | false => rw [hko] at out5; exact out5.elim
                      | true =>
                        rw [hko, if_pos rfl] at out5
                        obtain ⟨key, hkey, rfl⟩ := key_rv hko rk4
                        have hlt : i < szl := Nat.le_of_ble_eq_true hb
                        have rks5 := ((rks3.ext x4).ext x5)
                        have p1 := put_of hkey rz5 rks5 nd
                        have p2 := nd_putK (k := key) (v := zv) nd
                        have e0 : Ex0 μ5 H5 μ5 (upd H5 D (.dK (putK kvs key zv))) := Ex0.sideS (soft_dK _) hD5
                        refine ⟨kvs, key, rfl, hD5, by rw [sizeLine_eq]; exact Nat.lt_of_le_of_lt hlen hlt, n, Nat.lt_succ_self n, μ5, s5, dPut d q z, putK kvs key zv, ((en3.ext x4).ext x5).ex0 e0, ok5.sideS (soft_dK _) hD5 hDn5, ((x13.trans x4).trans x5).side hD, hDn5, upd_same, p1.ex0 e0, p2, ?_, out5⟩
                        have := length_putK kvs key zv
                        omega
theorem se_dcomp {kx vx tg iter : Expr} {ifs : List Expr} {scope : Scope} {own : List (Str × Nat)} {src : Ix} {g : Gx} {is : List Nat} {t : Tx} {mk mv : Ex} (hc : X.calm = true) (hN : X.N.Nodup) (hi : SI X W tg iter src) (ok : BlkOk X.N X.env.scope scope own)
    (hg : ∀ s H C cl fp, SG (blkOf X s H scope cl C fp) W tg is g) (hsub : ∀ i ∈ is, i ∈ own.map (·.2)) (ht : ∀ s H C cl fp, PTs (blkOf X s H scope cl C fp) ifs (rdT (blkOf X s H scope cl C fp) W t))
    (hk : ∀ s H C cl fp, SE (blkOf X s H scope cl C fp) W kx mk) (he : ∀ s H C cl fp, SE (blkOf X s H scope cl C fp) W vx mv) (hs : ∀ x, foldedSetIterable iter X.env x = pure x) :
    SE X W (.DictComp kx vx [⟨tg, iter, ifs, 0⟩] scope pos) (eDcomp (own.map (·.2)) g src t mk mv) := by
  refine PE.imp (pe_fz (pe_dc (g := rdG X W is g) (tt := rdTB X W t) (tk := rdEB X W mk) (tv := rdEB X W mv) hc hN  hi ok hg
    (fun s H C cl fp => PTs.imp (ht s H C cl fp) fun σ H Q ⟨ρ, μ, st, en, ok, out⟩ => ⟨noX, ρ, μ, st, takes_noX _, en, ok, out⟩)
    (fun s H C cl fp => PE.imp (hk s H C cl fp) fun σ H Q ⟨ρ, μ, st, en, ok, out⟩ => ⟨noX, ρ, μ, st, takes_noX _, en, ok, out⟩)
    (fun s H C cl fp => PE.imp (he s H C cl fp) fun σ H Q ⟨ρ, μ, st, en, ok, out⟩ => ⟨noX, ρ, μ, st, takes_noX _, en, ok, out⟩) hs)) fun σ H Q h => dcomp_rd hsub (fun _ _ q => q) h
/-- name = {.. for ..} on one line -/
theorem ps_setDc {i : Nat} {y : Str} {py : Pos} {kx vx tg iter : Expr} {ifs : List Expr} {scope : Scope} {own : List (Str × Nat)} {pos spos : Pos} {wi : TI} {g : TG} {tt : TT} {tk tv : TE} (hc : X.calm = true) (hN : X.N.Nodup) (hy : X.N[i]? = some y) (hyl : X.env.scope.names.lookup y = some .local)
    (hsw : swapsWith (.DictComp kx vx [⟨tg, iter, ifs, 0⟩] scope pos) (some (.Name y py)) spos.line X.env = pure true) (hi : PI X tg iter wi) (ok : BlkOk X.N X.env.scope scope own)
    (hg : ∀ s H C cl fp, PG (blkOf X s H scope cl C fp) tg g) (ht : ∀ s H C cl fp, PTs (blkOf X s H scope cl C fp) ifs tt)
    (hk : ∀ s H C cl fp, PE (blkOf X s H scope cl C fp) kx tk) (he : ∀ s H C cl fp, PE (blkOf X s H scope cl C fp) vx tv) (hs : ∀ x, foldedSetIterable iter X.env x = pure x) :
    PS X (.Assign [.Name y py] (.DictComp kx vx [⟨tg, iter, ifs, 0⟩] scope pos) spos) (tAsg (tDc wi g tt tk tv (own.map (·.2))) (gName i)) := by
  refine ⟨fun pins s σ H D I h => ?_⟩
  rw [exec_Assign_Name_used _ _ _ _ hsw]
  refine wpAny_bind (wpAny_standAt (wpAny_bind ?_))
  show wpAny _ X.A (do let _ ← comprehension (.DictComp kx vx [⟨tg, iter, ifs, 0⟩] scope pos) scope X.env (firstIterPos [⟨tg, iter, ifs, 0⟩] pos) newDict false (eval iter X.env) (some (assign (.Name y py) X.env))) _ _ s
  have h' : tDc wi g tt tk tv (own.map (·.2)) σ H (fun x H1 => gName i x σ H1 D.nx) := h
  refine wpAny_bind (thn (dc_core (Qf := fun _ s' => SP X pins D .next s') hc hN I hi ok (fun s H C cl fp => hg s H C cl fp) (fun s H C cl fp => ht s H C cl fp) (fun s H C cl fp => hk s H C cl fp) (fun s H C cl fp => he s H C cl fp) hs h' fun B C s' m H' I' q hn f => ?_) fun _ s' hq => wpAny_pure (wpAny_pure hq))
  show wpAny _ _ (assign (.Name y py) X.env (.ref B)) _ _ _
  refine wpAny_assign_Name (store_ok2 (v := V.ref B) I' hN hy (.inl hyl) rfl (fun s2 I2 ⟨a, sb, ha⟩ => ?_) (.inr hyl))
  obtain ⟨f0, f1, f2, f3, f4, f5⟩ := f
  have hBa : C ≠ a := by
    rcases ha with z | z
    · rw [z]; exact f1
    · exact fun e => f4 y a z e.symm
  exact ⟨m, hn.sameBut sb hBa, fun h3 sb3 => ⟨_, H', I2.turned (t' := s2.toks) (fun b o hb e => (sb3.2 b hb).trans e) f0 f1 f3 f4 f5, q⟩⟩
theorem ss_setDc {i : Nat} {y : Str} {py spos : Pos} {kx vx tg iter : Expr} {ifs : List Expr} {scope : Scope} {own : List (Str × Nat)} {src : Ix} {g : Gx} {is : List Nat} {t : Tx} {mk mv : Ex} (hy : X.N[i]? = some y) (hyl : X.env.scope.names.lookup y = some .local)
    (hsw : swapsWith (.DictComp kx vx [⟨tg, iter, ifs, 0⟩] scope pos) (some (.Name y py)) spos.line X.env = pure true) (hc : X.calm = true) (hN : X.N.Nodup) (hi : SI X W tg iter src) (ok : BlkOk X.N X.env.scope scope own)
    (hg : ∀ s H C cl fp, SG (blkOf X s H scope cl C fp) W tg is g) (hsub : ∀ i ∈ is, i ∈ own.map (·.2)) (ht : ∀ s H C cl fp, PTs (blkOf X s H scope cl C fp) ifs (rdT (blkOf X s H scope cl C fp) W t))
    (hk : ∀ s H C cl fp, SE (blkOf X s H scope cl C fp) W kx mk) (he : ∀ s H C cl fp, SE (blkOf X s H scope cl C fp) W vx mv) (hs : ∀ x, foldedSetIterable iter X.env x = pure x) :
    SS X W (.Assign [.Name y py] (.DictComp kx vx [⟨tg, iter, ifs, 0⟩] scope pos) spos) (sAsg (Ev.gN i) (eDcomp (own.map (·.2)) g src t mk mv)) :=
  PS.impL (ps_setDc (g := rdG X W is g) (tt := rdTB X W t) (tk := rdEB X W mk) (tv := rdEB X W mv) hc hN hy hyl hsw hi ok hg
    (fun s H C cl fp => PTs.imp (ht s H C cl fp) fun σ H Q ⟨ρ, μ, st, en, ok, out⟩ => ⟨noX, ρ, μ, st, takes_noX _, en, ok, out⟩)
    (fun s H C cl fp => PE.imp (hk s H C cl fp) fun σ H Q ⟨ρ, μ, st, en, ok, out⟩ => ⟨noX, ρ, μ, st, takes_noX _, en, ok, out⟩)
    (fun s H C cl fp => PE.imp (he s H C cl fp) fun σ H Q ⟨ρ, μ, st, en, ok, out⟩ => ⟨noX, ρ, μ, st, takes_noX _, en, ok, out⟩) hs) fun D σ H h => dcomp_rd hsub lock_wish (asg_wish h)
end
end Ev
/-! Ev25: max, min. -/
namespace Ev
open PySem PySem.Spec PyProof.Rows L2
def mx2 (i j : Int) : Int := if j > i then j else i
def mn2 (i j : Int) : Int := if j < i then j else i
def mxL : Int → List Int → Int
  | i, [] => i
  | i, j :: l => mxL (mx2 i j) l
def mnL : Int → List Int → Int
  | i, [] => i
  | i, j :: l => mnL (mn2 i j) l
/-- of two, of three, of a list -/
def bBest (f : Int → List Int → Int) : Fn := fun s xs => match xs with
  | [.int i, .int j] => some (.int (f i [j]))
  | [.int i, .int j, .int k] => some (.int (f i [j, k]))
  | [x] => (s.lst? x).bind fun l => match intsP l with
    | some (i :: is) => some (.int (f i is))
    | _ => none
  | _ => none
theorem mxL_mem : ∀ (l : List Int) (i : Int), mxL i l = i ∨ mxL i l ∈ l
  | [], i => .inl rfl
  | j :: l, i => by
    have h := mxL_mem l (mx2 i j)
    have e : mx2 i j = i ∨ mx2 i j = j := by unfold mx2; split <;> simp
    show mxL (mx2 i j) l = i ∨ mxL (mx2 i j) l ∈ j :: l
    rcases h with h | h
    · rw [h]
      rcases e with e | e
      · exact .inl e
      · rw [e]; exact .inr (List.mem_cons_self ..)
    · exact .inr (List.mem_cons_of_mem _ h)
theorem mxL_ge : ∀ (l : List Int) (i : Int), i ≤ mxL i l ∧ ∀ y ∈ l, y ≤ mxL i l
  | [], i => ⟨Int.le_refl _, fun y hy => absurd hy (by simp)⟩
  | j :: l, i => by
    have h := mxL_ge l (mx2 i j)
    have e1 : i ≤ mx2 i j := by unfold mx2; split <;> omega
    have e2 : j ≤ mx2 i j := by unfold mx2; split <;> omega
    show i ≤ mxL (mx2 i j) l ∧ ∀ y ∈ j :: l, y ≤ mxL (mx2 i j) l
    refine ⟨Int.le_trans e1 h.1, fun y hy => ?_⟩
    rcases List.mem_cons.mp hy with q | q
    · rw [q]; exact Int.le_trans e2 h.1
    · exact h.2 y q
theorem mnL_mem : ∀ (l : List Int) (i : Int), mnL i l = i ∨ mnL i l ∈ l
  | [], i => .inl rfl
  | j :: l, i => by
    have h := mnL_mem l (mn2 i j)
    have e : mn2 i j = i ∨ mn2 i j = j := by unfold mn2; split <;> simp
    show mnL (mn2 i j) l = i ∨ mnL (mn2 i j) l ∈ j :: l
    rcases h with h | h
    · rw [h]
      rcases e with e | e
      · exact .inl e
      · rw [e]; exact .inr (List.mem_cons_self ..)
    · exact .inr (List.mem_cons_of_mem _ h)
theorem mnL_le : ∀ (l : List Int) (i : Int), mnL i l ≤ i ∧ ∀ y ∈ l, mnL i l ≤ y
  | [], i => ⟨Int.le_refl _, fun y hy => absurd hy (by simp)⟩
  | j :: l, i => by
    have h := mnL_le l (mn2 i j)
    have e1 : mn2 i j ≤ i := by unfold mn2; split <;> omega
    have e2 : mn2 i j ≤ j := by unfold mn2; split <;> omega
    show mnL (mn2 i j) l ≤ i ∧ ∀ y ∈ j :: l, mnL (mn2 i j) l ≤ y
    refine ⟨Int.le_trans h.1 e1, fun y hy => ?_⟩
    rcases List.mem_cons.mp hy with q | q
    · rw [q]; exact Int.le_trans h.1 e2
    · exact h.2 y q
section
variable {X : Cx} {W : Wd}
theorem RVs.three {K : PySem.W.Frag} {μ : List Addr} {H : Hp} {p q r : PV} {vs : List V} (h : RVs K μ H [p, q, r] vs) : ∃ u v w, vs = [u, v, w] ∧ RV K μ H p u ∧ RV K μ H q v ∧ RV K μ H r w := by
  cases h with
  | cons r1 t =>
    obtain ⟨v, w, rfl, r2, r3⟩ := RVs.two t
    exact ⟨_, _, _, rfl, r1, r2, r3⟩
theorem nuMax2_int (i j : Int) : nuMax2 (.int i) (.int j) = some (.int (mx2 i j)) := by
  have e : nuLt (.int i) (.int j) = some (decide (i < j)) := rfl
  unfold nuMax2
  rw [e]
  show some (if decide (i < j) = true then V.int j else V.int i) = _
  unfold mx2
  by_cases h : i < j <;> simp [h]
theorem nuMin2_int (i j : Int) : nuMin2 (.int i) (.int j) = some (.int (mn2 i j)) := by
  have e : nuLt (.int j) (.int i) = some (decide (j < i)) := rfl
  unfold nuMin2
  rw [e]
  show some (if decide (j < i) = true then V.int j else V.int i) = _
  unfold mn2
  by_cases h : j < i <;> simp [h]
theorem fs_max (hc : X.calm = true) : FnS X W (.builtin "max") (bBest mxL) := by
  refine CallR.imp (((call_max2 (X := X) hc).or (call_max3Nu (X := X) hc)).or (cr_max (X := X) hc)) fun xs H Q ⟨μ, st, ps, z, ok, rs, hz, k⟩ => ?_
  unfold bBest at hz
  split at hz
  · cases hz
    obtain ⟨v, w, rfl, r1, r2⟩ := rs.two
    cases r1; cases r2
    exact .inl (.inl ⟨_, _, rfl, k μ H _ (Ext.refl _ _) ok (.int _)⟩)
  · rename_i i j l
    cases hz
    obtain ⟨u, v, w, rfl, r1, r2, r3⟩ := rs.three
    cases r1; cases r2; cases r3
    refine .inl (.inr ⟨_, _, _, .int (mxL i [j, l]), rfl, ?_, k μ H _ (Ext.refl _ _) ok (.int _)⟩)
    unfold nuMax3
    rw [nuMax2_int]
    exact nuMax2_int _ _
  · rename_i x
    obtain ⟨v, rfl, rv⟩ := rs.one
    cases hs : st.lst? x with
    | none => rw [hs] at hz; cases hz
    | some l =>
      rw [hs] at hz
      have hz' : (match intsP l with | some (i :: is) => some (PV.int (mxL i is)) | _ => none) = some z := hz
      cases hi : intsP l with
      | none => rw [hi] at hz'; cases hz'
      | some ns =>
        rw [hi] at hz'
        cases ns with
        | nil => cases hz'
        | cons i is =>
          cases hz'
          obtain ⟨a, ys, rfl, h1, r1⟩ := lst_of ok rv hs
          rw [ints_rv hi r1] at h1
          refine .inr ⟨a, i :: is, rfl, h1, Nat.succ_pos _, fun m hm hge => ?_⟩
          have h2 := mxL_ge is i
          have h3 := mxL_mem is i
          have e : m = mxL i is := by
            have a1 : m ≤ mxL i is := by
              rcases List.mem_cons.mp hm with q | q
              · rw [q]; exact h2.1
              · exact h2.2 m q
            have a2 : mxL i is ≤ m := by
              rcases h3 with q | q
              · rw [q]; exact hge i (List.mem_cons_self ..)
              · exact hge _ (List.mem_cons_of_mem _ q)
            omega
          rw [e]
          exact k μ H _ (Ext.refl _ _) ok (.int _)
  · cases hz
theorem fs_min (hc : X.calm = true) : FnS X W (.builtin "min") (bBest mnL) := by
  refine CallR.imp (((call_min2 (X := X) hc).or (call_min3Nu (X := X) hc)).or (cr_min (X := X) hc)) fun xs H Q ⟨μ, st, ps, z, ok, rs, hz, k⟩ => ?_
  unfold bBest at hz
  split at hz
  · cases hz
    obtain ⟨v, w, rfl, r1, r2⟩ := rs.two
    cases r1; cases r2
    exact .inl (.inl ⟨_, _, rfl, k μ H _ (Ext.refl _ _) ok (.int _)⟩)
  · rename_i i j l
    cases hz
    obtain ⟨u, v, w, rfl, r1, r2, r3⟩ := rs.three
    cases r1; cases r2; cases r3
    refine .inl (.inr ⟨_, _, _, .int (mnL i [j, l]), rfl, ?_, k μ H _ (Ext.refl _ _) ok (.int _)⟩)
    unfold nuMin3
    rw [nuMin2_int]
    exact nuMin2_int _ _
  · rename_i x
    obtain ⟨v, rfl, rv⟩ := rs.one
    cases hs : st.lst? x with
    | none => rw [hs] at hz; cases hz
    | some l =>
      rw [hs] at hz
      have hz' : (match intsP l with | some (i :: is) => some (PV.int (mnL i is)) | _ => none) = some z := hz
      cases hi : intsP l with
      | none => rw [hi] at hz'; cases hz'
      | some ns =>
        rw [hi] at hz'
        cases ns with
        | nil => cases hz'
        | cons i is =>
          cases hz'
          obtain ⟨a, ys, rfl, h1, r1⟩ := lst_of ok rv hs
          rw [ints_rv hi r1] at h1
          refine .inr ⟨a, i :: is, rfl, h1, Nat.succ_pos _, fun m hm hge => ?_⟩
          have h2 := mnL_le is i
          have h3 := mnL_mem is i
          have e : m = mnL i is := by
            have a1 : mnL i is ≤ m := by
              rcases List.mem_cons.mp hm with q | q
              · rw [q]; exact h2.1
              · exact h2.2 m q
            have a2 : m ≤ mnL i is := by
              rcases h3 with q | q
              · rw [q]; exact hge i (List.mem_cons_self ..)
              · exact hge _ (List.mem_cons_of_mem _ q)
            omega
          rw [e]
          exact k μ H _ (Ext.refl _ _) ok (.int _)
  · cases hz
end
end Ev
/-! Ev26: f-strings. -/
namespace Ev
open PySem PySem.Spec PyProof.Rows L2
/-- {a}: a text, an int -/
def eFmt (a : Ex) : Ex := fun ρ s => (a ρ s).bind fun x s => match x with
  | .str l => if lenOk l then .ok (.str l) s else .bad
  | .int i => if Nat.blt i.natAbs.log2 1920 then .ok (.str (decT i)) s else .bad
  | _ => .bad
def joinV : List Ex → List Nat → Ex
  | [], acc, _, s => .ok (.str acc) s
  | e :: es, acc, ρ, s => (e ρ s).bind fun x s => match x with
    | .str l => if Nat.ble (acc.length + l.length) szl then joinV es (acc ++ l) ρ s else .bad
    | _ => .bad
section
variable {X : Cx} {W : Wd} {pos : Pos}
theorem se_fmt {e : Expr} {m : Ex} (he : SE X W e m) : SE X W (.FormattedValue e (-1) none pos) (eFmt m) := by
  refine PE.imp (pe_fmt he) fun σ H Q ⟨T, ρ, μ, st, tk, en, ok, out⟩ => ⟨T, ρ, μ, st, tk, en, ok, (OutG.bind out).mono fun μ1 H1 p s1 x1 ok1 h v rv => ?_⟩
  cases p with
  | str l =>
    cases hl : lenOk l with
    | false => dsimp only at h; rw [hl, if_neg Bool.false_ne_true] at h; exact h.elim
    | true =>
      dsimp only at h
      rw [hl, if_pos rfl] at h
      cases rv
      exact .inl ⟨_, rfl, by rw [sOf_len]; exact lenOk_le hl, h.now ok1 _ (.str l)⟩
  | int i =>
    cases hl : Nat.blt i.natAbs.log2 1920 with
    | false => dsimp only at h; rw [hl, if_neg Bool.false_ne_true] at h; exact h.elim
    | true =>
      dsimp only at h
      rw [hl, if_pos rfl] at h
      cases rv
      refine .inr ⟨i, rfl, Nat.le_of_ble_eq_true hl, ?_⟩
      have q := h.now ok1 _ (.str (decT i))
      rw [← decT_eq] at q
      exact q
  | _ => exact h.elim
/-- the parts of an f-string -/
inductive SJ (X : Cx) (W : Wd) : List Expr → List Ex → Prop
  | nil : SJ X W [] []
  | cons {e : Expr} {m : Ex} {es : List Expr} {ms : List Ex} : SE X W e m → SJ X W es ms → SJ X W (e :: es) (m :: ms)
theorem SJ.pj {es : List Expr} {ms : List Ex} (h : SJ X W es ms) : PJ X es (ms.map (rdE X W)) := by
  induction h with
  | nil => exact .nil
  | cons h _ ih => exact .cons h ih
theorem join_out {σ : L2.St} {Q : VK} {T : WX} : ∀ (ms : List Ex) (acc : List Nat) (ρ : Env) (μ : List Addr) (st : Stt) (H : Hp), Takes X T → EnvOk X.K μ H ρ σ → StOk X.K W μ st H → Out X W μ H T Q (joinV ms acc ρ st) → tJs (ms.map (rdE X W)) (sOf acc) σ H fun out H1 => Q (.str out) H1
  | [], acc, ρ, μ, st, H, tk, en, ok, out => (show OutG X W μ H T _ (Res.ok (PV.str acc) st) from out).now ok _ (.str acc)
  | m :: ms, acc, ρ, μ, st, H, tk, en, ok, out => by
    refine ⟨T, ρ, μ, st, tk, en, ok, (OutG.bind out).mono fun μ1 H1 p s1 x1 ok1 h v rv => ?_⟩
    cases p with
    | str l =>
      cases hl : Nat.ble (acc.length + l.length) szl with
      | false => dsimp only at h; rw [hl, if_neg Bool.false_ne_true] at h; exact h.elim
      | true =>
        dsimp only at h
        rw [hl, if_pos rfl] at h
        cases rv
        refine ⟨sOf l, rfl, by rw [sOf_app, sOf_len, List.length_append, sizeLine_eq]; exact Nat.le_of_ble_eq_true hl, ?_⟩
        rw [sOf_app]
        exact join_out ms (acc ++ l) ρ μ1 s1 H1 tk (en.ext x1) ok1 h
    | _ => exact h.elim
/-- f'..' of two parts or more -/
theorem se_joined {v1 v2 : Expr} {rest : List Expr} {ms : List Ex} (h : SJ X W (v1 :: v2 :: rest) ms) : SE X W (.JoinedStr (v1 :: v2 :: rest) pos) (joinV ms []) :=
  PE.imp (pe_joined h.pj) fun σ H Q ⟨T, ρ, μ, st, tk, en, ok, out⟩ => join_out ms [] ρ μ st H tk en ok out
theorem se_joined1 {e : Expr} {m : Ex} (he : SE X W e m) : SE X W (.JoinedStr [e] pos) m := pe_joined1 he
end
end Ev
/-! Ev27: n * text. -/
namespace Ev
open PySem PySem.Spec PyProof.Rows L2
section
variable {X : Cx} {W : Wd}
theorem op_str_mul : OpR X (binaryOp .Mult) (fun x y H Q => ∃ (a : List Nat) (j : Int), x = .int j ∧ y = .str (sOf a) ∧ a.length ≤ sizeLine ∧ -1000000 ≤ j ∧ j ≤ 1000000 ∧ a.length * j.toNat ≤ sizeLine ∧ Q (.str (sOf (repL j.toNat a))) H) := by
  intro pins s σ H x y v u Q I rx ry h
  obtain ⟨a, j, rfl, rfl, hl, h0, h1, hz, q⟩ := h
  obtain ⟨t, rfl⟩ := rx
  obtain ⟨t', rfl⟩ := ry
  have hs := sizeLine_eq
  have hr : (decide (j < -(2 ^ 63 : Int)) || decide (j ≥ 2 ^ 63)) = false := by
    have e1 : decide (j < -(2 ^ 63 : Int)) = false := decide_eq_false (by omega)
    have e2 : decide (j ≥ 2 ^ 63) = false := decide_eq_false (by omega)
    rw [e1, e2]; rfl
  refine lm_binaryOp_repeat_right (T := "str") (U := "int") (by decide) (fun s' => typeIs_int s' j t) (typeIs_str s _ t') F.fills_int_mul noFill_str_mul F.slot_int_mul lm_noRepeat_int repeat_str F.slot_int_index.lookup
    (call_gives F.slot_int_mul (typeIs_int s j t) F.entry_int_mul (F.args_int_mul_2 _ _) (AutoIntG3.int___mul___int_str_0 j t (sOf a) t')
      ⟨rfl, typeIs_str s _ t', call_gives F.slot_str_mul (typeIs_str s (sOf a) t') F.entry_str_mul (F.args_str_mul_2 _ _) (gives_str_mul (sOf a) j t' t hr ?_ ?_) ?_⟩)
  · intro hj _ hc
    have h3 : (0 : Int) < j := by omega
    have h4 : (16777216 : Int) ≤ (2 ^ 63 - 1) / j := by
      rw [Int.le_ediv_iff_mul_le h3]
      omega
    have h5 : ((sOf a).length : Int) ≤ 16777216 := by rw [sOf_len]; omega
    omega
  · intro _ _
    rw [sOf_len]
    unfold Builtin.Str.tooLong
    exact decide_eq_false (by omega)
  · split
    · rename_i hj
      rw [repL_zero (by omega)] at q
      exact ⟨Nat.zero_le _, .str (sOf []), H, I.tok _, ⟨_, rfl⟩, q⟩
    · split
      · rename_i hj hc
        have e : repL j.toNat a = a := by
          simp only [Bool.or_eq_true, beq_iff_eq] at hc
          rcases hc with hc | hc
          · subst hc; exact repL_one a
          · rw [sOf_len] at hc
            have : a = [] := List.length_eq_zero_iff.mp hc
            subst this; exact repL_nil _
        rw [e] at q
        exact ⟨.str (sOf a), H, I, ⟨t', rfl⟩, q⟩
      · have e : (⟨(List.replicate j.toNat (sOf a).cps).foldl (· ++ ·) #[]⟩ : Str) = sOf (repL j.toNat a) := by
          have := foldl_cat (sOf a).cps j.toNat #[]
          unfold sOf
          congr 1
          apply Array.toList_inj.mp
          rw [show (sOf a).cps = a.toArray from rfl] at this
          rw [this]
          simp
        rw [e]
        exact ⟨by rw [sOf_len]; simp [repL]; rw [Nat.mul_comm]; exact hz, .str _, H, I.tok _, ⟨_, rfl⟩, q⟩
/-- n * text too -/
def oMulA : Op2 := fun s x y => match x, y with
  | .int j, .str a => if lenOk a && decide (-1000000 ≤ j) && decide (j ≤ 1000000) && Nat.ble (a.length * j.toNat) szl then some (.str (repL j.toNat a)) else none
  | x, y => oMul s x y
theorem os_mulA : OpS X W (binaryOp .Mult) oMulA := by
  refine OpR.imp ((os_mul (X := X) (W := W)).or (op_str_mul (X := X))) fun x y H Q h => ?_
  obtain ⟨μ, st, p, q, z, ok, rp, rq, hz, k⟩ := h
  unfold oMulA at hz
  split at hz
  · rename_i j a
    split at hz
    · rename_i hc
      simp only [Bool.and_eq_true, decide_eq_true_eq] at hc
      cases hz
      cases rp; cases rq
      exact .inr ⟨a, j, rfl, rfl, lenOk_le hc.1.1.1, hc.1.1.2, hc.1.2, ble_line hc.2, k μ H _ (Ext.refl _ _) ok (.str _)⟩
    · cases hz
  · exact .inl ⟨μ, st, p, q, z, ok, rp, rq, hz, k⟩
theorem RVs.rep {K : PySem.W.Frag} {μ : List Addr} {H : Hp} {ps : List PV} {vs : List V} (r : RVs K μ H ps vs) : ∀ n : Nat, RVs K μ H (List.replicate n ps).flatten (List.replicate n vs).flatten
  | 0 => .nil
  | n + 1 => by
    rw [List.replicate_succ, List.replicate_succ, List.flatten_cons, List.flatten_cons]
    exact r.append (RVs.rep r n)
/-- tuple * n too -/
def oMulB : Op2 := fun s x y => match x, y with
  | .tup l, .int k => if !l.isEmpty && decide (2 ≤ k) && decide (k ≤ 1000) && Nat.ble l.length 1000 then some (.tup (List.replicate k.toNat l).flatten) else none
  | x, y => oMulA s x y
theorem os_mulB : OpS X W (binaryOp .Mult) oMulB := by
  refine OpR.imp ((os_mulA (X := X) (W := W)).or (op_repT (X := X))) fun x y H Q h => ?_
  obtain ⟨μ, st, p, q, z, ok, rp, rq, hz, k⟩ := h
  unfold oMulB at hz
  split at hz
  · rename_i l n
    split at hz
    · rename_i hc
      simp only [Bool.and_eq_true, decide_eq_true_eq, Bool.not_eq_true'] at hc
      cases hz
      cases rq
      cases rp with
      | @tup a l' xs hs rs =>
        refine .inr ⟨a, n, xs, rfl, rfl, hs, fun e => ?_, hc.1.1.2, hc.1.2, by rw [← rs.length]; exact Nat.le_of_ble_eq_true hc.2, new_tup ok (rs.rep n.toNat) k⟩
        subst e
        cases rs
        simp at hc
    · cases hz
  · exact .inl ⟨μ, st, p, q, z, ok, rp, rq, hz, k⟩
end
end Ev
/-! Ev28: sorted of a dict. -/
namespace Ev
open PySem PySem.Spec PyProof.Rows L2
/-- of a dict: its keys in order; of a list: as before -/
def bSortedA : Fn := fun s xs => match xs with
  | [x] => match s.dct? x with
    | some d => if srtOk (d.map (·.1)) && lenOk d then some (.lst (srtP (d.map (·.1)))) else none
    | none => bSorted s xs
  | _ => none
section
variable {X : Cx} {W : Wd}
theorem call_sortedK (hc : X.calm = true) (hu : X.A.units + 80 < cLine) : CallR X (.builtin "sorted") (fun xs H Q => ∃ (a : Addr) (kvs : List (Key × V)) (μ : List Addr) (ks : List PV), xs = [V.ref a] ∧ Rd H a (.dK kvs) ∧ RVs X.K μ H ks (kvs.map fun kv => kV kv.1) ∧ srtOk ks = true ∧ ks.length ≤ szl ∧
    ∀ ys p, RVs X.K μ H (srtP ks) ys → H p = none → Q (.ref p) (upd H p (.lst ys))) := by
  intro pins s σ H xs us Q I r ⟨a, kvs, μ, ks, ex, hd, rk, hl, hz, q⟩
  subst ex
  rw [Vals.ref1 r]
  obtain ⟨z, lo, vs, rel, dd⟩ := dk_rd I.hok hd
  obtain ⟨ep, hat⟩ := dd.dictAt
  have hlen : vs.length = ks.length := by
    rw [rk.length, List.length_map]
    exact rel.length.symm
  have h16 : vs.length ≤ sizeLine := by rw [hlen, sizeLine_eq]; exact hz
  refine Calls.call_function_entry PyProof.Rows.kind_sorted PyProof.Rows.plain_sorted PyProof.Rows.entry_sorted (PyProof.Rows.args_sorted1 _) ?_
  unfold Builtin.«sorted»
  refine wpAny_bind (m := checkCount "sorted" 1 1 _) (wpAny_pure ?_)
  refine wpAny_bind (PySem.W.kdu_collect (A := X.A.in1) (PySem.W.kdl_dict (knd := mixKind X.prog X.w) (kvs := vs) (ep := ep) lo) (I.ok.hd hc) hat h16 fun h' tk acc hk hacc => ?_)
  have r0 : Vals (vs.map fun p => kV p.1) acc.toList := keys_at (by rw [Array.length_toList]; exact hacc.1) fun j v e => by
    obtain ⟨k, x, e1, e2⟩ := hacc.2 j v (by rw [← Array.getElem?_toList]; exact e)
    exact ⟨k, x, e1, e2⟩
  have ekeys : (vs.map fun p => kV p.1) = kvs.map fun kv => kV kv.1 := by
    have e := rel.keys
    have e2 : (kvs.map (·.1)).map kV = (vs.map (·.1)).map kV := by rw [e]
    rw [List.map_map, List.map_map] at e2
    exact e2.symm
  rw [ekeys] at r0
  have I2 : Inv X pins σ H { s with heap := h', toks := tk } := I.kept hk
  have hal : acc.toList.length ≤ sizeLine := by rw [Array.length_toList, hacc.1]; exact h16
  refine wpAny_bind (wpAny_newList ?_ hal)
  have hl' := hl
  unfold srtOk at hl'
  simp only [Bool.and_eq_true] at hl'
  obtain ⟨⟨h1, h2⟩, h3⟩ := hl'
  obtain ⟨e1, e2⟩ := each_of I2 h2 rk r0
  have k3 : ∀ b o, h'.get? b = some o → (h'.push { cls := .type "list", data := .seq acc.toList.toArray }).get? b = some o := fun b o e => Heap.get?_push_of_some _ e
  have hoL : (h'.push { cls := .type "list", data := .seq acc.toList.toArray }).get? h'.objs.size = some (seqObj "list" acc.toList.toArray 0) := Heap.get?_push_size _ rfl
  refine wpAny_bind (wpAny_holding (wpAny_mono (PySem.W.list_sort_data (A := X.A.in1) (Q := fun _ s' => EP X pins σ Q (.ref h'.objs.size) s') (enc := pd) hoL e1 (e2.mono fun u b ⟨as, h⟩ => ⟨as, PyProof.Rows.Reads.keeps k3 h, fun hm => Nat.lt_irrefl _ (reads_in h _ hm)⟩) ?_ ?_ ?_ ?_ fun out ho eo => ?_) (fun _ s' x => ?_) fun _ _ e => e))
  · intro d hd d' hd'
    obtain ⟨b, hb, rfl⟩ := List.mem_map.mp hd
    obtain ⟨b', hb', rfl⟩ := List.mem_map.mp hd'
    exact (alP_pd b b' (alAll_mem h1 hb hb')).1
  · rcases Bool.or_eq_true _ _ ▸ h3 with h3 | h3
    · refine .inl fun d hd => ?_
      obtain ⟨b, hb, rfl⟩ := List.mem_map.mp hd
      have := List.all_eq_true.mp h3 b hb
      unfold hdTup at this
      split at this
      · exact ⟨_, _, by rw [pd, pds]⟩
      · cases this
    · refine .inr fun d hd => ?_
      obtain ⟨b, hb, rfl⟩ := List.mem_map.mp hd
      have := List.all_eq_true.mp h3 b hb
      exact oth_pd this
  · rw [sizeLine_eq]; exact hz
  · intro b hb
    have := depth_le 60 b (List.all_eq_true.mp h2 b hb)
    show X.A.units + 1 + 1 + _ < cLine
    omega
  · have ho' : PySem.W.EachIs (fun (u : Value) (p : PV) => ∃ x, RelV x u ∧ RV X.K μ H p x) out (srtP ks) := by
      rw [← srtP_eq h1]
      exact eo
    obtain ⟨ys, v1, v2⟩ := vals_of_each ho'
    obtain ⟨ep', he'⟩ := sortedHeap_at (vs := acc.toList) (out := out.toArray) hoL
    have hlen2 : ys.length ≤ sizeLine := by rw [v1.length, ho, sizeLine_eq]; exact hz
    exact ⟨.ref _, upd H h'.objs.size (.lst ys), I2.laid (t' := tk) (fun b o e => (sortedHeap_old (Nat.ne_of_lt (Heap.lt_size e)) (Heap.lt_size (k3 b o e))).trans (k3 b o e)) (Nat.le_refl _) ⟨hlen2, out, ep', v1, he'⟩, rfl, q ys _ v2 (I2.hok.fresh (Nat.le_refl _))⟩
  · exact wpAny_pure ⟨_, rfl, x⟩
theorem fs_sortedA (hc : X.calm = true) (hu : X.A.units + 80 < cLine) : FnS X W (.builtin "sorted") bSortedA := by
  refine CallR.imp ((fs_sorted (X := X) (W := W) (by omega)).or (CallR.fz (call_sortedK (X := X) hc hu))) fun xs H Q ⟨μ, st, ps, z, ok, rs, hz, k⟩ => ?_
  have hz0 := hz
  unfold bSortedA at hz
  split at hz
  · rename_i x
    cases hd : st.dct? x with
    | none => rw [hd] at hz; exact .inl ⟨μ, st, [x], z, ok, rs, hz, k⟩
    | some d =>
      rw [hd] at hz
      dsimp only at hz
      split at hz
      · rename_i hb
        simp only [Bool.and_eq_true] at hb
        cases hz
        obtain ⟨v, rfl, rv⟩ := rs.one
        obtain ⟨a, kvs, rfl, hrd, rks, nd⟩ := dct_of ok rv hd
        exact .inr ⟨a, kvs, μ, d.map (·.1), rfl, hrd, RKs.keys rks, hb.1, by rw [List.length_map]; exact Nat.le_of_ble_eq_true hb.2, fun ys p r hp => fz_list ok r k p hp⟩
      · cases hz
  · cases hz
end
end Ev
/-! Ev29: d.get(k, x). -/
namespace Ev
open PySem PySem.Spec PyProof.Rows L2
def eGet2 (a b c : Ex) : Ex := fun ρ s => (a ρ s).bind fun x s => match s.dct? x with
  | none => .bad
  | some _ => (b ρ s).bind fun y s => (c ρ s).bind fun z s => match s.dct? x with
    | none => .bad
    | some d => if keyOk y then .ok ((dLook d y).getD z) s else .bad
section
variable {X : Cx} {W : Wd} {a b c : Expr} {ma mb mc : Ex} {apos cpos : Pos}
theorem se_get2 (hu : X.A.units + 1 < cLine) (ha : SE X W a ma) (hb : SE X W b mb) (hc : SE X W c mc) (m : M2 X a "get" apos b c cpos) : SE X W (.Call (.Attribute a "get" apos) [b, c] [] cpos) (eGet2 ma mb mc) := by
  refine PE.imp (pe_dget2 hu ha hb hc m) fun σ H Q ⟨T, ρ, μ, st, tk, en, ok, out⟩ => ⟨T, ρ, μ, st, tk, en, ok, (OutG.bind out).mono fun μ1 H1 x s1 x1 ok1 h v rv => ?_⟩
  cases hd : s1.dct? x with
  | none => rw [hd] at h; exact h.elim
  | some d =>
    rw [hd] at h
    dsimp only at h
    obtain ⟨p, kvs, rfl, hrd, _, _⟩ := dct_of ok1 rv hd
    refine ⟨p, rfl, .inl ⟨kvs, hrd⟩, T, ρ, μ1, s1, tk, en.ext x1, ok1, (OutG.bind h).mono fun μ2 H2 y s2 x2 ok2 h2 w rw2 => ?_⟩
    refine ⟨T, ρ, μ2, s2, tk, (en.ext x1).ext x2, ok2, (OutG.bind h2).mono fun μ3 H3 z s3 x3 ok3 h3 u ru => ?_⟩
    cases hd3 : s3.dct? x with
    | none => rw [hd3] at h3; exact h3.elim
    | some d3 =>
      rw [hd3] at h3
      dsimp only at h3
      cases hk : keyOk y with
      | false => rw [hk, if_neg Bool.false_ne_true] at h3; exact h3.elim
      | true =>
        rw [hk, if_pos rfl] at h3
        obtain ⟨p3, kvs3, e3, hrd3, rks3, nd3⟩ := dct_of ok3 ((rv.ext x2).ext x3) hd3
        cases e3
        obtain ⟨key, hkey, rfl⟩ := key_rv hk (rw2.ext x3)
        refine ⟨valV kvs3 key, .inl ⟨kvs3, key, hrd3, rfl, rfl⟩, ?_⟩
        rcases look_of hkey rks3 with ⟨e1, e2⟩ | ⟨pp, vv, e1, e2, e4⟩
        · rw [e1] at h3; rw [e2]
          exact h3.now ok3 _ ru
        · rw [e1] at h3; rw [e2]
          exact h3.now ok3 _ e4
end
end Ev
/-! Ev30: the values, the pairs of a dict that is a value. -/
namespace Ev
open PySem PySem.Spec PyProof.Rows L2
def iValsD (a : Ex) : Ix := fun ρ s => (a ρ s).bind fun x s => match x with
  | .dct d => .ok (fun _ => some (d.map (·.2))) s
  | _ => .bad
def iItemsD (a : Ex) : Ix := fun ρ s => (a ρ s).bind fun x s => match x with
  | .dct d => .ok (fun _ => some (d.map fun p => .tup [p.1, p.2])) s
  | _ => .bad
section
variable {X : Cx} {W : Wd} {e : Expr} {m : Ex} {apos cpos : Pos}
theorem RKs.vals {K : PySem.W.Frag} {μ : List Addr} {H : Hp} : ∀ {ps : List (PV × PV)} {vs : List (Key × V)}, RKs K μ H ps vs → RVs K μ H (ps.map (·.2)) (vs.map (·.2))
  | _, _, .nil => .nil
  | _, _, .cons _ r t => .cons r (RKs.vals t)
theorem RKs.len {K : PySem.W.Frag} {μ : List Addr} {H : Hp} : ∀ {ps : List (PV × PV)} {vs : List (Key × V)}, RKs K μ H ps vs → ps.length = vs.length
  | _, _, .nil => rfl
  | _, _, .cons _ _ t => by simp [RKs.len t]
theorem RKs.at' {K : PySem.W.Frag} {μ : List Addr} {H : Hp} : ∀ {ps : List (PV × PV)} {vs : List (Key × V)} {i : Nat} {q : PV × PV} {k : Key} {v : V}, RKs K μ H ps vs → ps[i]? = some q → vs[i]? = some (k, v) → RV K μ H q.1 (kV k) ∧ RV K μ H q.2 v
  | _, _, _, _, _, _, .nil, e, _ => by simp at e
  | _, _, 0, q, k, v, .cons (k := k0) hk r _, e, e2 => by
    simp at e e2
    obtain ⟨rfl, rfl⟩ := e2
    subst e
    refine ⟨?_, r⟩
    cases k0 <;> cases hk
    · exact .int _
    · exact .str _
  | _, _, i + 1, q, k, v, .cons _ _ t, e, e2 => RKs.at' (i := i) t (by simpa using e) (by simpa using e2)
theorem si_valsD {tg : Expr} (he : SE X W e m) (hbase : attributeBase e "values" X.env (eval e X.env) = eval e X.env) (hline : (apos.endLine == cpos.line) = true) : SI X W tg (.Call (.Attribute e "values" apos) [] [] cpos) (iValsD m) := by
  refine PI.imp (pi_values he hbase hline) fun σ H R ⟨T, ρ, μ, st, tk, en, ok, out⟩ => ⟨T, ρ, μ, st, tk, en, ok, (OutG.bind out).mono fun μ1 H1 p s1 x1 ok1 h v rv => ?_⟩
  cases p with
  | dct d =>
    cases rv with
    | @dct a o _ kvs hf rks nd =>
      refine ⟨a, o, kvs, rfl, hf, (h.now ok1).2 _ fun i μ' st' H' l x' ok' hl => ?_⟩
      cases hl
      have hf' := x'.frz _ _ _ hf
      have rks' := rks.ext x'
      refine ⟨fun q hq => ⟨⟨hf', ?_⟩, fun y H'' ⟨eH, k, ek⟩ => ?_⟩, fun hn => ⟨hf', ?_⟩⟩
      · rw [← rks.len]
        have := (List.getElem?_eq_some_iff.mp hq).1
        rwa [List.length_map] at this
      · subst eH
        refine ⟨Ext.refl _ _, ok', ?_⟩
        obtain ⟨w, hw, rw_⟩ := (RKs.vals rks').get hq
        rw [List.getElem?_map, ek] at hw
        cases hw
        exact rw_
      · rw [← rks.len]
        have := List.getElem?_eq_none_iff.mp hn
        rwa [List.length_map] at this
  | _ => exact h.elim
theorem si_itemsD {elts : List Expr} {kk : Nat} {tpos : Pos} (he : SE X W e m) (hbase : attributeBase e "items" X.env (eval e X.env) = eval e X.env) (hline : (apos.endLine == cpos.line) = true) : SI X W (.Tuple elts kk tpos) (.Call (.Attribute e "items" apos) [] [] cpos) (iItemsD m) := by
  refine PI.imp (pi_items he hbase hline) fun σ H R ⟨T, ρ, μ, st, tk, en, ok, out⟩ => ⟨T, ρ, μ, st, tk, en, ok, (OutG.bind out).mono fun μ1 H1 p s1 x1 ok1 h v rv => ?_⟩
  cases p with
  | dct d =>
    cases rv with
    | @dct a o _ kvs hf rks nd =>
      refine ⟨a, o, kvs, rfl, hf, (h.now ok1).2 _ fun i μ' st' H' l x' ok' hl => ?_⟩
      cases hl
      have hf' := x'.frz _ _ _ hf
      have rks' := rks.ext x'
      refine ⟨fun q hq => ⟨⟨hf', ?_⟩, fun y H'' ⟨Tt, k, v, ek, ey, eT, eH⟩ => ?_⟩, fun hn => ⟨hf', ?_⟩⟩
      · rw [← rks.len]
        have := (List.getElem?_eq_some_iff.mp hq).1
        rwa [List.length_map] at this
      · subst eH ey
        have x2 := ext_new (μ := μ') (u := .tup [kV k, v]) eT
        refine ⟨x2, ok'.fresh eT, ?_⟩
        rw [List.getElem?_map] at hq
        cases hd : d[i]? with
        | none => rw [hd] at hq; cases hq
        | some dq =>
          rw [hd] at hq
          cases hq
          obtain ⟨r1, r2⟩ := rks'.at' hd ek
          exact .tup (.of upd_same) (.cons (r1.ext x2) (.cons (r2.ext x2) .nil))
      · rw [← rks.len]
        have := List.getElem?_eq_none_iff.mp hn
        rwa [List.length_map] at this
  | _ => exact h.elim
end
end Ev
/-! Ev31: zip of two lists, of two tuples (values). -/
namespace Ev
open PySem PySem.Spec PyProof.Rows L2
def iZipV (a b : Ex) : Ix := fun ρ s => (a ρ s).bind fun x s => (b ρ s).bind fun y s => match x, y with
  | .lst l, .lst m => .ok (fun _ => some (zipL l m)) s
  | .tup l, .tup m => .ok (fun _ => some (zipL l m)) s
  | _, _ => .bad
theorem zipL_get : ∀ (l m : List PV) (i : Nat), (zipL l m)[i]? = match l[i]?, m[i]? with
    | some x, some y => some (.tup [x, y])
    | _, _ => none
  | [], m, i => by simp [zipL]
  | x :: l, [], i => by
    cases h : (x :: l)[i]? <;> simp [zipL, h]
  | x :: l, y :: m, 0 => by simp [zipL]
  | x :: l, y :: m, i + 1 => by
    simp only [zipL, List.getElem?_cons_succ]
    exact zipL_get l m i
section
variable {X : Cx} {W : Wd} {e e2 : Expr} {ma mb : Ex} {p pos : Pos}
theorem si_zipV {elts : List Expr} {kk : Nat} {tpos : Pos} (hg : Gl X "zip") (hm : X.mg "zip" = none) (ha : SE X W e ma) (hb : SE X W e2 mb) (hs : starEach [e, e2] X.env = (false, eval e X.env) :: starEach [e2] X.env) (hs2 : starEach [e2] X.env = (false, eval e2 X.env) :: starEach [] X.env) (hpl : (backTo pos (starEach [e2] X.env)).any (·.1) = false) :
    SI X W (.Tuple elts kk tpos) (.Call (.Name "zip" p) [e, e2] [] pos) (iZipV ma mb) := by
  refine PI.imp (RZ.pi_zipA hg hm (pa_cons ha (pa_cons hb pa_nil hs2) hs) hs hpl) fun σ H R ⟨T, ρ, μ, st, tk, en, ok, out⟩ => ⟨T, ρ, μ, st, tk, en, ok, (OutG.bind out).mono fun μ1 H1 x s1 x1 ok1 h v rv => ⟨T, ρ, μ1, s1, tk, en.ext x1, ok1, (OutG.bind h).mono fun μ2 H2 y s2 x2 ok2 h2 w rw2 => ?_⟩⟩
  have rv2 := rv.ext x2
  have fin : ∀ (l m : List PV) (J : It) (a b : Addr) (xs ys : List V), RVs X.K μ2 H2 l xs → RVs X.K μ2 H2 m ys →
      ((∃ l', (fun _ : Stt => some (zipL l m)) s2 = some l') ∧ ∀ J, WkOk X W J (fun _ => some (zipL l m)) μ2 H2 → R J H2) →
      (∀ i μ' H', Ext μ2 H2 μ' H' → (∀ u v, xs[i]? = some u → ys[i]? = some v → J.go i H' ∧ ∀ z H'', J.yld i H' z H'' → ∃ T, z = .ref T ∧ H' T = none ∧ H'' = upd H' T (.tup [u, v])) ∧ (xs.length ≤ i ∨ ys.length ≤ i → J.stop i H')) → R J H2 := by
    intro l m J a b xs ys r1 r2 hR hJ
    refine hR.2 J fun i μ' st' H' l' x' ok' hf => ?_
    cases hf
    obtain ⟨g1, g2⟩ := hJ i μ' H' x'
    have r1' := r1.ext x'
    have r2' := r2.ext x'
    rw [zipL_get]
    cases h1 : l[i]? with
    | none => exact ⟨fun q hq => (by cases hq), fun _ => g2 (.inl (by rw [← r1.length]; exact List.getElem?_eq_none_iff.mp h1))⟩
    | some px =>
      cases h2 : m[i]? with
      | none => exact ⟨fun q hq => (by cases hq), fun _ => g2 (.inr (by rw [← r2.length]; exact List.getElem?_eq_none_iff.mp h2))⟩
      | some py =>
        obtain ⟨u, hu, ru⟩ := r1'.get h1
        obtain ⟨v, hv, rv⟩ := r2'.get h2
        obtain ⟨go, yl⟩ := g1 u v hu hv
        refine ⟨fun q hq => ⟨go, fun z H'' hy => ?_⟩, fun hn => by cases hn⟩
        cases hq
        obtain ⟨Tt, e1, e2, e3⟩ := yl z H'' hy
        subst e1 e3
        have x3 := ext_new (μ := μ') (u := .tup [u, v]) e2
        exact ⟨x3, ok'.fresh e2, .tup (.of upd_same) (.cons (ru.ext x3) (.cons (rv.ext x3) .nil))⟩
  cases x with
  | lst l =>
    cases y with
    | lst m =>
      cases rv2 with
      | @lst a _ xs hs1 rs1 =>
        cases rw2 with
        | @lst b _ ys hs2' rs2 =>
          refine ⟨a, b, xs, ys, rfl, .inl ⟨hs1.sq, hs2'.sq, fin l m _ a b xs ys rs1 rs2 (h2.now ok2) fun i μ' H' x' => ⟨fun u v hu hv => ⟨⟨xs, ys, u, v, (x'.fz hs1).sq, (x'.fz hs2').sq, hu, hv⟩, fun z H'' ⟨Tt, u', v', e1, e2, e3, e4, e5⟩ => ?_⟩, fun hl => ⟨xs, ys, (x'.fz hs1).sq, (x'.fz hs2').sq, hl⟩⟩⟩⟩
          have q1 := e4 xs (x'.fz hs1).sq
          have q2 := e5 ys (x'.fz hs2').sq
          rw [hu] at q1; rw [hv] at q2
          cases q1; cases q2
          exact ⟨Tt, e1, e2, e3⟩
    | _ => exact h2.elim
  | tup l =>
    cases y with
    | tup m =>
      cases rv2 with
      | @tup a _ xs hs1 rs1 =>
        cases rw2 with
        | @tup b _ ys hs2' rs2 =>
          refine ⟨a, b, xs, ys, rfl, .inr ⟨hs1, hs2', fin l m _ a b xs ys rs1 rs2 (h2.now ok2) fun i μ' H' x' => ⟨fun u v hu hv => ⟨⟨xs, ys, u, v, x'.sqT hs1, x'.sqT hs2', hu, hv⟩, fun z H'' ⟨Tt, u', v', e1, e2, e3, e4, e5⟩ => ?_⟩, fun hl => ⟨xs, ys, x'.sqT hs1, x'.sqT hs2', hl⟩⟩⟩⟩
          have q1 := e4 xs (x'.sqT hs1)
          have q2 := e5 ys (x'.sqT hs2')
          rw [hu] at q1; rw [hv] at q2
          cases q1; cases q2
          exact ⟨Tt, e1, e2, e3⟩
    | _ => exact h2.elim
  | _ => exact h2.elim
end
end Ev
/-! Ev32: sum(lists, []). -/
namespace Ev
open PySem PySem.Spec PyProof.Rows L2
section
variable {P : Program} {w : World} {A : Around} {E : Value → Shared → Prop} {s : Shared}
theorem raw_cat {l b : Addr} {its its2 : List Value} {Q : Value → Shared → Prop} (p1 : PlainL s.heap l its.toArray) (p2 : PlainL s.heap b its2.toArray) (hz : its.length + its2.length ≤ sizeLine)
    (h : Q (.ref s.heap.objs.size) { s with heap := s.heap.push { cls := .type "list", data := .seq (its ++ its2).toArray } }) : wpAny (model P w) A (binaryOp .Add (.ref l) (.ref b)) Q E s := by
  obtain ⟨⟨cls, dd, data, sl⟩, n, ho, hc, hdd, hd⟩ := p1
  obtain ⟨⟨cls2, dd2, data2, sl2⟩, n2, ho2, hc2, hdd2, hd2⟩ := p2
  simp only at hc hd hc2 hd2
  subst hc hd hc2 hd2
  have e : its.toArray ++ its2.toArray = (its ++ its2).toArray := by simp
  refine concat_meets ⟨_, ho, rfl⟩ ⟨_, ho2, rfl⟩ noFill_list_add seq_list_add PySem.F.slot_list_add PySem.F.entry_list_add (PySem.F.args_list_add_2 _ _) (list_addW l b its.toArray its2.toArray n n2 dd dd2 sl sl2 (by rw [List.size_toArray, List.size_toArray]; exact hz)) ⟨ho, ho2, ?_⟩
  rw [e]
  exact h
/-- the loop in its second stage: lists -/
theorem code_sum_lists {R : Result → Shared → Prop} {it S l : Addr} {items : List Value} {parts : List (List Value)} {h0 : Heap} {s0 : Shared} {whole : List Value} (hh : A.handled = none) (hl : PlainL h0 l items.toArray) (hp : ∀ (j : Nat) (p : List Value), parts[j]? = some p → ∃ b, items[j]? = some (.ref b) ∧ PlainL h0 b p.toArray) (hn : items.length = parts.length)
    (hit : h0.objs.size ≤ it) (hS : h0.objs.size ≤ S) (hne : it ≠ S) (t0 : Addr)
    (hend : ∀ s' tot, (∀ b o, h0.get? b = some o → s'.heap.get? b = some o) → s'.os = s0.os → s'.gens = s0.gens → PlainL s'.heap tot whole.toArray → whole.length ≤ sizeLine → (0 < parts.length → h0.objs.size ≤ tot ∧ ∃ c, s'.heap.get? tot = some (lstObj whole.toArray c)) → (parts.length = 0 → tot = t0) → R (.ok (.ret (.ref tot))) s') :
    ∀ (k i : Nat) (s : Shared) (tot : Addr) (acc : List Value) (c : Nat), parts.length - i = k → i ≤ parts.length → (∀ b o, h0.get? b = some o → s.heap.get? b = some o) → s.heap.IsListIter it l i → s.heap.get? S = some (lstObj #[.ref tot] c) → tot ≠ S → tot ≠ it → PlainL s.heap tot acc.toArray →
      acc.length + ((parts.drop i).map List.length).sum ≤ sizeLine → s.os = s0.os → s.gens = s0.gens → acc ++ (parts.drop i).flatten = whole → (0 < i → h0.objs.size ≤ tot ∧ ∃ c, s.heap.get? tot = some (lstObj acc.toArray c)) → (i = 0 → tot = t0) → codeAny (model P w) A (.builtin "sum.loop" ⟨[.ref it, .ref S, rawInt 2, rawInt 0], []⟩) R s := by
  intro k
  induction k with
  | zero =>
    intro i s tot acc c hk hi kp hI hSo h1 h2 ht hz os gs hw hj hj0
    have hin : i = parts.length := by omega
    subst hin
    refine codeAny_builtin F.entry_sum_loop ?_
    rw [Around.under_plainId F.plain_sum_loop _]
    show wpAny _ A.in1 (seqItems? (.ref S) >>= _) _ _ s
    refine wpAny_bind (wpAny_seqItems hSo rfl ?_)
    show wpAny _ A.in1 (tryCatch (pyNext (.ref it)) _ >>= _) _ _ s
    have kl : s.heap.IsList l items.toArray := by
      obtain ⟨o, n, a, b, c, d⟩ := hl
      exact ⟨o, kp _ _ a, b, n, d⟩
    refine wpAny_bind (wpAny_tryCatch (wpAny_pyNext_list_end hh hI kl (by simp [hn]) fun h' kx => ?_))
    have k2 : ∀ b o, h0.get? b = some o → h'.get? b = some o := fun b o e => kx b o (fun z => absurd (Nat.lt_of_lt_of_le (Heap.lt_size e) hit) (by rw [z]; exact Nat.lt_irrefl _)) (kp b o e)
    rw [List.drop_length, List.flatten_nil, List.append_nil] at hw
    subst hw
    refine wpAny_pure (hend _ tot k2 os gs ?_ (by omega) (fun h => ?_) hj0)
    · obtain ⟨o, n, a, b⟩ := ht
      exact ⟨o, n, kx _ _ h2 a, b⟩
    · obtain ⟨h3, c3, h4⟩ := hj h
      exact ⟨h3, c3, kx _ _ h2 h4⟩
  | succ k ih =>
    intro i s tot acc c hk hi kp hI hSo h1 h2 ht hz os gs hw hj hj0
    have hlt : i < parts.length := by omega
    obtain ⟨b, hb, pb⟩ := hp i parts[i] (by simp [hlt])
    refine codeAny_builtin F.entry_sum_loop ?_
    rw [Around.under_plainId F.plain_sum_loop _]
    show wpAny _ A.in1 (seqItems? (.ref S) >>= _) _ _ s
    refine wpAny_bind (wpAny_seqItems hSo rfl ?_)
    show wpAny _ A.in1 (tryCatch (pyNext (.ref it)) _ >>= _) _ _ s
    have kl : s.heap.IsList l items.toArray := by
      obtain ⟨o, n, a, b, c, d⟩ := hl
      exact ⟨o, kp _ _ a, b, n, d⟩
    refine wpAny_bind (wpAny_tryCatch (wpAny_pyNext_list_item hI kl (by simpa using hb) fun h' hI' sb => ?_))
    have lt0 : ∀ b o, h0.get? b = some o → b ≠ it ∧ b ≠ S := fun b o e => ⟨fun z => absurd (Nat.lt_of_lt_of_le (Heap.lt_size e) hit) (by rw [z]; exact Nat.lt_irrefl _), fun z => absurd (Nat.lt_of_lt_of_le (Heap.lt_size e) hS) (by rw [z]; exact Nat.lt_irrefl _)⟩
    have k2 : ∀ b o, h0.get? b = some o → h'.get? b = some o := fun b o e => sb.extBut b o (lt0 b o e).1 (kp b o e)
    have hS2 : h'.get? S = some (lstObj #[.ref tot] c) := sb.extBut _ _ (Ne.symm hne) hSo
    have ht2 : PlainL h' tot acc.toArray := by
      obtain ⟨o, n, a, b⟩ := ht
      exact ⟨o, n, sb.extBut _ _ h2 a, b⟩
    have pb2 : PlainL h' b parts[i].toArray := by
      obtain ⟨o, n, a, b⟩ := pb
      exact ⟨o, n, k2 _ _ a, b⟩
    have hdrop : parts.drop i = parts[i] :: parts.drop (i + 1) := List.drop_eq_getElem_cons hlt
    rw [hdrop, List.map_cons, List.sum_cons] at hz
    show wpAny _ A.in1 ((holding [.ref b] (binaryOp .Add (.ref tot) (.ref b))).attempt >>= _) _ _ _
    refine wpAny_bind (wpAny_attempt (wpAny_holding (raw_cat (s := { s with heap := h' }) ht2 pb2 (by omega) ?_)))
    show wpAny _ A.in1 (updateSeq S (fun _ => #[.ref h'.objs.size]) >>= _) _ _ _
    have hS3 : (h'.push { cls := .type "list", data := .seq (acc ++ parts[i]).toArray }).get? S = some (lstObj #[.ref tot] c) := Heap.get?_push_of_some _ hS2
    refine wpAny_bind (wpAny_updateSeq hS3 rfl ?_)
    refine wpAny_bind (wpAny_letGo ?_)
    show wpAny _ A.in1 (updateSeq S (fun _ => #[.ref h'.objs.size]) >>= _) _ _ _
    have hS4 := Heap.get?_update_self (Obj.mapSeq fun _ => #[Value.ref h'.objs.size]) hS3 rfl
    have oth : ∀ b o, b ≠ S → h'.get? b = some o → (((h'.push { cls := .type "list", data := .seq (acc ++ parts[i]).toArray }).update S (Obj.mapSeq fun _ => #[Value.ref h'.objs.size])).update S (Obj.mapSeq fun _ => #[Value.ref h'.objs.size])).get? b = some o := fun b o hb e =>
      (Heap.get?_update_other _ _ (Ne.symm hb)).trans ((Heap.get?_update_other _ _ (Ne.symm hb)).trans (Heap.get?_push_of_some _ e))
    have nS : h'.objs.size ≠ S := fun z => absurd (Heap.lt_size hS2) (by rw [← z]; exact Nat.lt_irrefl _)
    obtain ⟨oi, ho, hci, hdi⟩ := id hI'
    have nI : h'.objs.size ≠ it := fun z => absurd (Heap.lt_size ho) (by rw [← z]; exact Nat.lt_irrefl _)
    refine wpAny_bind (wpAny_updateSeq hS4 rfl (wpAny_pure ⟨plainId_quiet F.plain_sum_loop _, ih (i + 1) _ h'.objs.size (acc ++ parts[i]) _ (by omega) hlt (fun b o e => oth b o (lt0 b o e).2 (k2 b o e)) ⟨oi, oth _ _ hne ho, hci, hdi⟩ (Heap.get?_update_self _ hS4 rfl) nS nI ?_ (by rw [List.length_append]; omega)  os gs (by rw [← hw, hdrop, List.flatten_cons, List.append_assoc]) (fun _ => ⟨?_, 0, (Heap.get?_update_other _ _ (Ne.symm nS)).trans ((Heap.get?_update_other _ _ (Ne.symm nS)).trans (Heap.get?_push_size _ rfl))⟩) (fun z => by omega)⟩))
    rotate_left
    · exact Nat.le_trans hit (Nat.le_of_lt (Heap.lt_size ho))
    exact ⟨_, 0, (Heap.get?_update_other _ _ (Ne.symm nS)).trans ((Heap.get?_update_other _ _ (Ne.symm nS)).trans (Heap.get?_push_size _ rfl)), rfl, rfl, rfl⟩
end
end Ev
/-! Ev33: what a printed proof leans on: names by a look, the module's constants, in-place +=, defs that call themselves, generator expressions' parts. -/
namespace Ev
open PySem PySem.Spec PyProof.Rows L2
/-! ### sides by a look -/
def visB (sc : Scope) (x : Str) : Bool := match sc.names.lookup x with
  | some .local => true
  | some .cell => true
  | some .free => true
  | _ => false
theorem vis_of {sc : Scope} {x : Str} (h : visB sc x = true) : Vis sc x := by
  unfold visB at h
  split at h
  · exact .inl (by assumption)
  · exact .inr (.inl (by assumption))
  · exact .inr (.inr (by assumption))
  · cases h
def locB (sc : Scope) (x : Str) : Bool := match sc.names.lookup x with
  | some .local => true
  | some .cell => true
  | _ => false
theorem loc_of {sc : Scope} {x : Str} (h : locB sc x = true) : Loc sc x := by
  unfold locB at h
  split at h
  · exact .inl (by assumption)
  · exact .inr (by assumption)
  · cases h
theorem hu65 {k : Nat} {A : Around} (r : Room k A) : A.units + 65 < cLine := by have := r.un; omega
theorem hu64 {k : Nat} {A : Around} (r : Room k A) : A.units + 64 < cLine := by have := r.un; omega
theorem hu80 {k : Nat} {A : Around} (r : Room k A) : A.units + 80 < cLine := by have := r.un; omega
theorem hu1 {k : Nat} {A : Around} (r : Room k A) : A.units + 1 < cLine := by have := r.un; omega
section
variable {X : Cx} {W : Wd} {pos : Pos}
theorem se_strL {x : Str} {j} {l : List Nat} (h : x = sOf l) : SE X W (.Constant (.str x) j pos) (eC (.str l)) := by
  subst h
  exact se_str
end
/-! ### the module's constants -/
/-- the module's name x holds p -/
def GloOk (K : PySem.W.Frag) (mg : Str → Option Value) (x : Str) (p : PV) : Prop := ∃ u v, mg x = some u ∧ RelV v u ∧ ∀ μ H, RV K μ H p v
theorem se_glob {X : Cx} {W : Wd} {pos : Pos} {x : Str} {p : PV} (h : GloOk X.K X.mg x p) (hg : Gl X x) (hd : (x == ("__debug__" : Str)) = false) : SE X W (.Name x pos) (eC p) := by
  obtain ⟨u, v, h1, h2, h3⟩ := h
  exact se_const (pe_glob hg h1 h2 hd) h3
mutual
/-- the written value u is p -/
def valB (K : PySem.W.Frag) : PV → Value → Bool
  | .non, .none => true
  | .bl a, .bool b => a == b
  | .int i, .int j _ => decide (i = j)
  | .str l, .str y _ => decide (sOf l = y)
  | .tup l, .ref a => (match K.lookup a with
    | some ⟨.type c, _, .seq its _, _⟩ => decide (c = "tuple") && (decide (its.size ≤ sizeLine) && valsB K l its.toList)
    | _ => false)
  | .lst l, .ref a => (match K.lookup a with
    | some ⟨.type c, none, .seq its _, _⟩ => decide (c = "list") && (decide (its.size ≤ sizeLine) && valsB K l its.toList)
    | _ => false)
  | _, _ => false
def valsB (K : PySem.W.Frag) : List PV → List Value → Bool
  | [], [] => true
  | p :: ps, u :: us => valB K p u && valsB K ps us
  | _, _ => false
end
theorem ba2 {a b : Bool} (h : (a && b) = true) : a = true ∧ b = true := Bool.and_eq_true_iff.mp h
mutual
theorem valB_ok {K : PySem.W.Frag} : ∀ {p : PV} {u : Value}, valB K p u = true → ∃ v, RelV v u ∧ ∀ μ H, RV K μ H p v
  | .non, u, h => by
    cases u with
    | none => exact ⟨.non, rfl, fun _ _ => .non⟩
    | _ => simp [valB] at h
  | .bl a, u, h => by
    cases u with
    | bool b =>
      simp only [valB] at h
      have e : a = b := eq_of_beq h
      subst e
      exact ⟨.bl a, rfl, fun _ _ => .bl a⟩
    | _ => simp [valB] at h
  | .int i, u, h => by
    cases u with
    | int j t =>
      simp only [valB] at h
      have e : i = j := of_decide_eq_true h
      subst e
      exact ⟨.int i, ⟨t, rfl⟩, fun _ _ => .int i⟩
    | _ => simp [valB] at h
  | .str l, u, h => by
    cases u with
    | str y t =>
      simp only [valB] at h
      have e : sOf l = y := of_decide_eq_true h
      subst e
      exact ⟨.str (sOf l), ⟨t, rfl⟩, fun _ _ => .str l⟩
    | _ => simp [valB] at h
  | .tup l, u, h => by
    cases u with
    | ref a =>
      simp only [valB] at h
      cases q : K.lookup a with
      | none => rw [q] at h; cases h
      | some o =>
        obtain ⟨oc, od, dt, osl⟩ := o
        rw [q] at h
        cases oc with
        | type c =>
          cases dt with
          | seq its n =>
            obtain ⟨h1, h2⟩ := ba2 (show (decide (c = "tuple") && (decide (its.size ≤ sizeLine) && valsB K l its.toList)) = true from h)
            obtain ⟨h3, h4⟩ := ba2 h2
            obtain ⟨vs, r1, r2⟩ := valsB_ok h4
            exact ⟨.ref a, rfl, fun μ H => .tup (.inr ⟨_, its, n, q, congrArg Value.type (of_decide_eq_true h1), rfl, of_decide_eq_true h3, r1⟩) (r2 μ H)⟩
          | _ => cases h
        | _ => cases dt <;> cases h
    | _ => simp [valB] at h
  | .lst l, u, h => by
    cases u with
    | ref a =>
      simp only [valB] at h
      cases q : K.lookup a with
      | none => rw [q] at h; cases h
      | some o =>
        obtain ⟨oc, od, dt, osl⟩ := o
        rw [q] at h
        cases oc with
        | type c =>
          cases od with
          | none =>
            cases dt with
            | seq its n =>
              obtain ⟨h1, h2⟩ := ba2 (show (decide (c = "list") && (decide (its.size ≤ sizeLine) && valsB K l its.toList)) = true from h)
              obtain ⟨h3, h4⟩ := ba2 h2
              obtain ⟨vs, r1, r2⟩ := valsB_ok h4
              exact ⟨.ref a, rfl, fun μ H => .lst (.inr ⟨_, its, n, q, congrArg Value.type (of_decide_eq_true h1), rfl, rfl, of_decide_eq_true h3, r1⟩) (r2 μ H)⟩
            | _ => cases h
          | some b => cases dt <;> cases h
        | _ => cases od <;> cases dt <;> cases h
    | _ => simp [valB] at h
  | .dct _, u, h => by cases u <;> simp [valB] at h
  | .ref _, u, h => by cases u <;> simp [valB] at h
  | .lam _ _, u, h => by cases u <;> simp [valB] at h
theorem valsB_ok {K : PySem.W.Frag} : ∀ {ps : List PV} {us : List Value}, valsB K ps us = true → ∃ vs, Vals vs us ∧ ∀ μ H, RVs K μ H ps vs
  | [], [], _ => ⟨[], .nil, fun _ _ => .nil⟩
  | [], _ :: _, h => by simp [valsB] at h
  | _ :: _, [], h => by simp [valsB] at h
  | p :: ps, u :: us, h => by
    simp only [valsB] at h
    obtain ⟨h1, h2⟩ := ba2 h
    obtain ⟨v, r1, r2⟩ := valB_ok h1
    obtain ⟨vs, r3, r4⟩ := valsB_ok h2
    exact ⟨v :: vs, .cons r1 r3, fun μ H => .cons (r2 μ H) (r4 μ H)⟩
end
/-- by a look at the written part -/
def gloB (K : PySem.W.Frag) (x : Str) (p : PV) : Bool := match PySem.W.nsIn K mainGlobals x with
  | some (some u) => valB K p u
  | _ => false
theorem gloB_ok {K : PySem.W.Frag} {h : Heap} {mg : Str → Option Value} (X : K.In h) (G : h.Ns mainGlobals mg) {x : Str} {p : PV} (c : gloB K x p = true) : GloOk K mg x p := by
  unfold gloB at c
  split at c
  · rename_i u e
    obtain ⟨v, r1, r2⟩ := valB_ok c
    exact ⟨u, v, PySem.W.mg_of X G e, r1, r2⟩
  · cases c
/-! ### defs -/
section
variable {P : Program} {w : World} {K : PySem.W.Frag} {mg : Str → Option Value} {base : Heap} {W : Wd}
/-- as fn_ev; the code is the def's own -/
theorem fn_evC {x qual : Str} {params : Arguments} {body : List Stmt} {scope : Scope} {f : Addr} {fd : FuncData} {N ps : List Str} {k : Nat} {m : Sx} {dvs : List V} {kws : List (Str × V)} (F : FunD K x qual params body scope dvs kws f fd) (S : FnScope N ps scope)
    (hb : ∀ (A : Around) (outer : List PySem.Env) (s : Shared) (H : Hp) (E : XK), Room k (A.deeper (envOfC qual scope s.heap.objs.size f fd.code)) → SSs (cxOf (L2.CX P w) P w K mg base N qual scope f fd.code A outer s H E) W body m) :
    FnE P w K mg base W (k + 1) f fd ps (mkFn N.length ps.length m) := by
  obtain ⟨oc, od, dV, kV, doc, pm, an, cdv, ct, osl, rfl, lk, hcd, _, _⟩ := F.ex
  refine fn_of lk hcd S (fun vs H Q E ⟨μ, st, qs, ok, rvs, out⟩ => ?_) fun A outer s H vs Q E hr ⟨μ, st, qs, ok, rvs, out⟩ => ⟨_, hb A outer s H E hr, ?_⟩
  · unfold mkFn at out
    split at out
    · rename_i hl
      rw [← rvs.length]
      exact eq_of_beq hl
    · exact out.elim
  · unfold mkFn at out
    split at out
    · rename_i hl
      have hl' : qs.length = ps.length := eq_of_beq hl
      have en := start_env (N := N) rvs
      rw [hl'] at en
      refine ⟨fun cls d _ H' => E cls d H', _, μ, st, takes_of rfl rfl rfl rfl, en, ok, ?_⟩
      cases hm : m (qs.map some ++ List.replicate (N.length - ps.length) none) st with
      | nx ρ s2 => rw [hm] at out; exact fun μ' H' σ' x' ok' en' => out μ' H' _ x' ok' .non
      | rt v s2 => rw [hm] at out; exact out
      | err c s2 => rw [hm] at out; exact fun μ' H' σ' d hl x' ok' => out μ' H' d x' ok'
      | bad => rw [hm] at out; exact out
    · exact out.elim
/-- nothing is said of what ends in bad -/
def fBad : Fx := fun _ _ => .bad
theorem fn_bad {k : Nat} {f : Addr} {fd : FuncData} {ps : List Str} : FnE P w K mg base W k f fd ps fBad :=
  ⟨fun vs H Q E ⟨_, _, _, _, _, h⟩ => h.elim, fun A outer s H args us vs Q E _ _ _ _ ⟨_, _, _, _, _, h⟩ => h.elim⟩
theorem FnE.up {j k : Nat} {f : Addr} {fd : FuncData} {ps : List Str} {F : Fx} (h : FnE P w K mg base W j f fd ps F) (l : j ≤ k) : FnE P w K mg base W k f fd ps F := FnOk.mono h l
end
/-! ### generator expressions' parts -/
section
variable {X : Cx} {W : Wd} {A : Around} {s : Shared} {H : Hp} {cenv : PEnv} {fp : List Addr}
theorem gx_e {e : Expr} {m : Ex} (h : SE (gxOf X A s H cenv fp) W e m) : PE (gxOf X A s H cenv fp) e (rdEB X W m) :=
  PE.imp h fun σ H Q ⟨ρ, μ, st, en, ok, out⟩ => ⟨noX, ρ, μ, st, takes_noX _, en, ok, out⟩
theorem gx_t {es : List Expr} {t : Tx} (h : PTs (gxOf X A s H cenv fp) es (rdT (gxOf X A s H cenv fp) W t)) : PTs (gxOf X A s H cenv fp) es (rdTB X W t) :=
  PTs.imp h fun σ H Q ⟨ρ, μ, st, en, ok, out⟩ => ⟨noX, ρ, μ, st, takes_noX _, en, ok, out⟩
theorem gx_g {tg : Expr} {is : List Nat} {g : Gx} (h : SG (gxOf X A s H cenv fp) W tg is g) : PG (gxOf X A s H cenv fp) tg (rdG X W is g) := h
end
/-! ### in-place + of lists of the store -/
section
variable {X : Cx} {W : Wd} {pos : Pos} {e : Expr} {m : Ex}
def sAugL (i : Nat) (e : Ex) : Sx := fun ρ s => match ρ[i]? with
  | some (some (.ref k)) => (e ρ s).sbind fun y s => match y with
    | .ref j => match s.objs[k]?, s.objs[j]? with
      | some (.lst l), some (.lst l2) => if Nat.ble (l.length + l2.length) szl then .nx ρ (s.set k (.lst (l ++ l2))) else .bad
      | _, _ => .bad
    | _ => .bad
  | _ => .bad
theorem ss_augL {i : Nat} {x : Str} {pos' : Pos} (hN : X.N.Nodup) (hi : X.N[i]? = some x) (hx : Loc X.env.scope x) (he : SE X W e m) (hf : X.fn x = true ∨ X.env.scope.names.lookup x = some .local) :
    SS X W (.AugAssign (.Name x pos') .Add e pos) (sAugL i m) := by
  refine PS.imp (ps_aug hN hi hx he iop_ext hf) fun D σ H ⟨T, ρ, μ, st, tk, en, ok, out⟩ => ?_
  unfold sAugL at out
  split at out
  · rename_i k hp
    obtain ⟨v, hv, rv⟩ := en.at_ i _ hp
    refine ⟨v, hv, T, ρ, μ, st, tk, en, ok, out.sbind.mono fun μ1 H1 q s1 x1 ok1 h1 w rw => ?_⟩
    cases q with
    | ref j =>
      cases hk : s1.objs[k]? with
      | none => simp only [hk] at h1; exact h1.elim
      | some o1 =>
        cases hj : s1.objs[j]? with
        | none => simp only [hk, hj] at h1; cases o1 <;> exact h1.elim
        | some o2 =>
          simp only [hk, hj] at h1
          cases o1 with
          | lst l =>
            cases o2 with
            | lst l2 =>
              simp only at h1
              cases hb : Nat.ble (l.length + l2.length) szl with
              | false => rw [hb] at h1; exact (show False from h1).elim
              | true =>
                rw [hb, if_pos rfl] at h1
                obtain ⟨a, rfl, ha, xs, e1, r1⟩ := ref_ob ok1 (rv.ext x1) hk
                obtain ⟨b, rfl, hb2, ys, e2, r2⟩ := ref_ob ok1 rw hj
                refine ⟨a, b, xs, ys, rfl, rfl, e1, e2, by rw [← r1.length, ← r2.length]; exact ble_line hb, ?_⟩
                have ex0 : Ext μ1 H1 μ1 (upd H1 a (.lst (xs ++ ys))) := by
                  obtain ⟨o, ho, ro⟩ := ok1.ob ha
                  obtain ⟨u0, hu0, n1, n2, n3, n4⟩ := ro.live
                  exact ⟨List.prefix_refl _, fun b xs q => by
                    rw [upd_ne]; exact q
                    intro e; rw [e, hu0] at q; cases q; exact n1 _ rfl, fun b ob v q => by
                    rw [upd_ne]; exact q
                    intro e; rw [e, hu0] at q; cases q; exact n2 _ _ rfl, fun b v q nb _ => by
                    rw [upd_ne]; exact q
                    intro e; rw [e] at nb; exact nb (List.mem_of_getElem? ha), fun b ps q => ⟨ps, by
                    rw [upd_ne]; exact q
                    intro e; rw [e, hu0] at q; cases q; exact n3 _ rfl⟩, fun _ h => .inl h⟩
                obtain ⟨ok2, ex2⟩ := ok1.set (o := .lst (l ++ l2)) (u := .lst (xs ++ ys)) ha ⟨xs ++ ys, upd_same, (r1.append r2).ext ex0⟩
                have e3 := ((en.ext x1).ext ex2).set (i := i) (rv.ext (x1.trans ex2))
                have e4 : ρ.set i (some (.ref k)) = ρ := by
                  apply List.ext_getElem?
                  intro j
                  by_cases hj : i = j
                  · subst hj
                    rw [List.getElem?_set_self (List.getElem?_eq_some_iff.mp hp).1, hp]
                  · rw [List.getElem?_set_ne hj]
                rw [e4] at e3
                exact h1 _ _ _ ex2 ok2 e3
            | _ => exact h1.elim
          | _ => cases o2 <;> exact h1.elim
    | _ => exact h1.elim
  · exact out.elim
end
end Ev
/-! Ev34: what is to be known of a module: its defs, errors, tables of code. -/
namespace Ev
open PySem PySem.Spec PyProof.Rows L2
def noFd : FuncData := PySem.W.fnOf Str.empty Str.empty ⟨[], [], none, [], [], none, []⟩ [] ⟨.function, [], false, false, []⟩ .none .none .none .none none .none .none
def fdOf (K : PySem.W.Frag) (x : Str) : FuncData := match K.lookup (He.ga K x) with
  | some ⟨_, _, .func fd, _⟩ => fd
  | _ => noFd
structure DefOk (K : PySem.W.Frag) (mg_ : Str → Option Value) (x : Str) (st : Stmt) : Prop where
  fun_ : FunD K x x (defArgs st) (defBody st) (defScope st) [] [] (He.ga K x) (fdOf K x)
  mg : mg_ x = some (.ref (He.ga K x))
def Bnd (x : Str) (st : Stmt) (ps : List Str) : Prop := ∀ (kV doc pm : Value) (an : Option Addr) (cdv ct : Value) (us : List Value), us.length = ps.length →
  bindArgs (PySem.W.fnOf x x (defArgs st) (defBody st) (defScope st) .none kV doc pm an cdv ct) ⟨us, []⟩ = pure (ps.zip us)
theorem DefOk.bnd {K : PySem.W.Frag} {mg : Str → Option Value} {x : Str} {st : Stmt} {ps : List Str} (h : DefOk K mg x st) (b : Bnd x st ps) : Binds K (fdOf K x) ps [] := h.fun_.bindsN b
structure ExcOk (K : PySem.W.Frag) (mg_ : Str → Option Value) (W : Wd) (x : Str) (n : Nat) : Prop where
  mg : mg_ x = some (.ref (W.exc n))
  ex : PySem.W.excIn K (W.exc n) He.veBase "ValueError.__new__" = true
  kp : PySem.W.keepIn K (.ref (W.exc n)) = true
  sub : PySem.W.subIn K (.ref (W.exc n)) (.type "BaseException") = some true
  ty : PySem.W.typeIn K (.ref (W.exc n)) = some (.type "type")
theorem ExcOk.mk_ {X : Cx} {W : Wd} {x m : Str} {n j : Nat} {p p2 pos : Pos} (h : ExcOk X.K X.mg W x n) (hg : Gl X x) (hdb : (x == ("__debug__" : Str)) = false) :
    PMk X (.Call (.Name x p) [.Constant (.str m) j p2] [] pos) (fun _ H Q => Q (.ref (W.exc n)) none H) :=
  pmk_own PySem.F.excBase_ValueError h.ex h.mg h.kp (raises_own h.sub h.ty) hg hdb
theorem ExcOk.names {X : Cx} {W : Wd} {x : Str} {n : Nat} (h : ExcOk X.K X.mg W x n) (hg : Gl X x) (hdb : (x == ("__debug__" : Str)) = false) : Names X x (.ref (W.exc n)) := ⟨hg, hdb, .inl h.mg⟩
/-- the address of a def's code object, of that one's table -/
def codeA (K : PySem.W.Frag) (x : Str) : Addr := match (fdOf K x).code with
  | .ref c => c
  | _ => 0
def tabA (K : PySem.W.Frag) (x : Str) : Addr := match K.lookup (codeA K x) with
  | some ⟨_, _, .fields vs, _⟩ => (match vs.toList[11]? with
    | some (Value.ref P) => P
    | _ => 0)
  | _ => 0
structure TabOkG (K : PySem.W.Frag) (mg : Str → Option Value) (base : Heap) (W : Wd) (x : Str) : Prop where
  code : (fdOf K x).code = .ref (codeA K x)
  tb : GxR.TabB base mg (codeA K x) (tabA K x)
  tab : (tabA K x, none) ∈ W.tabs
  tabs : ∀ p ∈ W.tabs, p.1 = tabA K x → p.2 = none
structure TabOkL (K : PySem.W.Frag) (mg : Str → Option Value) (base : Heap) (W : Wd) (x q : Str) : Prop where
  code : (fdOf K x).code = .ref (codeA K x)
  tb : LamX.TabB base mg (codeA K x) (tabA K x)
  tab : (tabA K x, some q) ∈ W.tabs
  tabs : ∀ p ∈ W.tabs, p.1 = tabA K x → p.2 = some q
theorem bt_len : bootBuiltins "len" = some (.builtin "len") := by decide +kernel
theorem bt_abs : bootBuiltins "abs" = some (.builtin "abs") := by decide +kernel
theorem bt_sum : bootBuiltins "sum" = some (.builtin "sum") := by decide +kernel
theorem bt_sorted : bootBuiltins "sorted" = some (.builtin "sorted") := by decide +kernel
theorem bt_max : bootBuiltins "max" = some (.builtin "max") := by decide +kernel
theorem bt_min : bootBuiltins "min" = some (.builtin "min") := by decide +kernel
theorem bt_int : bootBuiltins "int" = some (.type "int") := by decide +kernel
theorem bt_str : bootBuiltins "str" = some (.type "str") := by decide +kernel
theorem bt_list : bootBuiltins "list" = some (.type "list") := by decide +kernel
theorem bt_tuple : bootBuiltins "tuple" = some (.type "tuple") := by decide +kernel
theorem bt_dict : bootBuiltins "dict" = some (.type "dict") := by decide +kernel
def cellB (sc : Scope) : Bool := sc.names.all fun y => match y.2 with
  | .cell => false
  | _ => true
theorem nocell_of {sc : Scope} (h : cellB sc = true) : ∀ y ∈ sc.names, y.2 ≠ .cell := fun y hy e => by
  have q := List.all_eq_true.mp h y hy
  rw [e] at q
  cases q
section
variable {X : Cx} {W : Wd}
theorem LamsOk.app {c P : Addr} {k : Nat} {ls ks : List LSp} (h : LamsOk X W c P k ls) (t : LamsOk X W c P k ks) : LamsOk X W c P k (ls ++ ks) := fun q hq => by
  rcases List.mem_append.mp hq with z | z
  · exact h q z
  · exact t q z
theorem bl_e {s : Shared} {H : Hp} {scope : Scope} {cl : List (Str × Addr)} {C : Addr} {fp : List Addr} {e : Expr} {m : Ex} (h : SE (blkOf X s H scope cl C fp) W e m) : PE (blkOf X s H scope cl C fp) e (rdEB X W m) :=
  PE.imp h fun σ H Q ⟨ρ, μ, st, en, ok, out⟩ => ⟨noX, ρ, μ, st, takes_noX _, en, ok, out⟩
theorem lbUp {scope : Scope} {body : Expr} {me : Ex} {j k : Nat} (h : j ≤ k) (b : LamBody X W scope body me j) : LamBody X W scope body me k := fun A outer s H E f c' hr => b A outer s H E f c' (hr.mono h)
theorem hNil {α : Type} {Q : α → Prop} : ∀ l ∈ ([] : List α), Q l := fun _ h => by cases h
theorem hCons {α : Type} {Q : α → Prop} {a : α} {ls : List α} (h : Q a) (t : ∀ l ∈ ls, Q l) : ∀ l ∈ a :: ls, Q l := fun l hl => by
  cases hl with
  | head => exact h
  | tail _ hl => exact t l hl
end
end Ev
/-! Ev35: sum(lists, start). -/
namespace Ev
open PySem PySem.Spec PyProof.Rows L2
theorem args_sumB (a b : Value) : argsOk "sum" ⟨[a, b], []⟩ := by unfold argsOk; kernel_rfl
def lstsP (s : Stt) : List PV → Option (List (List PV))
  | [] => some []
  | x :: xs => (s.lst? x).bind fun l => (lstsP s xs).map fun r => l :: r
def catLen : List (List PV) → Nat
  | [] => 0
  | x :: xs => x.length + catLen xs
/-- sum(lists, start) -/
def bSumL : Fn := fun s xs => match xs with
  | [x, .lst b] => (s.lst? x).bind fun l => (lstsP s l).bind fun ls => if Nat.ble (b.length + catLen ls) szl then some (.lst (b ++ ls.flatten)) else none
  | _ => none
section
variable {P : Program} {w : World} {A : Around} {E : Value → Shared → Prop} {s : Shared}
/-- the call, over what is kept -/
theorem call_sum_lists {L B : Addr} {its bs : List Value} {parts : List (List Value)} {Q : Value → Shared → Prop} (hh : A.handled = none) (hl : PlainL s.heap L its.toArray) (hb : PlainL s.heap B bs.toArray)
    (hp : ∀ (j : Nat) (p : List Value), parts[j]? = some p → ∃ b, its[j]? = some (.ref b) ∧ PlainL s.heap b p.toArray) (hn : its.length = parts.length) (hz : bs.length + (parts.map List.length).sum ≤ sizeLine)
    (h : ∀ s' tot, (∀ b o, s.heap.get? b = some o → s'.heap.get? b = some o) → s'.os = s.os → s'.gens = s.gens → (bs ++ parts.flatten).length ≤ sizeLine →
      (0 < parts.length → s.heap.objs.size ≤ tot ∧ ∃ c, s'.heap.get? tot = some (lstObj (bs ++ parts.flatten).toArray c)) → (parts.length = 0 → tot = B) → Q (.ref tot) s') :
    wpAny (model P w) A (call (.builtin "sum") [.ref L, .ref B]) Q E s := by
  refine call_function_tree F.kind_sum F.plain_sum F.entry_sum (args_sumB _ _) ?_
  unfold Builtin.«sum»
  simp only [List.length_cons, List.length_nil]
  rw [if_neg (by decide)]
  refine wpAny_bind (wpAny_of_eq (show Builtin.Builtins.bindParams "sum" ["start"] 0 { pos := [.ref B] } = pure [some (.ref B)] from rfl) ?_)
  refine wpAny_bind (wpAny_pyIter_list hl.isList ?_)
  refine wpAny_bind (wpAny_pure ?_)
  have tB : ∀ {u : Heap}, (∀ b o, s.heap.get? b = some o → u.get? b = some o) → u.IsList B bs.toArray := fun k => by
    obtain ⟨o, n, a, b, c, d⟩ := hb
    exact ⟨o, k _ _ a, b, n, d⟩
  have k1 : ∀ b o, s.heap.get? b = some o → (s.heap.push { cls := .type "list_iterator", data := .fields #[.ref L, .int 0 0] }).get? b = some o := fun b o e => Heap.get?_push_of_some _ e
  simp only [List.forIn_cons, List.forIn_nil]
  refine wpAny_bind (wpAny_bind (wpAny_bind (wpAny_isInstance (T := "list") (b := false) ((tB k1).typeIs) (by rw [isSubtype_type]; kernel_rfl) ?_)))
  simp only [Bool.false_eq_true, if_false]
  refine wpAny_pure (wpAny_bind (wpAny_bind (wpAny_isInstance (T := "list") (b := false) ((tB k1).typeIs) (by rw [isSubtype_type]; kernel_rfl) ?_)))
  simp only [Bool.false_eq_true, if_false]
  refine wpAny_pure (wpAny_bind (wpAny_bind (wpAny_isInstance (T := "list") (b := false) ((tB k1).typeIs) (by rw [isSubtype_type]; kernel_rfl) ?_)))
  simp only [Bool.false_eq_true, if_false]
  refine wpAny_pure (wpAny_pure ?_)
  refine wpAny_bind (wpAny_newObj_type ?_)
  have ltB : B < s.heap.objs.size := by
    obtain ⟨o, n, a, _⟩ := hb
    exact Heap.lt_size a
  have k2 : ∀ b o, s.heap.get? b = some o → ((s.heap.push { cls := .type "list_iterator", data := .fields #[.ref L, .int 0 0] }).push { cls := .type "list", data := .seq #[.ref B] }).get? b = some o := fun b o e => Heap.get?_push_of_some _ (k1 b o e)
  have sz : (s.heap.push { cls := .type "list_iterator", data := .fields #[.ref L, .int 0 0] }).objs.size = s.heap.objs.size + 1 := Heap.size_push _ _
  have le1 : s.heap.objs.size ≤ (s.heap.push { cls := .type "list_iterator", data := .fields #[.ref L, .int 0 0] }).objs.size := by rw [sz]; exact Nat.le_succ _
  have ne1 : s.heap.objs.size ≠ (s.heap.push { cls := .type "list_iterator", data := .fields #[.ref L, .int 0 0] }).objs.size := by rw [sz]; exact Nat.ne_of_lt (Nat.lt_succ_self _)
  have neB : B ≠ (s.heap.push { cls := .type "list_iterator", data := .fields #[.ref L, .int 0 0] }).objs.size := by rw [sz]; exact Nat.ne_of_lt (Nat.lt_succ_of_lt ltB)
  refine wpAny_pure ⟨plainId_quiet F.plain_sum_loop _, code_sum_lists (h0 := s.heap) (s0 := s) (whole := bs ++ parts.flatten) hh hl hp hn (Nat.le_refl _) le1 ne1 B
    (fun s' tot k os gs pl len j0 jz => h s' tot k os gs len j0 jz) parts.length 0 _ B bs 0 (by omega) (Nat.zero_le _) k2 ⟨_, Heap.get?_push_of_some _ (Heap.get?_push_size _ rfl), rfl, rfl⟩ (Heap.get?_push_size _ rfl) neB (Nat.ne_of_lt ltB) ?_ (by simpa using hz) rfl rfl (by simp) (fun z => absurd z (Nat.lt_irrefl _)) (fun _ => rfl)⟩
  obtain ⟨o, n, a, b, c, d⟩ := hb
  exact ⟨o, n, k2 _ _ a, b, c, d⟩
end
section
variable {X : Cx} {W : Wd}
theorem lsts_of {μ : List Addr} {st : Stt} {H : Hp} {pins : List (Addr × Obj)} {σ : L2.St} {s : Shared} (I : Inv X pins σ H s) (ok : StOk X.K W μ st H) : ∀ {l : List PV} {xs : List V} {us : List Value} {ls : List (List PV)}, lstsP st l = some ls → RVs X.K μ H l xs → Vals xs us →
    ∃ (vss : List (List V)) (uss : List (List Value)), us.length = uss.length ∧ (∀ (j : Nat) (p : List Value), uss[j]? = some p → ∃ b : Addr, us[j]? = some (Value.ref b) ∧ PlainL s.heap b p.toArray) ∧ RVs X.K μ H ls.flatten vss.flatten ∧ Vals vss.flatten uss.flatten ∧ (uss.map List.length).sum = catLen ls
  | [], _, _, ls, h, r, v => by
    cases h
    cases r
    cases v
    exact ⟨[], [], rfl, fun j p e => by simp at e, .nil, .nil, rfl⟩
  | x :: l, _, _, ls, h, r, v => by
    cases r with
    | cons r1 r2 =>
      cases v with
      | cons v1 v2 =>
        unfold lstsP at h
        cases hx : st.lst? x with
        | none => rw [hx] at h; cases h
        | some q =>
          rw [hx] at h
          cases hr : lstsP st l with
          | none => simp only [hr, Option.bind_some, Option.map_none] at h; cases h
          | some rest =>
            simp only [hr, Option.bind_some, Option.map_some] at h
            cases h
            obtain ⟨vss, uss, e1, e2, e3, e4, e5⟩ := lsts_of I ok hr r2 v2
            obtain ⟨a, zs, rfl, hs, rz⟩ := lst_of ok r1 hx
            obtain ⟨its, rv, pl, _⟩ := I.list hs
            cases v1
            refine ⟨zs :: vss, its :: uss, by simp [e1], fun j p e => ?_, ?_, ?_, ?_⟩
            · cases j with
              | zero =>
                simp at e
                subst e
                exact ⟨a, rfl, pl⟩
              | succ j => simpa using e2 j p (by simpa using e)
            · simpa using rz.append e3
            · simpa using rv.append e4
            · rw [List.map_cons, List.sum_cons, e5, ← rv.length, ← rz.length]; rfl
theorem fs_sumL (hc : X.calm = true) : FnS X W (.builtin "sum") bSumL := by
  refine CallR.imp (CallR.fz (r := fun xs H Q => ∃ μ st p b l ls v1 v2, xs = [v1, v2] ∧ StOk X.K W μ st H ∧ RV X.K μ H p v1 ∧ RV X.K μ H (.lst b) v2 ∧ st.lst? p = some l ∧ lstsP st l = some ls ∧ Nat.ble (b.length + catLen ls) szl = true ∧
    (ls = [] → Q v2 H) ∧ (∀ ws, RVs X.K μ H (b ++ ls.flatten) ws → ∀ q, H q = none → Q (.ref q) (upd H q (.lst ws)))) ?_) fun xs H Q h => ?_
  · intro pins s σ H xs us Q I rs ⟨μ, st, p, b, l, ls, v1, v2, hx, ok, rp, rb, hl, hls, hz, q1, q2⟩
    subst hx
    obtain ⟨a, zs, rfl, hs, rz⟩ := lst_of ok rp hl
    obtain ⟨a2, bs, rfl, hs2, rb2⟩ := lst_of ok rb (show st.lst? (.lst b) = some b from rfl)
    obtain ⟨its, rv, pl, _⟩ := I.list hs
    obtain ⟨its2, rv2, pl2, _⟩ := I.list hs2
    obtain ⟨vss, uss, e1, e2, e3, e4, e5⟩ := lsts_of I ok hls rz rv
    have eus : us = [.ref a, .ref a2] := by
      cases rs with
      | cons r t =>
        cases t with
        | cons r2 t2 => cases t2; cases r; cases r2; rfl
    subst eus
    have hz2 : its2.length + (uss.map List.length).sum ≤ sizeLine := by rw [e5, ← rv2.length, ← rb2.length]; exact ble_line hz
    refine call_sum_lists (I.ok.hd hc) pl pl2 e2 e1 hz2 fun s' tot k os gs len j0 jz => ?_
    by_cases h0 : 0 < uss.length
    · obtain ⟨h1, c, h2⟩ := j0 h0
      refine ⟨.ref tot, upd H tot (.lst (bs ++ vss.flatten)), ?_, rfl, q2 _ (rb2.append e3) tot (I.hok.fresh h1)⟩
      exact I.drained (ex := []) h1 (by rw [(rv2.append e4).length]; exact len) h2 (rv2.append e4) ExOk.nil os (by rw [gs]; exact I.bare) (Un.kept k) (I.hok.kept k) (I.hok.fresh h1)
    · have hu : uss = [] := by cases uss with | nil => rfl | cons a r => simp at h0
      have hl0 : ls = [] := by
        have e : l.length = 0 := by rw [rz.length, rv.length, e1, hu]; rfl
        cases l with
        | nil => cases hls; rfl
        | cons a r => cases e
      rw [jz (by rw [hu]; rfl)]
      exact ⟨.ref a2, H, I.call' (ch := []) os (Un.kept k) (I.hok.kept k) (by rw [gs]; exact I.bare) ExOk.nil, rfl, q1 hl0⟩
  · obtain ⟨μ, st, ps, z, ok, rs, hz, k⟩ := h
    unfold bSumL at hz
    split at hz
    · rename_i x b
      obtain ⟨v1, v2, rfl, r1, r2⟩ := rs.two
      cases hl : st.lst? x with
      | none => rw [hl] at hz; cases hz
      | some l =>
        rw [hl] at hz
        cases hls : lstsP st l with
        | none => simp only [hls, Option.bind_some, Option.bind_none] at hz; cases hz
        | some ls =>
          simp only [hls, Option.bind_some] at hz
          split at hz
          · rename_i hb
            cases hz
            refine ⟨μ, st, x, b, l, ls, v1, v2, rfl, ok, r1, r2, hl, hls, hb, fun e => .inl ?_, fun ws rw_ q hq => fz_list ok rw_ k q hq⟩
            subst e
            have e2 : b ++ ([] : List (List PV)).flatten = b := by simp
            exact k μ H _ (Ext.refl _ _) ok (by rw [e2]; exact r2)
          · cases hz
    · cases hz
end
end Ev
/-! Ev36: the head: what the top leaves, read by a look; the end of a law. -/
namespace Ev
open PySem PySem.Spec PyProof.Rows L2
/-! ### what is looked at -/
abbrev tabObj : Obj := { cls := .none, data := .fields #[] }
/-- a def's code object and its table are as they should be -/
def tabOkB (K : PySem.W.Frag) (x : Str) : Bool := match (fdOf K x).code with
  | .ref c => (match K.lookup c with
    | some ⟨.type t, _, .fields vs, _⟩ => (match vs[11]?, vs.getD 11 .none, vs.getD 18 .none, vs.getD 7 .none, vs.getD 9 .none, vs.getD 10 .none with
      | some (Value.ref P), .ref Q, .str _ _, .int _ _, .bool _, .int _ _ => decide (t = "code") && (decide (P = Q) && (decide (tabA K x = P) && (decide (c ≠ P) && (decide (mainGlobals ≠ P) && (K.lookup P).isNone))))
      | _, _, _, _, _, _ => false)
    | _ => false)
  | _ => false
abbrev AlT : Type := Bool × List He.FnW × List (Option Obj)
def obsT (fa : List He.Fa) (gl : List (Str × PV)) (fn : List He.DefD) (ts : List Str) (g : Addr → Option Obj) (K : PySem.W.Frag) : AlT :=
  ((fa.all fun f => f.ok K) && ((fn.all fun d => d.ok K) && ((gl.all fun p => gloB K p.1 p.2) && ((ts.all fun x => tabOkB K x) && decide ((ts.map fun x => tabA K x).Nodup)))), fn.map fun d => He.fnW K d.at_, ts.map fun x => g (tabA K x))
def valT (fn : List He.DefD) (ts : List Str) : AlT := (true, fn.map He.DefD.val, ts.map fun _ => some tabObj)
/-- the written part, without the tables -/
def frT (g : Addr → Option Obj) (n : Nat) (ts : List Str) : PySem.W.Frag :=
  let as := He.asD g n
  let cs := ts.map fun x => tabA (He.frG g as) x
  He.frG g (as.filter fun a => !cs.contains a)
structure SaysT (fa : List He.Fa) (gl : List (Str × PV)) (fn : List He.DefD) (ts : List Str) (h : Heap) (K : PySem.W.Frag) : Prop where
  kin : K.In h
  eq : obsT fa gl fn ts h.get? K = valT fn ts
def hookT (n : Nat) (fa : List He.Fa) (gl : List (Str × PV)) (fn : List He.DefD) (ts : List Str) : PySem.W.Hook where
  α := AlT
  obs := fun s => obsT fa gl fn ts s.heap.get? (frT s.heap.get? n ts)
  val := fun _ => valT fn ts
  says := fun _ h => ∃ K, SaysT fa gl fn ts h K
  of := fun _ _ e => ⟨_, He.frG_in, e⟩
  keeps := fun _ h h' ⟨K, X, e⟩ k => ⟨K, PySem.W.Frag.In.keeps X k, by
    have e1 : obsT fa gl fn ts h.get? K = valT fn ts := e
    have e2 : ts.map (fun x => h.get? (tabA K x)) = ts.map fun _ => some tabObj := congrArg (fun z : AlT => z.2.2) e1
    have e3 : ts.map (fun x => h'.get? (tabA K x)) = ts.map fun _ => some tabObj := by
      apply List.map_congr_left
      intro x hx
      have q : ∀ {l : List Str}, l.map (fun x => h.get? (tabA K x)) = l.map (fun _ => some tabObj) → ∀ x ∈ l, h.get? (tabA K x) = some tabObj := by
        intro l
        induction l with
        | nil => intro _ x hx; cases hx
        | cons y ys ih =>
          intro e x hx
          rw [List.map_cons, List.map_cons] at e
          cases hx with
          | head => exact (List.cons.inj e).1
          | tail _ hx => exact ih (List.cons.inj e).2 x hx
      exact k _ _ (q e2 x hx)
    have e4 : (obsT fa gl fn ts h.get? K).1 = true := congrArg (fun z : AlT => z.1) e1
    have e5 : (obsT fa gl fn ts h.get? K).2.1 = fn.map He.DefD.val := congrArg (fun z : AlT => z.2.1) e1
    show (_, _, _) = (true, fn.map He.DefD.val, _)
    exact Prod.ext e4 (Prod.ext e5 e3)⟩
theorem obsT_eq {n : Nat} {fa : List He.Fa} {gl : List (Str × PV)} {fn : List He.DefD} {ts : List Str} {g : Addr → Option Obj} {s : Shared} (h : ∀ a, g a = s.heap.get? a) : obsT fa gl fn ts g (frT g n ts) = (hookT n fa gl fn ts).obs s := by
  have e : g = s.heap.get? := funext h
  rw [e] <;> rfl
section
variable {fa : List He.Fa} {gl : List (Str × PV)} {fn : List He.DefD} {ts : List Str} {h : Heap} {K : PySem.W.Frag}
theorem SaysT.all (c : SaysT fa gl fn ts h K) : (fa.all fun f => f.ok K) = true ∧ (fn.all fun d => d.ok K) = true ∧ (gl.all fun p => gloB K p.1 p.2) = true ∧ (ts.all fun x => tabOkB K x) = true ∧ (ts.map fun x => tabA K x).Nodup := by
  have e4 : ((fa.all fun f => f.ok K) && ((fn.all fun d => d.ok K) && ((gl.all fun p => gloB K p.1 p.2) && ((ts.all fun x => tabOkB K x) && decide ((ts.map fun x => tabA K x).Nodup))))) = true := congrArg (fun z : AlT => z.1) c.eq
  obtain ⟨a, e⟩ := ba2 e4
  obtain ⟨b, e⟩ := ba2 e
  obtain ⟨d, e⟩ := ba2 e
  obtain ⟨f, e⟩ := ba2 e
  exact ⟨a, b, d, f, of_decide_eq_true e⟩
theorem SaysT.fact (c : SaysT fa gl fn ts h K) (i : Nat) {f : He.Fa} (hi : fa[i]? = some f) : f.ok K = true := List.all_eq_true.mp c.all.1 f (List.mem_of_getElem? hi)
theorem SaysT.glo (c : SaysT fa gl fn ts h K) {mg : Str → Option Value} {u : Heap} (X : K.In u) (G : u.Ns mainGlobals mg) (i : Nat) {x : Str} {p : PV} (hi : gl[i]? = some (x, p)) : GloOk K mg x p :=
  gloB_ok X G (List.all_eq_true.mp c.all.2.2.1 _ (List.mem_of_getElem? hi))
theorem SaysT.def_ (c : SaysT fa gl fn ts h K) (i : Nat) {d : He.DefD} (hi : fn[i]? = some d) : ∃ fd, FunD K d.name d.qual d.params d.body d.scope (d.dvs K) (d.kws K) (He.fAd K d.at_) fd := by
  have e : fn.map (fun d => He.fnW K d.at_) = fn.map He.DefD.val := congrArg (fun z : AlT => z.2.1) c.eq
  have e2 : (fn.map fun d => He.fnW K d.at_)[i]? = (fn.map He.DefD.val)[i]? := by rw [e]
  rw [List.getElem?_map, List.getElem?_map, hi] at e2
  exact He.DefD.funD (Option.some.inj e2) (List.all_eq_true.mp c.all.2.1 d (List.mem_of_getElem? hi))
/-- a def of the top, without defaults -/
abbrev dd (x : Str) (st : Stmt) : He.DefD := ⟨(x, none), x, x, defArgs st, defBody st, defScope st, [], []⟩
theorem SaysT.defOk (c : SaysT fa gl fn ts h K) {mg : Str → Option Value} {u : Heap} (X : K.In u) (G : u.Ns mainGlobals mg) (i j : Nat) {x : Str} {st : Stmt} (hi : fn[i]? = some (dd x st)) (hj : fa[j]? = some (.glo x)) : DefOk K mg x st := by
  obtain ⟨fd, F⟩ := c.def_ i hi
  have F' : FunD K x x (defArgs st) (defBody st) (defScope st) [] [] (He.ga K x) fd := F
  refine ⟨?_, He.glo_ok X G (c.fact j hj)⟩
  have e : fdOf K x = fd := by
    obtain ⟨oc, od, dV, kV, doc, pm, an, cdv, ct, osl, e1, lk, _⟩ := F'.ex
    unfold fdOf
    rw [lk]
  rw [e]
  exact F'
theorem SaysT.exc (c : SaysT fa gl fn ts h K) {mg : Str → Option Value} {u : Heap} {W : Wd} (X : K.In u) (G : u.Ns mainGlobals mg) (i j : Nat) {x : Str} {n : Nat} (hi : fa[i]? = some (.exc x)) (hj : fa[j]? = some (.glo x)) (hw : W.exc n = He.ga K x) : ExcOk K mg W x n := by
  obtain ⟨h1, h2, h3, h4⟩ := He.exc_ok (c.fact i hi)
  exact ⟨by rw [hw]; exact He.glo_ok X G (c.fact j hj), by rw [hw]; exact h1, by rw [hw]; exact h2, by rw [hw]; exact h3, by rw [hw]; exact h4⟩
theorem SaysT.exm (c : SaysT fa gl fn ts h K) (i : Nat) {x y : Str} {b : Bool} (hi : fa[i]? = some (.exm x y b)) : PySem.W.exmOne K (.ref (He.ga K x)) (.ref (He.ga K y)) = some b := He.exm_ok (c.fact i hi)
/-- the tables -/
structure TabF (K : PySem.W.Frag) (h : Heap) (x : Str) : Prop where
  code : (fdOf K x).code = .ref (codeA K x)
  hd : PySem.W.CodeHd h (codeA K x) (tabA K x)
  no : K.lookup (tabA K x) = none
  ne : mainGlobals ≠ tabA K x
theorem tabF_of {x : Str} (X : K.In h) (b : tabOkB K x = true) : TabF K h x := by
  unfold tabOkB at b
  split at b
  · rename_i c hc
    have ec : codeA K x = c := by unfold codeA; rw [hc]
    split at b
    · rename_i t od vs osl lk
      split at b
      · rename_i P Q file tf flags tg inF text tt e1 e2 e3 e4 e5 e6
        obtain ⟨b1, b⟩ := ba2 b
        obtain ⟨b2, b⟩ := ba2 b
        obtain ⟨b3, b⟩ := ba2 b
        obtain ⟨b4, b⟩ := ba2 b
        obtain ⟨b5, b6⟩ := ba2 b
        have b2 := of_decide_eq_true b2
        have b3 := of_decide_eq_true b3
        have b1 := of_decide_eq_true b1
        subst b1 b2
        refine ⟨by rw [ec]; exact hc, ?_, ?_, ?_⟩
        · rw [ec, b3]
          exact ⟨_, vs, file, tf, flags, tg, inF, text, tt, X _ _ lk, rfl, rfl, e1, e2, e3, e4, e5, e6, of_decide_eq_true b4⟩
        · rw [b3]
          exact Option.isNone_iff_eq_none.mp b6
        · rw [b3]
          exact of_decide_eq_true b5
      · cases b
    · cases b
  · cases b
theorem SaysT.tab (c : SaysT fa gl fn ts h K) {x : Str} (hx : x ∈ ts) : TabF K h x ∧ h.get? (tabA K x) = some tabObj := by
  refine ⟨tabF_of c.kin (List.all_eq_true.mp c.all.2.2.2.1 x hx), ?_⟩
  have e2 : ts.map (fun x => h.get? (tabA K x)) = ts.map fun _ => some tabObj := congrArg (fun z : AlT => z.2.2) c.eq
  obtain ⟨i, hi⟩ := List.getElem?_of_mem hx
  have e3 : (ts.map (fun x => h.get? (tabA K x)))[i]? = (ts.map fun _ => some tabObj)[i]? := by rw [e2]
  rw [List.getElem?_map, List.getElem?_map, hi] at e3
  exact Option.some.inj e3
/-- the pairs of a law's tables -/
def tabsOf (K : PySem.W.Frag) (tq : List (Str × Option Str)) : List (Addr × Option Str) := tq.map fun t => (tabA K t.1, t.2)
theorem tabs_uniq : ∀ {tq : List (Str × Option Str)}, (tq.map fun t => tabA K t.1).Nodup → ∀ {t : Str × Option Str}, t ∈ tq → ∀ p ∈ tabsOf K tq, p.1 = tabA K t.1 → p.2 = t.2
  | [], _, _, ht => by cases ht
  | u :: r, nd, t, ht => fun p hp e => by
    rw [List.map_cons, List.nodup_cons] at nd
    unfold tabsOf at hp
    rw [List.map_cons] at hp
    cases hp with
    | head =>
      cases ht with
      | head => rfl
      | tail _ ht => exact absurd (List.mem_map.mpr ⟨t, ht, e.symm⟩) nd.1
    | tail _ hp =>
      cases ht with
      | head =>
        obtain ⟨v, hv, hv2⟩ := List.mem_map.mp hp
        refine absurd (List.mem_map.mpr ⟨v, hv, ?_⟩) nd.1
        rw [← hv2] at e
        exact e
      | tail _ ht => exact tabs_uniq nd.2 ht p hp e
theorem tabs_mem {tq : List (Str × Option Str)} {t : Str × Option Str} (ht : t ∈ tq) : (tabA K t.1, t.2) ∈ tabsOf K tq := List.mem_map.mpr ⟨t, ht, rfl⟩
theorem SaysT.okG (c : SaysT fa gl fn ts h K) {mg : Str → Option Value} {base : Heap} {W : Wd} {tq : List (Str × Option Str)} (hts : ts = tq.map (·.1)) (hW : W.tabs = tabsOf K tq) (hT : ∀ x ∈ ts, LamX.TabB base mg (codeA K x) (tabA K x)) {x : Str} (hx : (x, none) ∈ tq) : TabOkG K mg base W x := by
  have hm : x ∈ ts := by rw [hts]; exact List.mem_map.mpr ⟨_, hx, rfl⟩
  obtain ⟨f, _⟩ := c.tab hm
  have nd : (tq.map fun t => tabA K t.1).Nodup := by
    have := c.all.2.2.2.2
    rw [hts, List.map_map] at this
    exact this
  obtain ⟨t1, t2, t3⟩ := hT x hm
  exact ⟨f.code, ⟨t1, t2, t3⟩, by rw [hW]; exact tabs_mem hx, by rw [hW]; exact tabs_uniq nd hx⟩
theorem SaysT.okL (c : SaysT fa gl fn ts h K) {mg : Str → Option Value} {base : Heap} {W : Wd} {tq : List (Str × Option Str)} (hts : ts = tq.map (·.1)) (hW : W.tabs = tabsOf K tq) (hT : ∀ x ∈ ts, LamX.TabB base mg (codeA K x) (tabA K x)) {x q : Str} (hx : (x, some q) ∈ tq) : TabOkL K mg base W x q := by
  have hm : x ∈ ts := by rw [hts]; exact List.mem_map.mpr ⟨_, hx, rfl⟩
  obtain ⟨f, _⟩ := c.tab hm
  have nd : (tq.map fun t => tabA K t.1).Nodup := by
    have := c.all.2.2.2.2
    rw [hts, List.map_map] at this
    exact this
  exact ⟨f.code, hT x hm, by rw [hW]; exact tabs_mem hx, by rw [hW]; exact tabs_uniq nd hx⟩
end
/-- told(what): try: return what() / except X: return ".." -/
theorem told_of {K : PySem.W.Frag} {mg : Str → Option Value} {W : Wd} {x e a rs : Str} {cs ret : List Nat} {st : Stmt} {CS : Addr} {j : Nat} {p1 p2 p3 p4 p5 p6 p7 p8 : Pos} (D : DefOk K mg x st) (B : Bnd x st [a]) (S : FnScope [a] [a] (defScope st))
    (vis : Vis (defScope st) a) (nd : (a == ("__debug__" : Str)) = false) (ncd : (a == ("__classdict__" : Str)) = false) (hrs : rs = sOf ret)
    (hb : defBody st = [.Try [.Return (some (.Call (.Name a p1) [] [] p2)) p3] [.ExceptHandler (some (.Name e p4)) none [.Return (some (.Constant (.str rs) j p5)) p6] p7] [] [] p8]) (he : (defScope st).names.lookup e = some .globalImplicit)
    (hm : mg e = some (.ref CS)) (hd : (e == ("__debug__" : Str)) = false) (caught : ∀ d ∈ cs, PySem.W.exmOne K (.ref (W.exc d)) (.ref CS) = some true) :
    ToldD K mg W x (He.ga K x) CS cs ret [a] a (defArgs st) (defBody st) (defScope st) (fdOf K x).code := by
  subst hrs
  have F := D.fun_
  obtain ⟨oc, od, dV, kV, doc, pm, an, cdv, ct, osl, e1, lk, hcd, hD, hK⟩ := F.ex
  have ecd : (fdOf K x).code = cdv := by rw [e1]
  refine ⟨D.mg, F.kp, ⟨dV, kV, doc, pm, ct, oc, an, od, osl, ?_, ?_⟩, by rw [ecd]; exact hcd, S, rfl, vis, nd, ncd, ⟨e, j, p1, p2, p3, p4, p5, p6, p7, p8, hb, he, hm, hd⟩, fun f => rfl, caught⟩
  · rw [ecd, ← e1]
    exact lk
  · rw [ecd, ← e1]
    exact D.bnd B
/-! ### the end of a law -/
/-- from what the head leaves, the facts, the law's mirror, to the law's call -/
theorem walk_endT {l : PySem.W.OpenLaw} {n k hn_ : Nat} {q : Program} {loose : List Str} {XP : (Str → Option Value) → Heap → Prop} {d : DefRec} {fa : List He.Fa} {gl : List (Str × PV)} {fn : List He.DefD} {ts : List Str} {x : Str} {F : Fx} {WW : PySem.W.Frag → Wd} {tq : List (Str × Option Str)}
    (hmost : l.most = some n) (hline : n ≤ sizeLine) (hdf : d.params.defaults = []) (room : Room k callerA) (hts : ts = tq.map (·.1)) (hWW : ∀ K, (WW K).tabs = tabsOf K tq)
    (hF : ∀ (w : World) (K : PySem.W.Frag) (mg : Str → Option Value) (a : Addr) (h : Heap), SaysT fa gl fn ts h K → h.Ns mainGlobals mg → mg d.name = some (.ref a) →
      ∃ fd : FuncData, (∀ (s : Shared) (u : Value), BindsTo s fd ⟨[u], []⟩ [(x, u)]) ∧ ∀ base : Heap, K.In base → base.Ns mainGlobals mg → (∀ y ∈ ts, LamX.TabB base mg (codeA K y) (tabA K y)) → FnE l.prog w K mg base (WW K) k a fd [x] F)
    (math : ∀ (ns : List Int) (s : Stt) (p : PV), ns.length ≤ n → (∀ z ∈ ns, Builtin.Int.intBits z ≤ 1048576) → s.lst? p = some (ns.map .int) → ∃ s', F [p] s = .ok (.bl true) s') :
    PySem.W.WalkO q loose XP (hookT hn_ fa gl fn ts).says l.row.toRowW d [] (fun f vs => PySem.call f vs) := by
  refine Att.attach_callB hmost hdf fun w s₀ s₁ mg mb a o pm cd doc at_ vs ns G Y ho hd hcd hmg hobj hints hlen hbits hg => ?_
  obtain ⟨K, S⟩ := Y
  obtain ⟨fd, hb, hok⟩ := hF w K mg a s₁.heap S G.T.g hmg
  refine LamX.law_callTs (cs := ts.map fun y => (codeA K y, tabA K y)) (sp := spF K (WW K) F) S.kin G.T.g G.T.b G.T.builtins G.T.nolimit hg (fun p hp => ?_) (fun p hp => ?_) (fun p hp => ?_) G.T.bmain hobj hints (Nat.le_trans hlen hline) room
    (fun base kb nb tb => hok base kb nb fun y hy => tb (codeA K y, tabA K y) (List.mem_map.mpr ⟨y, hy, rfl⟩)) hb (fun H hH hS => ?_) fun H e s' z => ?_
  · obtain ⟨y, hy, rfl⟩ := List.mem_map.mp hp
    exact (S.tab hy).2
  · obtain ⟨y, hy, rfl⟩ := List.mem_map.mp hp
    exact (S.tab hy).1.no
  · obtain ⟨y, hy, rfl⟩ := List.mem_map.mp hp
    exact (S.tab hy).1.hd
  · have tabs : ∀ p ∈ (WW K).tabs, TabK H p := fun p hp => by
      rw [hWW] at hp
      obtain ⟨t, ht, rfl⟩ := List.mem_map.mp hp
      have hy : t.1 ∈ ts := by rw [hts]; exact List.mem_map.mpr ⟨t, ht, rfl⟩
      have e : H (tabA K t.1) = some (.tbl #[]) := hH (codeA K t.1, tabA K t.1) (List.mem_map.mpr ⟨t.1, hy, rfl⟩)
      unfold TabK
      cases h2 : t.2 with
      | none => exact ⟨#[], e, trivial⟩
      | some z => exact LamX.TabS.nil e
    have rvs : ∀ (μ : List Addr) (is : List Int), RVs K μ H (is.map .int) (is.map V.int) := fun μ is => by
      induction is with
      | nil => exact .nil
      | cons i is ih => exact .cons (.int i) ih
    have fin : ∀ (μ : List Addr) (st : Stt) (p : PV), StOk K (WW K) μ st H → RV K μ H p (.ref at_) → st.lst? p = some (ns.map .int) → spF K (WW K) F [.ref at_] H (fun v _ => v = .bl true) fun _ _ _ => False := fun μ st p ok r hl => by
      obtain ⟨s', e⟩ := math ns st p hlen hbits hl
      refine ⟨μ, st, [p], ok, .cons r .nil, ?_⟩
      rw [e]
      intro μ' H' v _ _ rv
      cases rv
      rfl
    rcases hS with (hS | ⟨o, hS⟩) | hS
    · have ok : StOk K (WW K) [at_] ⟨[.lst (ns.map .int)]⟩ H := ⟨rfl, by simp, fun i ob b h1 h2 => by
        cases i with
        | zero =>
          cases h1
          cases h2
          exact ⟨_, hS, rvs _ ns⟩
        | succ i => simp at h1, tabs⟩
      exact fin [at_] ⟨[.lst (ns.map .int)]⟩ (.ref 0) ok (.ref rfl) rfl
    · exact fin [] ⟨[]⟩ (.lst (ns.map .int)) ⟨rfl, List.nodup_nil, fun i ob b h1 h2 => by simp at h1, tabs⟩ (.lst (.inl ⟨o, hS⟩) (rvs _ ns)) rfl
    · exact fin [] ⟨[]⟩ (.lst (ns.map .int)) ⟨rfl, List.nodup_nil, fun i ob b h1 h2 => by simp at h1, tabs⟩ (.lst (.inr hS) (rvs _ ns)) rfl
  · obtain ⟨_, _, _, _, _, _, _, _, _, _, _, _, f⟩ := z
    exact f
end Ev
/-! Ev37: a call over values alone: it runs with a store of its own, the caller's store is as it was. -/
namespace Ev
open PySem PySem.Spec PyProof.Rows L2
mutual
/-- no reference within -/
def nrP : PV → Bool
  | .ref _ => false
  | .lam _ _ => false
  | .tup l => nrPs l
  | .lst l => nrPs l
  | .dct d => nrPp d
  | .non => true
  | .bl _ => true
  | .int _ => true
  | .str _ => true
def nrPs : List PV → Bool
  | [] => true
  | x :: xs => nrP x && nrPs xs
def nrPp : List (PV × PV) → Bool
  | [] => true
  | (k, v) :: xs => nrP v && nrPp xs
end
mutual
theorem RV.noref {K : PySem.W.Frag} {μ ν : List Addr} {H : Hp} : ∀ {p : PV} {v : V}, nrP p = true → RV K μ H p v → RV K ν H p v
  | .non, _, _, .non => .non
  | .bl b, _, _, .bl _ => .bl b
  | .int i, _, _, .int _ => .int i
  | .str l, _, _, .str _ => .str l
  | .tup l, _, h, .tup a r => .tup a (RVs.noref (by simpa only [nrP] using h) r)
  | .lst l, _, h, .lst a r => .lst a (RVs.noref (by simpa only [nrP] using h) r)
  | .dct d, _, h, .dct a r n => .dct a (RKs.noref (by simpa only [nrP] using h) r) n
  | .ref i, _, h, .ref _ => by simp [nrP] at h
theorem RVs.noref {K : PySem.W.Frag} {μ ν : List Addr} {H : Hp} : ∀ {ps : List PV} {vs : List V}, nrPs ps = true → RVs K μ H ps vs → RVs K ν H ps vs
  | [], _, _, .nil => .nil
  | p :: ps, _, h, .cons a r => by
    rw [nrPs] at h
    obtain ⟨h1, h2⟩ := ba2 h
    exact .cons (RV.noref h1 a) (RVs.noref h2 r)
theorem RKs.noref {K : PySem.W.Frag} {μ ν : List Addr} {H : Hp} : ∀ {ps : List (PV × PV)} {vs : List (Key × V)}, nrPp ps = true → RKs K μ H ps vs → RKs K ν H ps vs
  | [], _, _, .nil => .nil
  | (k, p) :: ps, _, h, .cons e a r => by
    rw [nrPp] at h
    obtain ⟨h1, h2⟩ := ba2 h
    exact .cons e (RV.noref h1 a) (RKs.noref h2 r)
end
/-- over values alone, with a store of its own -/
def pureF (F : Fx) (ps : List PV) (s : Stt) : Res PV := if nrPs ps then (match F ps ⟨[]⟩ with
  | .ok v _ => if nrP v then .ok v s else .bad
  | .err c _ => .err c s
  | .bad => .bad) else .bad
def eCallF (F : Fx) (l : Lx) : Ex := fun ρ s => (l ρ s).bind (pureF F)
section
variable {K : PySem.W.Frag} {W : Wd} {μ μ' : List Addr} {st s2 : Stt} {H H' : Hp}
theorem StOk.apart (ok : StOk K W μ st H) (e : Ext [] H μ' H') (ok2 : StOk K W μ' s2 H') : Ext μ H μ H' ∧ StOk K W μ st H' := by
  have x : Ext μ H μ H' := ⟨List.prefix_refl _, e.tup, e.frz, fun b u h _ t => e.keep b u h (by simp) t, e.tbl, fun _ h => .inl h⟩
  refine ⟨x, ok.keep x (fun a ha => ?_) ok2.tabs⟩
  obtain ⟨i, hi⟩ := List.getElem?_of_mem ha
  obtain ⟨o, _, r⟩ := ok.ob hi
  obtain ⟨u, hu, _, _, n3, _⟩ := r.live
  rw [hu]
  exact e.keep a u hu (by simp) n3
theorem StOk.none (ok : StOk K W μ st H) : StOk K W [] ⟨[]⟩ H := ⟨rfl, List.nodup_nil, fun i o a h1 h2 => by simp at h1, ok.tabs⟩
end
section
variable {X : Cx} {W : Wd} {k : Nat} {f : Addr} {fd : FuncData} {ps : List Str} {F : Fx} {x : Str} {p pos : Pos}
theorem pure_out {μ1 : List Addr} {H1 : Hp} {s1 : Stt} {qs : List PV} {vs : List V} {T : WX} {Q : VK} {σ : L2.St} (hσ : σ.length = X.N.length) (ok1 : StOk X.K W μ1 s1 H1) (rvs : RVs X.K μ1 H1 qs vs) (h : Out X W μ1 H1 T Q (pureF F qs s1)) : spF X.K W F vs H1 Q (fun cls d H' => T cls d σ H') := by
  unfold pureF at h
  cases hq : nrPs qs with
  | false => rw [hq, if_neg Bool.false_ne_true] at h; exact h.elim
  | true =>
    rw [hq, if_pos rfl] at h
    refine ⟨[], ⟨[]⟩, qs, ok1.none, rvs.noref hq, ?_⟩
    cases hr : F qs ⟨[]⟩ with
    | bad => rw [hr] at h; exact h.elim
    | err c s2 =>
      rw [hr] at h
      intro μ' H' d x' ok'
      obtain ⟨x2, ok2⟩ := ok1.apart x' ok'
      exact h μ1 H' σ d hσ x2 ok2
    | ok v s2 =>
      rw [hr] at h
      cases hv : nrP v with
      | false =>
        simp only [hv] at h
        exact (show False from h).elim
      | true =>
        simp only [hv, if_true] at h
        intro μ' H' w x' ok' r'
        obtain ⟨x2, ok2⟩ := ok1.apart x' ok'
        exact h μ1 H' x2 ok2 w (r'.noref hv)
theorem se_callF {e : Expr} {es : List Expr} {ml : Lx} (FO : FnE X.prog X.w X.K X.mg X.base W k f fd ps F) (hr : Room k X.A) (hg : Gl X x) (hm : X.mg x = some (.ref f)) (hk : PySem.W.keepIn X.K (.ref f) = true) (hb : Binds X.K fd ps [])
    (ha : SA X W (e :: es) ml) (hdb : (x == ("__debug__" : Str)) = false) (he : starEach (e :: es) X.env = (false, eval e X.env) :: starEach es X.env) (hpl : (backTo pos (starEach es X.env)).any (·.1) = false) : SE X W (.Call (.Name x p) (e :: es) [] pos) (eCallF F ml) := by
  refine ⟨fun pins s σ H Q I ⟨T, ρ, μ, st, tk, en, ok, out⟩ => ?_⟩
  have hσ : σ.length = X.N.length := I.len
  exact (pe_callS FO hr hg hm hk hb (fun σ => passAt tk σ) ha hdb he hpl).run pins s σ H Q I ⟨T, ρ, μ, st, tk, en, ok, OutG.mono (OutG.bind out) fun μ1 H1 qs s1 x1 ok1 h1 vs rvs => pure_out hσ ok1 rvs h1⟩
theorem se_call0F (FO : FnE X.prog X.w X.K X.mg X.base W k f fd ps F) (hr : Room k X.A) (hg : Gl X x) (hm : X.mg x = some (.ref f)) (hk : PySem.W.keepIn X.K (.ref f) = true) (hb : Binds X.K fd ps [])
    (hdb : (x == ("__debug__" : Str)) = false) : SE X W (.Call (.Name x p) [] [] pos) (eCallF F lNil) := by
  refine ⟨fun pins s σ H Q I ⟨T, ρ, μ, st, tk, en, ok, out⟩ => ?_⟩
  have hσ : σ.length = X.N.length := I.len
  refine wpAny_Call_Name_kw (ld_glob I hg hm ?_ hdb)
  exact PySem.W.callWith_K0 I.kIn hk (run_fnS (us := []) (vs := []) (E := fun σ => WE T σ) FO hr hb (passAt tk σ) I .nil (pure_out hσ ok .nil out))
end
end Ev
/-! Ev38: a text from its end on. -/
namespace Ev
open PySem PySem.Spec PyProof.Rows L2
def oRevS : Op2 := fun _ x y => match x, y with
  | .str l, .int k => if k == -1 && lenOk l then some (.str l.reverse) else none
  | _, _ => none
theorem back_cps (l : List Nat) (k : Tok) : ((PySem.slicePicked (sOf l) none none (some (-1, k))).filterMap ((sOf l).cps[·]?)) = l.reverse := by
  have e : PySem.slicePicked (sOf l) none none (some (-1, k)) = PySem.sliceRange (((sOf l).length : Int) - 1) (-1) (-1) := rfl
  rw [e, PySem.W.krv_sliceRange, PySem.W.krv_range, List.filterMap_reverse]
  have q := PySem.W.krv_all (sOf l).cps
  rw [show (sOf l).length = (sOf l).cps.size from rfl, q]
  simp [sOf]
section
variable {X : Cx} {W : Wd} {a b : Expr} {ma mb : Ex} {p2 pos : Pos}
def rRevS : R2 := fun x y H Q => ∃ l : List Nat, x = .str (sOf l) ∧ y = .int (-1) ∧ l.length ≤ sizeLine ∧ Q (.str (sOf l.reverse)) H
theorem pe_revS {ta tb : TE} {r : R2} (hr : ∀ x y H Q, r x y H Q → rRevS x y H Q) (ha : PE X a ta) (hb : PE X b tb) : PE X (.Subscript a (.Slice none none (some b) p2) pos) (tOp r ta tb) := by
  refine ⟨fun pins s σ H Q I h => ?_⟩
  refine Subscript_ (thn (ha.run pins s σ H _ I h) fun v s1 ⟨x, H1, I1, r1, q1⟩ => ?_)
  refine wpAny_Slice ?_
  rw [evalPart_none]
  refine wpAny_pure (wpAny_pure ?_)
  rw [evalPart_some]
  refine thn (hb.run pins s1 σ H1 _ I1 q1) fun u s2 ⟨y, H2, I2, r2, q2⟩ => ?_
  obtain ⟨l, rfl, rfl, hl, q⟩ := hr _ _ _ _ q2
  obtain ⟨t, rfl⟩ := r1
  obtain ⟨k, rfl⟩ := r2
  have I4 : Inv X pins σ H2 { s2 with heap := s2.heap.push { cls := .type "slice", data := .fields #[.none, .none, .int (-1) k] } } := I2.kept (t' := s2.toks) fun b ob q => Heap.get?_push_of_some _ q
  show wpAny (model X.prog X.w) X.A (subscriptTail a (.Slice none none (some b) p2) (.str (sOf l) t) (.ref s2.heap.objs.size)) (EP X pins σ Q) X.xe { s2 with heap := s2.heap.push { cls := .type "slice", data := .fields #[.none, .none, .int (-1) k] } }
  refine tail_any (ops := [.ref s2.heap.objs.size, .str (sOf l) t]) (typeIs_str _ _ _) F.slot_str_getitem.lookup ?_ (by with_unfolding_all rfl)
  refine wpAny_getItem_str_slice (l := none) (u := none) (st := some (-1, k)) ⟨_, Heap.get?_push_size _ rfl, rfl, rfl⟩ rfl ?_
  have e : PySem.sliceMade (sOf l) t none none (some (-1, k)) = .str (sOf l.reverse) := by
    unfold PySem.sliceMade
    rw [if_neg (by simp), back_cps]
    rfl
  rw [e]
  exact ⟨by rw [sOf_len, List.length_reverse]; exact hl, .str _, H2, I4.tok _, ⟨_, rfl⟩, q⟩
theorem se_revS (ha : SE X W a ma) (hb : SE X W b mb) : SE X W (.Subscript a (.Slice none none (some b) p2) pos) (eOp oRevS ma mb) := by
  refine PE.imp (pe_revS (r := rdO X W oRevS) (fun x y H Q h => ?_) ha hb) fun _ _ _ h => two_out h
  obtain ⟨μ, st, p, q, z, ok, rp, rq, hz, k⟩ := h
  cases rp with
  | str l =>
    cases rq with
    | int i =>
      have hz' : (if i == -1 && lenOk l then some (PV.str l.reverse) else none) = some z := hz
      split at hz'
      · rename_i c
        cases hz'
        rw [Bool.and_eq_true] at c
        have e : i = -1 := by simpa using c.1
        subst e
        exact ⟨l, rfl, rfl, lenOk_le c.2, k μ H _ (Ext.refl _ _) ok (.str _)⟩
      · cases hz'
    | _ => cases hz
  | _ => cases rq <;> cases hz
end
end Ev
/-! Ev39: replace; statements behind a token. -/
namespace Ev
open PySem PySem.Spec PyProof.Rows L2
def replN (y z : List Nat) (a : List Nat) : List Nat := PySem.StrLaws.replL y z a
def repOk (a y z : List Nat) : Bool := Nat.ble 1 y.length && (!(y == z) && Nat.ble (a.length + (a.length + 1) * z.length) szl)
theorem rep_eq {a y z : List Nat} (h : repOk a y z = true) : PySem.Txt.replace (sOf a) (sOf y) (sOf z) = sOf (replN y z a) ∧ (sOf a).length + ((sOf a).length + 1) * (sOf z).length ≤ 16777216 ∧ ((sOf y) == (sOf z)) = false := by
  obtain ⟨h1, h2⟩ := ba2 h
  obtain ⟨h2, h3⟩ := ba2 h2
  refine ⟨?_, ?_, ?_⟩
  · refine TL.ext_tl ?_
    show (PySem.Txt.replace (sOf a) (sOf y) (sOf z)).cps.toList = _
    rw [PySem.StrLaws.replace_list (by rw [sOf_len]; exact Nat.le_of_ble_eq_true h1)]
    simp [sOf, replN, TL.tl]
  · rw [sOf_len, sOf_len]
    exact Nat.le_of_ble_eq_true h3
  · rw [beq_eq_false_iff_ne]
    intro e
    have q : (sOf y).cps.toList = (sOf z).cps.toList := by rw [e]
    have q' : y = z := by simpa [sOf] using q
    rw [q'] at h2
    simp at h2
def eRepC (m : Ex) (y z : List Nat) : Ex := fun ρ s => (m ρ s).bind fun x s => match x with
  | .str a => if repOk a y z then .ok (.str (replN y z a)) s else .bad
  | _ => .bad
section
variable {X : Cx} {W : Wd} {s0 : Stmt} {sts : List Stmt} {ma mb : Sx}
def SST (X : Cx) (W : Wd) (st : Stmt) (m : Sx) : Prop := PST X st (rdS X W m)
def SSsT (X : Cx) (W : Wd) (st : List Stmt) (m : Sx) : Prop := PSsT X st (rdS X W m)
theorem sst_of (h : SS X W s0 ma) : SST X W s0 ma := PST.of h
theorem ssst_nil : SSsT X W [] sNop := PSsT.of sss_nil
theorem ssst_cons (h1 : SST X W s0 ma) (h2 : SSsT X W sts mb) : SSsT X W (s0 :: sts) (sSeq ma mb) := by
  intro pins s σ H D h0 I ⟨T, ρ, μ, st, tk, en, ok, out⟩
  refine psst_cons h1 h2 pins s σ H D h0 I ⟨T, ρ, μ, st, tk, en, ok, ?_⟩
  have out' : OutS X W μ H T D (match ma ρ st with | .nx ρ s => mb ρ s | r => r) := out
  cases hr : ma ρ st with
  | nx ρ1 s1 =>
    rw [hr] at out'
    exact fun μ' H' σ' x ok' en' => ⟨T, ρ1, μ', s1, tk, en', ok', OutS.ext x out'⟩
  | rt v s1 => rw [hr] at out'; exact out'
  | err c s1 => rw [hr] at out'; exact out'
  | bad => rw [hr] at out'; exact out'
/-- x.replace('..', '..') -/
theorem set_repC {o : Expr} {mo : Ex} {ys zs : PySem.Str} {y z : List Nat} {j k : Nat} {c0 c1 apos pos : Pos} (he : SE X W o mo) (hy : ys = sOf y) (hz : zs = sOf z) (hyz : (ys == zs) = false)
    (hst : starEach [.Constant (.str ys) j c0, .Constant (.str zs) k c1] X.env = [(false, eval (.Constant (.str ys) j c0) X.env), (false, eval (.Constant (.str zs) k c1) X.env)])
    (hbase : attributeBase o "replace" X.env (eval o X.env) = eval o X.env) (hline : (apos.endLine == pos.line) = true) :
    PET X (.Call (.Attribute o "replace" apos) [.Constant (.str ys) j c0, .Constant (.str zs) k c1] [] pos) (rdE X W (eRepC mo y z)) := by
  intro pins s σ H Q h0 I ⟨T, ρ, μ, st, tk, en, ok, out⟩
  refine CwR.pet_replC he hyz hst hbase hline pins s σ H Q h0 I ⟨T, ρ, μ, st, tk, en, ok, out.bind.mono fun μ1 H1 p s1 x1 ok1 h1 v rv => ?_⟩
  cases rv with
  | str l =>
    have h1' : Out X W μ1 H1 T Q (if repOk l y z then .ok (.str (replN y z l)) s1 else .bad) := h1
    split at h1'
    · rename_i c
      obtain ⟨e1, e2, e3⟩ := rep_eq c
      subst hy hz
      exact ⟨_, rfl, e2, by rw [e1]; exact h1' μ1 H1 (Ext.refl _ _) ok1 _ (.str _)⟩
    · exact h1'.elim
  | _ => exact (show False from h1).elim
/-- f(e), dropped, e with a token -/
theorem sst_drop1 {k : Nat} {f : Addr} {fd : FuncData} {ps : List Str} {F : Fx} {x : Str} {p pos pos' : Pos} {e : Expr} {m : Ex} (FO : FnE X.prog X.w X.K X.mg X.base W k f fd ps F) (hr : Room k X.A) (hg : Gl X x) (hm : X.mg x = some (.ref f)) (hk : PySem.W.keepIn X.K (.ref f) = true) (hb : Binds X.K fd ps [])
    (ha : PET X e (rdE X W m)) (hdb : (x == ("__debug__" : Str)) = false) (he : starEach [e] X.env = (false, eval e X.env) :: starEach [] X.env) (hpl : (backTo pos (starEach [] X.env)).any (·.1) = false) (hs : swapsWith (.Call (.Name x p) [e] [] pos) none pos'.line X.env = pure false) :
    SST X W (.Expr (.Call (.Name x p) [e] [] pos) pos') (sExpr (eCallF F (lCons m lNil))) := by
  intro pins s σ H D h0 I ⟨T, ρ, μ, st, tk, en, ok, out⟩
  have hσ : σ.length = X.N.length := I.len
  have hE : Out X W μ H T (fun _ H' => D.nx σ H') (eCallF F (lCons m lNil) ρ st) := OutG.mono (OutS.sbind out) fun μ1 H1 p s1 x1 ok1 h1 v rv => h1.nxNow (en.ext x1) ok1
  have hA : OutA X W μ H T (fun vs H1 => spF X.K W F vs H1 (fun _ H' => D.nx σ H') (fun cls d H' => T cls d σ H')) (lCons m lNil ρ st) := OutG.mono (OutG.bind hE) fun μ1 H1 qs s1 x1 ok1 h1 vs rvs => pure_out hσ ok1 rvs h1
  refine wpAny_Expr_any (thn (wpAny_Call_Name_kw (ld_glob I hg hm ?_ hdb)) fun v s1 q => q) I.quiet hs
  refine PySem.W.callWith_K (h₀ := X.base) I.ok.mod.kin hk (thn (pat_cons ha pat_nil he pos pins s σ H (fun vs H1 => spF X.K W F vs H1 (fun _ H' => D.nx σ H') (fun cls d H' => T cls d σ H')) h0 I ⟨T, ρ, μ, st, tk, en, ok, OutG.mono (OutG.bind hA) fun μ1 H1 q s1 x1 ok1 h1 v rv => (show OutA X W μ1 H1 T _ (.ok [q] s1) from h1).now ok1 _ (.cons rv .nil)⟩) fun us s1 ⟨vs, H1, I1, r, q⟩ => ⟨I1.kIn, ?_⟩) he hpl
  exact thn (run_fnS (Q := fun _ H' => D.nx σ H') (E := fun σ => WE T σ) FO hr hb (passAt tk σ) I1 r q) fun v s2 ⟨x, H2, I2, r2, q2⟩ => ⟨σ, H2, I2, q2⟩
end
section
variable {P : Program} {w : World} {K : PySem.W.Frag} {mg : Str → Option Value} {base : Heap} {W : Wd}
theorem fn_evT {x qual : Str} {params : Arguments} {body : List Stmt} {scope : Scope} {f : Addr} {fd : FuncData} {N ps : List Str} {k : Nat} {m : Sx} {dvs : List V} {kws : List (Str × V)} (F : FunD K x qual params body scope dvs kws f fd) (S : FnScope N ps scope)
    (hnc : ∀ y ∈ scope.names, y.2 ≠ .cell) (hps : 1 ≤ ps.length)
    (hb : ∀ (A : Around) (outer : List PySem.Env) (s : Shared) (H : Hp) (E : XK), Room k (A.deeper (envOfC qual scope s.heap.objs.size f fd.code)) → SSsT (cxOf (L2.CX P w) P w K mg base N qual scope f fd.code A outer s H E) W body m) :
    FnE P w K mg base W (k + 1) f fd ps (mkFn N.length ps.length m) := by
  obtain ⟨oc, od, dV, kV, doc, pm, an, cdv, ct, osl, rfl, lk, hcd, _, _⟩ := F.ex
  refine fn_ofT lk hcd S hnc hps (fun vs H Q E ⟨μ, st, qs, ok, rvs, out⟩ => ?_) fun A outer s H vs Q E hr ⟨μ, st, qs, ok, rvs, out⟩ => ⟨_, hb A outer s H E hr, ?_⟩
  · unfold mkFn at out
    split at out
    · rename_i hl
      rw [← rvs.length]
      exact eq_of_beq hl
    · exact out.elim
  · unfold mkFn at out
    split at out
    · rename_i hl
      have hl' : qs.length = ps.length := eq_of_beq hl
      have en := start_env (N := N) rvs
      rw [hl'] at en
      refine ⟨fun cls d _ H' => E cls d H', _, μ, st, takes_of rfl rfl rfl rfl, en, ok, ?_⟩
      cases hm : m (qs.map some ++ List.replicate (N.length - ps.length) none) st with
      | nx ρ s2 => rw [hm] at out; exact fun μ' H' σ' x' ok' en' => out μ' H' _ x' ok' .non
      | rt v s2 => rw [hm] at out; exact out
      | err c s2 => rw [hm] at out; exact fun μ' H' σ' d hl x' ok' => out μ' H' d x' ok'
      | bad => rw [hm] at out; exact out
    · exact out.elim
end
end Ev
/-! Ev40: a loop over a text whose body begins with x = y.replace('..', the sign). -/
namespace Ev
open PySem PySem.Spec PyProof.Rows L2
section
variable {X : Cx} {W : Wd} {pins : List (Addr × Obj)} {σ : L2.St} {H : Hp} {s : Shared}
/-- a local is stored; what it holds is known as it is -/
theorem store_raw {M : Model} {A : Around} {E : Value → Shared → Prop} {i : Nat} {x : Str} {v : V} {u : Value} {Q : Unit → Shared → Prop} (I : L2.Inv X pins σ H s) (hN : X.N.Nodup) (hi : X.N[i]? = some x) (hk : X.env.scope.names.lookup x = some .local) (hx : Loc X.env.scope x) (r : RelV v u)
    (h : ∀ s', L2.Inv X pins (σ.set i (some v)) H s' → (∃ m, s'.heap.Ns X.env.locals m ∧ m x = some u) → s'.toks = s.toks + 1 → Q () s') : wpAny M A (storeName X.env x u) Q E s := by
  obtain ⟨m, ns, look⟩ := id I.loc
  have plain : (X.env.scope.kind == .class || (X.env.scope.kind == .module && X.env.locals != X.env.globals)) = false := by
    rw [I.ok.kind]
    rfl
  have kd : X.env.kindOf x = some .local := hk
  have cells := I.cne
  have room : i < σ.length := I.len ▸ (List.getElem?_eq_some_iff.mp hi).1
  refine wpAny_storeName_local kd ns (fun g ns' same => ?_) plain
  have old : ∀ {b : Addr} {o : Obj}, X.s_0.heap.get? b = some o → g.get? b = s.heap.get? b := fun e => same.2 _ (Nat.ne_of_lt (Nat.lt_of_lt_of_le (Heap.lt_size e) I.ok.above))
  refine h _ { ok := I.ok, os := I.os, bare := I.bare, base := ?base, loc := ⟨_, ns', fun j y w ey ew vy => ?look⟩, cell := fun y c e => ?cell, free := I.free, freeC := I.freeC, pin := fun p hp => ?pin, hok := fun b ob e => ?hok, len := by rw [List.length_set]; exact I.len } ⟨_, ns', if_pos rfl⟩ rfl
  case base =>
    have B := I.base
    exact ⟨fun b o e n hb hx => (old e).trans (B.keep b o e n hb hx), fun b o e n hb hx => let ⟨sl, q⟩ := B.slot b o e n hb hx; ⟨sl, (old e).trans q⟩, B.free, fun b o e hx => let ⟨o', q⟩ := B.there b o e hx; ⟨o', (old e).trans q⟩, B.tups, B.frzs, B.tbls⟩
  case look =>
    by_cases hj : j = i
    · subst hj
      obtain rfl : x = y := Option.some.inj (hi.symm.trans ey)
      rw [List.getElem?_set_self room] at ew
      obtain rfl : v = w := Option.some.inj (Option.some.inj ew)
      exact ⟨u, r, Or.inl ⟨kd, if_pos rfl⟩⟩
    · rw [List.getElem?_set_ne (fun q => hj q.symm)] at ew
      obtain ⟨u', r', q⟩ := look j y w ey ew vy
      have hy : y ≠ x := fun q => hj (nodup_ix hN ey (q ▸ hi))
      exact ⟨u', r', q.elim (fun ⟨a, b⟩ => Or.inl ⟨a, (if_neg hy).trans b⟩) fun ⟨a, c, e, z⟩ => Or.inr ⟨a, c, e, z.sameBut same (cells y c e)⟩⟩
  case cell =>
    obtain ⟨w, z⟩ := I.cell y c e
    exact ⟨w, z.sameBut same (cells y c e)⟩
  case pin =>
    obtain ⟨q, n, nl, nf, d⟩ := I.pin p hp
    exact ⟨(same.2 _ nl).trans q, n, nl, nf, d⟩
  case hok =>
    refine (I.hok b ob e).stay (fun c o hc q => (same.2 c fun z => ?_).trans q) (fun _ q => q) fun _ _ q => q
    subst z
    have fr := I.free
    rcases hc with rfl | hc
    · rw [fr] at e
      cases e
    · rw [fr] at hc
      cases hc
def eRepV (k0 i : Nat) (y : List Nat) : Ex := fun ρ s => match ρ[k0]?, ρ[i]? with
  | some (some (.str a)), some (some (.str b)) => if repOk a y b then .ok (.str (replN y b a)) s else .bad
  | _, _ => .bad
def sForRep (i j k0 : Nat) (y : List Nat) (mi : Ex) (mb : Sx) : Sx := fun ρ s => (mi ρ s).sbind fun x s => match x with
  | .str l => forV (fun _ => some (l.map fun c => .str [c])) (Ev.gN i) (sSeq (sAsg (Ev.gN j) (eRepV k0 i y)) mb) (l.length + 1) 0 ρ s
  | _ => .bad
variable {iter : Expr} {rest : List Stmt} {mi : Ex} {mb : Sx} {sx cx tx ys : Str} {i j k0 j0 : Nat} {y : List Nat} {psx psx2 ptx pcx c0 apos pos1 pos2 pos : Pos}
/-- the body's run, the sign raw -/
theorem rep_body {D : Ends} {a : List Nat} {b : List Nat} {u : Nat} (I : L2.Inv X pins σ H s) (hN : X.N.Nodup) (e2 : X.N[j]? = some cx) (x2 : Loc X.env.scope cx) (f2 : X.fn cx = true ∨ X.env.scope.names.lookup cx = some .local)
    (e3 : X.N[k0]? = some tx) (v3 : Vis X.env.scope tx) (d3 : (tx == ("__debug__" : Str)) = false) (d4 : (tx == ("__classdict__" : Str)) = false) (dx : (sx == ("__debug__" : Str)) = false) (l1 : X.env.scope.names.lookup sx = some .local)
    (hst : starEach [.Constant (.str ys) j0 c0, .Name sx psx2] X.env = [(false, eval (.Constant (.str ys) j0 c0) X.env), (false, eval (.Name sx psx2) X.env)])
    (hbase : attributeBase (.Name tx ptx) "replace" X.env (eval (.Name tx ptx) X.env) = eval (.Name tx ptx) X.env) (hline : (apos.endLine == pos1.line) = true)
    (hsw : swapsWith (.Call (.Attribute (.Name tx ptx) "replace" apos) [.Constant (.str ys) j0 c0, .Name sx psx2] [] pos1) (some (.Name cx pcx)) pos2.line X.env = pure false)
    (hy : ys = sOf y) (ha : σ[k0]? = some (some (.str (sOf a)))) (raw : ∃ m, s.heap.Ns X.env.locals m ∧ m sx = some (.str (sOf b) u)) (u0 : 1 ≤ u) (us : u < s.toks) (hc : repOk a y b = true)
    (hb : PSs X rest (rdS X W mb)) (hr : rdS X W mb D (σ.set j (some (.str (sOf (replN y b a))))) H) :
    wpAny (model X.prog X.w) X.A (execs (.Assign [.Name cx pcx] (.Call (.Attribute (.Name tx ptx) "replace" apos) [.Constant (.str ys) j0 c0, .Name sx psx2] [] pos1) pos2 :: rest) X.env) (SP X pins D) X.xe s := by
  obtain ⟨m, ns, hm⟩ := raw
  obtain ⟨r1, r2, r3⟩ := rep_eq hc
  refine wpAny_execs_cons (wpAny_Assign_Name (PySem.Call_method2 hbase hst hline (raw_name e3 v3 I ha (fun v r => ?_) d3 d4)) hsw)
  obtain ⟨t, rfl⟩ := r
  refine ⟨"str", _, F.plainAttrs_str, F.slot_str_replace, F.type_str_replace, typeIs_str _ _ _, (fun _ e => nomatch e), Calls.callWith_builtin rfl (Calls.evalArgs_plain (Calls.spliced_cons ?_))⟩
  refine Calls.Constant_str (Calls.spliced_cons (wpAny_Name (wpAny_loadName_local (s := { s with toks := s.toks + 1 }) I.ok.kind l1 ns hm ?_) dx))
  refine Calls.spliced_nil ?_
  subst hy
  refine PySem.SC.replace (by show s.toks ≠ 0; omega) (by show u ≠ 0; omega) (by show s.toks ≠ u; omega) r3 r2 fun t' k => ?_
  rw [r1]
  exact store_ok (v := V.str (sOf (replN y b a))) (I.tok k) hN e2 x2 ⟨t', rfl⟩ (fun s7 I7 => hb.run pins s7 _ H D I7 hr) f2
theorem sst_forRep (hp : PassesOwn (model X.prog X.w) X.A X.env X.xe) (hc : X.calm = true) (hi : SE X W iter mi) (hN : X.N.Nodup) (e1 : X.N[i]? = some sx) (x1 : Loc X.env.scope sx) (e2 : X.N[j]? = some cx) (x2 : Loc X.env.scope cx) (f2 : X.fn cx = true ∨ X.env.scope.names.lookup cx = some .local)
    (e3 : X.N[k0]? = some tx) (v3 : Vis X.env.scope tx) (d3 : (tx == ("__debug__" : Str)) = false) (d4 : (tx == ("__classdict__" : Str)) = false) (dx : (sx == ("__debug__" : Str)) = false) (l1 : X.env.scope.names.lookup sx = some .local)
    (hst : starEach [.Constant (.str ys) j0 c0, .Name sx psx2] X.env = [(false, eval (.Constant (.str ys) j0 c0) X.env), (false, eval (.Name sx psx2) X.env)])
    (hbase : attributeBase (.Name tx ptx) "replace" X.env (eval (.Name tx ptx) X.env) = eval (.Name tx ptx) X.env) (hline : (apos.endLine == pos1.line) = true)
    (hsw : swapsWith (.Call (.Attribute (.Name tx ptx) "replace" apos) [.Constant (.str ys) j0 c0, .Name sx psx2] [] pos1) (some (.Name cx pcx)) pos2.line X.env = pure false)
    (hy : ys = sOf y) (hik : i ≠ k0) (hil : i < X.N.length) (hb : SSs X W rest mb) (hs : ∀ x, foldedSetIterable iter X.env x = pure x) :
    SST X W (.For (.Name sx psx) iter (.Assign [.Name cx pcx] (.Call (.Attribute (.Name tx ptx) "replace" apos) [.Constant (.str ys) j0 c0, .Name sx psx2] [] pos1) pos2 :: rest) [] pos) (sForRep i j k0 y mi mb) := by
  intro pins s σ H D h0 I ⟨T, ρ, μ, st, tk, en, ok, out⟩
  -- the loop, whatever the kind of the iterator
  have loop : ∀ (it : Addr) (ty : String) (l : List Nat) (t : Tok) (s2 : Shared) (H2 : Hp) (μ2 : List Addr) (st2 : Stt), (ty = "str_ascii_iterator" ∨ ty = "str_iterator") → L2.Inv X pins σ H2 s2 → s2.heap.IsStrIter it ty (sOf l) t 0 → FpOk X pins H2 it → 1 ≤ s2.toks → EnvOk X.K μ2 H2 ρ σ → StOk X.K W μ2 st2 H2 →
      OutS X W μ2 H2 T D (forV (fun _ => some (l.map fun c => .str [c])) (Ev.gN i) (sSeq (sAsg (Ev.gN j) (eRepV k0 i y)) mb) (l.length + 1) 0 ρ st2) →
      codeAny (model X.prog X.w) X.A (.forLoop (.Name sx psx) (.ref it) (.Assign [.Name cx pcx] (.Call (.Attribute (.Name tx ptx) "replace" apos) [.Constant (.str ys) j0 c0, .Name sx psx2] [] pos1) pos2 :: rest) [] X.env)
        (fun r s' => match r with | .ok f => SP X pins D f s' | .error e => cameBackBy (model X.prog X.w) X.A X.env X.xe e s') s2 := by
    intro it ty l t s2 H2 μ2 st2 hty I2 it2 fp2 t2 en2 ok2 out2
    have stat : ∀ {H' : Hp}, H' it = none → FpOk X pins H' it := fun hn => ⟨hn, fp2.2⟩
    have TU := turn_str (P := X.prog) (w := X.w) (K := X.K) (tg := .Name sx psx) it (sOf l) t ty hty
    have hno : ["enumerate", "zip", "dict_itemiterator", "dict_reverseitemiterator", "odict_iterator", "itertools.zip_longest", "itertools.pairwise"].contains ty = false := by
      rcases hty with e | e <;> rw [e] <;> decide
    refine codeAny_forLoop_any (fun n s' => ∃ m σ' H' ρ' μ' st', L2.Inv X pins σ' H' s' ∧ s'.heap.IsStrIter it ty (sOf l) t m ∧ H' it = none ∧ 1 ≤ s'.toks ∧ EnvOk X.K μ' H' ρ' σ' ∧ StOk X.K W μ' st' H' ∧ OutS X W μ' H' T D (forV (fun _ => some (l.map fun c => .str [c])) (Ev.gN i) (sSeq (sAsg (Ev.gN j) (eRepV k0 i y)) mb) n m ρ' st')) ?_ (l.length + 1) ⟨0, σ, H2, ρ, μ2, st2, I2, it2, fp2.1, t2, en2, ok2, out2⟩
    rintro n s3 ⟨m, σ3, H3, ρ3, μ3, st3, I3, it3, fr3, t3, en3, ok3, out3⟩
    cases n with
    | zero => exact out3.elim
    | succ n =>
      unfold forV at out3
      dsimp only at out3
      rw [List.getElem?_map] at out3
      cases hm : l[m]? with
      | none =>
        rw [hm] at out3
        have q : D.nx σ3 H3 := OutS.nxNow out3 en3 ok3
        have stop : (Its (sOf l)).stop m H3 := by
          show (sOf l).cps.size ≤ m
          rw [show (sOf l).cps.size = l.length by simp [sOf]]
          exact List.getElem?_eq_none_iff.mp hm
        refine wpAny_passesOwn hp (thn (TU.done X rfl rfl rfl hc m pins s3 σ3 H3 X.xe I3 (fun b hb => by rw [List.mem_singleton.mp hb]; exact stat fr3) it3 stop) fun r s4 ⟨hr, I4⟩ => ?_)
        subst hr
        exact wpAny_execs_nil ⟨σ3, H3, I4, q⟩
      | some c =>
        rw [hm] at out3
        have hcx : (sOf l).cps[m]? = some c := by simpa [sOf] using hm
        have nxt : ∀ {Q : Option Value → Shared → Prop} {E : Value → Shared → Prop}, (∀ h', h'.IsStrIter it ty (sOf l) t (m + 1) → Heap.SameBut it s3.heap h' → Q (some (.str ⟨#[c]⟩ s3.toks)) { s3 with heap := h', toks := s3.toks + 1 }) → wpAny (model X.prog X.w) X.A (pyNext (.ref it)) Q E s3 := fun hq => by
          rcases hty with e | e
          · subst e; exact wpAny_pyNext_ascii_item it3 hcx hq
          · subst e; exact wpAny_pyNext_wide_item it3 hcx hq
        refine nxt fun h' it4 sb => ?_
        obtain ⟨f0, f1, f2', f3, f4, f5⟩ := stat fr3
        have I4 : L2.Inv X pins σ3 H3 { s3 with heap := h', toks := s3.toks + 1 } := I3.turned (fun b o hb e => sb.extBut b o hb e) f0 f1 f3 f4 f5
        obtain ⟨oi, eo, cc, dd⟩ := id it4
        refine go_of (s := { s3 with heap := h', toks := s3.toks + 1 }) eo cc dd hno ?_
        have I4' := I4.pinned (fp := [it]) (fun b hb => by rw [List.mem_singleton.mp hb]; exact stat fr3) (fun b hb => by rw [List.mem_singleton.mp hb]; exact ⟨oi, eo, fun v z => by rw [dd] at z; cases z⟩)
        refine wpAny_assign_Name (store_raw (v := V.str ⟨#[c]⟩) I4' hN e1 l1 x1 ⟨_, rfl⟩ fun s5 I5 raw tk5 => ?_)
        have hil3 : i < ρ3.length := by rw [en3.len, I3.len]; exact hil
        have g1 : (ρ3.set i (some (PV.str [c])))[k0]? = ρ3[k0]? := List.getElem?_set_ne hik
        have g2 : (ρ3.set i (some (PV.str [c])))[i]? = some (some (.str [c])) := List.getElem?_set_self hil3
        have hrep : eRepV k0 i y (ρ3.set i (some (PV.str [c]))) st3 = match ρ3[k0]? with
            | some (some (.str a)) => if repOk a y [c] then .ok (.str (replN y [c] a)) st3 else .bad
            | _ => .bad := by
          unfold eRepV
          rw [g1, g2]
          cases ρ3[k0]? with
          | none => rfl
          | some o =>
            cases o with
            | none => rfl
            | some p => cases p <;> rfl
        have out4 : OutS X W μ3 H3 T D (match (sSeq (sAsg (Ev.gN j) (eRepV k0 i y)) mb) (ρ3.set i (some (PV.str [c]))) st3 with
            | .nx ρ s => forV (fun _ => some (l.map fun c => .str [c])) (Ev.gN i) (sSeq (sAsg (Ev.gN j) (eRepV k0 i y)) mb) n (m + 1) ρ s
            | r => r) := out3
        have bad : eRepV k0 i y (ρ3.set i (some (PV.str [c]))) st3 = .bad → False := fun e => by
          have z : (sSeq (sAsg (Ev.gN j) (eRepV k0 i y)) mb) (ρ3.set i (some (PV.str [c]))) st3 = .bad := by
            unfold sSeq sAsg
            rw [e]
            rfl
          rw [z] at out4
          exact out4.elim
        obtain ⟨a, ha, hok⟩ : ∃ a, ρ3[k0]? = some (some (.str a)) ∧ repOk a y [c] = true := by
          cases h : ρ3[k0]? with
          | none => rw [h] at hrep; exact (bad hrep).elim
          | some o =>
            cases o with
            | none => rw [h] at hrep; exact (bad hrep).elim
            | some p =>
              cases p with
              | str a =>
                rw [h] at hrep
                refine ⟨a, rfl, ?_⟩
                cases hk : repOk a y [c] with
                | true => rfl
                | false =>
                  simp only [hk] at hrep
                  exact (bad hrep).elim
              | _ => rw [h] at hrep; exact (bad hrep).elim
        rw [ha] at hrep
        simp only [hok, if_true] at hrep
        have run : (sSeq (sAsg (Ev.gN j) (eRepV k0 i y)) mb) (ρ3.set i (some (PV.str [c]))) st3 = mb ((ρ3.set i (some (PV.str [c]))).set j (some (.str (replN y [c] a)))) st3 := by
          unfold sSeq sAsg
          rw [hrep]
          rfl
        rw [run] at out4
        obtain ⟨va, hva, rva⟩ := en3.at_ k0 _ ha
        have hσa : (σ3.set i (some (V.str ⟨#[c]⟩)))[k0]? = some (some (.str (sOf a))) := by
          rw [List.getElem?_set_ne hik, hva]
          cases rva
          rfl
        have en5 : EnvOk X.K μ3 H3 ((ρ3.set i (some (PV.str [c]))).set j (some (.str (replN y [c] a)))) ((σ3.set i (some (V.str ⟨#[c]⟩))).set j (some (.str (sOf (replN y [c] a))))) :=
          (en3.set (show RV X.K μ3 H3 (.str [c]) (.str ⟨#[c]⟩) from RV.str [c])).set (.str _)
        have again : ∀ {σ7 : L2.St} {H7 : Hp} {s7 : Shared}, L2.Inv X (pins ++ pinsAt [it] h') σ7 H7 s7 → 1 ≤ s7.toks → (∃ ρ' μ' st', EnvOk X.K μ' H7 ρ' σ7 ∧ StOk X.K W μ' st' H7 ∧ OutS X W μ' H7 T D (forV (fun _ => some (l.map fun c => .str [c])) (Ev.gN i) (sSeq (sAsg (Ev.gN j) (eRepV k0 i y)) mb) n (m + 1) ρ' st')) →
            ∃ n', n' < n + 1 ∧ ∃ m σ' H' ρ' μ' st', L2.Inv X pins σ' H' s7 ∧ s7.heap.IsStrIter it ty (sOf l) t m ∧ H' it = none ∧ 1 ≤ s7.toks ∧ EnvOk X.K μ' H' ρ' σ' ∧ StOk X.K W μ' st' H' ∧ OutS X W μ' H' T D (forV (fun _ => some (l.map fun c => .str [c])) (Ev.gN i) (sSeq (sAsg (Ev.gN j) (eRepV k0 i y)) mb) n' m ρ' st') := fun {σ7 H7 s7} I7 t7 ⟨ρ', μ', st', en', ok', out'⟩ => by
          have pin := I7.pin (it, oi) (List.mem_append_right _ (List.mem_append_right _ (mem_pinsAt (List.mem_singleton.mpr rfl) eo)))
          exact ⟨n, Nat.lt_succ_self n, m + 1, σ7, H7, ρ', μ', st', I7.unpinned, ⟨oi, pin.1, cc, dd⟩, pin.2.1, t7, en', ok', out'⟩
        have body := rep_body (D := { nx := fun σ' H' => ∃ ρ' μ' st', EnvOk X.K μ' H' ρ' σ' ∧ StOk X.K W μ' st' H' ∧ OutS X W μ' H' T D (forV (fun _ => some (l.map fun c => .str [c])) (Ev.gN i) (sSeq (sAsg (Ev.gN j) (eRepV k0 i y)) mb) n (m + 1) ρ' st'), rt := D.rt, bk := D.nx, ct := fun σ' H' => ∃ ρ' μ' st', EnvOk X.K μ' H' ρ' σ' ∧ StOk X.K W μ' st' H' ∧ OutS X W μ' H' T D (forV (fun _ => some (l.map fun c => .str [c])) (Ev.gN i) (sSeq (sAsg (Ev.gN j) (eRepV k0 i y)) mb) n (m + 1) ρ' st') })
          (psx2 := psx2) (ptx := ptx) (pcx := pcx) (c0 := c0) (apos := apos) (pos1 := pos1) (pos2 := pos2) (j0 := j0) (rest := rest) (mb := mb) I5 hN e2 x2 f2 e3 v3 d3 d4 dx l1 hst hbase hline hsw hy hσa (b := [c]) (u := s3.toks) raw t3 (by rw [tk5]; exact Nat.lt_succ_of_lt (Nat.lt_succ_self _)) hok hb ⟨T, _, μ3, st3, tk, en5, ok3, by
            cases hr : mb ((ρ3.set i (some (PV.str [c]))).set j (some (.str (replN y [c] a)))) st3 with
            | nx ρ6 s6 => rw [hr] at out4; exact fun μ' H' σ' x ok' en' => ⟨ρ6, μ', s6, en', ok', OutS.ext x out4⟩
            | rt v s6 => rw [hr] at out4; exact out4
            | err c s6 => rw [hr] at out4; exact out4
            | bad => rw [hr] at out4; exact out4⟩
        refine wpAny_passesOwn hp (wpAny_mono (PySem.wpAny_toks_of (n := 1) (by rw [tk5]; exact Nat.le_add_left 1 _) body) (fun f s7 q7 => ?_) fun _ _ z => z.2)
        obtain ⟨t7, q7⟩ := q7
        cases f with
        | next => obtain ⟨σ7, H7, I7, n7⟩ := q7; exact again I7 t7 n7
        | cont => obtain ⟨σ7, H7, I7, n7⟩ := q7; exact again I7 t7 n7
        | brk => obtain ⟨σ7, H7, I7, q7⟩ := q7; exact ⟨σ7, H7, I7.unpinned, q7⟩
        | ret v => obtain ⟨x7, σ7, H7, I7, r7, q7⟩ := q7; exact ⟨x7, σ7, H7, I7.unpinned, r7, q7⟩
  refine wpAny_For (wpAny_mono (PySem.wpAny_toks_of h0 (hi.run pins s σ H (fun x H1 => ∃ μ1 s1 l, x = .str (sOf l) ∧ EnvOk X.K μ1 H1 ρ σ ∧ StOk X.K W μ1 s1 H1 ∧ OutS X W μ1 H1 T D (forV (fun _ => some (l.map fun c => .str [c])) (Ev.gN i) (sSeq (sAsg (Ev.gN j) (eRepV k0 i y)) mb) (l.length + 1) 0 ρ s1)) I
    ⟨T, ρ, μ, st, tk, en, ok, OutG.mono (OutS.sbind out) fun μ1 H1 p s1 x1 ok1 h1 v rv => ?_⟩)) (fun v s1 q => ?_) fun _ _ z => z.2) hs
  · cases rv with
    | str l => exact ⟨μ1, s1, l, rfl, en.ext x1, ok1, h1⟩
    | _ => exact (show False from h1).elim
  · obtain ⟨t1, x, H1, I1, r1, μ1, st1, l, rfl, en1, ok1, out1⟩ := q
    obtain ⟨t, rfl⟩ := r1
    have kept : L2.Inv X pins σ H1 { s1 with heap := s1.heap.push { cls := .type "str_iterator", data := .fields #[.str (sOf l) t, .int 0 0] } } := I1.kept (t' := s1.toks) fun b o e => Heap.get?_push_of_some _ e
    have kept' : L2.Inv X pins σ H1 { s1 with heap := s1.heap.push { cls := .type "str_ascii_iterator", data := .fields #[.str (sOf l) t, .int 0 0] } } := I1.kept (t' := s1.toks) fun b o e => Heap.get?_push_of_some _ e
    have fp := I1.fpOk (H' := H1) (b := s1.heap.objs.size) (Nat.le_refl _) (I1.hok.fresh (Nat.le_refl _))
    cases ha : (sOf l).cps.all (· < 128)
    · exact wpAny_pyIter_wide ha (loop s1.heap.objs.size "str_iterator" l t _ H1 μ1 st1 (.inr rfl) kept ⟨_, Heap.get?_push_size _ rfl, rfl, rfl⟩ fp t1 en1 ok1 out1)
    · exact wpAny_pyIter_ascii ha (loop s1.heap.objs.size "str_ascii_iterator" l t _ H1 μ1 st1 (.inl rfl) kept' ⟨_, Heap.get?_push_size _ rfl, rfl, rfl⟩ fp t1 en1 ok1 out1)
end
end Ev
/-! EM: reckoning with the machine of combinators. No program in sight. -/
namespace Ev
/-! ### what a step comes to -/
section
variable {α β : Type}
@[simp] theorem Res.bind_ok (a : α) (s : Stt) (f : α → Stt → Res β) : (Res.ok a s).bind f = f a s := rfl
@[simp] theorem Res.bind_err (c : Nat) (s : Stt) (f : α → Stt → Res β) : (Res.err c s : Res α).bind f = .err c s := rfl
@[simp] theorem Res.bind_bad (f : α → Stt → Res β) : (Res.bad : Res α).bind f = .bad := rfl
@[simp] theorem Res.sbind_ok (a : α) (s : Stt) (f : α → Stt → SRes) : (Res.ok a s).sbind f = f a s := rfl
@[simp] theorem Res.sbind_err (c : Nat) (s : Stt) (f : α → Stt → SRes) : (Res.err c s : Res α).sbind f = .err c s := rfl
@[simp] theorem Res.ofO_some (s : Stt) (a : α) : Res.ofO s (some a) = .ok a s := rfl
@[simp] theorem Res.ofO_none (s : Stt) : Res.ofO s (none : Option α) = .bad := rfl
@[simp] theorem Res.calm_ok (a : α) (s : Stt) : (Res.ok a s).calm = .ok a s := rfl
end
def Res.var (s : Stt) : Option (Option PV) → Res PV
  | some (some p) => .ok p s
  | _ => .bad
@[simp] theorem Res.var_some (s : Stt) (p : PV) : Res.var s (some (some p)) = .ok p s := rfl
def SRes.seq : SRes → Sx → SRes
  | .nx ρ s, b => b ρ s
  | r, _ => r
@[simp] theorem SRes.seq_nx (ρ : Env) (s : Stt) (b : Sx) : (SRes.nx ρ s).seq b = b ρ s := rfl
@[simp] theorem SRes.seq_rt (v : PV) (s : Stt) (b : Sx) : (SRes.rt v s).seq b = .rt v s := rfl
@[simp] theorem SRes.seq_err (c : Nat) (s : Stt) (b : Sx) : (SRes.err c s).seq b = .err c s := rfl
def SRes.fn : SRes → Res PV
  | .nx _ s => .ok .non s
  | .rt v s => .ok v s
  | .err c s => .err c s
  | .bad => .bad
@[simp] theorem SRes.fn_rt (v : PV) (s : Stt) : (SRes.rt v s).fn = .ok v s := rfl
@[simp] theorem SRes.fn_err (c : Nat) (s : Stt) : (SRes.err c s).fn = .err c s := rfl
@[simp] theorem SRes.fn_nx (ρ : Env) (s : Stt) : (SRes.nx ρ s).fn = .ok .non s := rfl
def SRes.ofO (s : Stt) : Option Env → SRes
  | some ρ => .nx ρ s
  | none => .bad
@[simp] theorem SRes.ofO_some (s : Stt) (ρ : Env) : SRes.ofO s (some ρ) = .nx ρ s := rfl
theorem mkFn_e (n k : Nat) (b : Sx) (vs : List PV) (s : Stt) (h : vs.length = k) : mkFn n k b vs s = (b (vs.map some ++ List.replicate (n - k) none) s).fn := by
  unfold mkFn
  rw [if_pos (by simpa using h)]
  cases b (vs.map some ++ List.replicate (n - k) none) s <;> rfl
section
variable (ρ : Env) (s : Stt) (a b c : Ex) (t u : Tx) (p q : PV)
@[simp] theorem eC_s : eC p ρ s = .ok p s := rfl
@[simp] theorem eV_s (i : Nat) : eV i ρ s = Res.var s ρ[i]? := by
  unfold eV Res.var
  cases ρ[i]? with
  | none => rfl
  | some o => cases o <;> rfl
@[simp] theorem eOp_s (f : Op2) : eOp f a b ρ s = (a ρ s).bind fun x s => (b ρ s).bind fun y s => .ofO s (f s x y) := rfl
@[simp] theorem eCp_s (f : Cp) : eCp f a b ρ s = (a ρ s).bind fun x s => (b ρ s).bind fun y s => .ofO s ((f s x y).map .bl) := rfl
@[simp] theorem tCp_s (f : Cp) : tCp f a b ρ s = (a ρ s).bind fun x s => (b ρ s).bind fun y s => .ofO s (f s x y) := rfl
@[simp] theorem eIf_s : eIf t a b ρ s = (t ρ s).bind fun c s => if c then a ρ s else b ρ s := rfl
@[simp] theorem eTup_s (l : Lx) : eTup l ρ s = (l ρ s).bind fun xs s => if lenOk xs then .ok (.tup xs) s else .bad := rfl
@[simp] theorem eLst_s (l : Lx) : eLst l ρ s = (l ρ s).bind fun xs s => if lenOk xs then .ok (.lst xs) s else .bad := rfl
@[simp] theorem lNil_s : lNil ρ s = .ok [] s := rfl
@[simp] theorem lCons_s (l : Lx) : lCons a l ρ s = (a ρ s).bind fun x s => (l ρ s).bind fun xs s => .ok (x :: xs) s := rfl
@[simp] theorem eFn_s (f : Fn) (l : Lx) : eFn f l ρ s = (l ρ s).bind fun xs s => .ofO s (f s xs) := rfl
@[simp] theorem eCall_s (f : Fx) (l : Lx) : eCall f l ρ s = (l ρ s).bind f := rfl
@[simp] theorem eCallF_s (f : Fx) (l : Lx) : eCallF f l ρ s = (l ρ s).bind (pureF f) := rfl
@[simp] theorem tE_s : tE a ρ s = (a ρ s).bind fun x s => .ofO s (tru s x) := rfl
@[simp] theorem tAnd_s : Ev.tAnd t u ρ s = (t ρ s).bind fun c s => if c then u ρ s else .ok false s := rfl
@[simp] theorem tOr_s : Ev.tOr t u ρ s = (t ρ s).bind fun c s => if c then .ok true s else u ρ s := rfl
@[simp] theorem tNot_s : Ev.tNot t ρ s = (t ρ s).bind fun c s => .ok (!c) s := rfl
@[simp] theorem tYes_s : Ev.tYes ρ s = .ok true s := rfl
@[simp] theorem eM1_s (g : Stt → List Nat → PV → Option PV) : eM1 g a b ρ s = (a ρ s).bind fun x s => match x with
  | .str l => (b ρ s).bind fun y s => .ofO s (g s l y)
  | _ => .bad := rfl
@[simp] theorem eCut_s (lo hi : Option Ex) : eCut a lo hi ρ s = (a ρ s).bind fun x s => (pE lo ρ s).bind fun l s => (pE hi ρ s).bind fun h s => .ofO s (cutV s x l h) := rfl
@[simp] theorem pE_none : pE none ρ s = .ok none s := rfl
@[simp] theorem pE_some : pE (some a) ρ s = (a ρ s).bind fun p s => match p with
  | .int i => .ok (some i) s
  | _ => .bad := rfl
@[simp] theorem sNop_s : sNop ρ s = .nx ρ s := rfl
@[simp] theorem sSeq_s (a b : Sx) : sSeq a b ρ s = (a ρ s).seq b := by
  unfold sSeq SRes.seq
  cases a ρ s <;> rfl
@[simp] theorem sExpr_s : sExpr a ρ s = (a ρ s).sbind fun _ s => .nx ρ s := rfl
@[simp] theorem sAsg_s (g : Gx) : sAsg g a ρ s = (a ρ s).sbind fun x s => SRes.ofO s (g x ρ) := by
  unfold sAsg
  congr 1
@[simp] theorem sPar_s (i j : Nat) : sPar i j a b ρ s = (a ρ s).sbind fun x s => (b ρ s).sbind fun y s => .nx ((ρ.set i (some x)).set j (some y)) s := rfl
@[simp] theorem sIf_s (x y : Sx) : sIf t x y ρ s = (t ρ s).sbind fun c s => if c then x ρ s else y ρ s := rfl
@[simp] theorem sRet_s : sRet a ρ s = (a ρ s).sbind fun x s => .rt x s := rfl
@[simp] theorem sRaise_s (k : Nat) : sRaise k ρ s = .err k s := rfl
@[simp] theorem gN_s (i : Nat) : Ev.gN i p ρ = some (ρ.set i (some p)) := rfl
@[simp] theorem gT_s (gs : List Gx) (l : List PV) : gT gs (.tup l) ρ = setAll gs l ρ := rfl
@[simp] theorem setAll_nil : setAll [] [] ρ = some ρ := rfl
@[simp] theorem setAll_cons (g : Gx) (gs : List Gx) (ps : List PV) : setAll (g :: gs) (p :: ps) ρ = (g p ρ).bind fun ρ => setAll gs ps ρ := rfl
@[simp] theorem lenOk_nil {α : Type} : lenOk ([] : List α) = true := rfl
@[simp] theorem lenOk_1 {α : Type} (a0 : α) : lenOk [a0] = true := rfl
@[simp] theorem lenOk_2 {α : Type} (a0 a1 : α) : lenOk [a0, a1] = true := rfl
@[simp] theorem lenOk_3 {α : Type} (a0 a1 a2 : α) : lenOk [a0, a1, a2] = true := rfl
@[simp] theorem lenOk_4 {α : Type} (a0 a1 a2 a3 : α) : lenOk [a0, a1, a2, a3] = true := rfl
@[simp] theorem lenOk_5 {α : Type} (a0 a1 a2 a3 a4 : α) : lenOk [a0, a1, a2, a3, a4] = true := rfl
@[simp] theorem lenOk_6 {α : Type} (a0 a1 a2 a3 a4 a5 : α) : lenOk [a0, a1, a2, a3, a4, a5] = true := rfl
@[simp] theorem lenOk_7 {α : Type} (a0 a1 a2 a3 a4 a5 a6 : α) : lenOk [a0, a1, a2, a3, a4, a5, a6] = true := rfl
@[simp] theorem lenOk_8 {α : Type} (a0 a1 a2 a3 a4 a5 a6 a7 : α) : lenOk [a0, a1, a2, a3, a4, a5, a6, a7] = true := rfl
@[simp] theorem lenOk_9 {α : Type} (a0 a1 a2 a3 a4 a5 a6 a7 a8 : α) : lenOk [a0, a1, a2, a3, a4, a5, a6, a7, a8] = true := rfl
@[simp] theorem lenOk_10 {α : Type} (a0 a1 a2 a3 a4 a5 a6 a7 a8 a9 : α) : lenOk [a0, a1, a2, a3, a4, a5, a6, a7, a8, a9] = true := rfl
@[simp] theorem lenOk_11 {α : Type} (a0 a1 a2 a3 a4 a5 a6 a7 a8 a9 a10 : α) : lenOk [a0, a1, a2, a3, a4, a5, a6, a7, a8, a9, a10] = true := rfl
@[simp] theorem lenOk_12 {α : Type} (a0 a1 a2 a3 a4 a5 a6 a7 a8 a9 a10 a11 : α) : lenOk [a0, a1, a2, a3, a4, a5, a6, a7, a8, a9, a10, a11] = true := rfl
theorem lenOk_of {α : Type} {l : List α} (h : l.length ≤ szl) : lenOk l = true := Nat.ble_eq_true_of_le h
end
/-! ### a call over values -/
theorem pureF_ok {F : Fx} {ps : List PV} {v : PV} {s2 : Stt} (s : Stt) (h1 : nrPs ps = true) (h2 : F ps ⟨[]⟩ = .ok v s2) (h3 : nrP v = true) : pureF F ps s = .ok v s := by
  unfold pureF
  rw [if_pos h1, h2]
  show (if nrP v then _ else _) = _
  rw [if_pos h3]
/-- a list's items, one by one -/
theorem all_map {α β : Type} {F G : α → β} : ∀ {L : List α}, L.map F = L.map G → ∀ x ∈ L, F x = G x
  | [], _, x, h => by cases h
  | a :: L, e, x, h => by
    rw [List.map_cons, List.map_cons] at e
    cases h with
    | head => exact (List.cons.inj e).1
    | tail _ h => exact all_map (List.cons.inj e).2 x h
/-! ### walks over what stays -/
/-- a comprehension whose parts change nothing -/
theorem compV_pure {l : List PV} {f : Src} {g : Gx} {t : Tx} {e : Ex} {ρ : Env} {s : Stt} {c : PV → Bool} {y : PV → PV} (hf : f s = some l) (hl : l.length ≤ szl)
    (h : ∀ x ∈ l, ∃ ρ', g x ρ = some ρ' ∧ t ρ' s = .ok (c x) s ∧ (c x = true → e ρ' s = .ok (y x) s)) :
    ∀ (k i : Nat), i + k = l.length → compV f g t e ρ (k + 1) i s = .ok (((l.drop i).filter c).map y) s := by
  intro k
  induction k with
  | zero =>
    intro i hi
    have e1 : l[i]? = none := List.getElem?_eq_none_iff.mpr (by omega)
    unfold compV
    rw [hf]
    simp only [e1]
    rw [List.drop_eq_nil_of_le (by omega)]
    rfl
  | succ k ih =>
    intro i hi
    have hlt : i < l.length := by omega
    have e1 : l[i]? = some l[i] := by simp [hlt]
    obtain ⟨ρ', h1, h2, h3⟩ := h l[i] (List.getElem_mem hlt)
    unfold compV
    rw [hf]
    simp only [e1]
    rw [if_pos (show Nat.blt i szl = true from Nat.ble_eq_true_of_le (by omega))]
    simp only [h1]
    rw [h2]
    have ih' := ih (i + 1) (by omega)
    have hd : l.drop i = l[i] :: l.drop (i + 1) := List.drop_eq_getElem_cons hlt
    rw [hd]
    simp only [Res.calm_ok, Res.bind_ok]
    cases hc : c l[i] with
    | false =>
      rw [if_neg Bool.false_ne_true, ih', List.filter_cons_of_neg (by simp [hc])]
    | true =>
      rw [if_pos rfl, h3 hc]
      simp only [Res.calm_ok, Res.bind_ok, ih']
      rw [List.filter_cons_of_pos hc]
      rfl
theorem lComp_pure {own : List Nat} {src : Ix} {f : Src} {l : List PV} {g : Gx} {t : Tx} {e : Ex} {ρ : Env} {s : Stt} (c : PV → Bool) (y : PV → PV) (hs : src ρ s = .ok f s) (hf : f s = some l) (hl : l.length ≤ szl)
    (h : ∀ x ∈ l, ∃ ρ', g x (wipeE ρ own) = some ρ' ∧ t ρ' s = .ok (c x) s ∧ (c x = true → e ρ' s = .ok (y x) s)) : lComp own g src t e ρ s = .ok ((l.filter c).map y) s := by
  unfold lComp
  rw [hs]
  simp only [Res.bind_ok, hf]
  have := compV_pure hf hl h l.length 0 (by omega)
  rw [this, List.drop_zero]
theorem eComp_pure {own : List Nat} {src : Ix} {f : Src} {l : List PV} {g : Gx} {t : Tx} {e : Ex} {ρ : Env} {s : Stt} (c : PV → Bool) (y : PV → PV) (hs : src ρ s = .ok f s) (hf : f s = some l) (hl : l.length ≤ szl)
    (h : ∀ x ∈ l, ∃ ρ', g x (wipeE ρ own) = some ρ' ∧ t ρ' s = .ok (c x) s ∧ (c x = true → e ρ' s = .ok (y x) s)) : eComp own g src t e ρ s = .ok (.lst ((l.filter c).map y)) s := by
  unfold eComp
  rw [lComp_pure c y hs hf hl h]
  rfl
/-- without tests -/
theorem lComp_map {own : List Nat} {src : Ix} {f : Src} {l : List PV} {g : Gx} {e : Ex} {ρ : Env} {s : Stt} (y : PV → PV) (hs : src ρ s = .ok f s) (hf : f s = some l) (hl : l.length ≤ szl)
    (h : ∀ x ∈ l, ∃ ρ', g x (wipeE ρ own) = some ρ' ∧ e ρ' s = .ok (y x) s) : lComp own g src Ev.tYes e ρ s = .ok (l.map y) s := by
  rw [lComp_pure (fun _ => true) y hs hf hl fun x hx => by
    obtain ⟨ρ', h1, h2⟩ := h x hx
    exact ⟨ρ', h1, rfl, fun _ => h2⟩]
  rw [List.filter_eq_self.mpr fun _ _ => rfl]
theorem eComp_map {own : List Nat} {src : Ix} {f : Src} {l : List PV} {g : Gx} {e : Ex} {ρ : Env} {s : Stt} (y : PV → PV) (hs : src ρ s = .ok f s) (hf : f s = some l) (hl : l.length ≤ szl)
    (h : ∀ x ∈ l, ∃ ρ', g x (wipeE ρ own) = some ρ' ∧ e ρ' s = .ok (y x) s) : eComp own g src Ev.tYes e ρ s = .ok (.lst (l.map y)) s := by
  unfold eComp
  rw [lComp_map y hs hf hl h]
  rfl
theorem iE_ok {a : Ex} {ρ : Env} {s : Stt} {p : PV} {l : List PV} (h : a ρ s = .ok p s) (hl : live p s = some l) : iE a ρ s = .ok (live p) s := by
  unfold iE
  rw [h]
  simp only [Res.bind_ok]
  unfold ixOk
  rw [hl]
/-- keys as they come -/
def kPut (ks : List PV) (k : PV) : List PV := if ks.any fun j => eqP j k then ks else ks ++ [k]
theorem dPut_keys : ∀ (d : List (PV × PV)) (k v : PV), (dPut d k v).map (·.1) = kPut (d.map (·.1)) k
  | [], k, v => rfl
  | (j, w) :: r, k, v => by
    have ih := dPut_keys r k v
    unfold dPut kPut
    unfold kPut at ih
    cases h : eqP j k with
    | true => simp [h]
    | false =>
      simp only [h, Bool.false_eq_true, if_false, List.map_cons, List.any_cons, Bool.false_or]
      rw [ih]
      split <;> simp
def keysL (l : List PV) : List PV := l.foldl kPut []
theorem foldl_keys (f : PV → PV × PV) : ∀ (l : List PV) (d : List (PV × PV)), (l.foldl (fun d x => dPut d (f x).1 (f x).2) d).map (·.1) = (l.map fun x => (f x).1).foldl kPut (d.map (·.1))
  | [], d => rfl
  | x :: l, d => by
    rw [List.foldl_cons, foldl_keys f l, dPut_keys, List.map_cons, List.foldl_cons]
theorem kPut_sub {ks : List PV} {k x : PV} (h : x ∈ kPut ks k) : x ∈ ks ∨ x = k := by
  unfold kPut at h
  split at h
  · exact .inl h
  · rcases List.mem_append.mp h with z | z
    · exact .inl z
    · exact .inr (List.mem_singleton.mp z)
theorem foldl_kPut_sub : ∀ {l ks : List PV} {x : PV}, x ∈ l.foldl kPut ks → x ∈ ks ∨ x ∈ l
  | [], ks, x, h => .inl h
  | k :: l, ks, x, h => by
    rcases foldl_kPut_sub (l := l) h with z | z
    · rcases kPut_sub z with w | w
      · exact .inl w
      · exact .inr (by rw [w]; exact List.mem_cons_self)
    · exact .inr (List.mem_cons_of_mem _ z)
theorem keysL_sub {l : List PV} {x : PV} (h : x ∈ keysL l) : x ∈ l := by
  rcases foldl_kPut_sub h with z | z
  · cases z
  · exact z
theorem kPut_len (ks : List PV) (k : PV) : (kPut ks k).length ≤ ks.length + 1 := by
  unfold kPut
  split <;> simp
theorem foldl_kPut_len : ∀ (l ks : List PV), (l.foldl kPut ks).length ≤ ks.length + l.length
  | [], ks => by simp
  | k :: l, ks => by
    have h1 := foldl_kPut_len l (kPut ks k)
    have h2 := kPut_len ks k
    simp only [List.foldl_cons, List.length_cons]
    omega
theorem keysL_len (l : List PV) : (keysL l).length ≤ l.length := by
  have := foldl_kPut_len l []
  simpa [keysL] using this
theorem foldl_kPut_ne : ∀ (l ks : List PV), ks ≠ [] → l.foldl kPut ks ≠ []
  | [], ks, h => h
  | k :: l, ks, h => foldl_kPut_ne l _ (by
      unfold kPut
      split
      · exact h
      · simp)
theorem keysL_ne {l : List PV} (h : l ≠ []) : keysL l ≠ [] := by
  cases l with
  | nil => exact absurd rfl h
  | cons k l => exact foldl_kPut_ne l _ (by simp [kPut])
/-- a dict comprehension over what stays -/
theorem dcompV_pure {l : List PV} {f : Src} {g : Gx} {ek ev : Ex} {ρ : Env} {s : Stt} {yk yv : PV → PV} (hf : f s = some l) (hl : l.length ≤ szl)
    (h : ∀ x ∈ l, ∃ ρ', g x ρ = some ρ' ∧ ek ρ' s = .ok (yk x) s ∧ ev ρ' s = .ok (yv x) s ∧ keyOk (yk x) = true) :
    ∀ (k i : Nat) (d : List (PV × PV)), i + k = l.length → dcompV f g Ev.tYes ek ev ρ (k + 1) i d s = .ok ((l.drop i).foldl (fun d x => dPut d (yk x) (yv x)) d) s := by
  intro k
  induction k with
  | zero =>
    intro i d hi
    have e1 : l[i]? = none := List.getElem?_eq_none_iff.mpr (by omega)
    unfold dcompV
    rw [hf]
    simp only [e1]
    rw [List.drop_eq_nil_of_le (by omega)]
    rfl
  | succ k ih =>
    intro i d hi
    have hlt : i < l.length := by omega
    have e1 : l[i]? = some l[i] := by simp [hlt]
    obtain ⟨ρ', h1, h2, h3, h4⟩ := h l[i] (List.getElem_mem hlt)
    unfold dcompV
    rw [hf]
    simp only [e1]
    rw [if_pos (show Nat.blt i szl = true from Nat.ble_eq_true_of_le (by omega))]
    simp only [h1, tYes_s, Res.calm_ok, Res.bind_ok, if_true, h2, h3, h4]
    rw [ih (i + 1) _ (by omega), List.drop_eq_getElem_cons hlt]
    rfl
end Ev
/-! EN: the laws' dice: what every law begins with. -/
namespace Ev
/-- the laws' roll, as the printer gives it, in two parts -/
def rollA : Sx := (sSeq (sAsg (Ev.gN 2) (eOp oMod (eFn bInt (lCons (eOp oIx (eV 0) (eC (.int 0))) lNil)) (eV 1)))
    (sSeq (sPut (eV 0) (eC (.int 0)) (eOp oDiv (eOp oIx (eV 0) (eC (.int 0))) (eV 1)))
    (sSeq (sRet (eV 2))
    sNop)))
def rollT : Sx := (sSeq (sPut (eV 0) (eC (.int 2)) (eC (.int 0)))
    (sSeq (sIf (tCp cGt (eV 1) (eC (.int 100000000))) (sSeq (sRet (eOp oMod (eFn bInt (lCons (eOp oAdd (eOp oMulB (eCall fBad (lCons (eV 0) (lCons (eOp oAdd (eOp oDiv (eV 1) (eC (.int 100000000))) (eC (.int 1))) lNil))) (eC (.int 100000000))) (eCall fBad (lCons (eV 0) (lCons (eC (.int 100000000)) lNil)))) lNil)) (eV 1)))
    sNop) sNop)
    (sSeq (sPut (eV 0) (eC (.int 0)) (eOp oMod (eFn bInt (lCons (eOp oAdd (eOp oAdd (eOp oMulB (eOp oIx (eV 0) (eC (.int 0))) (eC (.int 48271))) (eOp oMulB (eOp oIx (eV 0) (eC (.int 1))) (eC (.int 69621)))) (eC (.int 11))) lNil)) (eC (.int 2147483647))))
    (sSeq (sPut (eV 0) (eC (.int 1)) (eOp oAdd (eOp oIx (eV 0) (eC (.int 1))) (eC (.int 1))))
    (sSeq (sRet (eOp oMod (eFn bInt (lCons (eOp oDiv (eOp oIx (eV 0) (eC (.int 0))) (eC (.int 7))) lNil)) (eV 1)))
    sNop)))))
def rollB : Sx := (sSeq (sIf (Ev.tOr (tCp cEq (eOp oIx (eV 0) (eC (.int 2))) (eC (.int 2))) (Ev.tAnd (tCp cEq (eOp oIx (eV 0) (eC (.int 2))) (eC (.int 1))) (tCp cGt (eOp oIx (eV 0) (eC (.int 0))) (eC (.int 0))))) rollA sNop) rollT)
def rollF : Fx := mkFn 3 2 rollB
/-- at i stand three ints -/
def Dz (i : Nat) (s : Stt) : Prop := ∃ a b c : Int, s.objs[i]? = some (.lst [.int a, .int b, .int c])
theorem seq_ref {s : Stt} {i : Nat} {l : List PV} (h : s.objs[i]? = some (.lst l)) : s.seq? (.ref i) = some l := by
  simp only [Stt.seq?, h]
theorem oIx_ref {s : Stt} {i : Nat} {l : List PV} (h : s.objs[i]? = some (.lst l)) (k : Int) : oIx s (.ref i) (.int k) = atI l k := by
  unfold oIx
  simp only [seq_ref h]
theorem atI_nat {α : Type} {l : List α} {k : Nat} {x : α} (h : l[k]? = some x) : atI l (k : Int) = some x := by
  have hl := (List.getElem?_eq_some_iff.mp h).1
  unfold atI ixN
  rw [if_pos (Int.natCast_nonneg k), if_pos (Int.ofNat_lt.mpr hl)]
  simp [h]
theorem setIt_ref {s : Stt} {i : Nat} {a b c : Int} (h : s.objs[i]? = some (.lst [.int a, .int b, .int c])) (k : Int) (v : PV) : setIt s (.ref i) (.int k) v = (ixN 3 k).map fun j => s.set i (.lst ([PV.int a, .int b, .int c].set j v)) := by
  simp only [setIt, h]
  rfl
theorem get_set {s : Stt} {i : Nat} {o o' : Ob} (h : s.objs[i]? = some o) : (s.set i o').objs[i]? = some o' := by
  unfold Stt.set
  simp only
  rw [List.getElem?_set_self (List.getElem?_eq_some_iff.mp h).1]
theorem cEq_int (s : Stt) (a b : Int) : cEq s (.int a) (.int b) = some (a == b) := rfl
theorem roll_ok {i : Nat} {s : Stt} {m : Int} (h : Dz i s) (h0 : 0 < m) (h1 : m ≤ 100000000) : ∃ v s', rollF [.ref i, .int m] s = .ok (.int v) s' ∧ 0 ≤ v ∧ v < m ∧ Dz i s' := by
  obtain ⟨a, b, c, h⟩ := h
  have hm : (decide (0 < m) && decide (m < 1073741824)) = true := by simp; omega
  have hm2 : decide (0 < m) = true := by simp; omega
  have hcg : decide (100000000 < m) = false := by simp; omega
  have e0 : ∀ {s : Stt} {a b c : Int}, s.objs[i]? = some (.lst [.int a, .int b, .int c]) → oIx s (.ref i) (.int 0) = some (.int a) := fun h => by rw [oIx_ref h]; rfl
  have e1 : ∀ {s : Stt} {a b c : Int}, s.objs[i]? = some (.lst [.int a, .int b, .int c]) → oIx s (.ref i) (.int 1) = some (.int b) := fun h => by rw [oIx_ref h]; rfl
  have e2 : ∀ {s : Stt} {a b c : Int}, s.objs[i]? = some (.lst [.int a, .int b, .int c]) → oIx s (.ref i) (.int 2) = some (.int c) := fun h => by rw [oIx_ref h]; rfl
  have p0 : ∀ {s : Stt} {a b c v : Int}, s.objs[i]? = some (.lst [.int a, .int b, .int c]) → setIt s (.ref i) (.int 0) (.int v) = some (s.set i (.lst [.int v, .int b, .int c])) := fun h => by rw [setIt_ref h]; rfl
  have p1 : ∀ {s : Stt} {a b c v : Int}, s.objs[i]? = some (.lst [.int a, .int b, .int c]) → setIt s (.ref i) (.int 1) (.int v) = some (s.set i (.lst [.int a, .int v, .int c])) := fun h => by rw [setIt_ref h]; rfl
  have p2 : ∀ {s : Stt} {a b c v : Int}, s.objs[i]? = some (.lst [.int a, .int b, .int c]) → setIt s (.ref i) (.int 2) (.int v) = some (s.set i (.lst [.int a, .int b, .int v])) := fun h => by rw [setIt_ref h]; rfl
  have emod : ∀ (s : Stt) (x : Int), oMod s (.int x) (.int m) = some (.int (x % m)) := fun s x => by
    unfold oMod
    simp only [hm2, if_true]
  have ediv : ∀ (s : Stt) (x : Int), oDiv s (.int x) (.int m) = some (.int (x / m)) := fun s x => by
    unfold oDiv
    simp only [hm, if_true]
  have run : rollF [.ref i, .int m] s = (rollB [some (.ref i), some (.int m), none] s).fn := mkFn_e 3 2 rollB _ _ rfl
  rw [run]
  unfold rollB
  have gt0 : ∀ (s : Stt) (x y : Int), cGt s (.int x) (.int y) = some (decide (y < x)) := fun _ _ _ => rfl
  have bi : ∀ (s : Stt) (x : Int), bInt s [.int x] = some (.int x) := fun _ _ => rfl
  have ad : ∀ (s : Stt) (x y : Int), oAdd s (.int x) (.int y) = some (.int (x + y)) := fun _ _ _ => rfl
  have mu1 : ∀ (s : Stt) (x : Int), oMulB s (.int x) (.int 48271) = some (.int (x * 48271)) := fun s x => by simp [oMulB, oMulA, oMul, mulOk]
  have mu2 : ∀ (s : Stt) (x : Int), oMulB s (.int x) (.int 69621) = some (.int (x * 69621)) := fun s x => by simp [oMulB, oMulA, oMul, mulOk]
  have md : ∀ (s : Stt) (x : Int), oMod s (.int x) (.int 2147483647) = some (.int (x % 2147483647)) := fun s x => rfl
  have dv : ∀ (s : Stt) (x : Int), oDiv s (.int x) (.int 7) = some (.int (x / 7)) := fun s x => rfl
  have put : ∀ (ρ : Env) (s : Stt) (o k v : Ex), sPut o k v ρ s = (v ρ s).sbind fun v s => (o ρ s).sbind fun o s => (k ρ s).sbind fun k s => match setIt s o k v with | some s => .nx ρ s | none => .bad := fun _ _ _ _ _ => rfl
  have set2 : ∀ (x : PV), ([some (.ref i), some (.int m), none] : Env).set 2 (some x) = [some (.ref i), some (.int m), some x] := fun _ => rfl
  have tail : ∀ {s : Stt} {a b c : Int}, s.objs[i]? = some (.lst [.int a, .int b, .int c]) → ∃ v s', (rollT [some (.ref i), some (.int m), none] s) = .rt (.int v) s' ∧ 0 ≤ v ∧ v < m ∧ Dz i s' := fun {s a b c} h => by
    have g1 := get_set (o' := .lst [.int a, .int b, .int 0]) h
    have g2 := get_set (o' := .lst [.int ((a * 48271 + b * 69621 + 11) % 2147483647), .int b, .int 0]) g1
    have g3 := get_set (o' := .lst [.int ((a * 48271 + b * 69621 + 11) % 2147483647), .int (b + 1), .int 0]) g2
    refine ⟨((a * 48271 + b * 69621 + 11) % 2147483647) / 7 % m, _, ?_, Int.emod_nonneg _ (by omega), Int.emod_lt_of_pos _ h0, ⟨_, _, _, g3⟩⟩
    unfold rollT
    simp only [sSeq_s, put, eC_s, eV_s, List.getElem?_cons_zero, List.getElem?_cons_succ, Res.var_some, Res.sbind_ok, Res.bind_ok, p2 h, SRes.seq_nx, sIf_s, tCp_s, gt0, hcg, Res.ofO_some, Bool.false_eq_true, if_false, sNop_s, eOp_s, eFn_s, lCons_s, lNil_s, e0 g1, e1 g1, mu1, mu2, ad, bi, md, p0 g1, e1 g2, p1 g2, sRet_s, e0 g3, dv, emod, SRes.seq_rt]
  simp only [sSeq_s, sIf_s, tOr_s, tAnd_s, tCp_s, eOp_s, eV_s, eC_s, List.getElem?_cons_zero, List.getElem?_cons_succ, Res.var_some, Res.bind_ok, e2 h, e0 h, Res.ofO_some, cEq_int, gt0, Res.sbind_ok]
  have one : rollA [some (.ref i), some (.int m), none] s = .rt (.int (a % m)) (s.set i (.lst [.int (a / m), .int b, .int c])) := by
    unfold rollA
    simp only [sSeq_s, sAsg_s, put, eC_s, eV_s, List.getElem?_cons_zero, List.getElem?_cons_succ, Res.var_some, Res.sbind_ok, Res.bind_ok, SRes.seq_nx, Res.ofO_some, eOp_s, eFn_s, lCons_s, lNil_s, e0 h, bi, emod, ediv, gN_s, SRes.ofO_some, set2, p0 h, sRet_s, SRes.seq_rt]
  have fin1 : ∃ v s', (SRes.seq (rollA [some (.ref i), some (.int m), none] s) rollT).fn = .ok (.int v) s' ∧ 0 ≤ v ∧ v < m ∧ Dz i s' :=
    ⟨a % m, s.set i (.lst [.int (a / m), .int b, .int c]), by rw [one]; rfl, Int.emod_nonneg _ (by omega), Int.emod_lt_of_pos _ h0, ⟨_, _, _, get_set h⟩⟩
  obtain ⟨v, s', t1, t2, t3, t4⟩ := tail h
  have fin2 : ∃ v s', (SRes.seq (sNop [some (.ref i), some (.int m), none] s) rollT).fn = .ok (.int v) s' ∧ 0 ≤ v ∧ v < m ∧ Dz i s' := ⟨v, s', by rw [sNop_s, SRes.seq_nx, t1]; rfl, t2, t3, t4⟩
  cases c == 2 with
  | true => exact fin1
  | false =>
    cases c == 1 with
    | false => exact fin2
    | true =>
      cases decide (0 < a) with
      | true => exact fin1
      | false => exact fin2
def diceB : Sx := (sSeq (sIf (tCh cLt cLt (eOp oSub (eC (.int 0)) (eC (.int 10))) (eV 0) (eC (.int 10))) (sSeq (sRet (eLstM (lCons (eFn bAbs (lCons (eV 0) lNil)) (lCons (eC (.int 0)) (lCons (eC (.int 2)) lNil)))))
    sNop) sNop)
    (sSeq (sRet (eLstM (lCons (eV 0) (lCons (eOp oAdd (eC (.int 1)) (eOp oMod (eFn bInt (lCons (eV 0) lNil)) (eC (.int 1009)))) (lCons (eFn bInt (lCons (eCp cGe (eV 0) (eOp oPow (eC (.int 10)) (eC (.int 18)))) lNil)) lNil)))))
    sNop))
def diceF : Fx := mkFn 1 1 diceB
def roundsB : Sx := (sSeq (sAsg (Ev.gN 2) (eCut (eV 0) none (some (eV 1))))
    (sSeq (sIf (tCp cEq (eV 2) (eLst lNil)) (sSeq (sAsg (Ev.gN 2) (eLst (lCons (eC (.int 0)) lNil)))
    sNop) sNop)
    (sSeq (sRet (eComp [3] (Ev.gN 3) (iE (eV 2)) Ev.tYes (eCall diceF (lCons (eV 3) lNil))))
    sNop)))
def roundsF : Fx := mkFn 4 2 roundsB
theorem new_get (s : Stt) (o : Ob) : (s.new o).objs[s.objs.length]? = some o := by simp [Stt.new]
theorem eLstM_s (l : Lx) (ρ : Env) (s : Stt) : eLstM l ρ s = (l ρ s).bind fun xs s => if lenOk xs then .ok (.ref s.objs.length) (s.new (.lst xs)) else .bad := rfl
theorem dice_ok (z : Int) (s : Stt) : ∃ a b c : Int, diceF [.int z] s = .ok (.ref s.objs.length) (s.new (.lst [.int a, .int b, .int c])) := by
  have run : diceF [.int z] s = (diceB [some (.int z)] s).fn := mkFn_e 1 1 diceB _ _ rfl
  rw [run]
  unfold diceB
  have t : tCh cLt cLt (eOp oSub (eC (.int 0)) (eC (.int 10))) (eV 0) (eC (.int 10)) [some (.int z)] s = .ok (decide (-10 < z) && decide (z < 10)) s := by
    have e : tCh cLt cLt (eOp oSub (eC (.int 0)) (eC (.int 10))) (eV 0) (eC (.int 10)) [some (.int z)] s = match cLt s (.int (0 - 10)) (.int z) with
      | some true => .ofO s (cLt s (.int z) (.int 10))
      | some false => .ok false s
      | none => .bad := rfl
    rw [e]
    have e2 : cLt s (.int (0 - 10)) (.int z) = some (decide ((0 : Int) - 10 < z)) := rfl
    rw [e2]
    have e3 : decide ((0 : Int) - 10 < z) = decide (-10 < z) := by congr 1
    rw [e3]
    cases decide (-10 < z) <;> rfl
  rw [sSeq_s, sIf_s, t, Res.sbind_ok]
  cases decide (-10 < z) && decide (z < 10) with
  | true => exact ⟨_, _, _, rfl⟩
  | false =>
    refine ⟨z, 1 + z % 1009, b2n (decide ((10 : Int) ^ 18 ≤ z)), ?_⟩
    rfl
theorem rounds_ok {s : Stt} {p : PV} {ns : List Int} (h : s.lst? p = some (ns.map .int)) : ∃ i s', roundsF [p, .int 1] s = .ok (.lst [.ref i]) s' ∧ Dz i s' := by
  have run : roundsF [p, .int 1] s = (roundsB [some p, some (.int 1), none, none] s).fn := mkFn_e 4 2 roundsB _ _ rfl
  have cut : cutV s p none (some 1) = some (.lst (cutL (ns.map PV.int) none (some 1))) := by
    cases p with
    | lst l => have e : l = ns.map PV.int := Option.some.inj h; rw [e]; rfl
    | ref i =>
      have e : cutV s (.ref i) none (some 1) = (s.lst? (.ref i)).map fun l => .lst (cutL l none (some 1)) := rfl
      rw [e, h]
      rfl
    | _ => cases h
  have one : ∀ z : Int, eComp [3] (Ev.gN 3) (iE (eV 2)) Ev.tYes (eCall diceF (lCons (eV 3) lNil)) [some p, some (.int 1), some (.lst [.int z]), none] s = (diceF [.int z] s).calm.bind fun y s => .ok (.lst [y]) s := fun z => by
    have e : eComp [3] (Ev.gN 3) (iE (eV 2)) Ev.tYes (eCall diceF (lCons (eV 3) lNil)) [some p, some (.int 1), some (.lst [.int z]), none] s = ((diceF [.int z] s).calm.bind fun y s => (Res.ok [] s).bind fun ys s => .ok (y :: ys) s).bind fun xs s => .ok (.lst xs) s := rfl
    rw [e]
    cases diceF [.int z] s <;> rfl
  have fin : ∀ z : Int, ∃ i s', ((sRet (eComp [3] (Ev.gN 3) (iE (eV 2)) Ev.tYes (eCall diceF (lCons (eV 3) lNil))) [some p, some (.int 1), some (.lst [.int z]), none] s).seq sNop).fn = .ok (.lst [.ref i]) s' ∧ Dz i s' := fun z => by
    obtain ⟨a, b, c, e⟩ := dice_ok z s
    refine ⟨s.objs.length, s.new (.lst [.int a, .int b, .int c]), ?_, ⟨a, b, c, new_get s _⟩⟩
    rw [sRet_s, one, e]
    rfl
  rw [run]
  unfold roundsB
  have st1 : sAsg (Ev.gN 2) (eCut (eV 0) none (some (eV 1))) [some p, some (.int 1), none, none] s = .nx [some p, some (.int 1), some (.lst (cutL (ns.map PV.int) none (some 1))), none] s := by
    have e : sAsg (Ev.gN 2) (eCut (eV 0) none (some (eV 1))) [some p, some (.int 1), none, none] s = (Res.ofO s (cutV s p none (some 1))).sbind fun x s => .nx [some p, some (.int 1), some x, none] s := rfl
    rw [e, cut]
    rfl
  rw [sSeq_s, st1, SRes.seq_nx, sSeq_s]
  cases ns with
  | nil =>
    obtain ⟨i, s', e, d⟩ := fin 0
    exact ⟨i, s', e, d⟩
  | cons z zs =>
    obtain ⟨i, s', e, d⟩ := fin z
    refine ⟨i, s', ?_, d⟩
    have c1 : cutL ((z :: zs).map PV.int) none (some 1) = [.int z] := by
      have q : (min 1 ((zs.map PV.int).length + 1)) = 1 := by omega
      simp [cutL, sIx]
    rw [c1]
    have e5 : sIf (tCp cEq (eV 2) (eLst lNil)) (sSeq (sAsg (Ev.gN 2) (eLst (lCons (eC (.int 0)) lNil))) sNop) sNop [some p, some (.int 1), some (.lst [.int z]), none] s = .nx [some p, some (.int 1), some (.lst [.int z]), none] s := rfl
    rw [e5, SRes.seq_nx, sSeq_s]
    exact e
/-! ### walks that change what stands -/
theorem compV_inv {P : Stt → Prop} {R : PV → Prop} {l : List PV} {f : Src} {g : Gx} {e : Ex} {ρ : Env} (hf : ∀ s, f s = some l) (hl : l.length ≤ szl)
    (h : ∀ x ∈ l, ∀ s, P s → ∃ ρ' y s', g x ρ = some ρ' ∧ e ρ' s = .ok y s' ∧ P s' ∧ R y) :
    ∀ (k i : Nat) (s : Stt), i + k = l.length → P s → ∃ ys s', compV f g Ev.tYes e ρ (k + 1) i s = .ok ys s' ∧ ys.length = k ∧ (∀ y ∈ ys, R y) ∧ P s' := by
  intro k
  induction k with
  | zero =>
    intro i s hi hP
    have e1 : l[i]? = none := List.getElem?_eq_none_iff.mpr (by omega)
    refine ⟨[], s, ?_, rfl, (fun _ h => by simp at h), hP⟩
    unfold compV
    rw [hf]
    simp only [e1]
  | succ k ih =>
    intro i s hi hP
    have hlt : i < l.length := by omega
    have e1 : l[i]? = some l[i] := by simp [hlt]
    obtain ⟨ρ', y, s1, h1, h2, h3, h4⟩ := h l[i] (List.getElem_mem hlt) s hP
    obtain ⟨ys, s2, h5, h6, h7, h8⟩ := ih (i + 1) s1 (by omega) h3
    refine ⟨y :: ys, s2, ?_, by simp [h6], fun z hz => ?_, h8⟩
    · unfold compV
      rw [hf]
      simp only [e1]
      rw [if_pos (show Nat.blt i szl = true from Nat.ble_eq_true_of_le (by omega))]
      simp only [h1, tYes_s, Res.calm_ok, Res.bind_ok, if_true, h2, h5]
    · cases hz with
      | head => exact h4
      | tail _ hz => exact h7 z hz
theorem lComp_inv {P : Stt → Prop} {R : PV → Prop} {own : List Nat} {src : Ix} {f : Src} {l : List PV} {g : Gx} {e : Ex} {ρ : Env} {s s0 : Stt} (hs : src ρ s = .ok f s0) (hf : ∀ s, f s = some l) (hl : l.length ≤ szl) (hP : P s0)
    (h : ∀ x ∈ l, ∀ s, P s → ∃ ρ' y s', g x (wipeE ρ own) = some ρ' ∧ e ρ' s = .ok y s' ∧ P s' ∧ R y) : ∃ ys s', lComp own g src Ev.tYes e ρ s = .ok ys s' ∧ ys.length = l.length ∧ (∀ y ∈ ys, R y) ∧ P s' := by
  obtain ⟨ys, s', h1, h2, h3, h4⟩ := compV_inv (ρ := wipeE ρ own) hf hl h l.length 0 s0 (by omega) hP
  refine ⟨ys, s', ?_, h2, h3, h4⟩
  unfold lComp
  rw [hs]
  simp only [Res.bind_ok, hf, h1]
theorem eComp_inv {P : Stt → Prop} {R : PV → Prop} {own : List Nat} {src : Ix} {f : Src} {l : List PV} {g : Gx} {e : Ex} {ρ : Env} {s s0 : Stt} (hs : src ρ s = .ok f s0) (hf : ∀ s, f s = some l) (hl : l.length ≤ szl) (hP : P s0)
    (h : ∀ x ∈ l, ∀ s, P s → ∃ ρ' y s', g x (wipeE ρ own) = some ρ' ∧ e ρ' s = .ok y s' ∧ P s' ∧ R y) : ∃ ys s', eComp own g src Ev.tYes e ρ s = .ok (.lst ys) s' ∧ ys.length = l.length ∧ (∀ y ∈ ys, R y) ∧ P s' := by
  obtain ⟨ys, s', h1, h2, h3, h4⟩ := lComp_inv (R := R) hs hf hl hP h
  refine ⟨ys, s', ?_, h2, h3, h4⟩
  unfold eComp
  rw [h1]
  rfl
theorem rng_len : ∀ (n : Nat) (i : Int), (rng i n).length = n
  | 0, i => rfl
  | n + 1, i => by unfold rng; rw [List.length_cons, rng_len n]
/-- a roll, called -/
theorem eRoll {F : Fx} {d : Ex} {i : Nat} {ρ : Env} {s : Stt} {m : Int} (hF : F = rollF) (hd : d ρ s = .ok (.ref i) s) (h : Dz i s) (h0 : 0 < m) (h1 : m ≤ 100000000) : ∃ v s', eCall F (lCons d (lCons (eC (.int m)) lNil)) ρ s = .ok (.int v) s' ∧ 0 ≤ v ∧ v < m ∧ Dz i s' := by
  obtain ⟨v, s', e, r⟩ := roll_ok h h0 h1
  refine ⟨v, s', ?_, r⟩
  simp only [eCall_s, lCons_s, lNil_s, eC_s, hd, Res.bind_ok, hF, e]
/-- range(e), e what a roll gives -/
theorem iRange1_ok {a : Ex} {ρ : Env} {s s' : Stt} {j : Int} (h : a ρ s = .ok (.int j) s') (h0 : 0 ≤ j) (h1 : j ≤ 1000000) : iRange1 a ρ s = .ok (fun _ => some (rng 0 j.toNat)) s' := by
  unfold iRange1
  rw [h]
  simp only [Res.bind_ok]
  rw [if_pos]
  unfold rngOk
  simp only [Bool.and_eq_true, decide_eq_true_eq]
  omega
/-- one of a list's, rolled -/
theorem ePick {F : Fx} {d e : Ex} {i : Nat} {ρ : Env} {s : Stt} {L : List PV} {m : Int} (hF : F = rollF) (he : e ρ s = .ok (.lst L) s) (hm : m = (L.length : Int)) (hd : d ρ s = .ok (.ref i) s) (h : Dz i s) (h0 : 0 < L.length) (h1 : L.length ≤ 100000) :
    ∃ x s', eOp oIx e (eCall F (lCons d (lCons (eC (.int m)) lNil))) ρ s = .ok x s' ∧ x ∈ L ∧ Dz i s' := by
  subst hm
  obtain ⟨v, s', e1, v0, v1, dz⟩ := eRoll hF hd h (m := (L.length : Int)) (by omega) (by omega)
  have hv : v.toNat < L.length := by omega
  refine ⟨L[v.toNat], s', ?_, List.getElem_mem hv, dz⟩
  rw [eOp_s, he, Res.bind_ok, e1, Res.bind_ok]
  have q : oIx s' (.lst L) (.int v) = atI L v := rfl
  rw [q]
  have ev : atI L v = some L[v.toNat] := by
    have e2 : atI L ((v.toNat : Nat) : Int) = some L[v.toNat] := atI_nat (by simp [hv])
    have e3 : ((v.toNat : Nat) : Int) = v := by omega
    rwa [e3] at e2
  rw [ev]
  rfl
theorem log_small {n : Nat} (h : n < 2 ^ 64) : Nat.blt n.log2 1920 = true := by
  apply Nat.ble_eq_true_of_le
  by_cases hn : n = 0
  · subst hn; decide
  · have := (Nat.log2_lt hn).mpr h
    omega
theorem bStr_ok (s : Stt) {i : Int} (h0 : 0 ≤ i) (h1 : i < 1000000) : bStr s [.int i] = some (.str (decT i)) := by
  unfold bStr
  simp only
  rw [if_pos (log_small (by omega))]
theorem forV_inv {P : Env → Stt → Prop} {l : List PV} {f : Src} {g : Gx} {b : Sx} (hf : ∀ s, f s = some l) (h : ∀ x ∈ l, ∀ ρ s, P ρ s → ∃ ρ1 ρ2 s2, g x ρ = some ρ1 ∧ b ρ1 s = .nx ρ2 s2 ∧ P ρ2 s2) :
    ∀ (k i : Nat) (ρ : Env) (s : Stt), i + k = l.length → P ρ s → ∃ ρ' s', forV f g b (k + 1) i ρ s = .nx ρ' s' ∧ P ρ' s' := by
  intro k
  induction k with
  | zero =>
    intro i ρ s hi hP
    have e1 : l[i]? = none := List.getElem?_eq_none_iff.mpr (by omega)
    refine ⟨ρ, s, ?_, hP⟩
    unfold forV
    rw [hf]
    simp only [e1]
  | succ k ih =>
    intro i ρ s hi hP
    have hlt : i < l.length := by omega
    have e1 : l[i]? = some l[i] := by simp [hlt]
    obtain ⟨ρ1, ρ2, s2, h1, h2, h3⟩ := h l[i] (List.getElem_mem hlt) ρ s hP
    obtain ⟨ρ', s', h4, h5⟩ := ih (i + 1) ρ2 s2 (by omega) h3
    refine ⟨ρ', s', ?_, h5⟩
    unfold forV
    rw [hf]
    simp only [e1, h1, h2, h4]
theorem sFor_inv {P : Env → Stt → Prop} {l : List PV} {f : Src} {g : Gx} {src : Ix} {b : Sx} {ρ : Env} {s s0 : Stt} (hs : src ρ s = .ok f s0) (hf : ∀ s, f s = some l) (hP : P ρ s0)
    (h : ∀ x ∈ l, ∀ ρ s, P ρ s → ∃ ρ1 ρ2 s2, g x ρ = some ρ1 ∧ b ρ1 s = .nx ρ2 s2 ∧ P ρ2 s2) : ∃ ρ' s', sFor g src b ρ s = .nx ρ' s' ∧ P ρ' s' := by
  obtain ⟨ρ', s', e, r⟩ := forV_inv hf h l.length 0 ρ s0 (by omega) hP
  refine ⟨ρ', s', ?_, r⟩
  unfold sFor
  rw [hs]
  simp only [Res.sbind_ok, hf]
  exact e
/-! ### data that is compared with itself -/
theorem dOk_str (n : Nat) (l : List Nat) : dOk n (.str l) = true := by cases n <;> rfl
theorem dOk_int (n : Nat) (i : Int) : dOk n (.int i) = true := by cases n <;> rfl
theorem dOk_non (n : Nat) : dOk n .non = true := by cases n <;> rfl
theorem dOk_bl (n : Nat) (b : Bool) : dOk n (.bl b) = true := by cases n <;> rfl
theorem dOk_tup (n : Nat) (l : List PV) : dOk (n + 1) (.tup l) = dOks n l := rfl
theorem dOk_lst (n : Nat) (l : List PV) : dOk (n + 1) (.lst l) = dOks n l := rfl
theorem dOks_nil (n : Nat) : dOks n [] = true := by cases n <;> rfl
theorem dOks_cons (n : Nat) (x : PV) (l : List PV) : dOks n (x :: l) = (dOk n x && dOks n l) := by cases n <;> rfl
theorem dOks_all (n : Nat) : ∀ {l : List PV}, (∀ x ∈ l, dOk n x = true) → dOks n l = true
  | [], _ => dOks_nil n
  | x :: l, h => by rw [dOks_cons, h x List.mem_cons_self, dOks_all n fun y hy => h y (List.mem_cons_of_mem _ hy)]; rfl
theorem dOks_strs (n : Nat) (l : List (List Nat)) : dOks n (l.map .str) = true := dOks_all n fun x hx => by
  obtain ⟨y, _, rfl⟩ := List.mem_map.mp hx
  exact dOk_str n y
theorem dOks_ints (n : Nat) (l : List Int) : dOks n (l.map .int) = true := dOks_all n fun x hx => by
  obtain ⟨y, _, rfl⟩ := List.mem_map.mp hx
  exact dOk_int n y
theorem val_of {s : Stt} {p : PV} (h : dOk 60 p = true) : s.val p = p := by
  cases p with
  | ref i => cases h
  | _ => rfl
theorem cEq_dat (s : Stt) {p q : PV} (hp : dOk 60 p = true) (hq : dOk 60 q = true) : cEq s p q = some (eqP p q) := by
  unfold cEq
  rw [val_of hp, val_of hq, hp, hq]
  rfl
theorem cNe_dat (s : Stt) {p q : PV} (hp : dOk 60 p = true) (hq : dOk 60 q = true) : cNe s p q = some (!eqP p q) := by
  unfold cNe
  rw [cEq_dat s hp hq]
  rfl
theorem cNe_refl (s : Stt) {p : PV} (hp : dOk 60 p = true) : cNe s p p = some false := by
  rw [cNe_dat s hp hp, eqP_refl 60 p hp]
  rfl
/-- a check that holds: the statement goes on -/
theorem chk_nx {t : Tx} {a : Sx} {ρ : Env} {s : Stt} (h : t ρ s = .ok false s) : sIf t a sNop ρ s = .nx ρ s := by
  rw [sIf_s, h]
  rfl
theorem tOr_ff {t u : Tx} {ρ : Env} {s : Stt} (h1 : t ρ s = .ok false s) (h2 : u ρ s = .ok false s) : Ev.tOr t u ρ s = .ok false s := by
  rw [tOr_s, h1]
  exact h2
/-- two sides that come to the same -/
theorem tNe_same {a b : Ex} {ρ : Env} {s : Stt} {p : PV} (ha : a ρ s = .ok p s) (hb : b ρ s = .ok p s) (hp : dOk 60 p = true) : tCp cNe a b ρ s = .ok false s := by
  rw [tCp_s, ha, Res.bind_ok, hb, Res.bind_ok, cNe_refl s hp]
  rfl
theorem bLen_lst (s : Stt) (l : List PV) : bLen s [.lst l] = some (.int l.length) := rfl
theorem bTuple_lst (s : Stt) (l : List PV) : bTuple s [.lst l] = some (.tup l) := rfl
theorem bList_tup (s : Stt) (l : List PV) : bList s [.tup l] = some (.lst l) := rfl
end Ev
/-! EO: any, all, dicts made of pairs, what stands in a list. -/
namespace Ev
theorem anyV_pure {b : Bool} {l : List PV} {f : Src} {g : Gx} {e : Ex} {ρ : Env} {s : Stt} {c : PV → Bool} (hf : f s = some l) (h : ∀ x ∈ l, ∃ ρ', g x ρ = some ρ' ∧ e ρ' s = .ok (.bl (c x)) s) :
    ∀ (k i : Nat), i + k = l.length → anyV b f g Ev.tYes e ρ (k + 1) i s = .ok (if (l.drop i).any (fun x => c x == b) then b else !b) s := by
  intro k
  induction k with
  | zero =>
    intro i hi
    have e1 : l[i]? = none := List.getElem?_eq_none_iff.mpr (by omega)
    unfold anyV
    rw [hf]
    simp only [e1]
    rw [List.drop_eq_nil_of_le (by omega)]
    rfl
  | succ k ih =>
    intro i hi
    have hlt : i < l.length := by omega
    have e1 : l[i]? = some l[i] := by simp [hlt]
    obtain ⟨ρ', h1, h2⟩ := h l[i] (List.getElem_mem hlt)
    unfold anyV
    rw [hf]
    simp only [e1, h1, tYes_s, Res.calm_ok, Res.bind_ok, if_true, h2]
    rw [ih (i + 1) (by omega), List.drop_eq_getElem_cons hlt, List.any_cons]
    cases c l[i] == b <;> rfl
theorem eAny_pure {b : Bool} {own : List Nat} {src : Ix} {f : Src} {l : List PV} {g : Gx} {e : Ex} {ρ : Env} {s : Stt} (c : PV → Bool) (hs : src ρ s = .ok f s) (hf : f s = some l)
    (h : ∀ x ∈ l, ∃ ρ', g x (wipeE ρ own) = some ρ' ∧ e ρ' s = .ok (.bl (c x)) s) : eAny b own g src Ev.tYes e ρ s = .ok (.bl (if l.any (fun x => c x == b) then b else !b)) s := by
  unfold eAny
  rw [hs]
  simp only [Res.bind_ok, hf]
  rw [anyV_pure hf h l.length 0 (by omega), List.drop_zero]
  rfl
theorem eAny_t {own : List Nat} {src : Ix} {f : Src} {l : List PV} {g : Gx} {e : Ex} {ρ : Env} {s : Stt} (c : PV → Bool) (hs : src ρ s = .ok f s) (hf : f s = some l)
    (h : ∀ x ∈ l, ∃ ρ', g x (wipeE ρ own) = some ρ' ∧ e ρ' s = .ok (.bl (c x)) s) : eAny true own g src Ev.tYes e ρ s = .ok (.bl (l.any c)) s := by
  rw [eAny_pure c hs hf h]
  have e1 : (fun x => c x == true) = c := by funext x; cases c x <;> rfl
  rw [e1]
  cases l.any c <;> rfl
theorem eDcomp_pure {own : List Nat} {src : Ix} {f : Src} {l : List PV} {g : Gx} {ek ev : Ex} {ρ : Env} {s : Stt} (yk yv : PV → PV) (hs : src ρ s = .ok f s) (hf : f s = some l) (hl : l.length ≤ szl)
    (h : ∀ x ∈ l, ∃ ρ', g x (wipeE ρ own) = some ρ' ∧ ek ρ' s = .ok (yk x) s ∧ ev ρ' s = .ok (yv x) s ∧ keyOk (yk x) = true) :
    ∃ d, eDcomp own g src Ev.tYes ek ev ρ s = .ok (.dct d) s ∧ d.map (·.1) = keysL (l.map yk) := by
  refine ⟨l.foldl (fun d x => dPut d (yk x) (yv x)) [], ?_, foldl_keys (fun x => (yk x, yv x)) l []⟩
  unfold eDcomp
  rw [hs]
  simp only [Res.bind_ok, hf]
  rw [dcompV_pure hf hl h l.length 0 [] (by omega), List.drop_zero]
  rfl
theorem prsP_map (y : PV → PV) : ∀ {l : List PV}, (∀ x ∈ l, keyOk x = true) → prsP (l.map fun x => .tup [x, y x]) = some (l.map fun x => (x, y x))
  | [], _ => rfl
  | x :: l, h => by
    have h1 := h x List.mem_cons_self
    have h2 := prsP_map y (l := l) fun z hz => h z (List.mem_cons_of_mem _ hz)
    rw [List.map_cons, List.map_cons]
    unfold prsP
    have e : prP (.tup [x, y x]) = some (x, y x) := by unfold prP; simp only; rw [if_pos h1]
    rw [e, h2]
    rfl
theorem bDict_ok (s : Stt) (y : PV → PV) {l : List PV} (h : ∀ x ∈ l, keyOk x = true) (hl : l.length ≤ szl) : ∃ d, bDict s [.lst (l.map fun x => .tup [x, y x])] = some (.dct d) ∧ d.map (·.1) = keysL l := by
  refine ⟨(l.map fun x => (x, y x)).foldl (fun d p => dPut d p.1 p.2) [], ?_, ?_⟩
  · unfold bDict
    simp only [Stt.lst?, Option.bind_some, prsP_map y h]
    first
      | rfl
      | (rw [if_pos (lenOk_of (by simpa using hl))]; rfl)
      | skip
  · rw [List.foldl_map]
    have := foldl_keys (fun x => (x, y x)) l []
    simpa [keysL] using this
/-- x stands in l -/
def inL (l : List PV) (x : PV) : Bool := l.any fun z => eqP z x
theorem cIn_lst (s : Stt) {l : List PV} {x : PV} (hx : dOk 60 x = true) (hl : dOks 60 l = true) : cIn s x (.lst l) = some (inL l x) := by
  have e : cIn s x (.lst l) = if dOk 60 x && dOks 60 l then some (l.any fun z => eqP z x) else none := by cases x <;> rfl
  rw [e, hx, hl]
  rfl
theorem cIn_tup (s : Stt) {l : List PV} {x : PV} (hx : dOk 60 x = true) (hl : dOks 60 l = true) : cIn s x (.tup l) = some (inL l x) := by
  have e : cIn s x (.tup l) = if dOk 60 x && dOks 60 l then some (l.any fun z => eqP z x) else none := by cases x <;> rfl
  rw [e, hx, hl]
  rfl
/-- nothing is left just where none fits -/
theorem filter_none {l : List PV} {c : PV → Bool} : eqPs (l.filter c) [] = !(l.any c) := by
  induction l with
  | nil => rfl
  | cons x l ih =>
    cases h : c x with
    | true => rw [List.filter_cons_of_pos h, List.any_cons, h]; rfl
    | false => rw [List.filter_cons_of_neg (by simp [h]), List.any_cons, h, ih]; rfl
theorem strs_dOk {n : Nat} {l : List (List Nat)} {x : PV} (h : x ∈ l.map PV.str) : dOk n x = true := by
  obtain ⟨y, _, rfl⟩ := List.mem_map.mp h
  exact dOk_str n y
theorem strs_key {l : List (List Nat)} {x : PV} (h : x ∈ l.map PV.str) : keyOk x = true := by
  obtain ⟨y, _, rfl⟩ := List.mem_map.mp h
  rfl
end Ev
/-! EvP: lists by their places. -/
namespace Ev
theorem rng_range : ∀ (n : Nat) (i : Int), rng i n = (List.range n).map fun d => .int (i + (d : Nat))
  | 0, i => rfl
  | n + 1, i => by
    unfold rng
    rw [rng_range n, List.range_succ_eq_map, List.map_cons, List.map_map]
    congr 1
    · congr 1; omega
    · refine List.map_congr_left fun d _ => ?_
      show PV.int _ = PV.int _
      congr 1
      show i + 1 + (d : Int) = i + ((d + 1 : Nat) : Int)
      omega
theorem enumL_map (p : Nat → PV) : ∀ (l : List Nat) (k : Int), (∀ (j i : Nat), l[j]? = some i → (i : Int) = k + (j : Nat)) → enumL k (l.map p) = l.map fun i => .tup [.int (i : Nat), p i]
  | [], _, _ => rfl
  | i :: l, k, h => by
    show PV.tup [.int k, p i] :: enumL (k + 1) (l.map p) = _
    have e0 : (i : Int) = k := by have := h 0 i rfl; omega
    rw [enumL_map p l (k + 1) fun j i' e => by have := h (j + 1) i' (by simpa using e); omega]
    rw [← e0]
    rfl
theorem enumL_range (p : Nat → PV) (n : Nat) : enumL 0 ((List.range n).map p) = (List.range n).map fun i => .tup [.int (i : Nat), p i] :=
  enumL_map p _ 0 fun j i e => by
    rw [List.getElem?_range] at e
    · cases e; omega
    · obtain ⟨h, _⟩ := List.getElem?_eq_some_iff.mp e
      simpa using h
section
variable {own : List Nat} {src : Ix} {f : Src} {n : Nat} {p : Nat → PV} {g : Gx} {t : Tx} {e : Ex} {ρ : Env} {s : Stt}
open Classical in
theorem lComp_ixF (c : Nat → Bool) (y : Nat → PV) (hs : src ρ s = .ok f s) (hf : f s = some ((List.range n).map p)) (hl : n ≤ szl)
    (h : ∀ i, i < n → ∃ ρ', g (p i) (wipeE ρ own) = some ρ' ∧ t ρ' s = .ok (c i) s ∧ (c i = true → e ρ' s = .ok (y i) s)) : lComp own g src t e ρ s = .ok (((List.range n).filter c).map y) s := by
  have key : ∀ i, i < n → ∀ j, j < n → p i = p j → c i = c j ∧ (c j = true → y i = y j) := fun i hi j hj q => by
    obtain ⟨r1, a1, a2, a3⟩ := h i hi
    obtain ⟨r2, b1, b2, b3⟩ := h j hj
    rw [q, b1] at a1
    cases a1
    rw [b2] at a2
    have ec : c j = c i := (Res.ok.inj a2).1
    refine ⟨ec.symm, fun k => ?_⟩
    have z := a3 (ec ▸ k)
    rw [b3 k] at z
    exact ((Res.ok.inj z).1).symm
  let c' : PV → Bool := fun v => if h : ∃ i, i < n ∧ p i = v then c h.choose else false
  let y' : PV → PV := fun v => if h : ∃ i, i < n ∧ p i = v then y h.choose else .non
  have hc : ∀ i, i < n → c' (p i) = c i := fun i hi => by
    have hx : ∃ j, j < n ∧ p j = p i := ⟨i, hi, rfl⟩
    show (if h : ∃ j, j < n ∧ p j = p i then c h.choose else false) = c i
    rw [dif_pos hx]
    exact (key _ hx.choose_spec.1 i hi hx.choose_spec.2).1
  have hy : ∀ i, i < n → c i = true → y' (p i) = y i := fun i hi k => by
    have hx : ∃ j, j < n ∧ p j = p i := ⟨i, hi, rfl⟩
    show (if h : ∃ j, j < n ∧ p j = p i then y h.choose else .non) = y i
    rw [dif_pos hx]
    exact (key _ hx.choose_spec.1 i hi hx.choose_spec.2).2 k
  rw [lComp_pure c' y' hs hf (by simpa using hl) fun x hx => by
    obtain ⟨i, hi, rfl⟩ := List.mem_map.mp hx
    have hi' := List.mem_range.mp hi
    obtain ⟨ρ', a1, a2, a3⟩ := h i hi'
    exact ⟨ρ', a1, by rw [hc i hi']; exact a2, fun k => by rw [hc i hi'] at k; rw [hy i hi' k]; exact a3 k⟩]
  congr 1
  rw [List.filter_map, List.map_map]
  have e1 : (List.range n).filter (c' ∘ p) = (List.range n).filter c := List.filter_congr fun i hi => hc i (List.mem_range.mp hi)
  rw [e1]
  exact List.map_congr_left fun i hi => by
    obtain ⟨a, b⟩ := List.mem_filter.mp hi
    exact hy i (List.mem_range.mp a) b
theorem eComp_ixF (c : Nat → Bool) (y : Nat → PV) (hs : src ρ s = .ok f s) (hf : f s = some ((List.range n).map p)) (hl : n ≤ szl)
    (h : ∀ i, i < n → ∃ ρ', g (p i) (wipeE ρ own) = some ρ' ∧ t ρ' s = .ok (c i) s ∧ (c i = true → e ρ' s = .ok (y i) s)) : eComp own g src t e ρ s = .ok (.lst (((List.range n).filter c).map y)) s := by
  unfold eComp
  rw [lComp_ixF c y hs hf hl h]
  rfl
theorem lComp_ix (y : Nat → PV) (hs : src ρ s = .ok f s) (hf : f s = some ((List.range n).map p)) (hl : n ≤ szl)
    (h : ∀ i, i < n → ∃ ρ', g (p i) (wipeE ρ own) = some ρ' ∧ e ρ' s = .ok (y i) s) : lComp own g src Ev.tYes e ρ s = .ok ((List.range n).map y) s := by
  rw [lComp_ixF (fun _ => true) y hs hf hl fun i hi => by
    obtain ⟨ρ', a, b⟩ := h i hi
    exact ⟨ρ', a, rfl, fun _ => b⟩]
  rw [List.filter_eq_self.mpr fun _ _ => rfl]
theorem eComp_ix (y : Nat → PV) (hs : src ρ s = .ok f s) (hf : f s = some ((List.range n).map p)) (hl : n ≤ szl)
    (h : ∀ i, i < n → ∃ ρ', g (p i) (wipeE ρ own) = some ρ' ∧ e ρ' s = .ok (y i) s) : eComp own g src Ev.tYes e ρ s = .ok (.lst ((List.range n).map y)) s := by
  unfold eComp
  rw [lComp_ix y hs hf hl h]
  rfl
end
theorem forV_acc {P : Nat → Env → Stt → Prop} {l : List PV} {f : Src} {g : Gx} {b : Sx} (hf : ∀ s, f s = some l) (h : ∀ k x ρ s, l[k]? = some x → P k ρ s → ∃ ρ1 ρ2 s2, g x ρ = some ρ1 ∧ b ρ1 s = .nx ρ2 s2 ∧ P (k + 1) ρ2 s2) :
    ∀ (k i : Nat) (ρ : Env) (s : Stt), i + k = l.length → P i ρ s → ∃ ρ' s', forV f g b (k + 1) i ρ s = .nx ρ' s' ∧ P l.length ρ' s' := by
  intro k
  induction k with
  | zero =>
    intro i ρ s hi hP
    have e1 : l[i]? = none := List.getElem?_eq_none_iff.mpr (by omega)
    have e2 : i = l.length := by omega
    subst e2
    refine ⟨ρ, s, ?_, hP⟩
    unfold forV
    rw [hf]
    simp only [e1]
  | succ k ih =>
    intro i ρ s hi hP
    have hlt : i < l.length := by omega
    have e1 : l[i]? = some l[i] := by simp [hlt]
    obtain ⟨ρ1, ρ2, s2, h1, h2, h3⟩ := h i l[i] ρ s e1 hP
    obtain ⟨ρ', s', h4, h5⟩ := ih (i + 1) ρ2 s2 (by omega) h3
    refine ⟨ρ', s', ?_, h5⟩
    unfold forV
    rw [hf]
    simp only [e1, h1, h2, h4]
/-- a loop, with what holds after k turns -/
theorem sFor_acc {P : Nat → Env → Stt → Prop} {l : List PV} {f : Src} {g : Gx} {src : Ix} {b : Sx} {ρ : Env} {s s0 : Stt} (hs : src ρ s = .ok f s0) (hf : ∀ s, f s = some l) (hP : P 0 ρ s0)
    (h : ∀ k x ρ s, l[k]? = some x → P k ρ s → ∃ ρ1 ρ2 s2, g x ρ = some ρ1 ∧ b ρ1 s = .nx ρ2 s2 ∧ P (k + 1) ρ2 s2) : ∃ ρ' s', sFor g src b ρ s = .nx ρ' s' ∧ P l.length ρ' s' := by
  obtain ⟨ρ', s', e, r⟩ := forV_acc hf h l.length 0 ρ s0 (by omega) hP
  refine ⟨ρ', s', ?_, r⟩
  unfold sFor
  rw [hs]
  simp only [Res.sbind_ok, hf]
  exact e
theorem lstsP_lst (s : Stt) : ∀ ls : List (List PV), lstsP s (ls.map .lst) = some ls
  | [] => rfl
  | l :: ls => by
    show ((s.lst? (.lst l)).bind fun a => (lstsP s (ls.map .lst)).map fun r => a :: r) = _
    rw [lstsP_lst s ls]
    rfl
theorem catLen_flat : ∀ ls : List (List PV), catLen ls = ls.flatten.length
  | [] => rfl
  | l :: ls => by
    unfold catLen
    rw [catLen_flat ls, List.flatten_cons, List.length_append]
/-- sum(lists, []) of lists that are values -/
theorem sumL_ok (s : Stt) {ls : List (List PV)} (h : ls.flatten.length ≤ szl) : bSumL s [.lst (ls.map .lst), .lst []] = some (.lst ls.flatten) := by
  show (lstsP s (ls.map .lst)).bind (fun ls => if Nat.ble (0 + catLen ls) szl then some (PV.lst ([] ++ ls.flatten)) else none) = _
  rw [lstsP_lst]
  show (if Nat.ble (0 + catLen ls) szl then some (PV.lst ([] ++ ls.flatten)) else none) = _
  rw [catLen_flat, Nat.zero_add, if_pos (Nat.ble_eq_true_of_le h)]
  rfl
end Ev
/-! EvQ: texts by their places. -/
namespace Ev
def tx (n : Nat) (c : Nat → Nat) : List Nat := (List.range n).map c
theorem tx_len (n : Nat) (c : Nat → Nat) : (tx n c).length = n := by simp [tx]
theorem tx_at {n i : Nat} {c : Nat → Nat} (h : i < n) : (tx n c)[i]? = some (c i) := by
  unfold tx
  rw [List.getElem?_map, List.getElem?_range h]
  rfl
theorem tx_ext {n : Nat} {c d : Nat → Nat} (h : ∀ i, i < n → c i = d i) : tx n c = tx n d := List.map_congr_left fun i hi => h i (List.mem_range.mp hi)
theorem tx_inj {n : Nat} {c d : Nat → Nat} (h : tx n c = tx n d) : ∀ i, i < n → c i = d i := fun i hi => by
  have a := tx_at (c := c) hi
  rw [h, tx_at hi] at a
  exact (Option.some.inj a).symm
theorem tx_of (l : List Nat) : l = tx l.length fun i => l.getD i 0 := by
  apply List.ext_getElem?
  intro i
  by_cases h : i < l.length
  · rw [tx_at h, List.getElem?_eq_getElem h]
    simp [List.getD, h]
  · rw [List.getElem?_eq_none (by omega), List.getElem?_eq_none (by rw [tx_len]; omega)]
theorem tx_app (n m : Nat) (c d : Nat → Nat) : tx n c ++ tx m d = tx (n + m) fun i => if i < n then c i else d (i - n) := by
  apply List.ext_getElem?
  intro i
  by_cases h : i < n + m
  · rw [tx_at h]
    by_cases h1 : i < n
    · rw [List.getElem?_append_left (by rw [tx_len]; exact h1), tx_at h1, if_pos h1]
    · rw [List.getElem?_append_right (by rw [tx_len]; omega), tx_len, tx_at (by omega), if_neg h1]
  · rw [List.getElem?_eq_none (by rw [List.length_append, tx_len, tx_len]; omega), List.getElem?_eq_none (by rw [tx_len]; omega)]
theorem tx_take {n k : Nat} (c : Nat → Nat) (h : k ≤ n) : (tx n c).take k = tx k c := by
  apply List.ext_getElem?
  intro i
  rw [List.getElem?_take]
  by_cases h1 : i < k
  · rw [if_pos h1, tx_at (by omega), tx_at h1]
  · rw [if_neg h1, List.getElem?_eq_none (by rw [tx_len]; omega)]
theorem tx_drop (n k : Nat) (c : Nat → Nat) : (tx n c).drop k = tx (n - k) fun i => c (k + i) := by
  apply List.ext_getElem?
  intro i
  rw [List.getElem?_drop]
  by_cases h1 : k + i < n
  · rw [tx_at h1, tx_at (by omega)]
  · rw [List.getElem?_eq_none (by rw [tx_len]; omega), List.getElem?_eq_none (by rw [tx_len]; omega)]
theorem tx_one (x : Nat) : [x] = tx 1 fun _ => x := rfl
theorem tx_succ (n : Nat) (c : Nat → Nat) : tx (n + 1) c = tx n c ++ [c n] := by
  unfold tx
  rw [List.range_succ, List.map_append]
  rfl
theorem sIx_some (n d k : Nat) : sIx n d (some (k : Int)) = min k n := by
  unfold sIx
  simp only
  rw [if_neg (by omega), Int.toNat_natCast]
theorem cut_lo {n k : Nat} (c : Nat → Nat) (h : k ≤ n) : cutL (tx n c) none (some (k : Int)) = tx k c := by
  have e : cutL (tx n c) none (some (k : Int)) = ((tx n c).drop 0).take (sIx (tx n c).length (tx n c).length (some (k : Int)) - 0) := rfl
  rw [e, tx_len, List.drop_zero]
  rw [sIx_some, Nat.min_eq_left h, Nat.sub_zero, tx_take c h]
theorem cut_hi {n k : Nat} (c : Nat → Nat) (h : k ≤ n) : cutL (tx n c) (some (k : Int)) none = tx (n - k) fun i => c (k + i) := by
  have e : cutL (tx n c) (some (k : Int)) none = ((tx n c).drop (sIx (tx n c).length 0 (some (k : Int)))).take ((tx n c).length - sIx (tx n c).length 0 (some (k : Int))) := rfl
  rw [e, tx_len, sIx_some, Nat.min_eq_left h, tx_drop, tx_take _ (Nat.le_refl _)]
theorem cut_mid {n a b : Nat} (c : Nat → Nat) (h : a ≤ b) (h2 : b ≤ n) : cutL (tx n c) (some (a : Int)) (some (b : Int)) = tx (b - a) fun i => c (a + i) := by
  have e : cutL (tx n c) (some (a : Int)) (some (b : Int)) = ((tx n c).drop (sIx (tx n c).length 0 (some (a : Int)))).take (sIx (tx n c).length (tx n c).length (some (b : Int)) - sIx (tx n c).length 0 (some (a : Int))) := rfl
  rw [e, tx_len, sIx_some, sIx_some, Nat.min_eq_left h2, Nat.min_eq_left (by omega), tx_drop, tx_take _ (by omega)]
/-- all but the last -/
theorem cut_last {n : Nat} (c : Nat → Nat) : cutL (tx (n + 1) c) none (some (-1)) = tx n c := by
  have e : cutL (tx (n + 1) c) none (some (-1)) = ((tx (n + 1) c).drop 0).take (sIx (tx (n + 1) c).length (tx (n + 1) c).length (some (-1)) - 0) := rfl
  have e2 : sIx (n + 1) (n + 1) (some (-1)) = n := by
    unfold sIx
    simp only
    rw [if_pos (by omega)]
    omega
  rw [e, tx_len, e2, List.drop_zero, Nat.sub_zero, tx_take c (by omega)]
theorem live_tx (n : Nat) (c : Nat → Nat) (s : Stt) : live (.str (tx n c)) s = some ((List.range n).map fun i => .str [c i]) := by
  show some ((tx n c).map fun c => PV.str [c]) = _
  unfold tx
  rw [List.map_map]
  rfl
/-- sums -/
def SU (n : Nat) (f : Nat → Int) : Int := sumI ((List.range n).map f)
theorem SU_zero (f : Nat → Int) : SU 0 f = 0 := rfl
theorem SU_succ (n : Nat) (f : Nat → Int) : SU (n + 1) f = SU n f + f n := by
  unfold SU
  rw [List.range_succ, List.map_append, sumI_app]
  show _ + (f n + 0) = _
  omega
theorem SU_ext {n : Nat} {f g : Nat → Int} (h : ∀ i, i < n → f i = g i) : SU n f = SU n g := by
  unfold SU
  rw [List.map_congr_left fun i hi => h i (List.mem_range.mp hi)]
theorem SU_add : ∀ (n m : Nat) (f : Nat → Int), SU (n + m) f = SU n f + SU m fun i => f (n + i)
  | n, 0, f => by show SU n f = SU n f + 0; omega
  | n, m + 1, f => by
    show SU (n + m + 1) f = _
    rw [SU_succ, SU_succ, SU_add n m f]
    show SU n f + SU m (fun i => f (n + i)) + f (n + m) = _
    omega
/-- one place changed -/
theorem SU_set : ∀ {n k : Nat} {f g : Nat → Int}, k < n → (∀ i, i < n → i ≠ k → f i = g i) → SU n f = SU n g + (f k - g k)
  | 0, _, _, _, h, _ => by omega
  | n + 1, k, f, g, h, he => by
    rw [SU_succ, SU_succ]
    by_cases hk : k = n
    · subst hk
      rw [SU_ext (n := k) (f := f) (g := g) fun i hi => he i (by omega) (by omega)]
      omega
    · rw [SU_set (n := n) (k := k) (f := f) (g := g) (by omega) fun i hi hne => he i (by omega) hne, he n (by omega) (by omega)]
      omega
theorem intsP_map (f : Nat → Int) : ∀ l : List Nat, intsP (l.map fun i => PV.int (f i)) = some (l.map f)
  | [] => rfl
  | x :: l => by
    have q := intsP_map f l
    simp only [List.map_cons, intsP, q]
    rfl
end Ev
/-! EvR: a loop over a written list, turn by turn; some steps with the slots' numbers. -/
namespace Ev
def forL (g : Gx) (b : Sx) : List PV → Sx
  | [], ρ, s => .nx ρ s
  | x :: xs, ρ, s => (SRes.ofO s (g x ρ)).seq fun ρ s => (b ρ s).seq (forL g b xs)
theorem forL_nil (g : Gx) (b : Sx) (ρ : Env) (s : Stt) : forL g b [] ρ s = .nx ρ s := rfl
theorem forL_cons {g : Gx} {b : Sx} {x : PV} {xs : List PV} {ρ ρ1 : Env} {s : Stt} (h : g x ρ = some ρ1) : forL g b (x :: xs) ρ s = (b ρ1 s).seq (forL g b xs) := by
  show (SRes.ofO s (g x ρ)).seq _ = _
  rw [h]
  rfl
theorem forV_L {l : List PV} {f : Src} {g : Gx} {b : Sx} (hf : ∀ s, f s = some l) : ∀ (k i : Nat) (ρ : Env) (s : Stt), i + k = l.length → forV f g b (k + 1) i ρ s = forL g b (l.drop i) ρ s := by
  intro k
  induction k with
  | zero =>
    intro i ρ s hi
    have e1 : l[i]? = none := List.getElem?_eq_none_iff.mpr (by omega)
    rw [List.drop_eq_nil_of_le (by omega)]
    unfold forV
    rw [hf]
    simp only [e1]
    rfl
  | succ k ih =>
    intro i ρ s hi
    have hlt : i < l.length := by omega
    have e1 : l[i]? = some l[i] := by simp [hlt]
    rw [List.drop_eq_getElem_cons hlt]
    unfold forV
    rw [hf]
    simp only [e1]
    show _ = (SRes.ofO s (g l[i] ρ)).seq _
    cases g l[i] ρ with
    | none => rfl
    | some ρ1 =>
      show _ = (b ρ1 s).seq _
      simp only
      cases b ρ1 s with
      | nx ρ s => exact ih (i + 1) ρ s (by omega)
      | _ => rfl
theorem sFor_L {l : List PV} {f : Src} {g : Gx} {src : Ix} {b : Sx} {ρ : Env} {s s0 : Stt} (hs : src ρ s = .ok f s0) (hf : ∀ s, f s = some l) : sFor g src b ρ s = forL g b l ρ s0 := by
  unfold sFor
  rw [hs]
  simp only [Res.sbind_ok, hf]
  rw [forV_L hf l.length 0 ρ s0 (by omega), List.drop_zero]
/-- what stands in a slot is walked -/
theorem sFor_V {l : List PV} {p : PV} {g : Gx} {b : Sx} {ρ : Env} {s : Stt} {i : Nat} (h : ρ[i]? = some (some p)) (hl : ∀ s, live p s = some l) : sFor g (iE (eV i)) b ρ s = forL g b l ρ s :=
  sFor_L (iE_ok (by rw [eV_s, h]; rfl) (hl s)) hl
theorem eV_e {ρ : Env} {s : Stt} {i : Nat} {p : PV} (h : ρ[i]? = some (some p)) : eV i ρ s = .ok p s := by
  rw [eV_s, h]
  rfl
theorem len_e {a : Ex} {ρ : Env} {s : Stt} {G : List Nat} (h : a ρ s = .ok (.str G) s) (hl : G.length ≤ 100000) : eFn bLen (lCons a lNil) ρ s = .ok (.int (G.length : Nat)) s := by
  rw [eFn_s, lCons_s, h, Res.bind_ok, lNil_s, Res.bind_ok, Res.bind_ok]
  show Res.ofO s (if lenOk G then some (PV.int (G.length : Nat)) else none) = _
  rw [lenOk_of (by unfold szl; omega)]
  rfl
/-- a <= b <= c, texts -/
def inR (a b h : List Nat) : Bool := !ltN h a && !ltN b h
theorem chain_e {x y z : Ex} {ρ : Env} {s : Stt} {A H B : List Nat} (h1 : x ρ s = .ok (.str A) s) (h2 : y ρ s = .ok (.str H) s) (h3 : z ρ s = .ok (.str B) s) : tCh cLe cLe x y z ρ s = .ok (inR A B H) s := by
  unfold tCh
  rw [h1, Res.bind_ok, h2, Res.bind_ok]
  show (match some (!ltN H A) with
    | some true => (z ρ s).bind fun z s => .ofO s (cLe s (.str H) z)
    | some false => .ok false s
    | none => .bad) = _
  unfold inR
  cases ltN H A with
  | true => rfl
  | false =>
    simp only [Bool.not_false, h3, Res.bind_ok, Bool.true_and]
    rfl
end Ev
/-! the mirrors of law_k01_numbers_that_check; printed by gen.py -/
namespace K01
open Ev PySem L2
def c_FIGURES : PV := (.str [48, 49, 50, 51, 52, 53, 54, 55, 56, 57])
def c_MOST_FIGURES : PV := (.int 18)
def told_cs : List Nat := [1]
def told_ret : List Nat := [67, 111, 100, 101, 69, 114, 114, 111, 114]
def b_figures_of : Sx := (sSeq (sAsg (Ev.gN 1) (eM1 mJoin (eC (.str [])) (eComp [2] (Ev.gN 2) (iE (eV 0)) (tCp cNotIn (eV 2) (eC (.str [45, 32]))) (eV 2))))
    (sSeq (sIf (Ev.tOr (tCp cEq (eV 1) (eC (.str []))) (Ev.tOr (tE (eAny true [2] (Ev.gN 2) (iE (eCut (eV 1) none (some (eNeg (eC (.int 1)))))) Ev.tYes (eCp cNotIn (eV 2) (eC c_FIGURES)))) (tCp cNotIn (eOp oIx (eV 1) (eNeg (eC (.int 1)))) (eOp oAdd (eC c_FIGURES) (eC (.str [88])))))) (sSeq (sRaise 1)
    sNop) sNop)
    (sSeq (sRet (eV 1))
    sNop)))
def f_figures_of : Fx := mkFn 3 1 b_figures_of
def b_check_of_ten : Sx := (sSeq (sIf (Ev.tOr (tCp cNe (eFn bLen (lCons (eV 0) lNil)) (eC (.int 9))) (tE (eAny true [4] (Ev.gN 4) (iE (eV 0)) Ev.tYes (eCp cNotIn (eV 4) (eC c_FIGURES))))) (sSeq (sRaise 1)
    sNop) sNop)
    (sSeq (sAsg (Ev.gN 1) (eSumG (lComp [3, 4] (gT [(Ev.gN 3), (Ev.gN 4)]) (Ev.iEnum (eV 0)) Ev.tYes (eOp oMulB (eOp oSub (eC (.int 10)) (eV 3)) (eFn bInt (lCons (eV 4) lNil))))))
    (sSeq (sAsg (Ev.gN 2) (eOp oMod (eOp oSub (eC (.int 11)) (eOp oMod (eV 1) (eC (.int 11)))) (eC (.int 11))))
    (sSeq (sRet (eIf (tCp cEq (eV 2) (eC (.int 10))) (eC (.str [88])) (eFn bStr (lCons (eV 2) lNil))))
    sNop))))
def f_check_of_ten : Fx := mkFn 5 1 b_check_of_ten
def b_check_of_thirteen : Sx := (sSeq (sIf (Ev.tOr (tCp cNe (eFn bLen (lCons (eV 0) lNil)) (eC (.int 12))) (tE (eAny true [3] (Ev.gN 3) (iE (eV 0)) Ev.tYes (eCp cNotIn (eV 3) (eC c_FIGURES))))) (sSeq (sRaise 1)
    sNop) sNop)
    (sSeq (sAsg (Ev.gN 1) (eSumG (lComp [2, 3] (gT [(Ev.gN 2), (Ev.gN 3)]) (Ev.iEnum (eV 0)) Ev.tYes (eOp oMulB (eIf (tCp cEq (eOp oMod (eV 2) (eC (.int 2))) (eC (.int 1))) (eC (.int 3)) (eC (.int 1))) (eFn bInt (lCons (eV 3) lNil))))))
    (sSeq (sRet (eFn bStr (lCons (eOp oMod (eOp oSub (eC (.int 10)) (eOp oMod (eV 1) (eC (.int 10)))) (eC (.int 10))) lNil)))
    sNop)))
def f_check_of_thirteen : Fx := mkFn 4 1 b_check_of_thirteen
def b_is_book_number : Sx := (sSeq (sAsg (Ev.gN 1) (eCallF f_figures_of (lCons (eV 0) lNil)))
    (sSeq (sIf (tCp cEq (eFn bLen (lCons (eV 1) lNil)) (eC (.int 10))) (sSeq (sRet (eCp cEq (eCallF f_check_of_ten (lCons (eCut (eV 1) none (some (eC (.int 9)))) lNil)) (eOp oIx (eV 1) (eC (.int 9)))))
    sNop) sNop)
    (sSeq (sIf (Ev.tOr (tCp cNe (eFn bLen (lCons (eV 1) lNil)) (eC (.int 13))) (tCp cNotIn (eCut (eV 1) none (some (eC (.int 3)))) (eTup (lCons (eC (.str [57, 55, 56])) (lCons (eC (.str [57, 55, 57])) lNil))))) (sSeq (sRet (eC (.bl false)))
    sNop) sNop)
    (sSeq (sRet (eCp cEq (eCallF f_check_of_thirteen (lCons (eCut (eV 1) none (some (eC (.int 12)))) lNil)) (eOp oIx (eV 1) (eC (.int 12)))))
    sNop))))
def f_is_book_number : Fx := mkFn 2 1 b_is_book_number
def b_plain_number : Sx := (sSeq (sAsg (Ev.gN 1) (eCallF f_figures_of (lCons (eV 0) lNil)))
    (sSeq (sIf (Ev.tNot (tE (eCallF f_is_book_number (lCons (eV 1) lNil)))) (sSeq (sRaise 1)
    sNop) sNop)
    (sSeq (sIf (tCp cEq (eFn bLen (lCons (eV 1) lNil)) (eC (.int 13))) (sSeq (sRet (eV 1))
    sNop) sNop)
    (sSeq (sRet (eOp oAdd (eOp oAdd (eC (.str [57, 55, 56])) (eCut (eV 1) none (some (eC (.int 9))))) (eCallF f_check_of_thirteen (lCons (eOp oAdd (eC (.str [57, 55, 56])) (eCut (eV 1) none (some (eC (.int 9))))) lNil))))
    sNop))))
def f_plain_number : Fx := mkFn 2 1 b_plain_number
def b_old_number : Sx := (sSeq (sAsg (Ev.gN 1) (eCallF f_plain_number (lCons (eV 0) lNil)))
    (sSeq (sRet (eIf (tCp cEq (eCut (eV 1) none (some (eC (.int 3)))) (eC (.str [57, 55, 56]))) (eOp oAdd (eCut (eV 1) (some (eC (.int 3))) (some (eC (.int 12)))) (eCallF f_check_of_ten (lCons (eCut (eV 1) (some (eC (.int 3))) (some (eC (.int 12)))) lNil))) (eC (.str []))))
    sNop))
def f_old_number : Fx := mkFn 2 1 b_old_number
def b_is_same_number : Sx := (sSeq (sRet (eCp cEq (eCallF f_plain_number (lCons (eV 0) lNil)) (eCallF f_plain_number (lCons (eV 1) lNil))))
    sNop)
def f_is_same_number : Fx := mkFn 2 2 b_is_same_number
def b_parted_number : Sx := (sSeq (sAsg (Ev.gN 2) (eCallF f_plain_number (lCons (eV 0) lNil)))
    (sSeq (sAsg (Ev.gN 3) (eCut (eV 2) (some (eC (.int 3))) (some (eC (.int 12)))))
    (sSeq (sFor (gT [(Ev.gN 4), (Ev.gN 5)]) (iE (eV 1)) (sSeq (sIf (tCp cEq (eCut (eV 3) none (some (eFn bLen (lCons (eV 4) lNil)))) (eV 4)) (sSeq (sFor (gT [(Ev.gN 6), (Ev.gN 7)]) (iE (eV 5)) (sSeq (sAsg (Ev.gN 8) (eCut (eV 3) (some (eFn bLen (lCons (eV 4) lNil))) (some (eOp oAdd (eFn bLen (lCons (eV 4) lNil)) (eFn bLen (lCons (eV 6) lNil))))))
    (sSeq (sIf (Ev.tAnd (tCh cLe cLe (eV 6) (eV 8) (eV 7)) (tCp cLt (eOp oAdd (eFn bLen (lCons (eV 4) lNil)) (eFn bLen (lCons (eV 6) lNil))) (eC (.int 9)))) (sSeq (sAsg (Ev.gN 9) (eCut (eV 3) (some (eOp oAdd (eFn bLen (lCons (eV 4) lNil)) (eFn bLen (lCons (eV 6) lNil)))) none))
    (sSeq (sRet (eM1 mJoin (eC (.str [45])) (eLst (lCons (eCut (eV 2) none (some (eC (.int 3)))) (lCons (eV 4) (lCons (eV 8) (lCons (eV 9) (lCons (eOp oIx (eV 2) (eC (.int 12))) lNil))))))))
    sNop)) sNop)
    sNop)))
    sNop) sNop)
    sNop))
    (sSeq (sRaise 1)
    sNop))))
def f_parted_number : Fx := mkFn 10 2 b_parted_number
def b_sum_of_card : Sx := (sSeq (sIf (Ev.tOr (Ev.tNot (tCh cLe cLe (eC (.int 1)) (eFn bLen (lCons (eV 0) lNil)) (eC c_MOST_FIGURES))) (tE (eAny true [3] (Ev.gN 3) (iE (eV 0)) Ev.tYes (eCp cNotIn (eV 3) (eC c_FIGURES))))) (sSeq (sRaise 1)
    sNop) sNop)
    (sSeq (sAsg (Ev.gN 1) (eC (.int 0)))
    (sSeq (sFor (gT [(Ev.gN 2), (Ev.gN 3)]) (Ev.iEnum (eOp oRevS (eV 0) (eNeg (eC (.int 1))))) (sSeq (sAsg (Ev.gN 4) (eOp oMulB (eFn bInt (lCons (eV 3) lNil)) (eIf (tCp cEq (eOp oMod (eV 2) (eC (.int 2))) (eC (.int 1))) (eC (.int 2)) (eC (.int 1)))))
    (sSeq (sAug 1 iAdd (eIf (tCp cGt (eV 4) (eC (.int 9))) (eOp oSub (eV 4) (eC (.int 9))) (eV 4)))
    sNop)))
    (sSeq (sRet (eV 1))
    sNop))))
def f_sum_of_card : Fx := mkFn 5 1 b_sum_of_card
def b_made_card : Sx := (sSeq (sIf (Ev.tOr (Ev.tNot (tCh cLe cLt (eC (.int 1)) (eV 1) (eC c_MOST_FIGURES))) (Ev.tOr (tCp cLt (eV 0) (eC (.int 0))) (tCp cGt (eFn bLen (lCons (eFn bStr (lCons (eV 0) lNil)) lNil)) (eV 1)))) (sSeq (sRaise 1)
    sNop) sNop)
    (sSeq (sAsg (Ev.gN 2) (eOp oAdd (eOp oMulB (eC (.str [48])) (eOp oSub (eV 1) (eFn bLen (lCons (eFn bStr (lCons (eV 0) lNil)) lNil)))) (eFn bStr (lCons (eV 0) lNil))))
    (sSeq (sRet (eOp oAdd (eV 2) (eFn bStr (lCons (eOp oMod (eOp oSub (eC (.int 10)) (eOp oMod (eCallF f_sum_of_card (lCons (eOp oAdd (eV 2) (eC (.str [48]))) lNil)) (eC (.int 10)))) (eC (.int 10))) lNil))))
    sNop)))
def f_made_card : Fx := mkFn 3 2 b_made_card
def b_is_card : Sx := (sSeq (sRet (eCp cEq (eOp oMod (eCallF f_sum_of_card (lCons (eV 0) lNil)) (eC (.int 10))) (eC (.int 0))))
    sNop)
def f_is_card : Fx := mkFn 1 1 b_is_card
def b_number_of_card : Sx := (sSeq (sIf (Ev.tOr (Ev.tNot (tE (eCallF f_is_card (lCons (eV 0) lNil)))) (tCp cLt (eFn bLen (lCons (eV 0) lNil)) (eC (.int 2)))) (sSeq (sRaise 1)
    sNop) sNop)
    (sSeq (sRet (eFn bInt (lCons (eCut (eV 0) none (some (eNeg (eC (.int 1))))) lNil)))
    sNop))
def f_number_of_card : Fx := mkFn 1 1 b_number_of_card
def b_mended_by_one : Sx := (sSeq (sExpr (eCallF f_sum_of_card (lCons (eV 0) lNil)))
    (sSeq (sAsg (Ev.gN 1) eDctM)
    (sSeq (sFor (Ev.gN 2) (iRange1 (eFn bLen (lCons (eV 0) lNil))) (sSeq (sFor (Ev.gN 3) (iE (eC c_FIGURES)) (sSeq (sPut (eV 1) (eOp oAdd (eOp oAdd (eCut (eV 0) none (some (eV 2))) (eV 3)) (eCut (eV 0) (some (eOp oAdd (eV 2) (eC (.int 1)))) none)) (eC (.bl true)))
    sNop))
    sNop))
    (sSeq (sFor (Ev.gN 2) (iRange1 (eOp oSub (eFn bLen (lCons (eV 0) lNil)) (eC (.int 1)))) (sSeq (sPut (eV 1) (eOp oAdd (eOp oAdd (eOp oAdd (eCut (eV 0) none (some (eV 2))) (eOp oIx (eV 0) (eOp oAdd (eV 2) (eC (.int 1))))) (eOp oIx (eV 0) (eV 2))) (eCut (eV 0) (some (eOp oAdd (eV 2) (eC (.int 2)))) none)) (eC (.bl true)))
    sNop))
    (sSeq (sRet (eTupG (lComp [4] (Ev.gN 4) (iE (eFn bSortedA (lCons (eV 1) lNil))) (Ev.tAnd (tCp cNe (eV 4) (eV 0)) (tE (eCallF f_is_card (lCons (eV 4) lNil)))) (eV 4))))
    sNop)))))
def f_mended_by_one : Fx := mkFn 5 1 b_mended_by_one
def b_is_number_at_all : Sx := (sSeq (sTry (sSeq (sExpr (eCallF f_figures_of (lCons (eV 0) lNil)))
    sNop) [1] (sSeq (sRet (eC (.bl false)))
    sNop))
    (sSeq (sRet (eC (.bl true)))
    sNop))
def f_is_number_at_all : Fx := mkFn 1 1 b_is_number_at_all
def b_missing_figure : Sx := (sSeq (sIf (tCp cNe (eM1 mCount (eV 0) (eC (.str [63]))) (eC (.int 1))) (sSeq (sRaise 1)
    sNop) sNop)
    (sSeq (sExpr (eCallF f_figures_of (lCons (eRepC (eV 0) [63] [48]) lNil)))
    (sSeq (sAsg (Ev.gN 1) (eLstM lNil))
    (sSeq (sForRep 2 3 0 [63] (eOp oAdd (eC c_FIGURES) (eC (.str [88]))) (sSeq (sIf (Ev.tAnd (tE (eCallF f_is_number_at_all (lCons (eV 3) lNil))) (tE (eCallF f_is_book_number (lCons (eV 3) lNil)))) (sSeq (sExpr (eApp (eV 1) (eV 2)))
    sNop) sNop)
    sNop))
    (sSeq (sRet (eFn bTuple (lCons (eV 1) lNil)))
    sNop)))))
def f_missing_figure : Fx := mkFn 4 1 b_missing_figure
def b_law_dice : Sx := (sSeq (sIf (tCh cLt cLt (eOp oSub (eC (.int 0)) (eC (.int 10))) (eV 0) (eC (.int 10))) (sSeq (sRet (eLstM (lCons (eFn bAbs (lCons (eV 0) lNil)) (lCons (eC (.int 0)) (lCons (eC (.int 2)) lNil)))))
    sNop) sNop)
    (sSeq (sRet (eLstM (lCons (eV 0) (lCons (eOp oAdd (eC (.int 1)) (eOp oMod (eFn bInt (lCons (eV 0) lNil)) (eC (.int 1009)))) (lCons (eFn bInt (lCons (eCp cGe (eV 0) (eOp oPow (eC (.int 10)) (eC (.int 18)))) lNil)) lNil)))))
    sNop))
def f_law_dice : Fx := mkFn 1 1 b_law_dice
def b_law_roll : Sx := (sSeq (sIf (Ev.tOr (tCp cEq (eOp oIx (eV 0) (eC (.int 2))) (eC (.int 2))) (Ev.tAnd (tCp cEq (eOp oIx (eV 0) (eC (.int 2))) (eC (.int 1))) (tCp cGt (eOp oIx (eV 0) (eC (.int 0))) (eC (.int 0))))) (sSeq (sAsg (Ev.gN 2) (eOp oMod (eFn bInt (lCons (eOp oIx (eV 0) (eC (.int 0))) lNil)) (eV 1)))
    (sSeq (sPut (eV 0) (eC (.int 0)) (eOp oDiv (eOp oIx (eV 0) (eC (.int 0))) (eV 1)))
    (sSeq (sRet (eV 2))
    sNop))) sNop)
    (sSeq (sPut (eV 0) (eC (.int 2)) (eC (.int 0)))
    (sSeq (sIf (tCp cGt (eV 1) (eC (.int 100000000))) (sSeq (sRet (eOp oMod (eFn bInt (lCons (eOp oAdd (eOp oMulB (eCall fBad (lCons (eV 0) (lCons (eOp oAdd (eOp oDiv (eV 1) (eC (.int 100000000))) (eC (.int 1))) lNil))) (eC (.int 100000000))) (eCall fBad (lCons (eV 0) (lCons (eC (.int 100000000)) lNil)))) lNil)) (eV 1)))
    sNop) sNop)
    (sSeq (sPut (eV 0) (eC (.int 0)) (eOp oMod (eFn bInt (lCons (eOp oAdd (eOp oAdd (eOp oMulB (eOp oIx (eV 0) (eC (.int 0))) (eC (.int 48271))) (eOp oMulB (eOp oIx (eV 0) (eC (.int 1))) (eC (.int 69621)))) (eC (.int 11))) lNil)) (eC (.int 2147483647))))
    (sSeq (sPut (eV 0) (eC (.int 1)) (eOp oAdd (eOp oIx (eV 0) (eC (.int 1))) (eC (.int 1))))
    (sSeq (sRet (eOp oMod (eFn bInt (lCons (eOp oDiv (eOp oIx (eV 0) (eC (.int 0))) (eC (.int 7))) lNil)) (eV 1)))
    sNop))))))
def f_law_roll : Fx := mkFn 3 2 b_law_roll
def b_law_rounds : Sx := (sSeq (sAsg (Ev.gN 2) (eCut (eV 0) none (some (eV 1))))
    (sSeq (sIf (tCp cEq (eV 2) (eLst lNil)) (sSeq (sAsg (Ev.gN 2) (eLst (lCons (eC (.int 0)) lNil)))
    sNop) sNop)
    (sSeq (sRet (eComp [3] (Ev.gN 3) (iE (eV 2)) Ev.tYes (eCall f_law_dice (lCons (eV 3) lNil))))
    sNop)))
def f_law_rounds : Fx := mkFn 4 2 b_law_rounds
def b_law_ten : Sx := (sSeq (sAsg (Ev.gN 1) (eComp [2] (Ev.gN 2) (iE (eV 0)) Ev.tYes (eIf (tCp cEq (eV 2) (eC (.str [88]))) (eC (.int 10)) (eFn bInt (lCons (eV 2) lNil)))))
    (sSeq (sRet (eCp cEq (eOp oMod (eFn bSum (lCons (eComp [3, 4] (gT [(Ev.gN 3), (Ev.gN 4)]) (Ev.iEnum (eV 1)) Ev.tYes (eOp oMulB (eOp oSub (eC (.int 10)) (eV 3)) (eV 4))) lNil)) (eC (.int 11))) (eC (.int 0))))
    sNop))
def f_law_ten : Fx := mkFn 5 1 b_law_ten
def b_law_thirteen : Sx := (sSeq (sRet (eCp cEq (eOp oMod (eFn bSum (lCons (eComp [1, 2] (gT [(Ev.gN 1), (Ev.gN 2)]) (Ev.iEnum (eV 0)) Ev.tYes (eOp oMulB (eFn bInt (lCons (eV 2) lNil)) (eOp oIx (eLst (lCons (eC (.int 1)) (lCons (eC (.int 3)) lNil))) (eOp oMod (eV 1) (eC (.int 2)))))) lNil)) (eC (.int 10))) (eC (.int 0))))
    sNop)
def f_law_thirteen : Fx := mkFn 3 1 b_law_thirteen
def b_law_card : Sx := (sSeq (sAsg (Ev.gN 1) (eC (.int 0)))
    (sSeq (sFor (Ev.gN 2) (iRange1 (eFn bLen (lCons (eV 0) lNil))) (sSeq (sAsg (Ev.gN 3) (eOp oMulB (eFn bInt (lCons (eOp oIx (eV 0) (eOp oSub (eNeg (eC (.int 1))) (eV 2))) lNil)) (eOp oAdd (eC (.int 1)) (eOp oMod (eV 2) (eC (.int 2))))))
    (sSeq (sAsg (Ev.gN 1) (eOp oAdd (eOp oAdd (eV 1) (eOp oDiv (eV 3) (eC (.int 10)))) (eOp oMod (eV 3) (eC (.int 10)))))
    sNop)))
    (sSeq (sRet (eV 1))
    sNop)))
def f_law_card : Fx := mkFn 4 1 b_law_card
def b_law_figures : Sx := (sSeq (sRet (eM1 mJoin (eC (.str [])) (eComp [2] (Ev.gN 2) (iRange1 (eV 1)) Ev.tYes (eFn bStr (lCons (eCall f_law_roll (lCons (eV 0) (lCons (eC (.int 10)) lNil))) lNil)))))
    sNop)
def f_law_figures : Fx := mkFn 3 2 b_law_figures
def b_law_near : Sx := (sSeq (sAsg (Ev.gN 1) (eFn bSumL (lCons (eComp [2] (Ev.gN 2) (iRange1 (eFn bLen (lCons (eV 0) lNil))) Ev.tYes (eComp [4] (Ev.gN 4) (iE (eC (.str [48, 49, 50, 51, 52, 53, 54, 55, 56, 57]))) Ev.tYes (eOp oAdd (eOp oAdd (eCut (eV 0) none (some (eV 2))) (eV 4)) (eCut (eV 0) (some (eOp oAdd (eV 2) (eC (.int 1)))) none)))) (lCons (eLst lNil) lNil))))
    (sSeq (sAsg (Ev.gN 1) (eOp oAdd (eV 1) (eComp [2] (Ev.gN 2) (iRange1 (eOp oSub (eFn bLen (lCons (eV 0) lNil)) (eC (.int 1)))) Ev.tYes (eOp oAdd (eOp oAdd (eOp oAdd (eCut (eV 0) none (some (eV 2))) (eOp oIx (eV 0) (eOp oAdd (eV 2) (eC (.int 1))))) (eOp oIx (eV 0) (eV 2))) (eCut (eV 0) (some (eOp oAdd (eV 2) (eC (.int 2)))) none)))))
    (sSeq (sRet (eFn bSortedA (lCons (eComp [3] (Ev.gN 3) (iE (eFn bDict (lCons (eComp [5] (Ev.gN 5) (iE (eV 1)) Ev.tYes (eTup (lCons (eV 5) (lCons (eC (.int 1)) lNil)))) lNil))) (Ev.tAnd (tCp cNe (eV 3) (eV 0)) (tCp cEq (eOp oMod (eCallF f_law_card (lCons (eV 3) lNil)) (eC (.int 10))) (eC (.int 0)))) (eV 3)) lNil)))
    sNop)))
def f_law_near : Fx := mkFn 6 1 b_law_near
def bad_law_plain : List Ex := [(eCallF f_figures_of (lCons (eC (.str [])) lNil)),
     (eCallF f_figures_of (lCons (eC (.str [97])) lNil)),
     (eCallF f_figures_of (lCons (eC (.str [88, 49])) lNil)),
     (eCallF f_check_of_ten (lCons (eC (.str [49, 50, 51, 52, 53, 54, 55, 56])) lNil)),
     (eCallF f_check_of_ten (lCons (eC (.str [49, 50, 51, 52, 53, 54, 55, 56, 88])) lNil)),
     (eCallF f_check_of_thirteen (lCons (eC (.str [49, 50, 51, 52, 53, 54, 55, 56, 57, 48, 49])) lNil)),
     (eCallF f_check_of_thirteen (lCons (eOp oMulB (eC (.str [120])) (eC (.int 12))) lNil)),
     (eCallF f_is_book_number (lCons (eC (.str [])) lNil)),
     (eCallF f_plain_number (lCons (eC (.str [48, 51, 48, 54, 52, 48, 54, 49, 53, 51])) lNil)),
     (eCallF f_plain_number (lCons (eC (.str [49, 50])) lNil)),
     (eCallF f_old_number (lCons (eC (.str [49, 50])) lNil)),
     (eCallF f_is_same_number (lCons (eC (.str [48, 51, 48, 54, 52, 48, 54, 49, 53, 50])) (lCons (eC (.str [49])) lNil))),
     (eCallF f_parted_number (lCons (eC (.str [48, 51, 48, 54, 52, 48, 54, 49, 53, 50])) (lCons (eTup lNil) lNil))),
     (eCallF f_parted_number (lCons (eC (.str [49])) (lCons (eV 0) lNil))),
     (eCallF f_sum_of_card (lCons (eC (.str [])) lNil)),
     (eCallF f_sum_of_card (lCons (eC (.str [49, 120])) lNil)),
     (eCallF f_sum_of_card (lCons (eOp oMulB (eC (.str [49])) (eC (.int 19))) lNil)),
     (eCallF f_made_card (lCons (eNeg (eC (.int 1))) (lCons (eC (.int 5)) lNil))),
     (eCallF f_made_card (lCons (eC (.int 100)) (lCons (eC (.int 2)) lNil))),
     (eCallF f_made_card (lCons (eC (.int 1)) (lCons (eC (.int 0)) lNil))),
     (eCallF f_made_card (lCons (eC (.int 1)) (lCons (eC (.int 18)) lNil))),
     (eCallF f_is_card (lCons (eC (.str [])) lNil)),
     (eCallF f_number_of_card (lCons (eC (.str [53])) lNil)),
     (eCallF f_number_of_card (lCons (eC (.str [48])) lNil)),
     (eCallF f_number_of_card (lCons (eC (.str [52, 51])) lNil)),
     (eCallF f_mended_by_one (lCons (eC (.str [120])) lNil)),
     (eCallF f_missing_figure (lCons (eC (.str [49, 50])) lNil)),
     (eCallF f_missing_figure (lCons (eC (.str [49, 63, 63])) lNil)),
     (eCallF f_missing_figure (lCons (eC (.str [97, 63])) lNil))]
def b_law_plain : Sx := (sSeq (sAsg (Ev.gN 0) (eTup (lCons (eTup (lCons (eC (.str [48])) (lCons (eTup (lCons (eTup (lCons (eC (.str [48, 48])) (lCons (eC (.str [49, 57])) lNil))) (lCons (eTup (lCons (eC (.str [50, 48, 48])) (lCons (eC (.str [54, 57, 57])) lNil))) lNil))) lNil))) lNil)))
    (sSeq (sAsg (Ev.gN 1) (eLst (lCons (eCallF f_plain_number (lCons (eC (.str [48, 45, 51, 48, 54, 45, 52, 48, 54, 49, 53, 45, 50])) lNil)) (lCons (eCallF f_old_number (lCons (eC (.str [57, 55, 56, 48, 51, 48, 54, 52, 48, 54, 49, 53, 55])) lNil)) (lCons (eCallF f_is_same_number (lCons (eC (.str [48, 51, 48, 54, 52, 48, 54, 49, 53, 50])) (lCons (eC (.str [57, 55, 56, 45, 48, 45, 51, 48, 54, 45, 52, 48, 54, 49, 53, 45, 55])) lNil))) (lCons (eCallF f_check_of_ten (lCons (eC (.str [48, 56, 48, 52, 52, 50, 57, 53, 55])) lNil)) lNil))))))
    (sSeq (sAsg (Ev.gN 1) (eOp oAdd (eV 1) (eLst (lCons (eCallF f_check_of_thirteen (lCons (eC (.str [57, 55, 56, 48, 51, 48, 54, 52, 48, 54, 49, 53])) lNil)) (lCons (eCallF f_parted_number (lCons (eC (.str [57, 55, 56, 48, 51, 48, 54, 52, 48, 54, 49, 53, 55])) (lCons (eV 0) lNil))) (lCons (eCallF f_sum_of_card (lCons (eC (.str [55, 57, 57, 50, 55, 51, 57, 56, 55, 49, 51])) lNil)) (lCons (eCallF f_made_card (lCons (eC (.int 42)) (lCons (eC (.int 5)) lNil))) (lCons (eCallF f_is_card (lCons (eC (.str [48, 48, 48, 52, 50, 50])) lNil)) lNil))))))))
    (sSeq (sAsg (Ev.gN 1) (eOp oAdd (eV 1) (eLst (lCons (eCallF f_number_of_card (lCons (eC (.str [48, 48, 48, 52, 50, 50])) lNil)) (lCons (eCut (eCallF f_mended_by_one (lCons (eC (.str [55, 57, 57, 50, 55, 51, 57, 56, 55, 49, 48])) lNil)) none (some (eC (.int 3)))) (lCons (eCallF f_missing_figure (lCons (eC (.str [48, 51, 48, 54, 52, 63, 54, 49, 53, 50])) lNil)) (lCons (eCallF f_is_number_at_all (lCons (eC (.str [120])) lNil)) (lCons (eCallF f_is_number_at_all (lCons (eC (.str [88])) lNil)) lNil))))))))
    (sSeq (sAsg (Ev.gN 1) (eOp oAdd (eV 1) (eLst (lCons (eCallF f_figures_of (lCons (eC (.str [49, 32, 50, 45, 88])) lNil)) (lCons (eCallF f_is_book_number (lCons (eC (.str [49, 50])) lNil)) (lCons (eCallF f_made_card (lCons (eC (.int 0)) (lCons (eC (.int 1)) lNil))) lNil))))))
    (sBad0 2 (sSeq (sIf (tBadNe told_cs bad_law_plain) (sSeq (sRet (eC (.bl false)))
    sNop) sNop) (sSeq (sIf (tCp cNe (eTup (lCons (eC c_FIGURES) (lCons (eC c_MOST_FIGURES) lNil))) (eTup (lCons (eC (.str [48, 49, 50, 51, 52, 53, 54, 55, 56, 57])) (lCons (eC (.int 18)) lNil)))) (sSeq (sRet (eC (.bl false)))
    sNop) sNop)
    (sSeq (sAsg (Ev.gN 3) (eLst (lCons (eC (.str [57, 55, 56, 48, 51, 48, 54, 52, 48, 54, 49, 53, 55])) (lCons (eC (.str [48, 51, 48, 54, 52, 48, 54, 49, 53, 50])) (lCons (eC (.bl true)) (lCons (eC (.str [88])) (lCons (eC (.str [55])) (lCons (eC (.str [57, 55, 56, 45, 48, 45, 51, 48, 54, 45, 52, 48, 54, 49, 53, 45, 55])) (lCons (eC (.int 70)) (lCons (eC (.str [48, 48, 48, 52, 50, 50])) (lCons (eC (.bl true)) (lCons (eC (.int 42)) (lCons (eTup (lCons (eC (.str [48, 57, 57, 50, 55, 51, 57, 56, 55, 49, 48])) (lCons (eC (.str [55, 49, 57, 50, 55, 51, 57, 56, 55, 49, 48])) (lCons (eC (.str [55, 57, 50, 50, 55, 51, 57, 56, 55, 49, 48])) lNil)))) lNil)))))))))))))
    (sSeq (sAsg (Ev.gN 3) (eOp oAdd (eV 3) (eLst (lCons (eTup (lCons (eC (.str [48])) lNil)) (lCons (eC (.bl false)) (lCons (eC (.bl true)) (lCons (eC (.str [49, 50, 88])) (lCons (eC (.bl false)) (lCons (eC (.str [48, 48])) lNil)))))))))
    (sSeq (sRet (eCp cEq (eV 1) (eV 3)))
    sNop)))))))))))
def f_law_plain : Fx := mkFn 6 0 b_law_plain
def b_law : Sx := (sSeq (sAsg (Ev.gN 1) (eTup (lCons (eTup (lCons (eC (.str [48])) (lCons (eTup (lCons (eTup (lCons (eC (.str [48, 48])) (lCons (eC (.str [49, 57])) lNil))) (lCons (eTup (lCons (eC (.str [50, 48, 48])) (lCons (eC (.str [54, 57, 57])) lNil))) (lCons (eTup (lCons (eC (.str [55, 48, 48, 48])) (lCons (eC (.str [56, 52, 57, 57])) lNil))) lNil)))) lNil))) (lCons (eTup (lCons (eC (.str [49, 51])) (lCons (eTup (lCons (eTup (lCons (eC (.str [48])) (lCons (eC (.str [52])) lNil))) lNil)) lNil))) lNil))))
    (sSeq (sFor (Ev.gN 2) (iE (eCall f_law_rounds (lCons (eV 0) (lCons (eC (.int 1)) lNil)))) (sSeq (sAsg (gT [(Ev.gN 3), (Ev.gN 4)]) (eTup (lCons (eCall f_law_figures (lCons (eV 2) (lCons (eC (.int 9)) lNil))) (lCons (eOp oAdd (eOp oIx (eLst (lCons (eC (.str [57, 55, 56])) (lCons (eC (.str [57, 55, 57])) lNil))) (eCall f_law_roll (lCons (eV 2) (lCons (eC (.int 2)) lNil)))) (eCall f_law_figures (lCons (eV 2) (lCons (eC (.int 9)) lNil)))) lNil))))
    (sSeq (sAsg (Ev.gN 5) (eOp oIx (eComp [12] (Ev.gN 12) (iE (eC (.str [48, 49, 50, 51, 52, 53, 54, 55, 56, 57, 88]))) (tE (eCallF f_law_ten (lCons (eOp oAdd (eV 3) (eV 12)) lNil))) (eV 12)) (eC (.int 0))))
    (sSeq (sAsg (Ev.gN 6) (eOp oIx (eComp [12] (Ev.gN 12) (iE (eC (.str [48, 49, 50, 51, 52, 53, 54, 55, 56, 57]))) (tE (eCallF f_law_thirteen (lCons (eOp oAdd (eV 4) (eV 12)) lNil))) (eV 12)) (eC (.int 0))))
    (sSeq (sAsg (gT [(Ev.gN 7), (Ev.gN 8)]) (eTup (lCons (eOp oAdd (eV 3) (eV 5)) (lCons (eOp oAdd (eV 4) (eV 6)) lNil))))
    (sSeq (sAsg (Ev.gN 9) (eOp oAdd (eC (.str [57, 55, 56])) (eV 3)))
    (sSeq (sAsg (Ev.gN 10) (eOp oAdd (eV 9) (eOp oIx (eComp [12] (Ev.gN 12) (iE (eC (.str [48, 49, 50, 51, 52, 53, 54, 55, 56, 57]))) (tE (eCallF f_law_thirteen (lCons (eOp oAdd (eV 9) (eV 12)) lNil))) (eV 12)) (eC (.int 0)))))
    (sSeq (sIf (Ev.tOr (tCp cNe (eCallF f_check_of_ten (lCons (eV 3) lNil)) (eV 5)) (Ev.tOr (tCp cNe (eCallF f_check_of_thirteen (lCons (eV 4) lNil)) (eV 6)) (Ev.tNot (tE (eCallF f_is_book_number (lCons (eV 7) lNil)))))) (sSeq (sRet (eC (.bl false)))
    sNop) sNop)
    (sSeq (sIf (Ev.tOr (Ev.tNot (tE (eCallF f_is_book_number (lCons (eV 8) lNil)))) (tCp cNe (eCallF f_plain_number (lCons (eOp oAdd (eOp oAdd (eOp oAdd (eOp oAdd (eCut (eV 7) none (some (eC (.int 1)))) (eC (.str [45]))) (eCut (eV 7) (some (eC (.int 1))) (some (eC (.int 5))))) (eC (.str [32]))) (eCut (eV 7) (some (eC (.int 5))) none)) lNil)) (eV 10))) (sSeq (sRet (eC (.bl false)))
    sNop) sNop)
    (sSeq (sIf (Ev.tOr (tCp cNe (eCallF f_plain_number (lCons (eV 8) lNil)) (eV 8)) (Ev.tOr (tCp cNe (eCallF f_plain_number (lCons (eV 10) lNil)) (eV 10)) (tCp cNe (eCallF f_old_number (lCons (eV 10) lNil)) (eV 7)))) (sSeq (sRet (eC (.bl false)))
    sNop) sNop)
    (sSeq (sIf (tCp cNe (eCallF f_old_number (lCons (eV 8) lNil)) (eIf (tCp cEq (eCut (eV 4) none (some (eC (.int 3)))) (eC (.str [57, 55, 57]))) (eC (.str [])) (eOp oAdd (eCut (eV 4) (some (eC (.int 3))) none) (eOp oIx (eComp [12] (Ev.gN 12) (iE (eC (.str [48, 49, 50, 51, 52, 53, 54, 55, 56, 57, 88]))) (tE (eCallF f_law_ten (lCons (eOp oAdd (eCut (eV 4) (some (eC (.int 3))) none) (eV 12)) lNil))) (eV 12)) (eC (.int 0)))))) (sSeq (sRet (eC (.bl false)))
    sNop) sNop)
    (sSeq (sIf (Ev.tOr (tCp cIsNot (eCallF f_is_same_number (lCons (eV 7) (lCons (eV 10) lNil))) (eC (.bl true))) (tCp cNe (eCallF f_is_same_number (lCons (eV 7) (lCons (eV 8) lNil))) (eCp cEq (eV 10) (eV 8)))) (sSeq (sRet (eC (.bl false)))
    sNop) sNop)
    (sSeq (sPar 11 12 (eCall f_law_roll (lCons (eV 2) (lCons (eC (.int 13)) lNil))) (eFn bStr (lCons (eCall f_law_roll (lCons (eV 2) (lCons (eC (.int 10)) lNil))) lNil)))
    (sSeq (sAsg (Ev.gN 13) (eOp oAdd (eOp oAdd (eCut (eV 8) none (some (eV 11))) (eV 12)) (eCut (eV 8) (some (eOp oAdd (eV 11) (eC (.int 1)))) none)))
    (sSeq (sAsg (Ev.gN 14) (eCall f_law_roll (lCons (eV 2) (lCons (eC (.int 10)) lNil))))
    (sSeq (sAsg (Ev.gN 15) (eOp oAdd (eOp oAdd (eCut (eV 7) none (some (eV 14))) (eV 12)) (eCut (eV 7) (some (eOp oAdd (eV 14) (eC (.int 1)))) none)))
    (sSeq (sIf (tCp cNe (eCallF f_is_book_number (lCons (eV 13) lNil)) (eAnd (eCp cIn (eCut (eV 13) none (some (eC (.int 3)))) (eLst (lCons (eC (.str [57, 55, 56])) (lCons (eC (.str [57, 55, 57])) lNil)))) (eCallF f_law_thirteen (lCons (eV 13) lNil)))) (sSeq (sRet (eC (.bl false)))
    sNop) sNop)
    (sSeq (sIf (Ev.tOr (Ev.tAnd (tCp cNe (eV 13) (eV 8)) (Ev.tAnd (tCp cGt (eV 11) (eC (.int 2))) (tE (eCallF f_is_book_number (lCons (eV 13) lNil))))) (tCp cNe (eCallF f_is_book_number (lCons (eV 15) lNil)) (eCallF f_law_ten (lCons (eV 15) lNil)))) (sSeq (sRet (eC (.bl false)))
    sNop) sNop)
    (sSeq (sIf (Ev.tAnd (tCp cNe (eV 15) (eV 7)) (tE (eCallF f_is_book_number (lCons (eV 15) lNil)))) (sSeq (sRet (eC (.bl false)))
    sNop) sNop)
    (sSeq (sAsg (Ev.gN 16) (eOp oAdd (eOp oAdd (eCut (eV 7) none (some (eV 14))) (eC (.str [63]))) (eCut (eV 7) (some (eOp oAdd (eV 14) (eC (.int 1)))) none)))
    (sSeq (sAsg (Ev.gN 17) (eComp [28] (Ev.gN 28) (iE (eC (.str [48, 49, 50, 51, 52, 53, 54, 55, 56, 57, 88]))) (Ev.tAnd (Ev.tOr (tCp cNe (eV 28) (eC (.str [88]))) (tCp cEq (eV 14) (eC (.int 9)))) (tE (eCallF f_law_ten (lCons (eOp oAdd (eOp oAdd (eCut (eV 7) none (some (eV 14))) (eV 28)) (eCut (eV 7) (some (eOp oAdd (eV 14) (eC (.int 1)))) none)) lNil)))) (eV 28)))
    (sSeq (sIf (tCp cNe (eFn bList (lCons (eCallF f_missing_figure (lCons (eV 16) lNil)) lNil)) (eV 17)) (sSeq (sRet (eC (.bl false)))
    sNop) sNop)
    (sSeq (sAsg (Ev.gN 18) (eC (.str [67, 111, 100, 101, 69, 114, 114, 111, 114])))
    (sSeq (sFor (gT [(Ev.gN 19), (Ev.gN 20)]) (iE (eV 1)) (sSeq (sFor (gT [(Ev.gN 25), (Ev.gN 26)]) (iE (eV 20)) (sSeq (sAsg (Ev.gN 27) (eCut (eV 3) (some (eFn bLen (lCons (eV 19) lNil))) (some (eOp oAdd (eFn bLen (lCons (eV 19) lNil)) (eFn bLen (lCons (eV 25) lNil))))))
    (sSeq (sIf (Ev.tAnd (tCp cEq (eV 18) (eC (.str [67, 111, 100, 101, 69, 114, 114, 111, 114]))) (Ev.tAnd (tCp cEq (eCut (eV 3) none (some (eFn bLen (lCons (eV 19) lNil)))) (eV 19)) (tCh cLe cLe (eV 25) (eV 27) (eV 26)))) (sSeq (sAsg (Ev.gN 18) (eM1 mJoin (eC (.str [45])) (eLst (lCons (eC (.str [57, 55, 56])) (lCons (eV 19) (lCons (eV 27) (lCons (eCut (eV 3) (some (eOp oAdd (eFn bLen (lCons (eV 19) lNil)) (eFn bLen (lCons (eV 25) lNil)))) none) (lCons (eOp oIx (eV 10) (eC (.int 12))) lNil))))))))
    sNop) sNop)
    sNop)))
    sNop))
    (sSeq (sIf (Ev.tOr (tCp cNe (eTold told_cs told_ret (eCallF f_parted_number (lCons (eV 7) (lCons (eV 1) lNil)))) (eV 18)) (Ev.tAnd (tCp cNe (eV 18) (eC (.str [67, 111, 100, 101, 69, 114, 114, 111, 114]))) (tCp cNe (eCallF f_plain_number (lCons (eV 18) lNil)) (eV 10)))) (sSeq (sRet (eC (.bl false)))
    sNop) sNop)
    (sSeq (sPar 21 22 (eCall f_law_figures (lCons (eV 2) (lCons (eOp oAdd (eC (.int 1)) (eCall f_law_roll (lCons (eV 2) (lCons (eC (.int 12)) lNil)))) lNil))) (eOp oAdd (eC (.int 1)) (eCall f_law_roll (lCons (eV 2) (lCons (eC (.int 12)) lNil)))))
    (sSeq (sAsg (Ev.gN 23) (eFn bInt (lCons (eCall f_law_figures (lCons (eV 2) (lCons (eOp oAdd (eC (.int 1)) (eCall f_law_roll (lCons (eV 2) (lCons (eV 22) lNil)))) lNil))) lNil)))
    (sSeq (sAsg (Ev.gN 24) (eCallF f_made_card (lCons (eV 23) (lCons (eV 22) lNil))))
    (sSeq (sIf (Ev.tOr (tCp cNe (eCallF f_sum_of_card (lCons (eV 21) lNil)) (eCallF f_law_card (lCons (eV 21) lNil))) (Ev.tOr (tCp cNe (eCallF f_is_card (lCons (eV 21) lNil)) (eCp cEq (eOp oMod (eCallF f_law_card (lCons (eV 21) lNil)) (eC (.int 10))) (eC (.int 0)))) (Ev.tNot (tE (eCallF f_is_card (lCons (eV 24) lNil)))))) (sSeq (sRet (eC (.bl false)))
    sNop) sNop)
    (sSeq (sIf (Ev.tOr (tCp cNe (eCallF f_number_of_card (lCons (eV 24) lNil)) (eV 23)) (Ev.tOr (tCp cNe (eFn bLen (lCons (eV 24) lNil)) (eOp oAdd (eV 22) (eC (.int 1)))) (tCp cNe (eFn bList (lCons (eCallF f_mended_by_one (lCons (eV 21) lNil)) lNil)) (eCallF f_law_near (lCons (eV 21) lNil))))) (sSeq (sRet (eC (.bl false)))
    sNop) sNop)
    (sSeq (sIf (tCp cNe (eComp [28] (Ev.gN 28) (iE (eCallF f_law_near (lCons (eV 24) lNil))) (tCp cLt (eFn bLen (lCons (eComp [29] (Ev.gN 29) (iRange1 (eFn bLen (lCons (eV 24) lNil))) (tCp cNe (eOp oIx (eV 28) (eV 29)) (eOp oIx (eV 24) (eV 29))) (eV 29)) lNil)) (eC (.int 2))) (eV 28)) (eLst lNil)) (sSeq (sRet (eC (.bl false)))
    sNop) sNop)
    sNop)))))))))))))))))))))))))))))))
    (sSeq (sRet (eCallF f_law_plain lNil))
    sNop)))
def f_law : Fx := mkFn 30 1 b_law
end K01
/-! the defs of law_k01_numbers_that_check do as their mirrors; printed by gen.py -/
namespace K01
open Ev PySem PySem.Spec PyProof.Rows L2
abbrev PP : Program := PySem.Challenge.pw_librarystack_k01_numbers_that_check
def topS (i : Nat) : Stmt := PP.main.body.getD i (.Pass ⟨0, 0, 0, 0⟩)
abbrev s_figures_of : Stmt := topS 6
abbrev s_check_of_ten : Stmt := topS 7
abbrev s_check_of_thirteen : Stmt := topS 8
abbrev s_is_book_number : Stmt := topS 9
abbrev s_plain_number : Stmt := topS 10
abbrev s_old_number : Stmt := topS 11
abbrev s_is_same_number : Stmt := topS 12
abbrev s_parted_number : Stmt := topS 13
abbrev s_sum_of_card : Stmt := topS 14
abbrev s_made_card : Stmt := topS 15
abbrev s_is_card : Stmt := topS 16
abbrev s_number_of_card : Stmt := topS 17
abbrev s_mended_by_one : Stmt := topS 18
abbrev s_is_number_at_all : Stmt := topS 20
abbrev s_missing_figure : Stmt := topS 19
abbrev s_law_dice : Stmt := topS 22
abbrev s_law_roll : Stmt := topS 23
abbrev s_law_rounds : Stmt := topS 24
abbrev s_law_ten : Stmt := topS 26
abbrev s_law_thirteen : Stmt := topS 27
abbrev s_law_card : Stmt := topS 28
abbrev s_law_figures : Stmt := topS 29
abbrev s_law_near : Stmt := topS 30
abbrev s_law_plain : Stmt := topS 31
abbrev s_law : Stmt := topS 32
abbrev s_law_told : Stmt := topS 25
theorem S0 : (PySem.Str.ofString "" : PySem.Str) = sOf [] := by decide +kernel
theorem S1 : (PySem.Str.ofString "- " : PySem.Str) = sOf [45, 32] := by decide +kernel
theorem S2 : (PySem.Str.ofString "X" : PySem.Str) = sOf [88] := by decide +kernel
theorem S3 : (PySem.Str.ofString "979" : PySem.Str) = sOf [57, 55, 57] := by decide +kernel
theorem S4 : (PySem.Str.ofString "978" : PySem.Str) = sOf [57, 55, 56] := by decide +kernel
theorem S5 : (PySem.Str.ofString "-" : PySem.Str) = sOf [45] := by decide +kernel
theorem S6 : (PySem.Str.ofString "0" : PySem.Str) = sOf [48] := by decide +kernel
theorem S7 : (PySem.Str.ofString "?" : PySem.Str) = sOf [63] := by decide +kernel
theorem S8 : (PySem.Str.ofString "0123456789" : PySem.Str) = sOf [48, 49, 50, 51, 52, 53, 54, 55, 56, 57] := by decide +kernel
theorem S9 : (PySem.Str.ofString "699" : PySem.Str) = sOf [54, 57, 57] := by decide +kernel
theorem Z10 : (PySem.Str.ofString "200" : PySem.Str) = sOf [50, 48, 48] := by decide +kernel
theorem S11 : (PySem.Str.ofString "19" : PySem.Str) = sOf [49, 57] := by decide +kernel
theorem S12 : (PySem.Str.ofString "00" : PySem.Str) = sOf [48, 48] := by decide +kernel
theorem Z13 : (PySem.Str.ofString "080442957" : PySem.Str) = sOf [48, 56, 48, 52, 52, 50, 57, 53, 55] := by decide +kernel
theorem S14 : (PySem.Str.ofString "978-0-306-40615-7" : PySem.Str) = sOf [57, 55, 56, 45, 48, 45, 51, 48, 54, 45, 52, 48, 54, 49, 53, 45, 55] := by decide +kernel
theorem S15 : (PySem.Str.ofString "0306406152" : PySem.Str) = sOf [48, 51, 48, 54, 52, 48, 54, 49, 53, 50] := by decide +kernel
theorem S16 : (PySem.Str.ofString "9780306406157" : PySem.Str) = sOf [57, 55, 56, 48, 51, 48, 54, 52, 48, 54, 49, 53, 55] := by decide +kernel
theorem S17 : (PySem.Str.ofString "0-306-40615-2" : PySem.Str) = sOf [48, 45, 51, 48, 54, 45, 52, 48, 54, 49, 53, 45, 50] := by decide +kernel
theorem S18 : (PySem.Str.ofString "000422" : PySem.Str) = sOf [48, 48, 48, 52, 50, 50] := by decide +kernel
theorem S19 : (PySem.Str.ofString "79927398713" : PySem.Str) = sOf [55, 57, 57, 50, 55, 51, 57, 56, 55, 49, 51] := by decide +kernel
theorem S20 : (PySem.Str.ofString "978030640615" : PySem.Str) = sOf [57, 55, 56, 48, 51, 48, 54, 52, 48, 54, 49, 53] := by decide +kernel
theorem S21 : (PySem.Str.ofString "x" : PySem.Str) = sOf [120] := by decide +kernel
theorem S22 : (PySem.Str.ofString "03064?6152" : PySem.Str) = sOf [48, 51, 48, 54, 52, 63, 54, 49, 53, 50] := by decide +kernel
theorem S23 : (PySem.Str.ofString "79927398710" : PySem.Str) = sOf [55, 57, 57, 50, 55, 51, 57, 56, 55, 49, 48] := by decide +kernel
theorem S24 : (PySem.Str.ofString "12" : PySem.Str) = sOf [49, 50] := by decide +kernel
theorem S25 : (PySem.Str.ofString "1 2-X" : PySem.Str) = sOf [49, 32, 50, 45, 88] := by decide +kernel
theorem S26 : (PySem.Str.ofString "a" : PySem.Str) = sOf [97] := by decide +kernel
theorem S27 : (PySem.Str.ofString "X1" : PySem.Str) = sOf [88, 49] := by decide +kernel
theorem S28 : (PySem.Str.ofString "12345678" : PySem.Str) = sOf [49, 50, 51, 52, 53, 54, 55, 56] := by decide +kernel
theorem S29 : (PySem.Str.ofString "12345678X" : PySem.Str) = sOf [49, 50, 51, 52, 53, 54, 55, 56, 88] := by decide +kernel
theorem S30 : (PySem.Str.ofString "12345678901" : PySem.Str) = sOf [49, 50, 51, 52, 53, 54, 55, 56, 57, 48, 49] := by decide +kernel
theorem S31 : (PySem.Str.ofString "0306406153" : PySem.Str) = sOf [48, 51, 48, 54, 52, 48, 54, 49, 53, 51] := by decide +kernel
theorem S32 : (PySem.Str.ofString "1" : PySem.Str) = sOf [49] := by decide +kernel
theorem S33 : (PySem.Str.ofString "1x" : PySem.Str) = sOf [49, 120] := by decide +kernel
theorem S34 : (PySem.Str.ofString "5" : PySem.Str) = sOf [53] := by decide +kernel
theorem S35 : (PySem.Str.ofString "43" : PySem.Str) = sOf [52, 51] := by decide +kernel
theorem S36 : (PySem.Str.ofString "1??" : PySem.Str) = sOf [49, 63, 63] := by decide +kernel
theorem S37 : (PySem.Str.ofString "a?" : PySem.Str) = sOf [97, 63] := by decide +kernel
theorem S38 : (PySem.Str.ofString "CodeError" : PySem.Str) = sOf [67, 111, 100, 101, 69, 114, 114, 111, 114] := by decide +kernel
theorem S39 : (PySem.Str.ofString "79227398710" : PySem.Str) = sOf [55, 57, 50, 50, 55, 51, 57, 56, 55, 49, 48] := by decide +kernel
theorem S40 : (PySem.Str.ofString "71927398710" : PySem.Str) = sOf [55, 49, 57, 50, 55, 51, 57, 56, 55, 49, 48] := by decide +kernel
theorem S41 : (PySem.Str.ofString "09927398710" : PySem.Str) = sOf [48, 57, 57, 50, 55, 51, 57, 56, 55, 49, 48] := by decide +kernel
theorem S42 : (PySem.Str.ofString "7" : PySem.Str) = sOf [55] := by decide +kernel
theorem S43 : (PySem.Str.ofString "12X" : PySem.Str) = sOf [49, 50, 88] := by decide +kernel
theorem S44 : (PySem.Str.ofString "4" : PySem.Str) = sOf [52] := by decide +kernel
theorem S45 : (PySem.Str.ofString "13" : PySem.Str) = sOf [49, 51] := by decide +kernel
theorem S46 : (PySem.Str.ofString "8499" : PySem.Str) = sOf [56, 52, 57, 57] := by decide +kernel
theorem S47 : (PySem.Str.ofString "7000" : PySem.Str) = sOf [55, 48, 48, 48] := by decide +kernel
theorem S48 : (PySem.Str.ofString "0123456789X" : PySem.Str) = sOf [48, 49, 50, 51, 52, 53, 54, 55, 56, 57, 88] := by decide +kernel
theorem S49 : (PySem.Str.ofString " " : PySem.Str) = sOf [32] := by decide +kernel
theorem sc_figures_of : FnScope ["text", "found", "sign"] ["text"] (defScope s_figures_of) := ⟨rfl, rfl, rfl, by decide +kernel, rfl, by decide +kernel, by decide +kernel⟩
theorem sc_check_of_ten : FnScope ["nine", "whole", "left", "place", "sign"] ["nine"] (defScope s_check_of_ten) := ⟨rfl, rfl, rfl, by decide +kernel, rfl, by decide +kernel, by decide +kernel⟩
theorem sc_check_of_thirteen : FnScope ["twelve", "whole", "place", "sign"] ["twelve"] (defScope s_check_of_thirteen) := ⟨rfl, rfl, rfl, by decide +kernel, rfl, by decide +kernel, by decide +kernel⟩
theorem sc_is_book_number : FnScope ["text", "code"] ["text"] (defScope s_is_book_number) := ⟨rfl, rfl, rfl, by decide +kernel, rfl, by decide +kernel, by decide +kernel⟩
theorem sc_plain_number : FnScope ["text", "code"] ["text"] (defScope s_plain_number) := ⟨rfl, rfl, rfl, by decide +kernel, rfl, by decide +kernel, by decide +kernel⟩
theorem sc_old_number : FnScope ["text", "code"] ["text"] (defScope s_old_number) := ⟨rfl, rfl, rfl, by decide +kernel, rfl, by decide +kernel, by decide +kernel⟩
theorem sc_is_same_number : FnScope ["one", "other"] ["one", "other"] (defScope s_is_same_number) := ⟨rfl, rfl, rfl, by decide +kernel, rfl, by decide +kernel, by decide +kernel⟩
theorem sc_parted_number : FnScope ["text", "groups", "code", "rest", "group", "rows", "first", "last", "house", "book"] ["text", "groups"] (defScope s_parted_number) := ⟨rfl, rfl, rfl, by decide +kernel, rfl, by decide +kernel, by decide +kernel⟩
theorem sc_sum_of_card : FnScope ["code", "found", "place", "sign", "worth"] ["code"] (defScope s_sum_of_card) := ⟨rfl, rfl, rfl, by decide +kernel, rfl, by decide +kernel, by decide +kernel⟩
theorem sc_made_card : FnScope ["number", "long", "code"] ["number", "long"] (defScope s_made_card) := ⟨rfl, rfl, rfl, by decide +kernel, rfl, by decide +kernel, by decide +kernel⟩
theorem sc_is_card : FnScope ["code"] ["code"] (defScope s_is_card) := ⟨rfl, rfl, rfl, by decide +kernel, rfl, by decide +kernel, by decide +kernel⟩
theorem sc_number_of_card : FnScope ["code"] ["code"] (defScope s_number_of_card) := ⟨rfl, rfl, rfl, by decide +kernel, rfl, by decide +kernel, by decide +kernel⟩
theorem sc_mended_by_one : FnScope ["code", "found", "place", "sign", "one"] ["code"] (defScope s_mended_by_one) := ⟨rfl, rfl, rfl, by decide +kernel, rfl, by decide +kernel, by decide +kernel⟩
theorem sc_is_number_at_all : FnScope ["text"] ["text"] (defScope s_is_number_at_all) := ⟨rfl, rfl, rfl, by decide +kernel, rfl, by decide +kernel, by decide +kernel⟩
theorem sc_missing_figure : FnScope ["text", "found", "sign", "code"] ["text"] (defScope s_missing_figure) := ⟨rfl, rfl, rfl, by decide +kernel, rfl, by decide +kernel, by decide +kernel⟩
theorem sc_law_dice : FnScope ["cell"] ["cell"] (defScope s_law_dice) := ⟨rfl, rfl, rfl, by decide +kernel, rfl, by decide +kernel, by decide +kernel⟩
theorem sc_law_roll : FnScope ["dice", "many", "found"] ["dice", "many"] (defScope s_law_roll) := ⟨rfl, rfl, rfl, by decide +kernel, rfl, by decide +kernel, by decide +kernel⟩
theorem sc_law_rounds : FnScope ["script", "most", "cells", "cell"] ["script", "most"] (defScope s_law_rounds) := ⟨rfl, rfl, rfl, by decide +kernel, rfl, by decide +kernel, by decide +kernel⟩
theorem sc_law_ten : FnScope ["code", "worths", "sign", "k", "worth"] ["code"] (defScope s_law_ten) := ⟨rfl, rfl, rfl, by decide +kernel, rfl, by decide +kernel, by decide +kernel⟩
theorem sc_law_thirteen : FnScope ["code", "k", "sign"] ["code"] (defScope s_law_thirteen) := ⟨rfl, rfl, rfl, by decide +kernel, rfl, by decide +kernel, by decide +kernel⟩
theorem sc_law_card : FnScope ["code", "whole", "k", "twice"] ["code"] (defScope s_law_card) := ⟨rfl, rfl, rfl, by decide +kernel, rfl, by decide +kernel, by decide +kernel⟩
theorem sc_law_figures : FnScope ["dice", "many", "k"] ["dice", "many"] (defScope s_law_figures) := ⟨rfl, rfl, rfl, by decide +kernel, rfl, by decide +kernel, by decide +kernel⟩
theorem sc_law_near : FnScope ["code", "rows", "k", "one", "sign", "row"] ["code"] (defScope s_law_near) := ⟨rfl, rfl, rfl, by decide +kernel, rfl, by decide +kernel, by decide +kernel⟩
theorem sc_law_plain : FnScope ["rows", "told", "bad", "due", "k", "f"] [] (defScope s_law_plain) := ⟨rfl, rfl, rfl, by decide +kernel, rfl, by decide +kernel, by decide +kernel⟩
theorem sc_law : FnScope ["script", "groups", "dice", "nine", "twelve", "ten", "last", "old", "new", "both", "same", "spot", "sign", "wrong", "place", "odd", "hole", "fits", "due", "group", "rows", "code", "long", "number", "card", "first", "end", "house", "one", "k"] ["script"] (defScope s_law) := ⟨rfl, rfl, rfl, by decide +kernel, rfl, by decide +kernel, by decide +kernel⟩
theorem sc_law_told : FnScope ["what"] ["what"] (defScope s_law_told) := ⟨rfl, rfl, rfl, by decide +kernel, rfl, by decide +kernel, by decide +kernel⟩
theorem B_law_told : Bnd "_law_told" s_law_told ["what"] := fun _ _ _ _ _ _ us hl => match us, hl with | [_], _ => rfl
/-- what is to be known of the module -/
structure Facts (K : PySem.W.Frag) (mg : Str → Option Value) (base : Heap) (W : Wd) : Prop where
  d_figures_of : DefOk K mg "figures_of" s_figures_of
  d_check_of_ten : DefOk K mg "check_of_ten" s_check_of_ten
  d_check_of_thirteen : DefOk K mg "check_of_thirteen" s_check_of_thirteen
  d_is_book_number : DefOk K mg "is_book_number" s_is_book_number
  d_plain_number : DefOk K mg "plain_number" s_plain_number
  d_old_number : DefOk K mg "old_number" s_old_number
  d_is_same_number : DefOk K mg "is_same_number" s_is_same_number
  d_parted_number : DefOk K mg "parted_number" s_parted_number
  d_sum_of_card : DefOk K mg "sum_of_card" s_sum_of_card
  d_made_card : DefOk K mg "made_card" s_made_card
  d_is_card : DefOk K mg "is_card" s_is_card
  d_number_of_card : DefOk K mg "number_of_card" s_number_of_card
  d_mended_by_one : DefOk K mg "mended_by_one" s_mended_by_one
  d_is_number_at_all : DefOk K mg "is_number_at_all" s_is_number_at_all
  d_missing_figure : DefOk K mg "missing_figure" s_missing_figure
  d_law_dice : DefOk K mg "_law_dice" s_law_dice
  d_law_roll : DefOk K mg "_law_roll" s_law_roll
  d_law_rounds : DefOk K mg "_law_rounds" s_law_rounds
  d_law_ten : DefOk K mg "_law_ten" s_law_ten
  d_law_thirteen : DefOk K mg "_law_thirteen" s_law_thirteen
  d_law_card : DefOk K mg "_law_card" s_law_card
  d_law_figures : DefOk K mg "_law_figures" s_law_figures
  d_law_near : DefOk K mg "_law_near" s_law_near
  d_law_plain : DefOk K mg "_law_plain" s_law_plain
  d_law : DefOk K mg "law" s_law
  n_abs : mg "abs" = none
  n_any : mg "any" = none
  n_dict : mg "dict" = none
  n_enumerate : mg "enumerate" = none
  n_int : mg "int" = none
  n_len : mg "len" = none
  n_list : mg "list" = none
  n_range : mg "range" = none
  n_sorted : mg "sorted" = none
  n_str : mg "str" = none
  n_sum : mg "sum" = none
  n_tuple : mg "tuple" = none
  g_FIGURES : GloOk K mg "FIGURES" c_FIGURES
  g_MOST_FIGURES : GloOk K mg "MOST_FIGURES" c_MOST_FIGURES
  x_CodeError : ExcOk K mg W "CodeError" 1
  exm_CodeError : ∀ k, PySem.W.exmOne K (.ref (W.exc k)) (.ref (W.exc 1)) = some (([1] : List Nat).contains k)
  t_figures_of : TabOkG K mg base W "figures_of"
  t_check_of_ten : TabOkG K mg base W "check_of_ten"
  t_check_of_thirteen : TabOkG K mg base W "check_of_thirteen"
  t_sum_of_card : TabOkG K mg base W "sum_of_card"
  t_mended_by_one : TabOkG K mg base W "mended_by_one"
  t_law_plain : TabOkL K mg base W "_law_plain" "_law_plain.<locals>.<lambda>"
  t_law : TabOkL K mg base W "law" "law.<locals>.<lambda>"
  told : ToldD K mg W "_law_told" (He.ga K "_law_told") (He.ga K "CodeError") told_cs told_ret ["what"] "what" (defArgs s_law_told) (defBody s_law_told) (defScope s_law_told) (fdOf K "_law_told").code
end K01
/-! the defs of law_k01_numbers_that_check do as their mirrors; printed by gen.py -/
namespace K01
open Ev PySem PySem.Spec PyProof.Rows L2
section
variable {w : World} {K : PySem.W.Frag} {mg : Str → Option Value} {base : Heap} {W : Wd}
theorem B_figures_of : Bnd "figures_of" s_figures_of ["text"] := fun _ _ _ _ _ _ us hl => match us, hl with | [_], _ => rfl
theorem ok_figures_of (C : Facts K mg base W) : FnE PP w K mg base W 9 (He.ga K "figures_of") (fdOf K "figures_of") ["text"] f_figures_of := by
  unfold f_figures_of b_figures_of
  exact fn_evC C.d_figures_of.fun_ sc_figures_of fun A outer s H E hr => (sss_cons (ss_set (i := 1) sc_figures_of.nd rfl (loc_of rfl) (se_m1 PySem.F.slot_str_join PySem.F.type_str_join ms_join (se_strL S0) (se_comp (own := [("sign", 2)]) rfl sc_figures_of.nd (si_any (se_var (i := 0) rfl (vis_of rfl) rfl rfl)) (blkOk_by (by kernel_rfl)) (fun _ _ _ _ _ => (sg_name (i := 2) sc_figures_of.nd rfl (loc_of rfl) (.inr rfl))) (by decide) (fun _ _ _ _ _ => (sts_one (st_cmp (os_notIn (hu65 hr)) (se_var (i := 2) rfl (vis_of rfl) rfl rfl) (se_strL S1) rfl))) (fun _ _ _ _ _ => (se_var (i := 2) rfl (vis_of rfl) rfl rfl)) (fun _ => rfl)) rfl rfl rfl) rfl (.inl rfl))
    (sss_cons (ss_if (PW.pt (sw_or (st_cmp (os_eq (hu64 hr)) (se_var (i := 1) rfl (vis_of rfl) rfl rfl) (se_strL S0) rfl) (sw_or (st_truth (se_any (own := [("sign", 2)]) (GxParts.mk (k := 0) (own := [("sign", 2)]) (hr.mono (by decide)) C.t_figures_of.tb C.t_figures_of.code C.t_figures_of.tab C.t_figures_of.tabs (blkOk_by (by kernel_rfl)) sc_figures_of.nd rfl (nocell_of (by kernel_rfl)) rfl (si_any (se_cut (se_var (i := 1) rfl (vis_of rfl) rfl rfl) so_none (so_some (se_neg se_int)))) (by decide) (fun _ => rfl) (fun _ _ _ _ _ _ => gx_g (sg_name (i := 2) sc_figures_of.nd rfl (loc_of rfl) (.inr rfl))) (fun _ _ _ _ _ _ hg1 => gx_t sts_nil) (fun _ _ _ _ _ _ hg1 => gx_e (se_cmp (os_notIn (hu65 hg1)) (se_var (i := 2) rfl (vis_of rfl) rfl rfl) (se_glob C.g_FIGURES rfl rfl) rfl))) rfl C.n_any rfl) (fun _ => rfl)) (sw_or1 (st_cmp (os_notIn (hu65 hr)) (se_ix (hu1 hr) (se_var (i := 1) rfl (vis_of rfl) rfl rfl) (se_neg se_int) (fun _ _ => rfl)) (se_op os_add (se_glob C.g_FIGURES rfl rfl) (se_strL S2)) rfl))))) (sss_cons (ss_raise rfl (C.x_CodeError.mk_ rfl rfl))
    sss_nil) sss_nil)
    (sss_cons (ss_ret (se_var (i := 1) rfl (vis_of rfl) rfl rfl))
    sss_nil)))
theorem B_check_of_ten : Bnd "check_of_ten" s_check_of_ten ["nine"] := fun _ _ _ _ _ _ us hl => match us, hl with | [_], _ => rfl
theorem ok_check_of_ten (C : Facts K mg base W) : FnE PP w K mg base W 9 (He.ga K "check_of_ten") (fdOf K "check_of_ten") ["nine"] f_check_of_ten := by
  unfold f_check_of_ten b_check_of_ten
  exact fn_evC C.d_check_of_ten.fun_ sc_check_of_ten fun A outer s H E hr => (sss_cons (ss_if (PW.pt (sw_or (st_cmp (os_ne (hu64 hr)) (se_fnB fs_len rfl C.n_len bt_len (sa_cons (se_var (i := 0) rfl (vis_of rfl) rfl rfl) sa_nil rfl) (by decide) rfl rfl rfl) se_int rfl) (sw_or1 (st_truth (se_any (own := [("sign", 4)]) (GxParts.mk (k := 0) (own := [("sign", 4)]) (hr.mono (by decide)) C.t_check_of_ten.tb C.t_check_of_ten.code C.t_check_of_ten.tab C.t_check_of_ten.tabs (blkOk_by (by kernel_rfl)) sc_check_of_ten.nd rfl (nocell_of (by kernel_rfl)) rfl (si_any (se_var (i := 0) rfl (vis_of rfl) rfl rfl)) (by decide) (fun _ => rfl) (fun _ _ _ _ _ _ => gx_g (sg_name (i := 4) sc_check_of_ten.nd rfl (loc_of rfl) (.inr rfl))) (fun _ _ _ _ _ _ hg1 => gx_t sts_nil) (fun _ _ _ _ _ _ hg1 => gx_e (se_cmp (os_notIn (hu65 hg1)) (se_var (i := 4) rfl (vis_of rfl) rfl rfl) (se_glob C.g_FIGURES rfl rfl) rfl))) rfl C.n_any rfl) (fun _ => rfl))))) (sss_cons (ss_raise rfl (C.x_CodeError.mk_ rfl rfl))
    sss_nil) sss_nil)
    (sss_cons (ss_set (i := 1) sc_check_of_ten.nd rfl (loc_of rfl) (se_sumG (own := [("place", 3), ("sign", 4)]) (GxParts.mk (k := 0) (own := [("place", 3), ("sign", 4)]) (hr.mono (by decide)) C.t_check_of_ten.tb C.t_check_of_ten.code C.t_check_of_ten.tab C.t_check_of_ten.tabs (blkOk_by (by kernel_rfl)) sc_check_of_ten.nd rfl (nocell_of (by kernel_rfl)) rfl (si_enum rfl C.n_enumerate (se_var (i := 0) rfl (vis_of rfl) rfl rfl) rfl) (by decide) (fun _ => rfl) (fun _ _ _ _ _ _ => gx_g (sg_tup rfl (sgs_cons (sg_name (i := 3) sc_check_of_ten.nd rfl (loc_of rfl) (.inr rfl)) (sgs_cons (sg_name (i := 4) sc_check_of_ten.nd rfl (loc_of rfl) (.inr rfl)) sgs_nil rfl) rfl) rfl rfl)) (fun _ _ _ _ _ _ hg2 => gx_t sts_nil) (fun _ _ _ _ _ _ hg2 => gx_e (se_op os_mulB (se_op os_sub se_int (se_var (i := 3) rfl (vis_of rfl) rfl rfl)) (se_fnT fs_int rfl C.n_int bt_int (sa_cons (se_var (i := 4) rfl (vis_of rfl) rfl rfl) sa_nil rfl) (by decide) rfl rfl rfl)))) rfl C.n_sum rfl) rfl (.inl rfl))
    (sss_cons (ss_set (i := 2) sc_check_of_ten.nd rfl (loc_of rfl) (se_op os_mod (se_op os_sub se_int (se_op os_mod (se_var (i := 1) rfl (vis_of rfl) rfl rfl) se_int)) se_int) rfl (.inl rfl))
    (sss_cons (ss_ret (se_if (st_cmp (os_eq (hu64 hr)) (se_var (i := 2) rfl (vis_of rfl) rfl rfl) se_int rfl) (se_strL S2) (se_fnT fs_str rfl C.n_str bt_str (sa_cons (se_var (i := 2) rfl (vis_of rfl) rfl rfl) sa_nil rfl) (by decide) rfl rfl rfl)))
    sss_nil))))
theorem B_check_of_thirteen : Bnd "check_of_thirteen" s_check_of_thirteen ["twelve"] := fun _ _ _ _ _ _ us hl => match us, hl with | [_], _ => rfl
theorem ok_check_of_thirteen (C : Facts K mg base W) : FnE PP w K mg base W 9 (He.ga K "check_of_thirteen") (fdOf K "check_of_thirteen") ["twelve"] f_check_of_thirteen := by
  unfold f_check_of_thirteen b_check_of_thirteen
  exact fn_evC C.d_check_of_thirteen.fun_ sc_check_of_thirteen fun A outer s H E hr => (sss_cons (ss_if (PW.pt (sw_or (st_cmp (os_ne (hu64 hr)) (se_fnB fs_len rfl C.n_len bt_len (sa_cons (se_var (i := 0) rfl (vis_of rfl) rfl rfl) sa_nil rfl) (by decide) rfl rfl rfl) se_int rfl) (sw_or1 (st_truth (se_any (own := [("sign", 3)]) (GxParts.mk (k := 0) (own := [("sign", 3)]) (hr.mono (by decide)) C.t_check_of_thirteen.tb C.t_check_of_thirteen.code C.t_check_of_thirteen.tab C.t_check_of_thirteen.tabs (blkOk_by (by kernel_rfl)) sc_check_of_thirteen.nd rfl (nocell_of (by kernel_rfl)) rfl (si_any (se_var (i := 0) rfl (vis_of rfl) rfl rfl)) (by decide) (fun _ => rfl) (fun _ _ _ _ _ _ => gx_g (sg_name (i := 3) sc_check_of_thirteen.nd rfl (loc_of rfl) (.inr rfl))) (fun _ _ _ _ _ _ hg1 => gx_t sts_nil) (fun _ _ _ _ _ _ hg1 => gx_e (se_cmp (os_notIn (hu65 hg1)) (se_var (i := 3) rfl (vis_of rfl) rfl rfl) (se_glob C.g_FIGURES rfl rfl) rfl))) rfl C.n_any rfl) (fun _ => rfl))))) (sss_cons (ss_raise rfl (C.x_CodeError.mk_ rfl rfl))
    sss_nil) sss_nil)
    (sss_cons (ss_set (i := 1) sc_check_of_thirteen.nd rfl (loc_of rfl) (se_sumG (own := [("place", 2), ("sign", 3)]) (GxParts.mk (k := 0) (own := [("place", 2), ("sign", 3)]) (hr.mono (by decide)) C.t_check_of_thirteen.tb C.t_check_of_thirteen.code C.t_check_of_thirteen.tab C.t_check_of_thirteen.tabs (blkOk_by (by kernel_rfl)) sc_check_of_thirteen.nd rfl (nocell_of (by kernel_rfl)) rfl (si_enum rfl C.n_enumerate (se_var (i := 0) rfl (vis_of rfl) rfl rfl) rfl) (by decide) (fun _ => rfl) (fun _ _ _ _ _ _ => gx_g (sg_tup rfl (sgs_cons (sg_name (i := 2) sc_check_of_thirteen.nd rfl (loc_of rfl) (.inr rfl)) (sgs_cons (sg_name (i := 3) sc_check_of_thirteen.nd rfl (loc_of rfl) (.inr rfl)) sgs_nil rfl) rfl) rfl rfl)) (fun _ _ _ _ _ _ hg2 => gx_t sts_nil) (fun _ _ _ _ _ _ hg2 => gx_e (se_op os_mulB (se_if (st_cmp (os_eq (hu64 hg2)) (se_op os_mod (se_var (i := 2) rfl (vis_of rfl) rfl rfl) se_int) se_int rfl) se_int se_int) (se_fnT fs_int rfl C.n_int bt_int (sa_cons (se_var (i := 3) rfl (vis_of rfl) rfl rfl) sa_nil rfl) (by decide) rfl rfl rfl)))) rfl C.n_sum rfl) rfl (.inl rfl))
    (sss_cons (ss_ret (se_fnT fs_str rfl C.n_str bt_str (sa_cons (se_op os_mod (se_op os_sub se_int (se_op os_mod (se_var (i := 1) rfl (vis_of rfl) rfl rfl) se_int)) se_int) sa_nil rfl) (by decide) rfl rfl rfl))
    sss_nil)))
theorem B_is_book_number : Bnd "is_book_number" s_is_book_number ["text"] := fun _ _ _ _ _ _ us hl => match us, hl with | [_], _ => rfl
theorem ok_is_book_number (C : Facts K mg base W) : FnE PP w K mg base W 10 (He.ga K "is_book_number") (fdOf K "is_book_number") ["text"] f_is_book_number := by
  unfold f_is_book_number b_is_book_number
  exact fn_evC C.d_is_book_number.fun_ sc_is_book_number fun A outer s H E hr => (sss_cons (ss_set (i := 1) sc_is_book_number.nd rfl (loc_of rfl) (se_callF (ok_figures_of C) (hr.mono (by decide)) rfl C.d_figures_of.mg C.d_figures_of.fun_.kp (C.d_figures_of.bnd B_figures_of) (sa_cons (se_var (i := 0) rfl (vis_of rfl) rfl rfl) sa_nil rfl) rfl rfl rfl) rfl (.inl rfl))
    (sss_cons (ss_if (st_cmp (os_eq (hu64 hr)) (se_fnB fs_len rfl C.n_len bt_len (sa_cons (se_var (i := 1) rfl (vis_of rfl) rfl rfl) sa_nil rfl) (by decide) rfl rfl rfl) se_int rfl) (sss_cons (ss_ret (se_cmp (os_eq (hu64 hr)) (se_callF (ok_check_of_ten C) (hr.mono (by decide)) rfl C.d_check_of_ten.mg C.d_check_of_ten.fun_.kp (C.d_check_of_ten.bnd B_check_of_ten) (sa_cons (se_cut (se_var (i := 1) rfl (vis_of rfl) rfl rfl) so_none (so_some se_int)) sa_nil rfl) rfl rfl rfl) (se_ix (hu1 hr) (se_var (i := 1) rfl (vis_of rfl) rfl rfl) se_int (fun _ _ => rfl)) rfl))
    sss_nil) sss_nil)
    (sss_cons (ss_if (PW.pt (sw_or (st_cmp (os_ne (hu64 hr)) (se_fnB fs_len rfl C.n_len bt_len (sa_cons (se_var (i := 1) rfl (vis_of rfl) rfl rfl) sa_nil rfl) (by decide) rfl rfl rfl) se_int rfl) (sw_or1 (st_cmp (os_notIn (hu65 hr)) (se_cut (se_var (i := 1) rfl (vis_of rfl) rfl rfl) so_none (so_some se_int)) (se_tup (sa_cons (se_strL S4) (sa_cons (se_strL S3) sa_nil rfl) rfl)) rfl)))) (sss_cons (ss_ret se_bl)
    sss_nil) sss_nil)
    (sss_cons (ss_ret (se_cmp (os_eq (hu64 hr)) (se_callF (ok_check_of_thirteen C) (hr.mono (by decide)) rfl C.d_check_of_thirteen.mg C.d_check_of_thirteen.fun_.kp (C.d_check_of_thirteen.bnd B_check_of_thirteen) (sa_cons (se_cut (se_var (i := 1) rfl (vis_of rfl) rfl rfl) so_none (so_some se_int)) sa_nil rfl) rfl rfl rfl) (se_ix (hu1 hr) (se_var (i := 1) rfl (vis_of rfl) rfl rfl) se_int (fun _ _ => rfl)) rfl))
    sss_nil))))
theorem B_plain_number : Bnd "plain_number" s_plain_number ["text"] := fun _ _ _ _ _ _ us hl => match us, hl with | [_], _ => rfl
theorem ok_plain_number (C : Facts K mg base W) : FnE PP w K mg base W 11 (He.ga K "plain_number") (fdOf K "plain_number") ["text"] f_plain_number := by
  unfold f_plain_number b_plain_number
  exact fn_evC C.d_plain_number.fun_ sc_plain_number fun A outer s H E hr => (sss_cons (ss_set (i := 1) sc_plain_number.nd rfl (loc_of rfl) (se_callF (ok_figures_of C) (hr.mono (by decide)) rfl C.d_figures_of.mg C.d_figures_of.fun_.kp (C.d_figures_of.bnd B_figures_of) (sa_cons (se_var (i := 0) rfl (vis_of rfl) rfl rfl) sa_nil rfl) rfl rfl rfl) rfl (.inl rfl))
    (sss_cons (ss_if (st_not (st_truth (se_callF (ok_is_book_number C) (hr.mono (by decide)) rfl C.d_is_book_number.mg C.d_is_book_number.fun_.kp (C.d_is_book_number.bnd B_is_book_number) (sa_cons (se_var (i := 1) rfl (vis_of rfl) rfl rfl) sa_nil rfl) rfl rfl rfl) (fun _ => rfl))) (sss_cons (ss_raise rfl (C.x_CodeError.mk_ rfl rfl))
    sss_nil) sss_nil)
    (sss_cons (ss_if (st_cmp (os_eq (hu64 hr)) (se_fnB fs_len rfl C.n_len bt_len (sa_cons (se_var (i := 1) rfl (vis_of rfl) rfl rfl) sa_nil rfl) (by decide) rfl rfl rfl) se_int rfl) (sss_cons (ss_ret (se_var (i := 1) rfl (vis_of rfl) rfl rfl))
    sss_nil) sss_nil)
    (sss_cons (ss_ret (se_op os_add (se_op os_add (se_strL S4) (se_cut (se_var (i := 1) rfl (vis_of rfl) rfl rfl) so_none (so_some se_int))) (se_callF (ok_check_of_thirteen C) (hr.mono (by decide)) rfl C.d_check_of_thirteen.mg C.d_check_of_thirteen.fun_.kp (C.d_check_of_thirteen.bnd B_check_of_thirteen) (sa_cons (se_op os_add (se_strL S4) (se_cut (se_var (i := 1) rfl (vis_of rfl) rfl rfl) so_none (so_some se_int))) sa_nil rfl) rfl rfl rfl)))
    sss_nil))))
theorem B_old_number : Bnd "old_number" s_old_number ["text"] := fun _ _ _ _ _ _ us hl => match us, hl with | [_], _ => rfl
theorem ok_old_number (C : Facts K mg base W) : FnE PP w K mg base W 12 (He.ga K "old_number") (fdOf K "old_number") ["text"] f_old_number := by
  unfold f_old_number b_old_number
  exact fn_evC C.d_old_number.fun_ sc_old_number fun A outer s H E hr => (sss_cons (ss_set (i := 1) sc_old_number.nd rfl (loc_of rfl) (se_callF (ok_plain_number C) (hr.mono (by decide)) rfl C.d_plain_number.mg C.d_plain_number.fun_.kp (C.d_plain_number.bnd B_plain_number) (sa_cons (se_var (i := 0) rfl (vis_of rfl) rfl rfl) sa_nil rfl) rfl rfl rfl) rfl (.inl rfl))
    (sss_cons (ss_ret (se_if (st_cmp (os_eq (hu64 hr)) (se_cut (se_var (i := 1) rfl (vis_of rfl) rfl rfl) so_none (so_some se_int)) (se_strL S4) rfl) (se_op os_add (se_cut (se_var (i := 1) rfl (vis_of rfl) rfl rfl) (so_some se_int) (so_some se_int)) (se_callF (ok_check_of_ten C) (hr.mono (by decide)) rfl C.d_check_of_ten.mg C.d_check_of_ten.fun_.kp (C.d_check_of_ten.bnd B_check_of_ten) (sa_cons (se_cut (se_var (i := 1) rfl (vis_of rfl) rfl rfl) (so_some se_int) (so_some se_int)) sa_nil rfl) rfl rfl rfl)) (se_strL S0)))
    sss_nil))
theorem B_is_same_number : Bnd "is_same_number" s_is_same_number ["one", "other"] := fun _ _ _ _ _ _ us hl => match us, hl with | [_, _], _ => rfl
theorem ok_is_same_number (C : Facts K mg base W) : FnE PP w K mg base W 12 (He.ga K "is_same_number") (fdOf K "is_same_number") ["one", "other"] f_is_same_number := by
  unfold f_is_same_number b_is_same_number
  exact fn_evC C.d_is_same_number.fun_ sc_is_same_number fun A outer s H E hr => (sss_cons (ss_ret (se_cmp (os_eq (hu64 hr)) (se_callF (ok_plain_number C) (hr.mono (by decide)) rfl C.d_plain_number.mg C.d_plain_number.fun_.kp (C.d_plain_number.bnd B_plain_number) (sa_cons (se_var (i := 0) rfl (vis_of rfl) rfl rfl) sa_nil rfl) rfl rfl rfl) (se_callF (ok_plain_number C) (hr.mono (by decide)) rfl C.d_plain_number.mg C.d_plain_number.fun_.kp (C.d_plain_number.bnd B_plain_number) (sa_cons (se_var (i := 1) rfl (vis_of rfl) rfl rfl) sa_nil rfl) rfl rfl rfl) rfl))
    sss_nil)
theorem B_parted_number : Bnd "parted_number" s_parted_number ["text", "groups"] := fun _ _ _ _ _ _ us hl => match us, hl with | [_, _], _ => rfl
theorem ok_parted_number (C : Facts K mg base W) : FnE PP w K mg base W 12 (He.ga K "parted_number") (fdOf K "parted_number") ["text", "groups"] f_parted_number := by
  unfold f_parted_number b_parted_number
  exact fn_evC C.d_parted_number.fun_ sc_parted_number fun A outer s H E hr => (sss_cons (ss_set (i := 2) sc_parted_number.nd rfl (loc_of rfl) (se_callF (ok_plain_number C) (hr.mono (by decide)) rfl C.d_plain_number.mg C.d_plain_number.fun_.kp (C.d_plain_number.bnd B_plain_number) (sa_cons (se_var (i := 0) rfl (vis_of rfl) rfl rfl) sa_nil rfl) rfl rfl rfl) rfl (.inl rfl))
    (sss_cons (ss_set (i := 3) sc_parted_number.nd rfl (loc_of rfl) (se_cut (se_var (i := 2) rfl (vis_of rfl) rfl rfl) (so_some se_int) (so_some se_int)) rfl (.inl rfl))
    (sss_cons (ss_for (passes_of rfl) rfl (si_any (se_var (i := 1) rfl (vis_of rfl) rfl rfl)) (sg_tup rfl (sgs_cons (sg_name (i := 4) sc_parted_number.nd rfl (loc_of rfl) (.inl rfl)) (sgs_cons (sg_name (i := 5) sc_parted_number.nd rfl (loc_of rfl) (.inl rfl)) sgs_nil rfl) rfl) rfl rfl) (sss_cons (ss_if (st_cmp (os_eq (hu64 hr)) (se_cut (se_var (i := 3) rfl (vis_of rfl) rfl rfl) so_none (so_some (se_fnB fs_len rfl C.n_len bt_len (sa_cons (se_var (i := 4) rfl (vis_of rfl) rfl rfl) sa_nil rfl) (by decide) rfl rfl rfl))) (se_var (i := 4) rfl (vis_of rfl) rfl rfl) rfl) (sss_cons (ss_for (passes_of rfl) rfl (si_any (se_var (i := 5) rfl (vis_of rfl) rfl rfl)) (sg_tup rfl (sgs_cons (sg_name (i := 6) sc_parted_number.nd rfl (loc_of rfl) (.inl rfl)) (sgs_cons (sg_name (i := 7) sc_parted_number.nd rfl (loc_of rfl) (.inl rfl)) sgs_nil rfl) rfl) rfl rfl) (sss_cons (ss_set (i := 8) sc_parted_number.nd rfl (loc_of rfl) (se_cut (se_var (i := 3) rfl (vis_of rfl) rfl rfl) (so_some (se_fnB fs_len rfl C.n_len bt_len (sa_cons (se_var (i := 4) rfl (vis_of rfl) rfl rfl) sa_nil rfl) (by decide) rfl rfl rfl)) (so_some (se_op os_add (se_fnB fs_len rfl C.n_len bt_len (sa_cons (se_var (i := 4) rfl (vis_of rfl) rfl rfl) sa_nil rfl) (by decide) rfl rfl rfl) (se_fnB fs_len rfl C.n_len bt_len (sa_cons (se_var (i := 6) rfl (vis_of rfl) rfl rfl) sa_nil rfl) (by decide) rfl rfl rfl)))) rfl (.inl rfl))
    (sss_cons (ss_if (PW.pt (sw_and (st_ch os_le os_le (se_var (i := 6) rfl (vis_of rfl) rfl rfl) (se_var (i := 8) rfl (vis_of rfl) rfl rfl) (se_var (i := 7) rfl (vis_of rfl) rfl rfl) (by with_unfolding_all rfl)) (sw_and1 (st_cmp os_lt (se_op os_add (se_fnB fs_len rfl C.n_len bt_len (sa_cons (se_var (i := 4) rfl (vis_of rfl) rfl rfl) sa_nil rfl) (by decide) rfl rfl rfl) (se_fnB fs_len rfl C.n_len bt_len (sa_cons (se_var (i := 6) rfl (vis_of rfl) rfl rfl) sa_nil rfl) (by decide) rfl rfl rfl)) se_int rfl)))) (sss_cons (ss_set (i := 9) sc_parted_number.nd rfl (loc_of rfl) (se_cut (se_var (i := 3) rfl (vis_of rfl) rfl rfl) (so_some (se_op os_add (se_fnB fs_len rfl C.n_len bt_len (sa_cons (se_var (i := 4) rfl (vis_of rfl) rfl rfl) sa_nil rfl) (by decide) rfl rfl rfl) (se_fnB fs_len rfl C.n_len bt_len (sa_cons (se_var (i := 6) rfl (vis_of rfl) rfl rfl) sa_nil rfl) (by decide) rfl rfl rfl))) so_none) rfl (.inl rfl))
    (sss_cons (ss_ret (se_m1 PySem.F.slot_str_join PySem.F.type_str_join ms_join (se_strL S5) (se_lst (sa_cons (se_cut (se_var (i := 2) rfl (vis_of rfl) rfl rfl) so_none (so_some se_int)) (sa_cons (se_var (i := 4) rfl (vis_of rfl) rfl rfl) (sa_cons (se_var (i := 8) rfl (vis_of rfl) rfl rfl) (sa_cons (se_var (i := 9) rfl (vis_of rfl) rfl rfl) (sa_cons (se_ix (hu1 hr) (se_var (i := 2) rfl (vis_of rfl) rfl rfl) se_int (fun _ _ => rfl)) sa_nil rfl) rfl) rfl) rfl) rfl)) rfl rfl rfl))
    sss_nil)) sss_nil)
    sss_nil)) (fun _ => rfl))
    sss_nil) sss_nil)
    sss_nil) (fun _ => rfl))
    (sss_cons (ss_raise rfl (C.x_CodeError.mk_ rfl rfl))
    sss_nil))))
theorem B_sum_of_card : Bnd "sum_of_card" s_sum_of_card ["code"] := fun _ _ _ _ _ _ us hl => match us, hl with | [_], _ => rfl
theorem ok_sum_of_card (C : Facts K mg base W) : FnE PP w K mg base W 9 (He.ga K "sum_of_card") (fdOf K "sum_of_card") ["code"] f_sum_of_card := by
  unfold f_sum_of_card b_sum_of_card
  exact fn_evC C.d_sum_of_card.fun_ sc_sum_of_card fun A outer s H E hr => (sss_cons (ss_if (PW.pt (sw_or (st_not (st_ch os_le os_le se_int (se_fnB fs_len rfl C.n_len bt_len (sa_cons (se_var (i := 0) rfl (vis_of rfl) rfl rfl) sa_nil rfl) (by decide) rfl rfl rfl) (se_glob C.g_MOST_FIGURES rfl rfl) (by with_unfolding_all rfl))) (sw_or1 (st_truth (se_any (own := [("sign", 3)]) (GxParts.mk (k := 0) (own := [("sign", 3)]) (hr.mono (by decide)) C.t_sum_of_card.tb C.t_sum_of_card.code C.t_sum_of_card.tab C.t_sum_of_card.tabs (blkOk_by (by kernel_rfl)) sc_sum_of_card.nd rfl (nocell_of (by kernel_rfl)) rfl (si_any (se_var (i := 0) rfl (vis_of rfl) rfl rfl)) (by decide) (fun _ => rfl) (fun _ _ _ _ _ _ => gx_g (sg_name (i := 3) sc_sum_of_card.nd rfl (loc_of rfl) (.inr rfl))) (fun _ _ _ _ _ _ hg1 => gx_t sts_nil) (fun _ _ _ _ _ _ hg1 => gx_e (se_cmp (os_notIn (hu65 hg1)) (se_var (i := 3) rfl (vis_of rfl) rfl rfl) (se_glob C.g_FIGURES rfl rfl) rfl))) rfl C.n_any rfl) (fun _ => rfl))))) (sss_cons (ss_raise rfl (C.x_CodeError.mk_ rfl rfl))
    sss_nil) sss_nil)
    (sss_cons (ss_set (i := 1) sc_sum_of_card.nd rfl (loc_of rfl) se_int rfl (.inl rfl))
    (sss_cons (ss_for (passes_of rfl) rfl (si_enum rfl C.n_enumerate (se_revS (se_var (i := 0) rfl (vis_of rfl) rfl rfl) (se_neg se_int)) rfl) (sg_tup rfl (sgs_cons (sg_name (i := 2) sc_sum_of_card.nd rfl (loc_of rfl) (.inl rfl)) (sgs_cons (sg_name (i := 3) sc_sum_of_card.nd rfl (loc_of rfl) (.inl rfl)) sgs_nil rfl) rfl) rfl rfl) (sss_cons (ss_set (i := 4) sc_sum_of_card.nd rfl (loc_of rfl) (se_op os_mulB (se_fnT fs_int rfl C.n_int bt_int (sa_cons (se_var (i := 3) rfl (vis_of rfl) rfl rfl) sa_nil rfl) (by decide) rfl rfl rfl) (se_if (st_cmp (os_eq (hu64 hr)) (se_op os_mod (se_var (i := 2) rfl (vis_of rfl) rfl rfl) se_int) se_int rfl) se_int se_int)) rfl (.inl rfl))
    (sss_cons (ss_aug (i := 1) sc_sum_of_card.nd rfl (loc_of rfl) (se_if (st_cmp os_gt (se_var (i := 4) rfl (vis_of rfl) rfl rfl) se_int rfl) (se_op os_sub (se_var (i := 4) rfl (vis_of rfl) rfl rfl) se_int) (se_var (i := 4) rfl (vis_of rfl) rfl rfl)) os_iadd (.inl rfl))
    sss_nil)) (fun _ => rfl))
    (sss_cons (ss_ret (se_var (i := 1) rfl (vis_of rfl) rfl rfl))
    sss_nil))))
theorem B_made_card : Bnd "made_card" s_made_card ["number", "long"] := fun _ _ _ _ _ _ us hl => match us, hl with | [_, _], _ => rfl
theorem ok_made_card (C : Facts K mg base W) : FnE PP w K mg base W 10 (He.ga K "made_card") (fdOf K "made_card") ["number", "long"] f_made_card := by
  unfold f_made_card b_made_card
  exact fn_evC C.d_made_card.fun_ sc_made_card fun A outer s H E hr => (sss_cons (ss_if (PW.pt (sw_or (st_not (st_ch os_le os_lt se_int (se_var (i := 1) rfl (vis_of rfl) rfl rfl) (se_glob C.g_MOST_FIGURES rfl rfl) (by with_unfolding_all rfl))) (sw_or (st_cmp os_lt (se_var (i := 0) rfl (vis_of rfl) rfl rfl) se_int rfl) (sw_or1 (st_cmp os_gt (se_fnB fs_len rfl C.n_len bt_len (sa_cons (se_fnT fs_str rfl C.n_str bt_str (sa_cons (se_var (i := 0) rfl (vis_of rfl) rfl rfl) sa_nil rfl) (by decide) rfl rfl rfl) sa_nil rfl) (by decide) rfl rfl rfl) (se_var (i := 1) rfl (vis_of rfl) rfl rfl) rfl))))) (sss_cons (ss_raise rfl (C.x_CodeError.mk_ rfl rfl))
    sss_nil) sss_nil)
    (sss_cons (ss_set (i := 2) sc_made_card.nd rfl (loc_of rfl) (se_op os_add (se_op os_mulB (se_strL S6) (se_op os_sub (se_var (i := 1) rfl (vis_of rfl) rfl rfl) (se_fnB fs_len rfl C.n_len bt_len (sa_cons (se_fnT fs_str rfl C.n_str bt_str (sa_cons (se_var (i := 0) rfl (vis_of rfl) rfl rfl) sa_nil rfl) (by decide) rfl rfl rfl) sa_nil rfl) (by decide) rfl rfl rfl))) (se_fnT fs_str rfl C.n_str bt_str (sa_cons (se_var (i := 0) rfl (vis_of rfl) rfl rfl) sa_nil rfl) (by decide) rfl rfl rfl)) rfl (.inl rfl))
    (sss_cons (ss_ret (se_op os_add (se_var (i := 2) rfl (vis_of rfl) rfl rfl) (se_fnT fs_str rfl C.n_str bt_str (sa_cons (se_op os_mod (se_op os_sub se_int (se_op os_mod (se_callF (ok_sum_of_card C) (hr.mono (by decide)) rfl C.d_sum_of_card.mg C.d_sum_of_card.fun_.kp (C.d_sum_of_card.bnd B_sum_of_card) (sa_cons (se_op os_add (se_var (i := 2) rfl (vis_of rfl) rfl rfl) (se_strL S6)) sa_nil rfl) rfl rfl rfl) se_int)) se_int) sa_nil rfl) (by decide) rfl rfl rfl)))
    sss_nil)))
theorem B_is_card : Bnd "is_card" s_is_card ["code"] := fun _ _ _ _ _ _ us hl => match us, hl with | [_], _ => rfl
theorem ok_is_card (C : Facts K mg base W) : FnE PP w K mg base W 10 (He.ga K "is_card") (fdOf K "is_card") ["code"] f_is_card := by
  unfold f_is_card b_is_card
  exact fn_evC C.d_is_card.fun_ sc_is_card fun A outer s H E hr => (sss_cons (ss_ret (se_cmp (os_eq (hu64 hr)) (se_op os_mod (se_callF (ok_sum_of_card C) (hr.mono (by decide)) rfl C.d_sum_of_card.mg C.d_sum_of_card.fun_.kp (C.d_sum_of_card.bnd B_sum_of_card) (sa_cons (se_var (i := 0) rfl (vis_of rfl) rfl rfl) sa_nil rfl) rfl rfl rfl) se_int) se_int rfl))
    sss_nil)
theorem B_number_of_card : Bnd "number_of_card" s_number_of_card ["code"] := fun _ _ _ _ _ _ us hl => match us, hl with | [_], _ => rfl
theorem ok_number_of_card (C : Facts K mg base W) : FnE PP w K mg base W 11 (He.ga K "number_of_card") (fdOf K "number_of_card") ["code"] f_number_of_card := by
  unfold f_number_of_card b_number_of_card
  exact fn_evC C.d_number_of_card.fun_ sc_number_of_card fun A outer s H E hr => (sss_cons (ss_if (PW.pt (sw_or (st_not (st_truth (se_callF (ok_is_card C) (hr.mono (by decide)) rfl C.d_is_card.mg C.d_is_card.fun_.kp (C.d_is_card.bnd B_is_card) (sa_cons (se_var (i := 0) rfl (vis_of rfl) rfl rfl) sa_nil rfl) rfl rfl rfl) (fun _ => rfl))) (sw_or1 (st_cmp os_lt (se_fnB fs_len rfl C.n_len bt_len (sa_cons (se_var (i := 0) rfl (vis_of rfl) rfl rfl) sa_nil rfl) (by decide) rfl rfl rfl) se_int rfl)))) (sss_cons (ss_raise rfl (C.x_CodeError.mk_ rfl rfl))
    sss_nil) sss_nil)
    (sss_cons (ss_ret (se_fnT fs_int rfl C.n_int bt_int (sa_cons (se_cut (se_var (i := 0) rfl (vis_of rfl) rfl rfl) so_none (so_some (se_neg se_int))) sa_nil rfl) (by decide) rfl rfl rfl))
    sss_nil))
theorem B_mended_by_one : Bnd "mended_by_one" s_mended_by_one ["code"] := fun _ _ _ _ _ _ us hl => match us, hl with | [_], _ => rfl
theorem ok_mended_by_one (C : Facts K mg base W) : FnE PP w K mg base W 19 (He.ga K "mended_by_one") (fdOf K "mended_by_one") ["code"] f_mended_by_one := by
  unfold f_mended_by_one b_mended_by_one
  exact fn_evC C.d_mended_by_one.fun_ sc_mended_by_one fun A outer s H E hr => (sss_cons (ss_expr (se_callF (ok_sum_of_card C) (hr.mono (by decide)) rfl C.d_sum_of_card.mg C.d_sum_of_card.fun_.kp (C.d_sum_of_card.bnd B_sum_of_card) (sa_cons (se_var (i := 0) rfl (vis_of rfl) rfl rfl) sa_nil rfl) rfl rfl rfl) rfl)
    (sss_cons (ss_set (i := 1) sc_mended_by_one.nd rfl (loc_of rfl) se_dctM rfl (.inl rfl))
    (sss_cons (ss_for (passes_of rfl) rfl (si_range1 rfl C.n_range (se_fnB fs_len rfl C.n_len bt_len (sa_cons (se_var (i := 0) rfl (vis_of rfl) rfl rfl) sa_nil rfl) (by decide) rfl rfl rfl) rfl) (sg_name (i := 2) sc_mended_by_one.nd rfl (loc_of rfl) (.inl rfl)) (sss_cons (ss_for (passes_of rfl) rfl (si_any (se_glob C.g_FIGURES rfl rfl)) (sg_name (i := 3) sc_mended_by_one.nd rfl (loc_of rfl) (.inl rfl)) (sss_cons (ss_put (hu1 hr) se_bl (se_var (i := 1) rfl (vis_of rfl) rfl rfl) (se_op os_add (se_op os_add (se_cut (se_var (i := 0) rfl (vis_of rfl) rfl rfl) so_none (so_some (se_var (i := 2) rfl (vis_of rfl) rfl rfl))) (se_var (i := 3) rfl (vis_of rfl) rfl rfl)) (se_cut (se_var (i := 0) rfl (vis_of rfl) rfl rfl) (so_some (se_op os_add (se_var (i := 2) rfl (vis_of rfl) rfl rfl) se_int)) so_none)) (fun _ => rfl) rfl rfl rfl)
    sss_nil) (fun _ => rfl))
    sss_nil) (fun _ => rfl))
    (sss_cons (ss_for (passes_of rfl) rfl (si_range1 rfl C.n_range (se_op os_sub (se_fnB fs_len rfl C.n_len bt_len (sa_cons (se_var (i := 0) rfl (vis_of rfl) rfl rfl) sa_nil rfl) (by decide) rfl rfl rfl) se_int) rfl) (sg_name (i := 2) sc_mended_by_one.nd rfl (loc_of rfl) (.inl rfl)) (sss_cons (ss_put (hu1 hr) se_bl (se_var (i := 1) rfl (vis_of rfl) rfl rfl) (se_op os_add (se_op os_add (se_op os_add (se_cut (se_var (i := 0) rfl (vis_of rfl) rfl rfl) so_none (so_some (se_var (i := 2) rfl (vis_of rfl) rfl rfl))) (se_ix (hu1 hr) (se_var (i := 0) rfl (vis_of rfl) rfl rfl) (se_op os_add (se_var (i := 2) rfl (vis_of rfl) rfl rfl) se_int) (fun _ _ => rfl))) (se_ix (hu1 hr) (se_var (i := 0) rfl (vis_of rfl) rfl rfl) (se_var (i := 2) rfl (vis_of rfl) rfl rfl) (fun _ _ => rfl))) (se_cut (se_var (i := 0) rfl (vis_of rfl) rfl rfl) (so_some (se_op os_add (se_var (i := 2) rfl (vis_of rfl) rfl rfl) se_int)) so_none)) (fun _ => rfl) rfl rfl rfl)
    sss_nil) (fun _ => rfl))
    (sss_cons (ss_ret (se_tupG (own := [("one", 4)]) (GxParts.mk (k := 10) (own := [("one", 4)]) (hr.mono (by decide)) C.t_mended_by_one.tb C.t_mended_by_one.code C.t_mended_by_one.tab C.t_mended_by_one.tabs (blkOk_by (by kernel_rfl)) sc_mended_by_one.nd rfl (nocell_of (by kernel_rfl)) rfl (si_any (se_fnB (fs_sortedA rfl (hu80 hr)) rfl C.n_sorted bt_sorted (sa_cons (se_var (i := 1) rfl (vis_of rfl) rfl rfl) sa_nil rfl) (by decide) rfl rfl rfl)) (by decide) (fun _ => rfl) (fun _ _ _ _ _ _ => gx_g (sg_name (i := 4) sc_mended_by_one.nd rfl (loc_of rfl) (.inr rfl))) (fun _ _ _ _ _ _ hg1 => gx_t (sts_one (PW.pt (sw_and (st_cmp (os_ne (hu64 hg1)) (se_var (i := 4) rfl (vis_of rfl) rfl rfl) (se_var (i := 0) rfl (vis_of rfl) rfl rfl) rfl) (sw_and1 (st_truth (se_callF (ok_is_card C) (hg1.mono (by decide)) rfl C.d_is_card.mg C.d_is_card.fun_.kp (C.d_is_card.bnd B_is_card) (sa_cons (se_var (i := 4) rfl (vis_of rfl) rfl rfl) sa_nil rfl) rfl rfl rfl) (fun _ => rfl))))))) (fun _ _ _ _ _ _ hg1 => gx_e (se_var (i := 4) rfl (vis_of rfl) rfl rfl))) rfl C.n_tuple rfl))
    sss_nil)))))
theorem B_is_number_at_all : Bnd "is_number_at_all" s_is_number_at_all ["text"] := fun _ _ _ _ _ _ us hl => match us, hl with | [_], _ => rfl
theorem ok_is_number_at_all (C : Facts K mg base W) : FnE PP w K mg base W 10 (He.ga K "is_number_at_all") (fdOf K "is_number_at_all") ["text"] f_is_number_at_all := by
  unfold f_is_number_at_all b_is_number_at_all
  exact fn_evC C.d_is_number_at_all.fun_ sc_is_number_at_all fun A outer s H E hr => (sss_cons (ss_try (cs := [1]) rfl rfl (C.x_CodeError.names rfl rfl) C.exm_CodeError (fun _ _ pp => (sss_cons (ss_expr (se_callF (ok_figures_of C) (hr.mono (by decide)) rfl C.d_figures_of.mg C.d_figures_of.fun_.kp (C.d_figures_of.bnd B_figures_of) (sa_cons (se_var (i := 0) rfl (vis_of rfl) rfl rfl) sa_nil rfl) rfl rfl rfl) rfl)
    sss_nil)) (fun _ _ => (sss_cons (ss_ret se_bl)
    sss_nil)))
    (sss_cons (ss_ret se_bl)
    sss_nil))
theorem B_missing_figure : Bnd "missing_figure" s_missing_figure ["text"] := fun _ _ _ _ _ _ us hl => match us, hl with | [_], _ => rfl
theorem ok_missing_figure (C : Facts K mg base W) : FnE PP w K mg base W 11 (He.ga K "missing_figure") (fdOf K "missing_figure") ["text"] f_missing_figure := by
  unfold f_missing_figure b_missing_figure
  exact fn_evT C.d_missing_figure.fun_ sc_missing_figure (nocell_of (by kernel_rfl)) (by decide) fun A outer s H E hr => (ssst_cons (sst_of (ss_if (st_cmp (os_ne (hu64 hr)) (se_m1 PySem.F.slot_str_count PySem.F.type_str_count ms_count (se_var (i := 0) rfl (vis_of rfl) rfl rfl) (se_strL S7) rfl rfl rfl) se_int rfl) (sss_cons (ss_raise rfl (C.x_CodeError.mk_ rfl rfl))
    sss_nil) sss_nil))
    (ssst_cons (sst_drop1 (ok_figures_of C) (hr.mono (by decide)) rfl C.d_figures_of.mg C.d_figures_of.fun_.kp (C.d_figures_of.bnd B_figures_of) (set_repC (se_var (i := 0) rfl (vis_of rfl) rfl rfl) S7 S6 (by kernel_rfl) rfl rfl rfl) rfl rfl rfl rfl)
    (ssst_cons (sst_of (ss_set (i := 1) sc_missing_figure.nd rfl (loc_of rfl) (se_lstM sa_nil) rfl (.inl rfl)))
    (ssst_cons (sst_forRep (passes_of rfl) rfl (se_op os_add (se_glob C.g_FIGURES rfl rfl) (se_strL S2)) sc_missing_figure.nd rfl (loc_of rfl) rfl (loc_of rfl) (.inl rfl) rfl (vis_of rfl) rfl rfl rfl rfl rfl rfl rfl rfl S7 (by decide) (Nat.le_of_ble_eq_true rfl) (sss_cons (ss_if (PW.pt (sw_and (st_truth (se_callF (ok_is_number_at_all C) (hr.mono (by decide)) rfl C.d_is_number_at_all.mg C.d_is_number_at_all.fun_.kp (C.d_is_number_at_all.bnd B_is_number_at_all) (sa_cons (se_var (i := 3) rfl (vis_of rfl) rfl rfl) sa_nil rfl) rfl rfl rfl) (fun _ => rfl)) (sw_and1 (st_truth (se_callF (ok_is_book_number C) (hr.mono (by decide)) rfl C.d_is_book_number.mg C.d_is_book_number.fun_.kp (C.d_is_book_number.bnd B_is_book_number) (sa_cons (se_var (i := 3) rfl (vis_of rfl) rfl rfl) sa_nil rfl) rfl rfl rfl) (fun _ => rfl))))) (sss_cons (ss_expr (se_app (se_var (i := 1) rfl (vis_of rfl) rfl rfl) (se_var (i := 2) rfl (vis_of rfl) rfl rfl) rfl rfl rfl rfl) rfl)
    sss_nil) sss_nil)
    sss_nil) (fun _ => rfl))
    (ssst_cons (sst_of (ss_ret (se_fnT fs_tuple rfl C.n_tuple bt_tuple (sa_cons (se_var (i := 1) rfl (vis_of rfl) rfl rfl) sa_nil rfl) (by decide) rfl rfl rfl)))
    ssst_nil)))))
theorem B_law_dice : Bnd "_law_dice" s_law_dice ["cell"] := fun _ _ _ _ _ _ us hl => match us, hl with | [_], _ => rfl
theorem ok_law_dice (C : Facts K mg base W) : FnE PP w K mg base W 1 (He.ga K "_law_dice") (fdOf K "_law_dice") ["cell"] f_law_dice := by
  unfold f_law_dice b_law_dice
  exact fn_evC C.d_law_dice.fun_ sc_law_dice fun A outer s H E hr => (sss_cons (ss_if (st_ch os_lt os_lt (se_op os_sub se_int se_int) (se_var (i := 0) rfl (vis_of rfl) rfl rfl) se_int (by with_unfolding_all rfl)) (sss_cons (ss_ret (se_lstM (sa_cons (se_fnB fs_abs rfl C.n_abs bt_abs (sa_cons (se_var (i := 0) rfl (vis_of rfl) rfl rfl) sa_nil rfl) (by decide) rfl rfl rfl) (sa_cons se_int (sa_cons se_int sa_nil rfl) rfl) rfl)))
    sss_nil) sss_nil)
    (sss_cons (ss_ret (se_lstM (sa_cons (se_var (i := 0) rfl (vis_of rfl) rfl rfl) (sa_cons (se_op os_add se_int (se_op os_mod (se_fnT fs_int rfl C.n_int bt_int (sa_cons (se_var (i := 0) rfl (vis_of rfl) rfl rfl) sa_nil rfl) (by decide) rfl rfl rfl) se_int)) (sa_cons (se_fnT fs_int rfl C.n_int bt_int (sa_cons (se_cmp os_ge (se_var (i := 0) rfl (vis_of rfl) rfl rfl) (se_op os_pow se_int se_int) rfl) sa_nil rfl) (by decide) rfl rfl rfl) sa_nil rfl) rfl) rfl)))
    sss_nil))
theorem B_law_roll : Bnd "_law_roll" s_law_roll ["dice", "many"] := fun _ _ _ _ _ _ us hl => match us, hl with | [_, _], _ => rfl
theorem ok_law_roll (C : Facts K mg base W) : FnE PP w K mg base W 1 (He.ga K "_law_roll") (fdOf K "_law_roll") ["dice", "many"] f_law_roll := by
  unfold f_law_roll b_law_roll
  exact fn_evC C.d_law_roll.fun_ sc_law_roll fun A outer s H E hr => (sss_cons (ss_if (PW.pt (sw_or (st_cmp (os_eq (hu64 hr)) (se_ix (hu1 hr) (se_var (i := 0) rfl (vis_of rfl) rfl rfl) se_int (fun _ _ => rfl)) se_int rfl) (sw_or1 (PW.pt (sw_and (st_cmp (os_eq (hu64 hr)) (se_ix (hu1 hr) (se_var (i := 0) rfl (vis_of rfl) rfl rfl) se_int (fun _ _ => rfl)) se_int rfl) (sw_and1 (st_cmp os_gt (se_ix (hu1 hr) (se_var (i := 0) rfl (vis_of rfl) rfl rfl) se_int (fun _ _ => rfl)) se_int rfl))))))) (sss_cons (ss_set (i := 2) sc_law_roll.nd rfl (loc_of rfl) (se_op os_mod (se_fnT fs_int rfl C.n_int bt_int (sa_cons (se_ix (hu1 hr) (se_var (i := 0) rfl (vis_of rfl) rfl rfl) se_int (fun _ _ => rfl)) sa_nil rfl) (by decide) rfl rfl rfl) (se_var (i := 1) rfl (vis_of rfl) rfl rfl)) rfl (.inl rfl))
    (sss_cons (ss_put (hu1 hr) (se_op os_div (se_ix (hu1 hr) (se_var (i := 0) rfl (vis_of rfl) rfl rfl) se_int (fun _ _ => rfl)) (se_var (i := 1) rfl (vis_of rfl) rfl rfl)) (se_var (i := 0) rfl (vis_of rfl) rfl rfl) se_int (fun _ => rfl) rfl rfl rfl)
    (sss_cons (ss_ret (se_var (i := 2) rfl (vis_of rfl) rfl rfl))
    sss_nil))) sss_nil)
    (sss_cons (ss_put (hu1 hr) se_int (se_var (i := 0) rfl (vis_of rfl) rfl rfl) se_int (fun _ => rfl) rfl rfl rfl)
    (sss_cons (ss_if (st_cmp os_gt (se_var (i := 1) rfl (vis_of rfl) rfl rfl) se_int rfl) (sss_cons (ss_ret (se_op os_mod (se_fnT fs_int rfl C.n_int bt_int (sa_cons (se_op os_add (se_op os_mulB (se_call (fn_bad (k := 0)) (hr.mono (by decide)) rfl C.d_law_roll.mg C.d_law_roll.fun_.kp (C.d_law_roll.bnd B_law_roll) (sa_cons (se_var (i := 0) rfl (vis_of rfl) rfl rfl) (sa_cons (se_op os_add (se_op os_div (se_var (i := 1) rfl (vis_of rfl) rfl rfl) se_int) se_int) sa_nil rfl) rfl) rfl rfl rfl) se_int) (se_call (fn_bad (k := 0)) (hr.mono (by decide)) rfl C.d_law_roll.mg C.d_law_roll.fun_.kp (C.d_law_roll.bnd B_law_roll) (sa_cons (se_var (i := 0) rfl (vis_of rfl) rfl rfl) (sa_cons se_int sa_nil rfl) rfl) rfl rfl rfl)) sa_nil rfl) (by decide) rfl rfl rfl) (se_var (i := 1) rfl (vis_of rfl) rfl rfl)))
    sss_nil) sss_nil)
    (sss_cons (ss_put (hu1 hr) (se_op os_mod (se_fnT fs_int rfl C.n_int bt_int (sa_cons (se_op os_add (se_op os_add (se_op os_mulB (se_ix (hu1 hr) (se_var (i := 0) rfl (vis_of rfl) rfl rfl) se_int (fun _ _ => rfl)) se_int) (se_op os_mulB (se_ix (hu1 hr) (se_var (i := 0) rfl (vis_of rfl) rfl rfl) se_int (fun _ _ => rfl)) se_int)) se_int) sa_nil rfl) (by decide) rfl rfl rfl) se_int) (se_var (i := 0) rfl (vis_of rfl) rfl rfl) se_int (fun _ => rfl) rfl rfl rfl)
    (sss_cons (ss_put (hu1 hr) (se_op os_add (se_ix (hu1 hr) (se_var (i := 0) rfl (vis_of rfl) rfl rfl) se_int (fun _ _ => rfl)) se_int) (se_var (i := 0) rfl (vis_of rfl) rfl rfl) se_int (fun _ => rfl) rfl rfl rfl)
    (sss_cons (ss_ret (se_op os_mod (se_fnT fs_int rfl C.n_int bt_int (sa_cons (se_op os_div (se_ix (hu1 hr) (se_var (i := 0) rfl (vis_of rfl) rfl rfl) se_int (fun _ _ => rfl)) se_int) sa_nil rfl) (by decide) rfl rfl rfl) (se_var (i := 1) rfl (vis_of rfl) rfl rfl)))
    sss_nil))))))
theorem B_law_rounds : Bnd "_law_rounds" s_law_rounds ["script", "most"] := fun _ _ _ _ _ _ us hl => match us, hl with | [_, _], _ => rfl
theorem ok_law_rounds (C : Facts K mg base W) : FnE PP w K mg base W 2 (He.ga K "_law_rounds") (fdOf K "_law_rounds") ["script", "most"] f_law_rounds := by
  unfold f_law_rounds b_law_rounds
  exact fn_evC C.d_law_rounds.fun_ sc_law_rounds fun A outer s H E hr => (sss_cons (ss_set (i := 2) sc_law_rounds.nd rfl (loc_of rfl) (se_cut (se_var (i := 0) rfl (vis_of rfl) rfl rfl) so_none (so_some (se_var (i := 1) rfl (vis_of rfl) rfl rfl))) rfl (.inl rfl))
    (sss_cons (ss_if (st_cmp (os_eq (hu64 hr)) (se_var (i := 2) rfl (vis_of rfl) rfl rfl) (se_lst sa_nil) rfl) (sss_cons (ss_set (i := 2) sc_law_rounds.nd rfl (loc_of rfl) (se_lst (sa_cons se_int sa_nil rfl)) rfl (.inl rfl))
    sss_nil) sss_nil)
    (sss_cons (ss_ret (se_comp (own := [("cell", 3)]) rfl sc_law_rounds.nd (si_any (se_var (i := 2) rfl (vis_of rfl) rfl rfl)) (blkOk_by (by kernel_rfl)) (fun _ _ _ _ _ => (sg_name (i := 3) sc_law_rounds.nd rfl (loc_of rfl) (.inr rfl))) (by decide) (fun _ _ _ _ _ => sts_nil) (fun _ _ _ _ _ => (se_call (ok_law_dice C) (hr.mono (by decide)) rfl C.d_law_dice.mg C.d_law_dice.fun_.kp (C.d_law_dice.bnd B_law_dice) (sa_cons (se_var (i := 3) rfl (vis_of rfl) rfl rfl) sa_nil rfl) rfl rfl rfl)) (fun _ => rfl)))
    sss_nil)))
theorem B_law_ten : Bnd "_law_ten" s_law_ten ["code"] := fun _ _ _ _ _ _ us hl => match us, hl with | [_], _ => rfl
theorem ok_law_ten (C : Facts K mg base W) : FnE PP w K mg base W 1 (He.ga K "_law_ten") (fdOf K "_law_ten") ["code"] f_law_ten := by
  unfold f_law_ten b_law_ten
  exact fn_evC C.d_law_ten.fun_ sc_law_ten fun A outer s H E hr => (sss_cons (ss_setLc (i := 1) (own := [("sign", 2)]) rfl rfl rfl rfl sc_law_ten.nd (si_any (se_var (i := 0) rfl (vis_of rfl) rfl rfl)) (blkOk_by (by kernel_rfl)) (fun _ _ _ _ _ => (sg_name (i := 2) sc_law_ten.nd rfl (loc_of rfl) (.inr rfl))) (by decide) (fun _ _ _ _ _ => sts_nil) (fun _ _ _ _ _ => (se_if (st_cmp (os_eq (hu64 hr)) (se_var (i := 2) rfl (vis_of rfl) rfl rfl) (se_strL S2) rfl) se_int (se_fnT fs_int rfl C.n_int bt_int (sa_cons (se_var (i := 2) rfl (vis_of rfl) rfl rfl) sa_nil rfl) (by decide) rfl rfl rfl))) (fun _ => rfl))
    (sss_cons (ss_ret (se_cmp (os_eq (hu64 hr)) (se_op os_mod (se_fnB (fs_sum rfl) rfl C.n_sum bt_sum (sa_cons (se_comp (own := [("k", 3), ("worth", 4)]) rfl sc_law_ten.nd (si_enum rfl C.n_enumerate (se_var (i := 1) rfl (vis_of rfl) rfl rfl) rfl) (blkOk_by (by kernel_rfl)) (fun _ _ _ _ _ => (sg_tup rfl (sgs_cons (sg_name (i := 3) sc_law_ten.nd rfl (loc_of rfl) (.inr rfl)) (sgs_cons (sg_name (i := 4) sc_law_ten.nd rfl (loc_of rfl) (.inr rfl)) sgs_nil rfl) rfl) rfl rfl)) (by decide) (fun _ _ _ _ _ => sts_nil) (fun _ _ _ _ _ => (se_op os_mulB (se_op os_sub se_int (se_var (i := 3) rfl (vis_of rfl) rfl rfl)) (se_var (i := 4) rfl (vis_of rfl) rfl rfl))) (fun _ => rfl)) sa_nil rfl) (by decide) rfl rfl rfl) se_int) se_int rfl))
    sss_nil))
theorem B_law_thirteen : Bnd "_law_thirteen" s_law_thirteen ["code"] := fun _ _ _ _ _ _ us hl => match us, hl with | [_], _ => rfl
theorem ok_law_thirteen (C : Facts K mg base W) : FnE PP w K mg base W 1 (He.ga K "_law_thirteen") (fdOf K "_law_thirteen") ["code"] f_law_thirteen := by
  unfold f_law_thirteen b_law_thirteen
  exact fn_evC C.d_law_thirteen.fun_ sc_law_thirteen fun A outer s H E hr => (sss_cons (ss_ret (se_cmp (os_eq (hu64 hr)) (se_op os_mod (se_fnB (fs_sum rfl) rfl C.n_sum bt_sum (sa_cons (se_comp (own := [("k", 1), ("sign", 2)]) rfl sc_law_thirteen.nd (si_enum rfl C.n_enumerate (se_var (i := 0) rfl (vis_of rfl) rfl rfl) rfl) (blkOk_by (by kernel_rfl)) (fun _ _ _ _ _ => (sg_tup rfl (sgs_cons (sg_name (i := 1) sc_law_thirteen.nd rfl (loc_of rfl) (.inr rfl)) (sgs_cons (sg_name (i := 2) sc_law_thirteen.nd rfl (loc_of rfl) (.inr rfl)) sgs_nil rfl) rfl) rfl rfl)) (by decide) (fun _ _ _ _ _ => sts_nil) (fun _ _ _ _ _ => (se_op os_mulB (se_fnT fs_int rfl C.n_int bt_int (sa_cons (se_var (i := 2) rfl (vis_of rfl) rfl rfl) sa_nil rfl) (by decide) rfl rfl rfl) (se_ix (hu1 hr) (se_lst (sa_cons se_int (sa_cons se_int sa_nil rfl) rfl)) (se_op os_mod (se_var (i := 1) rfl (vis_of rfl) rfl rfl) se_int) (fun _ _ => rfl)))) (fun _ => rfl)) sa_nil rfl) (by decide) rfl rfl rfl) se_int) se_int rfl))
    sss_nil)
theorem B_law_card : Bnd "_law_card" s_law_card ["code"] := fun _ _ _ _ _ _ us hl => match us, hl with | [_], _ => rfl
theorem ok_law_card (C : Facts K mg base W) : FnE PP w K mg base W 1 (He.ga K "_law_card") (fdOf K "_law_card") ["code"] f_law_card := by
  unfold f_law_card b_law_card
  exact fn_evC C.d_law_card.fun_ sc_law_card fun A outer s H E hr => (sss_cons (ss_set (i := 1) sc_law_card.nd rfl (loc_of rfl) se_int rfl (.inl rfl))
    (sss_cons (ss_for (passes_of rfl) rfl (si_range1 rfl C.n_range (se_fnB fs_len rfl C.n_len bt_len (sa_cons (se_var (i := 0) rfl (vis_of rfl) rfl rfl) sa_nil rfl) (by decide) rfl rfl rfl) rfl) (sg_name (i := 2) sc_law_card.nd rfl (loc_of rfl) (.inl rfl)) (sss_cons (ss_set (i := 3) sc_law_card.nd rfl (loc_of rfl) (se_op os_mulB (se_fnT fs_int rfl C.n_int bt_int (sa_cons (se_ix (hu1 hr) (se_var (i := 0) rfl (vis_of rfl) rfl rfl) (se_op os_sub (se_neg se_int) (se_var (i := 2) rfl (vis_of rfl) rfl rfl)) (fun _ _ => rfl)) sa_nil rfl) (by decide) rfl rfl rfl) (se_op os_add se_int (se_op os_mod (se_var (i := 2) rfl (vis_of rfl) rfl rfl) se_int))) rfl (.inl rfl))
    (sss_cons (ss_set (i := 1) sc_law_card.nd rfl (loc_of rfl) (se_op os_add (se_op os_add (se_var (i := 1) rfl (vis_of rfl) rfl rfl) (se_op os_div (se_var (i := 3) rfl (vis_of rfl) rfl rfl) se_int)) (se_op os_mod (se_var (i := 3) rfl (vis_of rfl) rfl rfl) se_int)) rfl (.inl rfl))
    sss_nil)) (fun _ => rfl))
    (sss_cons (ss_ret (se_var (i := 1) rfl (vis_of rfl) rfl rfl))
    sss_nil)))
theorem B_law_figures : Bnd "_law_figures" s_law_figures ["dice", "many"] := fun _ _ _ _ _ _ us hl => match us, hl with | [_, _], _ => rfl
theorem ok_law_figures (C : Facts K mg base W) : FnE PP w K mg base W 2 (He.ga K "_law_figures") (fdOf K "_law_figures") ["dice", "many"] f_law_figures := by
  unfold f_law_figures b_law_figures
  exact fn_evC C.d_law_figures.fun_ sc_law_figures fun A outer s H E hr => (sss_cons (ss_ret (se_m1 PySem.F.slot_str_join PySem.F.type_str_join ms_join (se_strL S0) (se_comp (own := [("k", 2)]) rfl sc_law_figures.nd (si_range1 rfl C.n_range (se_var (i := 1) rfl (vis_of rfl) rfl rfl) rfl) (blkOk_by (by kernel_rfl)) (fun _ _ _ _ _ => (sg_name (i := 2) sc_law_figures.nd rfl (loc_of rfl) (.inr rfl))) (by decide) (fun _ _ _ _ _ => sts_nil) (fun _ _ _ _ _ => (se_fnT fs_str rfl C.n_str bt_str (sa_cons (se_call (ok_law_roll C) (hr.mono (by decide)) rfl C.d_law_roll.mg C.d_law_roll.fun_.kp (C.d_law_roll.bnd B_law_roll) (sa_cons (se_var (i := 0) rfl (vis_of rfl) rfl rfl) (sa_cons se_int sa_nil rfl) rfl) rfl rfl rfl) sa_nil rfl) (by decide) rfl rfl rfl)) (fun _ => rfl)) rfl rfl rfl))
    sss_nil)
theorem B_law_near : Bnd "_law_near" s_law_near ["code"] := fun _ _ _ _ _ _ us hl => match us, hl with | [_], _ => rfl
theorem ok_law_near (C : Facts K mg base W) : FnE PP w K mg base W 2 (He.ga K "_law_near") (fdOf K "_law_near") ["code"] f_law_near := by
  unfold f_law_near b_law_near
  exact fn_evC C.d_law_near.fun_ sc_law_near fun A outer s H E hr => (sss_cons (ss_set (i := 1) sc_law_near.nd rfl (loc_of rfl) (se_fnB (fs_sumL rfl) rfl C.n_sum bt_sum (sa_cons (se_comp (own := [("k", 2)]) rfl sc_law_near.nd (si_range1 rfl C.n_range (se_fnB fs_len rfl C.n_len bt_len (sa_cons (se_var (i := 0) rfl (vis_of rfl) rfl rfl) sa_nil rfl) (by decide) rfl rfl rfl) rfl) (blkOk_by (by kernel_rfl)) (fun _ _ _ _ _ => (sg_name (i := 2) sc_law_near.nd rfl (loc_of rfl) (.inl rfl))) (by decide) (fun _ _ _ _ _ => sts_nil) (fun _ _ _ _ _ => (se_comp (own := [("sign", 4)]) rfl sc_law_near.nd (si_any (se_strL S8)) (blkOk_by (by kernel_rfl)) (fun _ _ _ _ _ => (sg_name (i := 4) sc_law_near.nd rfl (loc_of rfl) (.inr rfl))) (by decide) (fun _ _ _ _ _ => sts_nil) (fun _ _ _ _ _ => (se_op os_add (se_op os_add (se_cut (se_var (i := 0) rfl (vis_of rfl) rfl rfl) so_none (so_some (se_var (i := 2) rfl (vis_of rfl) rfl rfl))) (se_var (i := 4) rfl (vis_of rfl) rfl rfl)) (se_cut (se_var (i := 0) rfl (vis_of rfl) rfl rfl) (so_some (se_op os_add (se_var (i := 2) rfl (vis_of rfl) rfl rfl) se_int)) so_none))) (fun _ => rfl))) (fun _ => rfl)) (sa_cons (se_lst sa_nil) sa_nil rfl) rfl) (by decide) rfl rfl rfl) rfl (.inl rfl))
    (sss_cons (ss_set (i := 1) sc_law_near.nd rfl (loc_of rfl) (se_op os_add (se_var (i := 1) rfl (vis_of rfl) rfl rfl) (se_comp (own := [("k", 2)]) rfl sc_law_near.nd (si_range1 rfl C.n_range (se_op os_sub (se_fnB fs_len rfl C.n_len bt_len (sa_cons (se_var (i := 0) rfl (vis_of rfl) rfl rfl) sa_nil rfl) (by decide) rfl rfl rfl) se_int) rfl) (blkOk_by (by kernel_rfl)) (fun _ _ _ _ _ => (sg_name (i := 2) sc_law_near.nd rfl (loc_of rfl) (.inr rfl))) (by decide) (fun _ _ _ _ _ => sts_nil) (fun _ _ _ _ _ => (se_op os_add (se_op os_add (se_op os_add (se_cut (se_var (i := 0) rfl (vis_of rfl) rfl rfl) so_none (so_some (se_var (i := 2) rfl (vis_of rfl) rfl rfl))) (se_ix (hu1 hr) (se_var (i := 0) rfl (vis_of rfl) rfl rfl) (se_op os_add (se_var (i := 2) rfl (vis_of rfl) rfl rfl) se_int) (fun _ _ => rfl))) (se_ix (hu1 hr) (se_var (i := 0) rfl (vis_of rfl) rfl rfl) (se_var (i := 2) rfl (vis_of rfl) rfl rfl) (fun _ _ => rfl))) (se_cut (se_var (i := 0) rfl (vis_of rfl) rfl rfl) (so_some (se_op os_add (se_var (i := 2) rfl (vis_of rfl) rfl rfl) se_int)) so_none))) (fun _ => rfl))) rfl (.inl rfl))
    (sss_cons (ss_ret (se_fnB (fs_sortedA rfl (hu80 hr)) rfl C.n_sorted bt_sorted (sa_cons (se_comp (own := [("one", 3)]) rfl sc_law_near.nd (si_any (se_fnT (fs_dict rfl) rfl C.n_dict bt_dict (sa_cons (se_comp (own := [("row", 5)]) rfl sc_law_near.nd (si_any (se_var (i := 1) rfl (vis_of rfl) rfl rfl)) (blkOk_by (by kernel_rfl)) (fun _ _ _ _ _ => (sg_name (i := 5) sc_law_near.nd rfl (loc_of rfl) (.inr rfl))) (by decide) (fun _ _ _ _ _ => sts_nil) (fun _ _ _ _ _ => (se_tup (sa_cons (se_var (i := 5) rfl (vis_of rfl) rfl rfl) (sa_cons se_int sa_nil rfl) rfl))) (fun _ => rfl)) sa_nil rfl) (by decide) rfl rfl rfl)) (blkOk_by (by kernel_rfl)) (fun _ _ _ _ _ => (sg_name (i := 3) sc_law_near.nd rfl (loc_of rfl) (.inr rfl))) (by decide) (fun _ _ _ _ _ => (sts_one (PW.pt (sw_and (st_cmp (os_ne (hu64 hr)) (se_var (i := 3) rfl (vis_of rfl) rfl rfl) (se_var (i := 0) rfl (vis_of rfl) rfl rfl) rfl) (sw_and1 (st_cmp (os_eq (hu64 hr)) (se_op os_mod (se_callF (ok_law_card C) (hr.mono (by decide)) rfl C.d_law_card.mg C.d_law_card.fun_.kp (C.d_law_card.bnd B_law_card) (sa_cons (se_var (i := 3) rfl (vis_of rfl) rfl rfl) sa_nil rfl) rfl rfl rfl) se_int) se_int rfl)))))) (fun _ _ _ _ _ => (se_var (i := 3) rfl (vis_of rfl) rfl rfl)) (fun _ => rfl)) sa_nil rfl) (by decide) rfl rfl rfl))
    sss_nil)))
theorem B_law_plain : Bnd "_law_plain" s_law_plain [] := fun _ _ _ _ _ _ us hl => match us, hl with | [], _ => rfl
theorem ok_law_plain (C : Facts K mg base W) : FnE PP w K mg base W 22 (He.ga K "_law_plain") (fdOf K "_law_plain") [] f_law_plain := by
  unfold f_law_plain b_law_plain
  exact fn_evC C.d_law_plain.fun_ sc_law_plain fun A outer s H E hr => (sss_cons (ss_set (i := 0) sc_law_plain.nd rfl (loc_of rfl) (se_tup (sa_cons (se_tup (sa_cons (se_strL S6) (sa_cons (se_tup (sa_cons (se_tup (sa_cons (se_strL S12) (sa_cons (se_strL S11) sa_nil rfl) rfl)) (sa_cons (se_tup (sa_cons (se_strL Z10) (sa_cons (se_strL S9) sa_nil rfl) rfl)) sa_nil rfl) rfl)) sa_nil rfl) rfl)) sa_nil rfl)) rfl (.inl rfl))
    (sss_cons (ss_set (i := 1) sc_law_plain.nd rfl (loc_of rfl) (se_lst (sa_cons (se_callF (ok_plain_number C) (hr.mono (by decide)) rfl C.d_plain_number.mg C.d_plain_number.fun_.kp (C.d_plain_number.bnd B_plain_number) (sa_cons (se_strL S17) sa_nil rfl) rfl rfl rfl) (sa_cons (se_callF (ok_old_number C) (hr.mono (by decide)) rfl C.d_old_number.mg C.d_old_number.fun_.kp (C.d_old_number.bnd B_old_number) (sa_cons (se_strL S16) sa_nil rfl) rfl rfl rfl) (sa_cons (se_callF (ok_is_same_number C) (hr.mono (by decide)) rfl C.d_is_same_number.mg C.d_is_same_number.fun_.kp (C.d_is_same_number.bnd B_is_same_number) (sa_cons (se_strL S15) (sa_cons (se_strL S14) sa_nil rfl) rfl) rfl rfl rfl) (sa_cons (se_callF (ok_check_of_ten C) (hr.mono (by decide)) rfl C.d_check_of_ten.mg C.d_check_of_ten.fun_.kp (C.d_check_of_ten.bnd B_check_of_ten) (sa_cons (se_strL Z13) sa_nil rfl) rfl rfl rfl) sa_nil rfl) rfl) rfl) rfl)) rfl (.inl rfl))
    (sss_cons (ss_set (i := 1) sc_law_plain.nd rfl (loc_of rfl) (se_op os_add (se_var (i := 1) rfl (vis_of rfl) rfl rfl) (se_lst (sa_cons (se_callF (ok_check_of_thirteen C) (hr.mono (by decide)) rfl C.d_check_of_thirteen.mg C.d_check_of_thirteen.fun_.kp (C.d_check_of_thirteen.bnd B_check_of_thirteen) (sa_cons (se_strL S20) sa_nil rfl) rfl rfl rfl) (sa_cons (se_callF (ok_parted_number C) (hr.mono (by decide)) rfl C.d_parted_number.mg C.d_parted_number.fun_.kp (C.d_parted_number.bnd B_parted_number) (sa_cons (se_strL S16) (sa_cons (se_var (i := 0) rfl (vis_of rfl) rfl rfl) sa_nil rfl) rfl) rfl rfl rfl) (sa_cons (se_callF (ok_sum_of_card C) (hr.mono (by decide)) rfl C.d_sum_of_card.mg C.d_sum_of_card.fun_.kp (C.d_sum_of_card.bnd B_sum_of_card) (sa_cons (se_strL S19) sa_nil rfl) rfl rfl rfl) (sa_cons (se_callF (ok_made_card C) (hr.mono (by decide)) rfl C.d_made_card.mg C.d_made_card.fun_.kp (C.d_made_card.bnd B_made_card) (sa_cons se_int (sa_cons se_int sa_nil rfl) rfl) rfl rfl rfl) (sa_cons (se_callF (ok_is_card C) (hr.mono (by decide)) rfl C.d_is_card.mg C.d_is_card.fun_.kp (C.d_is_card.bnd B_is_card) (sa_cons (se_strL S18) sa_nil rfl) rfl rfl rfl) sa_nil rfl) rfl) rfl) rfl) rfl))) rfl (.inl rfl))
    (sss_cons (ss_set (i := 1) sc_law_plain.nd rfl (loc_of rfl) (se_op os_add (se_var (i := 1) rfl (vis_of rfl) rfl rfl) (se_lst (sa_cons (se_callF (ok_number_of_card C) (hr.mono (by decide)) rfl C.d_number_of_card.mg C.d_number_of_card.fun_.kp (C.d_number_of_card.bnd B_number_of_card) (sa_cons (se_strL S18) sa_nil rfl) rfl rfl rfl) (sa_cons (se_cut (se_callF (ok_mended_by_one C) (hr.mono (by decide)) rfl C.d_mended_by_one.mg C.d_mended_by_one.fun_.kp (C.d_mended_by_one.bnd B_mended_by_one) (sa_cons (se_strL S23) sa_nil rfl) rfl rfl rfl) so_none (so_some se_int)) (sa_cons (se_callF (ok_missing_figure C) (hr.mono (by decide)) rfl C.d_missing_figure.mg C.d_missing_figure.fun_.kp (C.d_missing_figure.bnd B_missing_figure) (sa_cons (se_strL S22) sa_nil rfl) rfl rfl rfl) (sa_cons (se_callF (ok_is_number_at_all C) (hr.mono (by decide)) rfl C.d_is_number_at_all.mg C.d_is_number_at_all.fun_.kp (C.d_is_number_at_all.bnd B_is_number_at_all) (sa_cons (se_strL S21) sa_nil rfl) rfl rfl rfl) (sa_cons (se_callF (ok_is_number_at_all C) (hr.mono (by decide)) rfl C.d_is_number_at_all.mg C.d_is_number_at_all.fun_.kp (C.d_is_number_at_all.bnd B_is_number_at_all) (sa_cons (se_strL S2) sa_nil rfl) rfl rfl rfl) sa_nil rfl) rfl) rfl) rfl) rfl))) rfl (.inl rfl))
    (sss_cons (ss_set (i := 1) sc_law_plain.nd rfl (loc_of rfl) (se_op os_add (se_var (i := 1) rfl (vis_of rfl) rfl rfl) (se_lst (sa_cons (se_callF (ok_figures_of C) (hr.mono (by decide)) rfl C.d_figures_of.mg C.d_figures_of.fun_.kp (C.d_figures_of.bnd B_figures_of) (sa_cons (se_strL S25) sa_nil rfl) rfl rfl rfl) (sa_cons (se_callF (ok_is_book_number C) (hr.mono (by decide)) rfl C.d_is_book_number.mg C.d_is_book_number.fun_.kp (C.d_is_book_number.bnd B_is_book_number) (sa_cons (se_strL S24) sa_nil rfl) rfl rfl rfl) (sa_cons (se_callF (ok_made_card C) (hr.mono (by decide)) rfl C.d_made_card.mg C.d_made_card.fun_.kp (C.d_made_card.bnd B_made_card) (sa_cons se_int (sa_cons se_int sa_nil rfl) rfl) rfl rfl rfl) sa_nil rfl) rfl) rfl))) rfl (.inl rfl))
    (pb_start (i := 2) (Lams.cons (l := ⟨_, _, _, (eCallF f_figures_of (lCons (eC (.str [])) lNil))⟩) (⟨C.t_law_plain.tb, C.t_law_plain.code, C.t_law_plain.tab, C.t_law_plain.tabs, rfl, LamX.lamS_by (by kernel_rfl), fun _ _ _ _ _ => rfl⟩) rfl
     (Lams.cons (l := ⟨_, _, _, (eCallF f_figures_of (lCons (eC (.str [97])) lNil))⟩) (⟨C.t_law_plain.tb, C.t_law_plain.code, C.t_law_plain.tab, C.t_law_plain.tabs, rfl, LamX.lamS_by (by kernel_rfl), fun _ _ _ _ _ => rfl⟩) rfl
     (Lams.cons (l := ⟨_, _, _, (eCallF f_figures_of (lCons (eC (.str [88, 49])) lNil))⟩) (⟨C.t_law_plain.tb, C.t_law_plain.code, C.t_law_plain.tab, C.t_law_plain.tabs, rfl, LamX.lamS_by (by kernel_rfl), fun _ _ _ _ _ => rfl⟩) rfl
     (Lams.cons (l := ⟨_, _, _, (eCallF f_check_of_ten (lCons (eC (.str [49, 50, 51, 52, 53, 54, 55, 56])) lNil))⟩) (⟨C.t_law_plain.tb, C.t_law_plain.code, C.t_law_plain.tab, C.t_law_plain.tabs, rfl, LamX.lamS_by (by kernel_rfl), fun _ _ _ _ _ => rfl⟩) rfl
     (Lams.cons (l := ⟨_, _, _, (eCallF f_check_of_ten (lCons (eC (.str [49, 50, 51, 52, 53, 54, 55, 56, 88])) lNil))⟩) (⟨C.t_law_plain.tb, C.t_law_plain.code, C.t_law_plain.tab, C.t_law_plain.tabs, rfl, LamX.lamS_by (by kernel_rfl), fun _ _ _ _ _ => rfl⟩) rfl
     Lams.nil))))) (by decide) sc_law_plain.nd rfl (loc_of rfl) (.inl rfl) rfl rfl rfl
    (pb_more (i := 2) (Lams.cons (l := ⟨_, _, _, (eCallF f_check_of_thirteen (lCons (eC (.str [49, 50, 51, 52, 53, 54, 55, 56, 57, 48, 49])) lNil))⟩) (⟨C.t_law_plain.tb, C.t_law_plain.code, C.t_law_plain.tab, C.t_law_plain.tabs, rfl, LamX.lamS_by (by kernel_rfl), fun _ _ _ _ _ => rfl⟩) rfl
     (Lams.cons (l := ⟨_, _, _, (eCallF f_check_of_thirteen (lCons (eOp oMulB (eC (.str [120])) (eC (.int 12))) lNil))⟩) (⟨C.t_law_plain.tb, C.t_law_plain.code, C.t_law_plain.tab, C.t_law_plain.tabs, rfl, LamX.lamS_by (by kernel_rfl), fun _ _ _ _ _ => rfl⟩) rfl
     (Lams.cons (l := ⟨_, _, _, (eCallF f_is_book_number (lCons (eC (.str [])) lNil))⟩) (⟨C.t_law_plain.tb, C.t_law_plain.code, C.t_law_plain.tab, C.t_law_plain.tabs, rfl, LamX.lamS_by (by kernel_rfl), fun _ _ _ _ _ => rfl⟩) rfl
     (Lams.cons (l := ⟨_, _, _, (eCallF f_plain_number (lCons (eC (.str [48, 51, 48, 54, 52, 48, 54, 49, 53, 51])) lNil))⟩) (⟨C.t_law_plain.tb, C.t_law_plain.code, C.t_law_plain.tab, C.t_law_plain.tabs, rfl, LamX.lamS_by (by kernel_rfl), fun _ _ _ _ _ => rfl⟩) rfl
     Lams.nil)))) (by decide) sc_law_plain.nd rfl (loc_of rfl) (vis_of rfl) (.inl rfl) rfl rfl rfl rfl rfl
    (pb_more (i := 2) (Lams.cons (l := ⟨_, _, _, (eCallF f_plain_number (lCons (eC (.str [49, 50])) lNil))⟩) (⟨C.t_law_plain.tb, C.t_law_plain.code, C.t_law_plain.tab, C.t_law_plain.tabs, rfl, LamX.lamS_by (by kernel_rfl), fun _ _ _ _ _ => rfl⟩) rfl
     (Lams.cons (l := ⟨_, _, _, (eCallF f_old_number (lCons (eC (.str [49, 50])) lNil))⟩) (⟨C.t_law_plain.tb, C.t_law_plain.code, C.t_law_plain.tab, C.t_law_plain.tabs, rfl, LamX.lamS_by (by kernel_rfl), fun _ _ _ _ _ => rfl⟩) rfl
     (Lams.cons (l := ⟨_, _, _, (eCallF f_is_same_number (lCons (eC (.str [48, 51, 48, 54, 52, 48, 54, 49, 53, 50])) (lCons (eC (.str [49])) lNil)))⟩) (⟨C.t_law_plain.tb, C.t_law_plain.code, C.t_law_plain.tab, C.t_law_plain.tabs, rfl, LamX.lamS_by (by kernel_rfl), fun _ _ _ _ _ => rfl⟩) rfl
     (Lams.cons (l := ⟨_, _, _, (eCallF f_parted_number (lCons (eC (.str [48, 51, 48, 54, 52, 48, 54, 49, 53, 50])) (lCons (eTup lNil) lNil)))⟩) (⟨C.t_law_plain.tb, C.t_law_plain.code, C.t_law_plain.tab, C.t_law_plain.tabs, rfl, LamX.lamS_by (by kernel_rfl), fun _ _ _ _ _ => rfl⟩) rfl
     Lams.nil)))) (by decide) sc_law_plain.nd rfl (loc_of rfl) (vis_of rfl) (.inl rfl) rfl rfl rfl rfl rfl
    (pb_more (i := 2) (Lams.cons (l := ⟨_, _, _, (eCallF f_parted_number (lCons (eC (.str [49])) (lCons (eV 0) lNil)))⟩) (⟨C.t_law_plain.tb, C.t_law_plain.code, C.t_law_plain.tab, C.t_law_plain.tabs, rfl, LamX.lamS_by (by kernel_rfl), fun _ _ _ _ _ => rfl⟩) rfl
     (Lams.cons (l := ⟨_, _, _, (eCallF f_sum_of_card (lCons (eC (.str [])) lNil))⟩) (⟨C.t_law_plain.tb, C.t_law_plain.code, C.t_law_plain.tab, C.t_law_plain.tabs, rfl, LamX.lamS_by (by kernel_rfl), fun _ _ _ _ _ => rfl⟩) rfl
     (Lams.cons (l := ⟨_, _, _, (eCallF f_sum_of_card (lCons (eC (.str [49, 120])) lNil))⟩) (⟨C.t_law_plain.tb, C.t_law_plain.code, C.t_law_plain.tab, C.t_law_plain.tabs, rfl, LamX.lamS_by (by kernel_rfl), fun _ _ _ _ _ => rfl⟩) rfl
     (Lams.cons (l := ⟨_, _, _, (eCallF f_sum_of_card (lCons (eOp oMulB (eC (.str [49])) (eC (.int 19))) lNil))⟩) (⟨C.t_law_plain.tb, C.t_law_plain.code, C.t_law_plain.tab, C.t_law_plain.tabs, rfl, LamX.lamS_by (by kernel_rfl), fun _ _ _ _ _ => rfl⟩) rfl
     (Lams.cons (l := ⟨_, _, _, (eCallF f_made_card (lCons (eNeg (eC (.int 1))) (lCons (eC (.int 5)) lNil)))⟩) (⟨C.t_law_plain.tb, C.t_law_plain.code, C.t_law_plain.tab, C.t_law_plain.tabs, rfl, LamX.lamS_by (by kernel_rfl), fun _ _ _ _ _ => rfl⟩) rfl
     Lams.nil))))) (by decide) sc_law_plain.nd rfl (loc_of rfl) (vis_of rfl) (.inl rfl) rfl rfl rfl rfl rfl
    (pb_more (i := 2) (Lams.cons (l := ⟨_, _, _, (eCallF f_made_card (lCons (eC (.int 100)) (lCons (eC (.int 2)) lNil)))⟩) (⟨C.t_law_plain.tb, C.t_law_plain.code, C.t_law_plain.tab, C.t_law_plain.tabs, rfl, LamX.lamS_by (by kernel_rfl), fun _ _ _ _ _ => rfl⟩) rfl
     (Lams.cons (l := ⟨_, _, _, (eCallF f_made_card (lCons (eC (.int 1)) (lCons (eC (.int 0)) lNil)))⟩) (⟨C.t_law_plain.tb, C.t_law_plain.code, C.t_law_plain.tab, C.t_law_plain.tabs, rfl, LamX.lamS_by (by kernel_rfl), fun _ _ _ _ _ => rfl⟩) rfl
     (Lams.cons (l := ⟨_, _, _, (eCallF f_made_card (lCons (eC (.int 1)) (lCons (eC (.int 18)) lNil)))⟩) (⟨C.t_law_plain.tb, C.t_law_plain.code, C.t_law_plain.tab, C.t_law_plain.tabs, rfl, LamX.lamS_by (by kernel_rfl), fun _ _ _ _ _ => rfl⟩) rfl
     (Lams.cons (l := ⟨_, _, _, (eCallF f_is_card (lCons (eC (.str [])) lNil))⟩) (⟨C.t_law_plain.tb, C.t_law_plain.code, C.t_law_plain.tab, C.t_law_plain.tabs, rfl, LamX.lamS_by (by kernel_rfl), fun _ _ _ _ _ => rfl⟩) rfl
     (Lams.cons (l := ⟨_, _, _, (eCallF f_number_of_card (lCons (eC (.str [53])) lNil))⟩) (⟨C.t_law_plain.tb, C.t_law_plain.code, C.t_law_plain.tab, C.t_law_plain.tabs, rfl, LamX.lamS_by (by kernel_rfl), fun _ _ _ _ _ => rfl⟩) rfl
     Lams.nil))))) (by decide) sc_law_plain.nd rfl (loc_of rfl) (vis_of rfl) (.inl rfl) rfl rfl rfl rfl rfl
    (pb_more (i := 2) (Lams.cons (l := ⟨_, _, _, (eCallF f_number_of_card (lCons (eC (.str [48])) lNil))⟩) (⟨C.t_law_plain.tb, C.t_law_plain.code, C.t_law_plain.tab, C.t_law_plain.tabs, rfl, LamX.lamS_by (by kernel_rfl), fun _ _ _ _ _ => rfl⟩) rfl
     (Lams.cons (l := ⟨_, _, _, (eCallF f_number_of_card (lCons (eC (.str [52, 51])) lNil))⟩) (⟨C.t_law_plain.tb, C.t_law_plain.code, C.t_law_plain.tab, C.t_law_plain.tabs, rfl, LamX.lamS_by (by kernel_rfl), fun _ _ _ _ _ => rfl⟩) rfl
     (Lams.cons (l := ⟨_, _, _, (eCallF f_mended_by_one (lCons (eC (.str [120])) lNil))⟩) (⟨C.t_law_plain.tb, C.t_law_plain.code, C.t_law_plain.tab, C.t_law_plain.tabs, rfl, LamX.lamS_by (by kernel_rfl), fun _ _ _ _ _ => rfl⟩) rfl
     (Lams.cons (l := ⟨_, _, _, (eCallF f_missing_figure (lCons (eC (.str [49, 50])) lNil))⟩) (⟨C.t_law_plain.tb, C.t_law_plain.code, C.t_law_plain.tab, C.t_law_plain.tabs, rfl, LamX.lamS_by (by kernel_rfl), fun _ _ _ _ _ => rfl⟩) rfl
     Lams.nil)))) (by decide) sc_law_plain.nd rfl (loc_of rfl) (vis_of rfl) (.inl rfl) rfl rfl rfl rfl rfl
    (pb_more (i := 2) (Lams.cons (l := ⟨_, _, _, (eCallF f_missing_figure (lCons (eC (.str [49, 63, 63])) lNil))⟩) (⟨C.t_law_plain.tb, C.t_law_plain.code, C.t_law_plain.tab, C.t_law_plain.tabs, rfl, LamX.lamS_by (by kernel_rfl), fun _ _ _ _ _ => rfl⟩) rfl
     (Lams.cons (l := ⟨_, _, _, (eCallF f_missing_figure (lCons (eC (.str [97, 63])) lNil))⟩) (⟨C.t_law_plain.tb, C.t_law_plain.code, C.t_law_plain.tab, C.t_law_plain.tabs, rfl, LamX.lamS_by (by kernel_rfl), fun _ _ _ _ _ => rfl⟩) rfl
     Lams.nil)) (by decide) sc_law_plain.nd rfl (loc_of rfl) (vis_of rfl) (.inl rfl) rfl rfl rfl rfl rfl
    (pb_if (pt_badNe (hu64 hr) (pe_badComp (c := codeA K "_law_plain") (P := tabA K "_law_plain") (k := 19) (own := [("k", 4), ("f", 5)]) (i := 2) (jf := 5) S38 C.told rfl sc_law_plain.nd (hr.mono (by decide)) (by refine LamsOk.app ?_ ?_; refine LamsOk.app ?_ ?_; refine LamsOk.app ?_ ?_; refine LamsOk.app ?_ ?_; refine LamsOk.app ?_ ?_; refine LamsOk.app ?_ ?_; refine LamsOk.cons (j := 9) (⟨C.t_law_plain.tb, C.t_law_plain.code, C.t_law_plain.tab, C.t_law_plain.tabs, rfl, LamX.lamS_by (by kernel_rfl), fun _ _ _ _ _ => rfl⟩) (fun _ _ _ _ _ _ _ hl1 => ?_) (by decide) ?_; exact (se_callF (ok_figures_of C) (hl1.mono (by decide)) rfl C.d_figures_of.mg C.d_figures_of.fun_.kp (C.d_figures_of.bnd B_figures_of) (sa_cons (se_strL S0) sa_nil rfl) rfl rfl rfl); refine LamsOk.cons (j := 9) (⟨C.t_law_plain.tb, C.t_law_plain.code, C.t_law_plain.tab, C.t_law_plain.tabs, rfl, LamX.lamS_by (by kernel_rfl), fun _ _ _ _ _ => rfl⟩) (fun _ _ _ _ _ _ _ hl2 => ?_) (by decide) ?_; exact (se_callF (ok_figures_of C) (hl2.mono (by decide)) rfl C.d_figures_of.mg C.d_figures_of.fun_.kp (C.d_figures_of.bnd B_figures_of) (sa_cons (se_strL S26) sa_nil rfl) rfl rfl rfl); refine LamsOk.cons (j := 9) (⟨C.t_law_plain.tb, C.t_law_plain.code, C.t_law_plain.tab, C.t_law_plain.tabs, rfl, LamX.lamS_by (by kernel_rfl), fun _ _ _ _ _ => rfl⟩) (fun _ _ _ _ _ _ _ hl3 => ?_) (by decide) ?_; exact (se_callF (ok_figures_of C) (hl3.mono (by decide)) rfl C.d_figures_of.mg C.d_figures_of.fun_.kp (C.d_figures_of.bnd B_figures_of) (sa_cons (se_strL S27) sa_nil rfl) rfl rfl rfl); refine LamsOk.cons (j := 9) (⟨C.t_law_plain.tb, C.t_law_plain.code, C.t_law_plain.tab, C.t_law_plain.tabs, rfl, LamX.lamS_by (by kernel_rfl), fun _ _ _ _ _ => rfl⟩) (fun _ _ _ _ _ _ _ hl4 => ?_) (by decide) ?_; exact (se_callF (ok_check_of_ten C) (hl4.mono (by decide)) rfl C.d_check_of_ten.mg C.d_check_of_ten.fun_.kp (C.d_check_of_ten.bnd B_check_of_ten) (sa_cons (se_strL S28) sa_nil rfl) rfl rfl rfl); refine LamsOk.cons (j := 9) (⟨C.t_law_plain.tb, C.t_law_plain.code, C.t_law_plain.tab, C.t_law_plain.tabs, rfl, LamX.lamS_by (by kernel_rfl), fun _ _ _ _ _ => rfl⟩) (fun _ _ _ _ _ _ _ hl5 => ?_) (by decide) ?_; exact (se_callF (ok_check_of_ten C) (hl5.mono (by decide)) rfl C.d_check_of_ten.mg C.d_check_of_ten.fun_.kp (C.d_check_of_ten.bnd B_check_of_ten) (sa_cons (se_strL S29) sa_nil rfl) rfl rfl rfl); exact LamsOk.nil; refine LamsOk.cons (j := 9) (⟨C.t_law_plain.tb, C.t_law_plain.code, C.t_law_plain.tab, C.t_law_plain.tabs, rfl, LamX.lamS_by (by kernel_rfl), fun _ _ _ _ _ => rfl⟩) (fun _ _ _ _ _ _ _ hl6 => ?_) (by decide) ?_; exact (se_callF (ok_check_of_thirteen C) (hl6.mono (by decide)) rfl C.d_check_of_thirteen.mg C.d_check_of_thirteen.fun_.kp (C.d_check_of_thirteen.bnd B_check_of_thirteen) (sa_cons (se_strL S30) sa_nil rfl) rfl rfl rfl); refine LamsOk.cons (j := 9) (⟨C.t_law_plain.tb, C.t_law_plain.code, C.t_law_plain.tab, C.t_law_plain.tabs, rfl, LamX.lamS_by (by kernel_rfl), fun _ _ _ _ _ => rfl⟩) (fun _ _ _ _ _ _ _ hl7 => ?_) (by decide) ?_; exact (se_callF (ok_check_of_thirteen C) (hl7.mono (by decide)) rfl C.d_check_of_thirteen.mg C.d_check_of_thirteen.fun_.kp (C.d_check_of_thirteen.bnd B_check_of_thirteen) (sa_cons (se_op os_mulB (se_strL S21) se_int) sa_nil rfl) rfl rfl rfl); refine LamsOk.cons (j := 10) (⟨C.t_law_plain.tb, C.t_law_plain.code, C.t_law_plain.tab, C.t_law_plain.tabs, rfl, LamX.lamS_by (by kernel_rfl), fun _ _ _ _ _ => rfl⟩) (fun _ _ _ _ _ _ _ hl8 => ?_) (by decide) ?_; exact (se_callF (ok_is_book_number C) (hl8.mono (by decide)) rfl C.d_is_book_number.mg C.d_is_book_number.fun_.kp (C.d_is_book_number.bnd B_is_book_number) (sa_cons (se_strL S0) sa_nil rfl) rfl rfl rfl); refine LamsOk.cons (j := 11) (⟨C.t_law_plain.tb, C.t_law_plain.code, C.t_law_plain.tab, C.t_law_plain.tabs, rfl, LamX.lamS_by (by kernel_rfl), fun _ _ _ _ _ => rfl⟩) (fun _ _ _ _ _ _ _ hl9 => ?_) (by decide) ?_; exact (se_callF (ok_plain_number C) (hl9.mono (by decide)) rfl C.d_plain_number.mg C.d_plain_number.fun_.kp (C.d_plain_number.bnd B_plain_number) (sa_cons (se_strL S31) sa_nil rfl) rfl rfl rfl); exact LamsOk.nil; refine LamsOk.cons (j := 11) (⟨C.t_law_plain.tb, C.t_law_plain.code, C.t_law_plain.tab, C.t_law_plain.tabs, rfl, LamX.lamS_by (by kernel_rfl), fun _ _ _ _ _ => rfl⟩) (fun _ _ _ _ _ _ _ hl10 => ?_) (by decide) ?_; exact (se_callF (ok_plain_number C) (hl10.mono (by decide)) rfl C.d_plain_number.mg C.d_plain_number.fun_.kp (C.d_plain_number.bnd B_plain_number) (sa_cons (se_strL S24) sa_nil rfl) rfl rfl rfl); refine LamsOk.cons (j := 12) (⟨C.t_law_plain.tb, C.t_law_plain.code, C.t_law_plain.tab, C.t_law_plain.tabs, rfl, LamX.lamS_by (by kernel_rfl), fun _ _ _ _ _ => rfl⟩) (fun _ _ _ _ _ _ _ hl11 => ?_) (by decide) ?_; exact (se_callF (ok_old_number C) (hl11.mono (by decide)) rfl C.d_old_number.mg C.d_old_number.fun_.kp (C.d_old_number.bnd B_old_number) (sa_cons (se_strL S24) sa_nil rfl) rfl rfl rfl); refine LamsOk.cons (j := 12) (⟨C.t_law_plain.tb, C.t_law_plain.code, C.t_law_plain.tab, C.t_law_plain.tabs, rfl, LamX.lamS_by (by kernel_rfl), fun _ _ _ _ _ => rfl⟩) (fun _ _ _ _ _ _ _ hl12 => ?_) (by decide) ?_; exact (se_callF (ok_is_same_number C) (hl12.mono (by decide)) rfl C.d_is_same_number.mg C.d_is_same_number.fun_.kp (C.d_is_same_number.bnd B_is_same_number) (sa_cons (se_strL S15) (sa_cons (se_strL S32) sa_nil rfl) rfl) rfl rfl rfl); refine LamsOk.cons (j := 12) (⟨C.t_law_plain.tb, C.t_law_plain.code, C.t_law_plain.tab, C.t_law_plain.tabs, rfl, LamX.lamS_by (by kernel_rfl), fun _ _ _ _ _ => rfl⟩) (fun _ _ _ _ _ _ _ hl13 => ?_) (by decide) ?_; exact (se_callF (ok_parted_number C) (hl13.mono (by decide)) rfl C.d_parted_number.mg C.d_parted_number.fun_.kp (C.d_parted_number.bnd B_parted_number) (sa_cons (se_strL S15) (sa_cons (se_tup sa_nil) sa_nil rfl) rfl) rfl rfl rfl); exact LamsOk.nil; refine LamsOk.cons (j := 12) (⟨C.t_law_plain.tb, C.t_law_plain.code, C.t_law_plain.tab, C.t_law_plain.tabs, rfl, LamX.lamS_by (by kernel_rfl), fun _ _ _ _ _ => rfl⟩) (fun _ _ _ _ _ _ _ hl14 => ?_) (by decide) ?_; exact (se_callF (ok_parted_number C) (hl14.mono (by decide)) rfl C.d_parted_number.mg C.d_parted_number.fun_.kp (C.d_parted_number.bnd B_parted_number) (sa_cons (se_strL S32) (sa_cons (se_var (i := 0) rfl (vis_of rfl) rfl rfl) sa_nil rfl) rfl) rfl rfl rfl); refine LamsOk.cons (j := 9) (⟨C.t_law_plain.tb, C.t_law_plain.code, C.t_law_plain.tab, C.t_law_plain.tabs, rfl, LamX.lamS_by (by kernel_rfl), fun _ _ _ _ _ => rfl⟩) (fun _ _ _ _ _ _ _ hl15 => ?_) (by decide) ?_; exact (se_callF (ok_sum_of_card C) (hl15.mono (by decide)) rfl C.d_sum_of_card.mg C.d_sum_of_card.fun_.kp (C.d_sum_of_card.bnd B_sum_of_card) (sa_cons (se_strL S0) sa_nil rfl) rfl rfl rfl); refine LamsOk.cons (j := 9) (⟨C.t_law_plain.tb, C.t_law_plain.code, C.t_law_plain.tab, C.t_law_plain.tabs, rfl, LamX.lamS_by (by kernel_rfl), fun _ _ _ _ _ => rfl⟩) (fun _ _ _ _ _ _ _ hl16 => ?_) (by decide) ?_; exact (se_callF (ok_sum_of_card C) (hl16.mono (by decide)) rfl C.d_sum_of_card.mg C.d_sum_of_card.fun_.kp (C.d_sum_of_card.bnd B_sum_of_card) (sa_cons (se_strL S33) sa_nil rfl) rfl rfl rfl); refine LamsOk.cons (j := 9) (⟨C.t_law_plain.tb, C.t_law_plain.code, C.t_law_plain.tab, C.t_law_plain.tabs, rfl, LamX.lamS_by (by kernel_rfl), fun _ _ _ _ _ => rfl⟩) (fun _ _ _ _ _ _ _ hl17 => ?_) (by decide) ?_; exact (se_callF (ok_sum_of_card C) (hl17.mono (by decide)) rfl C.d_sum_of_card.mg C.d_sum_of_card.fun_.kp (C.d_sum_of_card.bnd B_sum_of_card) (sa_cons (se_op os_mulB (se_strL S32) se_int) sa_nil rfl) rfl rfl rfl); refine LamsOk.cons (j := 10) (⟨C.t_law_plain.tb, C.t_law_plain.code, C.t_law_plain.tab, C.t_law_plain.tabs, rfl, LamX.lamS_by (by kernel_rfl), fun _ _ _ _ _ => rfl⟩) (fun _ _ _ _ _ _ _ hl18 => ?_) (by decide) ?_; exact (se_callF (ok_made_card C) (hl18.mono (by decide)) rfl C.d_made_card.mg C.d_made_card.fun_.kp (C.d_made_card.bnd B_made_card) (sa_cons (se_neg se_int) (sa_cons se_int sa_nil rfl) rfl) rfl rfl rfl); exact LamsOk.nil; refine LamsOk.cons (j := 10) (⟨C.t_law_plain.tb, C.t_law_plain.code, C.t_law_plain.tab, C.t_law_plain.tabs, rfl, LamX.lamS_by (by kernel_rfl), fun _ _ _ _ _ => rfl⟩) (fun _ _ _ _ _ _ _ hl19 => ?_) (by decide) ?_; exact (se_callF (ok_made_card C) (hl19.mono (by decide)) rfl C.d_made_card.mg C.d_made_card.fun_.kp (C.d_made_card.bnd B_made_card) (sa_cons se_int (sa_cons se_int sa_nil rfl) rfl) rfl rfl rfl); refine LamsOk.cons (j := 10) (⟨C.t_law_plain.tb, C.t_law_plain.code, C.t_law_plain.tab, C.t_law_plain.tabs, rfl, LamX.lamS_by (by kernel_rfl), fun _ _ _ _ _ => rfl⟩) (fun _ _ _ _ _ _ _ hl20 => ?_) (by decide) ?_; exact (se_callF (ok_made_card C) (hl20.mono (by decide)) rfl C.d_made_card.mg C.d_made_card.fun_.kp (C.d_made_card.bnd B_made_card) (sa_cons se_int (sa_cons se_int sa_nil rfl) rfl) rfl rfl rfl); refine LamsOk.cons (j := 10) (⟨C.t_law_plain.tb, C.t_law_plain.code, C.t_law_plain.tab, C.t_law_plain.tabs, rfl, LamX.lamS_by (by kernel_rfl), fun _ _ _ _ _ => rfl⟩) (fun _ _ _ _ _ _ _ hl21 => ?_) (by decide) ?_; exact (se_callF (ok_made_card C) (hl21.mono (by decide)) rfl C.d_made_card.mg C.d_made_card.fun_.kp (C.d_made_card.bnd B_made_card) (sa_cons se_int (sa_cons se_int sa_nil rfl) rfl) rfl rfl rfl); refine LamsOk.cons (j := 10) (⟨C.t_law_plain.tb, C.t_law_plain.code, C.t_law_plain.tab, C.t_law_plain.tabs, rfl, LamX.lamS_by (by kernel_rfl), fun _ _ _ _ _ => rfl⟩) (fun _ _ _ _ _ _ _ hl22 => ?_) (by decide) ?_; exact (se_callF (ok_is_card C) (hl22.mono (by decide)) rfl C.d_is_card.mg C.d_is_card.fun_.kp (C.d_is_card.bnd B_is_card) (sa_cons (se_strL S0) sa_nil rfl) rfl rfl rfl); refine LamsOk.cons (j := 11) (⟨C.t_law_plain.tb, C.t_law_plain.code, C.t_law_plain.tab, C.t_law_plain.tabs, rfl, LamX.lamS_by (by kernel_rfl), fun _ _ _ _ _ => rfl⟩) (fun _ _ _ _ _ _ _ hl23 => ?_) (by decide) ?_; exact (se_callF (ok_number_of_card C) (hl23.mono (by decide)) rfl C.d_number_of_card.mg C.d_number_of_card.fun_.kp (C.d_number_of_card.bnd B_number_of_card) (sa_cons (se_strL S34) sa_nil rfl) rfl rfl rfl); exact LamsOk.nil; refine LamsOk.cons (j := 11) (⟨C.t_law_plain.tb, C.t_law_plain.code, C.t_law_plain.tab, C.t_law_plain.tabs, rfl, LamX.lamS_by (by kernel_rfl), fun _ _ _ _ _ => rfl⟩) (fun _ _ _ _ _ _ _ hl24 => ?_) (by decide) ?_; exact (se_callF (ok_number_of_card C) (hl24.mono (by decide)) rfl C.d_number_of_card.mg C.d_number_of_card.fun_.kp (C.d_number_of_card.bnd B_number_of_card) (sa_cons (se_strL S6) sa_nil rfl) rfl rfl rfl); refine LamsOk.cons (j := 11) (⟨C.t_law_plain.tb, C.t_law_plain.code, C.t_law_plain.tab, C.t_law_plain.tabs, rfl, LamX.lamS_by (by kernel_rfl), fun _ _ _ _ _ => rfl⟩) (fun _ _ _ _ _ _ _ hl25 => ?_) (by decide) ?_; exact (se_callF (ok_number_of_card C) (hl25.mono (by decide)) rfl C.d_number_of_card.mg C.d_number_of_card.fun_.kp (C.d_number_of_card.bnd B_number_of_card) (sa_cons (se_strL S35) sa_nil rfl) rfl rfl rfl); refine LamsOk.cons (j := 19) (⟨C.t_law_plain.tb, C.t_law_plain.code, C.t_law_plain.tab, C.t_law_plain.tabs, rfl, LamX.lamS_by (by kernel_rfl), fun _ _ _ _ _ => rfl⟩) (fun _ _ _ _ _ _ _ hl26 => ?_) (by decide) ?_; exact (se_callF (ok_mended_by_one C) (hl26.mono (by decide)) rfl C.d_mended_by_one.mg C.d_mended_by_one.fun_.kp (C.d_mended_by_one.bnd B_mended_by_one) (sa_cons (se_strL S21) sa_nil rfl) rfl rfl rfl); refine LamsOk.cons (j := 11) (⟨C.t_law_plain.tb, C.t_law_plain.code, C.t_law_plain.tab, C.t_law_plain.tabs, rfl, LamX.lamS_by (by kernel_rfl), fun _ _ _ _ _ => rfl⟩) (fun _ _ _ _ _ _ _ hl27 => ?_) (by decide) ?_; exact (se_callF (ok_missing_figure C) (hl27.mono (by decide)) rfl C.d_missing_figure.mg C.d_missing_figure.fun_.kp (C.d_missing_figure.bnd B_missing_figure) (sa_cons (se_strL S24) sa_nil rfl) rfl rfl rfl); exact LamsOk.nil; refine LamsOk.cons (j := 11) (⟨C.t_law_plain.tb, C.t_law_plain.code, C.t_law_plain.tab, C.t_law_plain.tabs, rfl, LamX.lamS_by (by kernel_rfl), fun _ _ _ _ _ => rfl⟩) (fun _ _ _ _ _ _ _ hl28 => ?_) (by decide) ?_; exact (se_callF (ok_missing_figure C) (hl28.mono (by decide)) rfl C.d_missing_figure.mg C.d_missing_figure.fun_.kp (C.d_missing_figure.bnd B_missing_figure) (sa_cons (se_strL S36) sa_nil rfl) rfl rfl rfl); refine LamsOk.cons (j := 11) (⟨C.t_law_plain.tb, C.t_law_plain.code, C.t_law_plain.tab, C.t_law_plain.tabs, rfl, LamX.lamS_by (by kernel_rfl), fun _ _ _ _ _ => rfl⟩) (fun _ _ _ _ _ _ _ hl29 => ?_) (by decide) ?_; exact (se_callF (ok_missing_figure C) (hl29.mono (by decide)) rfl C.d_missing_figure.mg C.d_missing_figure.fun_.kp (C.d_missing_figure.bnd B_missing_figure) (sa_cons (se_strL S37) sa_nil rfl) rfl rfl rfl); exact LamsOk.nil) (badwalk_enum (p := ⟨0, 0, 0, 0⟩) rfl (vis_of rfl) rfl rfl rfl C.n_enumerate (by decide) rfl) (blkOk_by (by kernel_rfl)) (fun _ _ _ _ _ => (pg_tup rfl (pgs_cons (pg_name (i := 4) sc_law_plain.nd rfl (loc_of rfl) (.inr rfl)) (pgs_cons (pg_name (i := 5) sc_law_plain.nd rfl (loc_of rfl) (.inr rfl)) pgs_nil rfl) rfl) rfl rfl)) (by decide) (fun _ _ _ _ _ => bl_e (W := W) (se_var (i := 4) rfl (vis_of rfl) rfl rfl)) (fun _ => rfl) (fun _ _ => rfl) rfl (fun _ _ => vis_of rfl) rfl rfl rfl (fun _ _ => rfl))) (sss_cons (ss_ret se_bl)
    sss_nil) (sss_cons (ss_if (st_cmp (os_ne (hu64 hr)) (se_tup (sa_cons (se_glob C.g_FIGURES rfl rfl) (sa_cons (se_glob C.g_MOST_FIGURES rfl rfl) sa_nil rfl) rfl)) (se_tup (sa_cons (se_strL S8) (sa_cons se_int sa_nil rfl) rfl)) rfl) (sss_cons (ss_ret se_bl)
    sss_nil) sss_nil)
    (sss_cons (ss_set (i := 3) sc_law_plain.nd rfl (loc_of rfl) (se_lst (sa_cons (se_strL S16) (sa_cons (se_strL S15) (sa_cons se_bl (sa_cons (se_strL S2) (sa_cons (se_strL S42) (sa_cons (se_strL S14) (sa_cons se_int (sa_cons (se_strL S18) (sa_cons se_bl (sa_cons se_int (sa_cons (se_tup (sa_cons (se_strL S41) (sa_cons (se_strL S40) (sa_cons (se_strL S39) sa_nil rfl) rfl) rfl)) sa_nil rfl) rfl) rfl) rfl) rfl) rfl) rfl) rfl) rfl) rfl) rfl)) rfl (.inl rfl))
    (sss_cons (ss_set (i := 3) sc_law_plain.nd rfl (loc_of rfl) (se_op os_add (se_var (i := 3) rfl (vis_of rfl) rfl rfl) (se_lst (sa_cons (se_tup (sa_cons (se_strL S6) sa_nil rfl)) (sa_cons se_bl (sa_cons se_bl (sa_cons (se_strL S43) (sa_cons se_bl (sa_cons (se_strL S12) sa_nil rfl) rfl) rfl) rfl) rfl) rfl))) rfl (.inl rfl))
    (sss_cons (ss_ret (se_cmp (os_eq (hu64 hr)) (se_var (i := 1) rfl (vis_of rfl) rfl rfl) (se_var (i := 3) rfl (vis_of rfl) rfl rfl) rfl))
    sss_nil)))))))))))))))))
theorem B_law : Bnd "law" s_law ["script"] := fun _ _ _ _ _ _ us hl => match us, hl with | [_], _ => rfl
theorem ok_law (C : Facts K mg base W) : FnE PP w K mg base W 23 (He.ga K "law") (fdOf K "law") ["script"] f_law := by
  unfold f_law b_law
  exact fn_evC C.d_law.fun_ sc_law fun A outer s H E hr => (sss_cons (ss_set (i := 1) sc_law.nd rfl (loc_of rfl) (se_tup (sa_cons (se_tup (sa_cons (se_strL S6) (sa_cons (se_tup (sa_cons (se_tup (sa_cons (se_strL S12) (sa_cons (se_strL S11) sa_nil rfl) rfl)) (sa_cons (se_tup (sa_cons (se_strL Z10) (sa_cons (se_strL S9) sa_nil rfl) rfl)) (sa_cons (se_tup (sa_cons (se_strL S47) (sa_cons (se_strL S46) sa_nil rfl) rfl)) sa_nil rfl) rfl) rfl)) sa_nil rfl) rfl)) (sa_cons (se_tup (sa_cons (se_strL S45) (sa_cons (se_tup (sa_cons (se_tup (sa_cons (se_strL S6) (sa_cons (se_strL S44) sa_nil rfl) rfl)) sa_nil rfl)) sa_nil rfl) rfl)) sa_nil rfl) rfl)) rfl (.inl rfl))
    (sss_cons (ss_for (passes_of rfl) rfl (si_any (se_call (ok_law_rounds C) (hr.mono (by decide)) rfl C.d_law_rounds.mg C.d_law_rounds.fun_.kp (C.d_law_rounds.bnd B_law_rounds) (sa_cons (se_var (i := 0) rfl (vis_of rfl) rfl rfl) (sa_cons se_int sa_nil rfl) rfl) rfl rfl rfl)) (sg_name (i := 2) sc_law.nd rfl (loc_of rfl) (.inl rfl)) (sss_cons (ss_asg (se_tup (sa_cons (se_call (ok_law_figures C) (hr.mono (by decide)) rfl C.d_law_figures.mg C.d_law_figures.fun_.kp (C.d_law_figures.bnd B_law_figures) (sa_cons (se_var (i := 2) rfl (vis_of rfl) rfl rfl) (sa_cons se_int sa_nil rfl) rfl) rfl rfl rfl) (sa_cons (se_op os_add (se_ix (hu1 hr) (se_lst (sa_cons (se_strL S4) (sa_cons (se_strL S3) sa_nil rfl) rfl)) (se_call (ok_law_roll C) (hr.mono (by decide)) rfl C.d_law_roll.mg C.d_law_roll.fun_.kp (C.d_law_roll.bnd B_law_roll) (sa_cons (se_var (i := 2) rfl (vis_of rfl) rfl rfl) (sa_cons se_int sa_nil rfl) rfl) rfl rfl rfl) (fun _ _ => rfl)) (se_call (ok_law_figures C) (hr.mono (by decide)) rfl C.d_law_figures.mg C.d_law_figures.fun_.kp (C.d_law_figures.bnd B_law_figures) (sa_cons (se_var (i := 2) rfl (vis_of rfl) rfl rfl) (sa_cons se_int sa_nil rfl) rfl) rfl rfl rfl)) sa_nil rfl) rfl)) (sg_tup rfl (sgs_cons (sg_name (i := 3) sc_law.nd rfl (loc_of rfl) (.inl rfl)) (sgs_cons (sg_name (i := 4) sc_law.nd rfl (loc_of rfl) (.inl rfl)) sgs_nil rfl) rfl) rfl rfl) rfl rfl rfl)
    (sss_cons (ss_set (i := 5) sc_law.nd rfl (loc_of rfl) (se_ix (hu1 hr) (se_comp (own := [("sign", 12)]) rfl sc_law.nd (si_any (se_strL S48)) (blkOk_by (by kernel_rfl)) (fun _ _ _ _ _ => (sg_name (i := 12) sc_law.nd rfl (loc_of rfl) (.inr rfl))) (by decide) (fun _ _ _ _ _ => (sts_one (st_truth (se_callF (ok_law_ten C) (hr.mono (by decide)) rfl C.d_law_ten.mg C.d_law_ten.fun_.kp (C.d_law_ten.bnd B_law_ten) (sa_cons (se_op os_add (se_var (i := 3) rfl (vis_of rfl) rfl rfl) (se_var (i := 12) rfl (vis_of rfl) rfl rfl)) sa_nil rfl) rfl rfl rfl) (fun _ => rfl)))) (fun _ _ _ _ _ => (se_var (i := 12) rfl (vis_of rfl) rfl rfl)) (fun _ => rfl)) se_int (fun _ _ => rfl)) rfl (.inl rfl))
    (sss_cons (ss_set (i := 6) sc_law.nd rfl (loc_of rfl) (se_ix (hu1 hr) (se_comp (own := [("sign", 12)]) rfl sc_law.nd (si_any (se_strL S8)) (blkOk_by (by kernel_rfl)) (fun _ _ _ _ _ => (sg_name (i := 12) sc_law.nd rfl (loc_of rfl) (.inr rfl))) (by decide) (fun _ _ _ _ _ => (sts_one (st_truth (se_callF (ok_law_thirteen C) (hr.mono (by decide)) rfl C.d_law_thirteen.mg C.d_law_thirteen.fun_.kp (C.d_law_thirteen.bnd B_law_thirteen) (sa_cons (se_op os_add (se_var (i := 4) rfl (vis_of rfl) rfl rfl) (se_var (i := 12) rfl (vis_of rfl) rfl rfl)) sa_nil rfl) rfl rfl rfl) (fun _ => rfl)))) (fun _ _ _ _ _ => (se_var (i := 12) rfl (vis_of rfl) rfl rfl)) (fun _ => rfl)) se_int (fun _ _ => rfl)) rfl (.inl rfl))
    (sss_cons (ss_asg (se_tup (sa_cons (se_op os_add (se_var (i := 3) rfl (vis_of rfl) rfl rfl) (se_var (i := 5) rfl (vis_of rfl) rfl rfl)) (sa_cons (se_op os_add (se_var (i := 4) rfl (vis_of rfl) rfl rfl) (se_var (i := 6) rfl (vis_of rfl) rfl rfl)) sa_nil rfl) rfl)) (sg_tup rfl (sgs_cons (sg_name (i := 7) sc_law.nd rfl (loc_of rfl) (.inl rfl)) (sgs_cons (sg_name (i := 8) sc_law.nd rfl (loc_of rfl) (.inl rfl)) sgs_nil rfl) rfl) rfl rfl) rfl rfl rfl)
    (sss_cons (ss_set (i := 9) sc_law.nd rfl (loc_of rfl) (se_op os_add (se_strL S4) (se_var (i := 3) rfl (vis_of rfl) rfl rfl)) rfl (.inl rfl))
    (sss_cons (ss_set (i := 10) sc_law.nd rfl (loc_of rfl) (se_op os_add (se_var (i := 9) rfl (vis_of rfl) rfl rfl) (se_ix (hu1 hr) (se_comp (own := [("sign", 12)]) rfl sc_law.nd (si_any (se_strL S8)) (blkOk_by (by kernel_rfl)) (fun _ _ _ _ _ => (sg_name (i := 12) sc_law.nd rfl (loc_of rfl) (.inr rfl))) (by decide) (fun _ _ _ _ _ => (sts_one (st_truth (se_callF (ok_law_thirteen C) (hr.mono (by decide)) rfl C.d_law_thirteen.mg C.d_law_thirteen.fun_.kp (C.d_law_thirteen.bnd B_law_thirteen) (sa_cons (se_op os_add (se_var (i := 9) rfl (vis_of rfl) rfl rfl) (se_var (i := 12) rfl (vis_of rfl) rfl rfl)) sa_nil rfl) rfl rfl rfl) (fun _ => rfl)))) (fun _ _ _ _ _ => (se_var (i := 12) rfl (vis_of rfl) rfl rfl)) (fun _ => rfl)) se_int (fun _ _ => rfl))) rfl (.inl rfl))
    (sss_cons (ss_if (PW.pt (sw_or (st_cmp (os_ne (hu64 hr)) (se_callF (ok_check_of_ten C) (hr.mono (by decide)) rfl C.d_check_of_ten.mg C.d_check_of_ten.fun_.kp (C.d_check_of_ten.bnd B_check_of_ten) (sa_cons (se_var (i := 3) rfl (vis_of rfl) rfl rfl) sa_nil rfl) rfl rfl rfl) (se_var (i := 5) rfl (vis_of rfl) rfl rfl) rfl) (sw_or (st_cmp (os_ne (hu64 hr)) (se_callF (ok_check_of_thirteen C) (hr.mono (by decide)) rfl C.d_check_of_thirteen.mg C.d_check_of_thirteen.fun_.kp (C.d_check_of_thirteen.bnd B_check_of_thirteen) (sa_cons (se_var (i := 4) rfl (vis_of rfl) rfl rfl) sa_nil rfl) rfl rfl rfl) (se_var (i := 6) rfl (vis_of rfl) rfl rfl) rfl) (sw_or1 (st_not (st_truth (se_callF (ok_is_book_number C) (hr.mono (by decide)) rfl C.d_is_book_number.mg C.d_is_book_number.fun_.kp (C.d_is_book_number.bnd B_is_book_number) (sa_cons (se_var (i := 7) rfl (vis_of rfl) rfl rfl) sa_nil rfl) rfl rfl rfl) (fun _ => rfl))))))) (sss_cons (ss_ret se_bl)
    sss_nil) sss_nil)
    (sss_cons (ss_if (PW.pt (sw_or (st_not (st_truth (se_callF (ok_is_book_number C) (hr.mono (by decide)) rfl C.d_is_book_number.mg C.d_is_book_number.fun_.kp (C.d_is_book_number.bnd B_is_book_number) (sa_cons (se_var (i := 8) rfl (vis_of rfl) rfl rfl) sa_nil rfl) rfl rfl rfl) (fun _ => rfl))) (sw_or1 (st_cmp (os_ne (hu64 hr)) (se_callF (ok_plain_number C) (hr.mono (by decide)) rfl C.d_plain_number.mg C.d_plain_number.fun_.kp (C.d_plain_number.bnd B_plain_number) (sa_cons (se_op os_add (se_op os_add (se_op os_add (se_op os_add (se_cut (se_var (i := 7) rfl (vis_of rfl) rfl rfl) so_none (so_some se_int)) (se_strL S5)) (se_cut (se_var (i := 7) rfl (vis_of rfl) rfl rfl) (so_some se_int) (so_some se_int))) (se_strL S49)) (se_cut (se_var (i := 7) rfl (vis_of rfl) rfl rfl) (so_some se_int) so_none)) sa_nil rfl) rfl rfl rfl) (se_var (i := 10) rfl (vis_of rfl) rfl rfl) rfl)))) (sss_cons (ss_ret se_bl)
    sss_nil) sss_nil)
    (sss_cons (ss_if (PW.pt (sw_or (st_cmp (os_ne (hu64 hr)) (se_callF (ok_plain_number C) (hr.mono (by decide)) rfl C.d_plain_number.mg C.d_plain_number.fun_.kp (C.d_plain_number.bnd B_plain_number) (sa_cons (se_var (i := 8) rfl (vis_of rfl) rfl rfl) sa_nil rfl) rfl rfl rfl) (se_var (i := 8) rfl (vis_of rfl) rfl rfl) rfl) (sw_or (st_cmp (os_ne (hu64 hr)) (se_callF (ok_plain_number C) (hr.mono (by decide)) rfl C.d_plain_number.mg C.d_plain_number.fun_.kp (C.d_plain_number.bnd B_plain_number) (sa_cons (se_var (i := 10) rfl (vis_of rfl) rfl rfl) sa_nil rfl) rfl rfl rfl) (se_var (i := 10) rfl (vis_of rfl) rfl rfl) rfl) (sw_or1 (st_cmp (os_ne (hu64 hr)) (se_callF (ok_old_number C) (hr.mono (by decide)) rfl C.d_old_number.mg C.d_old_number.fun_.kp (C.d_old_number.bnd B_old_number) (sa_cons (se_var (i := 10) rfl (vis_of rfl) rfl rfl) sa_nil rfl) rfl rfl rfl) (se_var (i := 7) rfl (vis_of rfl) rfl rfl) rfl))))) (sss_cons (ss_ret se_bl)
    sss_nil) sss_nil)
    (sss_cons (ss_if (st_cmp (os_ne (hu64 hr)) (se_callF (ok_old_number C) (hr.mono (by decide)) rfl C.d_old_number.mg C.d_old_number.fun_.kp (C.d_old_number.bnd B_old_number) (sa_cons (se_var (i := 8) rfl (vis_of rfl) rfl rfl) sa_nil rfl) rfl rfl rfl) (se_if (st_cmp (os_eq (hu64 hr)) (se_cut (se_var (i := 4) rfl (vis_of rfl) rfl rfl) so_none (so_some se_int)) (se_strL S3) rfl) (se_strL S0) (se_op os_add (se_cut (se_var (i := 4) rfl (vis_of rfl) rfl rfl) (so_some se_int) so_none) (se_ix (hu1 hr) (se_comp (own := [("sign", 12)]) rfl sc_law.nd (si_any (se_strL S48)) (blkOk_by (by kernel_rfl)) (fun _ _ _ _ _ => (sg_name (i := 12) sc_law.nd rfl (loc_of rfl) (.inr rfl))) (by decide) (fun _ _ _ _ _ => (sts_one (st_truth (se_callF (ok_law_ten C) (hr.mono (by decide)) rfl C.d_law_ten.mg C.d_law_ten.fun_.kp (C.d_law_ten.bnd B_law_ten) (sa_cons (se_op os_add (se_cut (se_var (i := 4) rfl (vis_of rfl) rfl rfl) (so_some se_int) so_none) (se_var (i := 12) rfl (vis_of rfl) rfl rfl)) sa_nil rfl) rfl rfl rfl) (fun _ => rfl)))) (fun _ _ _ _ _ => (se_var (i := 12) rfl (vis_of rfl) rfl rfl)) (fun _ => rfl)) se_int (fun _ _ => rfl)))) rfl) (sss_cons (ss_ret se_bl)
    sss_nil) sss_nil)
    (sss_cons (ss_if (PW.pt (sw_or (st_cmp os_isNot (se_callF (ok_is_same_number C) (hr.mono (by decide)) rfl C.d_is_same_number.mg C.d_is_same_number.fun_.kp (C.d_is_same_number.bnd B_is_same_number) (sa_cons (se_var (i := 7) rfl (vis_of rfl) rfl rfl) (sa_cons (se_var (i := 10) rfl (vis_of rfl) rfl rfl) sa_nil rfl) rfl) rfl rfl rfl) se_bl rfl) (sw_or1 (st_cmp (os_ne (hu64 hr)) (se_callF (ok_is_same_number C) (hr.mono (by decide)) rfl C.d_is_same_number.mg C.d_is_same_number.fun_.kp (C.d_is_same_number.bnd B_is_same_number) (sa_cons (se_var (i := 7) rfl (vis_of rfl) rfl rfl) (sa_cons (se_var (i := 8) rfl (vis_of rfl) rfl rfl) sa_nil rfl) rfl) rfl rfl rfl) (se_cmp (os_eq (hu64 hr)) (se_var (i := 10) rfl (vis_of rfl) rfl rfl) (se_var (i := 8) rfl (vis_of rfl) rfl rfl) rfl) rfl)))) (sss_cons (ss_ret se_bl)
    sss_nil) sss_nil)
    (sss_cons (ss_par (i := 11) (j := 12) rfl sc_law.nd rfl rfl (by decide) rfl rfl (se_call (ok_law_roll C) (hr.mono (by decide)) rfl C.d_law_roll.mg C.d_law_roll.fun_.kp (C.d_law_roll.bnd B_law_roll) (sa_cons (se_var (i := 2) rfl (vis_of rfl) rfl rfl) (sa_cons se_int sa_nil rfl) rfl) rfl rfl rfl) (se_fnT fs_str rfl C.n_str bt_str (sa_cons (se_call (ok_law_roll C) (hr.mono (by decide)) rfl C.d_law_roll.mg C.d_law_roll.fun_.kp (C.d_law_roll.bnd B_law_roll) (sa_cons (se_var (i := 2) rfl (vis_of rfl) rfl rfl) (sa_cons se_int sa_nil rfl) rfl) rfl rfl rfl) sa_nil rfl) (by decide) rfl rfl rfl) rfl rfl rfl rfl)
    (sss_cons (ss_set (i := 13) sc_law.nd rfl (loc_of rfl) (se_op os_add (se_op os_add (se_cut (se_var (i := 8) rfl (vis_of rfl) rfl rfl) so_none (so_some (se_var (i := 11) rfl (vis_of rfl) rfl rfl))) (se_var (i := 12) rfl (vis_of rfl) rfl rfl)) (se_cut (se_var (i := 8) rfl (vis_of rfl) rfl rfl) (so_some (se_op os_add (se_var (i := 11) rfl (vis_of rfl) rfl rfl) se_int)) so_none)) rfl (.inl rfl))
    (sss_cons (ss_set (i := 14) sc_law.nd rfl (loc_of rfl) (se_call (ok_law_roll C) (hr.mono (by decide)) rfl C.d_law_roll.mg C.d_law_roll.fun_.kp (C.d_law_roll.bnd B_law_roll) (sa_cons (se_var (i := 2) rfl (vis_of rfl) rfl rfl) (sa_cons se_int sa_nil rfl) rfl) rfl rfl rfl) rfl (.inl rfl))
    (sss_cons (ss_set (i := 15) sc_law.nd rfl (loc_of rfl) (se_op os_add (se_op os_add (se_cut (se_var (i := 7) rfl (vis_of rfl) rfl rfl) so_none (so_some (se_var (i := 14) rfl (vis_of rfl) rfl rfl))) (se_var (i := 12) rfl (vis_of rfl) rfl rfl)) (se_cut (se_var (i := 7) rfl (vis_of rfl) rfl rfl) (so_some (se_op os_add (se_var (i := 14) rfl (vis_of rfl) rfl rfl) se_int)) so_none)) rfl (.inl rfl))
    (sss_cons (ss_if (st_cmp (os_ne (hu64 hr)) (se_callF (ok_is_book_number C) (hr.mono (by decide)) rfl C.d_is_book_number.mg C.d_is_book_number.fun_.kp (C.d_is_book_number.bnd B_is_book_number) (sa_cons (se_var (i := 13) rfl (vis_of rfl) rfl rfl) sa_nil rfl) rfl rfl rfl) (se_and (se_cmp (os_in (hu65 hr)) (se_cut (se_var (i := 13) rfl (vis_of rfl) rfl rfl) so_none (so_some se_int)) (se_lst (sa_cons (se_strL S4) (sa_cons (se_strL S3) sa_nil rfl) rfl)) rfl) (se_one (se_callF (ok_law_thirteen C) (hr.mono (by decide)) rfl C.d_law_thirteen.mg C.d_law_thirteen.fun_.kp (C.d_law_thirteen.bnd B_law_thirteen) (sa_cons (se_var (i := 13) rfl (vis_of rfl) rfl rfl) sa_nil rfl) rfl rfl rfl))) rfl) (sss_cons (ss_ret se_bl)
    sss_nil) sss_nil)
    (sss_cons (ss_if (PW.pt (sw_or (PW.pt (sw_and (st_cmp (os_ne (hu64 hr)) (se_var (i := 13) rfl (vis_of rfl) rfl rfl) (se_var (i := 8) rfl (vis_of rfl) rfl rfl) rfl) (sw_and (st_cmp os_gt (se_var (i := 11) rfl (vis_of rfl) rfl rfl) se_int rfl) (sw_and1 (st_truth (se_callF (ok_is_book_number C) (hr.mono (by decide)) rfl C.d_is_book_number.mg C.d_is_book_number.fun_.kp (C.d_is_book_number.bnd B_is_book_number) (sa_cons (se_var (i := 13) rfl (vis_of rfl) rfl rfl) sa_nil rfl) rfl rfl rfl) (fun _ => rfl)))))) (sw_or1 (st_cmp (os_ne (hu64 hr)) (se_callF (ok_is_book_number C) (hr.mono (by decide)) rfl C.d_is_book_number.mg C.d_is_book_number.fun_.kp (C.d_is_book_number.bnd B_is_book_number) (sa_cons (se_var (i := 15) rfl (vis_of rfl) rfl rfl) sa_nil rfl) rfl rfl rfl) (se_callF (ok_law_ten C) (hr.mono (by decide)) rfl C.d_law_ten.mg C.d_law_ten.fun_.kp (C.d_law_ten.bnd B_law_ten) (sa_cons (se_var (i := 15) rfl (vis_of rfl) rfl rfl) sa_nil rfl) rfl rfl rfl) rfl)))) (sss_cons (ss_ret se_bl)
    sss_nil) sss_nil)
    (sss_cons (ss_if (PW.pt (sw_and (st_cmp (os_ne (hu64 hr)) (se_var (i := 15) rfl (vis_of rfl) rfl rfl) (se_var (i := 7) rfl (vis_of rfl) rfl rfl) rfl) (sw_and1 (st_truth (se_callF (ok_is_book_number C) (hr.mono (by decide)) rfl C.d_is_book_number.mg C.d_is_book_number.fun_.kp (C.d_is_book_number.bnd B_is_book_number) (sa_cons (se_var (i := 15) rfl (vis_of rfl) rfl rfl) sa_nil rfl) rfl rfl rfl) (fun _ => rfl))))) (sss_cons (ss_ret se_bl)
    sss_nil) sss_nil)
    (sss_cons (ss_set (i := 16) sc_law.nd rfl (loc_of rfl) (se_op os_add (se_op os_add (se_cut (se_var (i := 7) rfl (vis_of rfl) rfl rfl) so_none (so_some (se_var (i := 14) rfl (vis_of rfl) rfl rfl))) (se_strL S7)) (se_cut (se_var (i := 7) rfl (vis_of rfl) rfl rfl) (so_some (se_op os_add (se_var (i := 14) rfl (vis_of rfl) rfl rfl) se_int)) so_none)) rfl (.inl rfl))
    (sss_cons (ss_setLc (i := 17) (own := [("one", 28)]) rfl rfl rfl rfl sc_law.nd (si_any (se_strL S48)) (blkOk_by (by kernel_rfl)) (fun _ _ _ _ _ => (sg_name (i := 28) sc_law.nd rfl (loc_of rfl) (.inr rfl))) (by decide) (fun _ _ _ _ _ => (sts_one (PW.pt (sw_and (PW.pt (sw_or (st_cmp (os_ne (hu64 hr)) (se_var (i := 28) rfl (vis_of rfl) rfl rfl) (se_strL S2) rfl) (sw_or1 (st_cmp (os_eq (hu64 hr)) (se_var (i := 14) rfl (vis_of rfl) rfl rfl) se_int rfl)))) (sw_and1 (st_truth (se_callF (ok_law_ten C) (hr.mono (by decide)) rfl C.d_law_ten.mg C.d_law_ten.fun_.kp (C.d_law_ten.bnd B_law_ten) (sa_cons (se_op os_add (se_op os_add (se_cut (se_var (i := 7) rfl (vis_of rfl) rfl rfl) so_none (so_some (se_var (i := 14) rfl (vis_of rfl) rfl rfl))) (se_var (i := 28) rfl (vis_of rfl) rfl rfl)) (se_cut (se_var (i := 7) rfl (vis_of rfl) rfl rfl) (so_some (se_op os_add (se_var (i := 14) rfl (vis_of rfl) rfl rfl) se_int)) so_none)) sa_nil rfl) rfl rfl rfl) (fun _ => rfl))))))) (fun _ _ _ _ _ => (se_var (i := 28) rfl (vis_of rfl) rfl rfl)) (fun _ => rfl))
    (sss_cons (ss_if (st_cmp (os_ne (hu64 hr)) (se_fnT (fs_list rfl) rfl C.n_list bt_list (sa_cons (se_callF (ok_missing_figure C) (hr.mono (by decide)) rfl C.d_missing_figure.mg C.d_missing_figure.fun_.kp (C.d_missing_figure.bnd B_missing_figure) (sa_cons (se_var (i := 16) rfl (vis_of rfl) rfl rfl) sa_nil rfl) rfl rfl rfl) sa_nil rfl) (by decide) rfl rfl rfl) (se_var (i := 17) rfl (vis_of rfl) rfl rfl) rfl) (sss_cons (ss_ret se_bl)
    sss_nil) sss_nil)
    (sss_cons (ss_set (i := 18) sc_law.nd rfl (loc_of rfl) (se_strL S38) rfl (.inl rfl))
    (sss_cons (ss_for (passes_of rfl) rfl (si_any (se_var (i := 1) rfl (vis_of rfl) rfl rfl)) (sg_tup rfl (sgs_cons (sg_name (i := 19) sc_law.nd rfl (loc_of rfl) (.inl rfl)) (sgs_cons (sg_name (i := 20) sc_law.nd rfl (loc_of rfl) (.inl rfl)) sgs_nil rfl) rfl) rfl rfl) (sss_cons (ss_for (passes_of rfl) rfl (si_any (se_var (i := 20) rfl (vis_of rfl) rfl rfl)) (sg_tup rfl (sgs_cons (sg_name (i := 25) sc_law.nd rfl (loc_of rfl) (.inl rfl)) (sgs_cons (sg_name (i := 26) sc_law.nd rfl (loc_of rfl) (.inl rfl)) sgs_nil rfl) rfl) rfl rfl) (sss_cons (ss_set (i := 27) sc_law.nd rfl (loc_of rfl) (se_cut (se_var (i := 3) rfl (vis_of rfl) rfl rfl) (so_some (se_fnB fs_len rfl C.n_len bt_len (sa_cons (se_var (i := 19) rfl (vis_of rfl) rfl rfl) sa_nil rfl) (by decide) rfl rfl rfl)) (so_some (se_op os_add (se_fnB fs_len rfl C.n_len bt_len (sa_cons (se_var (i := 19) rfl (vis_of rfl) rfl rfl) sa_nil rfl) (by decide) rfl rfl rfl) (se_fnB fs_len rfl C.n_len bt_len (sa_cons (se_var (i := 25) rfl (vis_of rfl) rfl rfl) sa_nil rfl) (by decide) rfl rfl rfl)))) rfl (.inl rfl))
    (sss_cons (ss_if (PW.pt (sw_and (st_cmp (os_eq (hu64 hr)) (se_var (i := 18) rfl (vis_of rfl) rfl rfl) (se_strL S38) rfl) (sw_and (st_cmp (os_eq (hu64 hr)) (se_cut (se_var (i := 3) rfl (vis_of rfl) rfl rfl) so_none (so_some (se_fnB fs_len rfl C.n_len bt_len (sa_cons (se_var (i := 19) rfl (vis_of rfl) rfl rfl) sa_nil rfl) (by decide) rfl rfl rfl))) (se_var (i := 19) rfl (vis_of rfl) rfl rfl) rfl) (sw_and1 (st_ch os_le os_le (se_var (i := 25) rfl (vis_of rfl) rfl rfl) (se_var (i := 27) rfl (vis_of rfl) rfl rfl) (se_var (i := 26) rfl (vis_of rfl) rfl rfl) (by with_unfolding_all rfl)))))) (sss_cons (ss_set (i := 18) sc_law.nd rfl (loc_of rfl) (se_m1 PySem.F.slot_str_join PySem.F.type_str_join ms_join (se_strL S5) (se_lst (sa_cons (se_strL S4) (sa_cons (se_var (i := 19) rfl (vis_of rfl) rfl rfl) (sa_cons (se_var (i := 27) rfl (vis_of rfl) rfl rfl) (sa_cons (se_cut (se_var (i := 3) rfl (vis_of rfl) rfl rfl) (so_some (se_op os_add (se_fnB fs_len rfl C.n_len bt_len (sa_cons (se_var (i := 19) rfl (vis_of rfl) rfl rfl) sa_nil rfl) (by decide) rfl rfl rfl) (se_fnB fs_len rfl C.n_len bt_len (sa_cons (se_var (i := 25) rfl (vis_of rfl) rfl rfl) sa_nil rfl) (by decide) rfl rfl rfl))) so_none) (sa_cons (se_ix (hu1 hr) (se_var (i := 10) rfl (vis_of rfl) rfl rfl) se_int (fun _ _ => rfl)) sa_nil rfl) rfl) rfl) rfl) rfl)) rfl rfl rfl) rfl (.inl rfl))
    sss_nil) sss_nil)
    sss_nil)) (fun _ => rfl))
    sss_nil) (fun _ => rfl))
    (sss_cons (ss_if (PW.pt (sw_or (st_cmp (os_ne (hu64 hr)) (se_told (k := 12) C.told rfl (hr.mono (by decide)) (⟨C.t_law.tb, C.t_law.code, C.t_law.tab, C.t_law.tabs, rfl, LamX.lamS_by (by kernel_rfl), fun _ _ _ _ _ => rfl⟩) (fun _ _ _ _ _ _ _ hl1 => (se_callF (ok_parted_number C) (hl1.mono (by decide)) rfl C.d_parted_number.mg C.d_parted_number.fun_.kp (C.d_parted_number.bnd B_parted_number) (sa_cons (se_var (i := 7) rfl (vis_of rfl) rfl rfl) (sa_cons (se_var (i := 1) rfl (vis_of rfl) rfl rfl) sa_nil rfl) rfl) rfl rfl rfl)) rfl) (se_var (i := 18) rfl (vis_of rfl) rfl rfl) rfl) (sw_or1 (PW.pt (sw_and (st_cmp (os_ne (hu64 hr)) (se_var (i := 18) rfl (vis_of rfl) rfl rfl) (se_strL S38) rfl) (sw_and1 (st_cmp (os_ne (hu64 hr)) (se_callF (ok_plain_number C) (hr.mono (by decide)) rfl C.d_plain_number.mg C.d_plain_number.fun_.kp (C.d_plain_number.bnd B_plain_number) (sa_cons (se_var (i := 18) rfl (vis_of rfl) rfl rfl) sa_nil rfl) rfl rfl rfl) (se_var (i := 10) rfl (vis_of rfl) rfl rfl) rfl))))))) (sss_cons (ss_ret se_bl)
    sss_nil) sss_nil)
    (sss_cons (ss_par (i := 21) (j := 22) rfl sc_law.nd rfl rfl (by decide) rfl rfl (se_call (ok_law_figures C) (hr.mono (by decide)) rfl C.d_law_figures.mg C.d_law_figures.fun_.kp (C.d_law_figures.bnd B_law_figures) (sa_cons (se_var (i := 2) rfl (vis_of rfl) rfl rfl) (sa_cons (se_op os_add se_int (se_call (ok_law_roll C) (hr.mono (by decide)) rfl C.d_law_roll.mg C.d_law_roll.fun_.kp (C.d_law_roll.bnd B_law_roll) (sa_cons (se_var (i := 2) rfl (vis_of rfl) rfl rfl) (sa_cons se_int sa_nil rfl) rfl) rfl rfl rfl)) sa_nil rfl) rfl) rfl rfl rfl) (se_op os_add se_int (se_call (ok_law_roll C) (hr.mono (by decide)) rfl C.d_law_roll.mg C.d_law_roll.fun_.kp (C.d_law_roll.bnd B_law_roll) (sa_cons (se_var (i := 2) rfl (vis_of rfl) rfl rfl) (sa_cons se_int sa_nil rfl) rfl) rfl rfl rfl)) rfl rfl rfl rfl)
    (sss_cons (ss_set (i := 23) sc_law.nd rfl (loc_of rfl) (se_fnT fs_int rfl C.n_int bt_int (sa_cons (se_call (ok_law_figures C) (hr.mono (by decide)) rfl C.d_law_figures.mg C.d_law_figures.fun_.kp (C.d_law_figures.bnd B_law_figures) (sa_cons (se_var (i := 2) rfl (vis_of rfl) rfl rfl) (sa_cons (se_op os_add se_int (se_call (ok_law_roll C) (hr.mono (by decide)) rfl C.d_law_roll.mg C.d_law_roll.fun_.kp (C.d_law_roll.bnd B_law_roll) (sa_cons (se_var (i := 2) rfl (vis_of rfl) rfl rfl) (sa_cons (se_var (i := 22) rfl (vis_of rfl) rfl rfl) sa_nil rfl) rfl) rfl rfl rfl)) sa_nil rfl) rfl) rfl rfl rfl) sa_nil rfl) (by decide) rfl rfl rfl) rfl (.inl rfl))
    (sss_cons (ss_set (i := 24) sc_law.nd rfl (loc_of rfl) (se_callF (ok_made_card C) (hr.mono (by decide)) rfl C.d_made_card.mg C.d_made_card.fun_.kp (C.d_made_card.bnd B_made_card) (sa_cons (se_var (i := 23) rfl (vis_of rfl) rfl rfl) (sa_cons (se_var (i := 22) rfl (vis_of rfl) rfl rfl) sa_nil rfl) rfl) rfl rfl rfl) rfl (.inl rfl))
    (sss_cons (ss_if (PW.pt (sw_or (st_cmp (os_ne (hu64 hr)) (se_callF (ok_sum_of_card C) (hr.mono (by decide)) rfl C.d_sum_of_card.mg C.d_sum_of_card.fun_.kp (C.d_sum_of_card.bnd B_sum_of_card) (sa_cons (se_var (i := 21) rfl (vis_of rfl) rfl rfl) sa_nil rfl) rfl rfl rfl) (se_callF (ok_law_card C) (hr.mono (by decide)) rfl C.d_law_card.mg C.d_law_card.fun_.kp (C.d_law_card.bnd B_law_card) (sa_cons (se_var (i := 21) rfl (vis_of rfl) rfl rfl) sa_nil rfl) rfl rfl rfl) rfl) (sw_or (st_cmp (os_ne (hu64 hr)) (se_callF (ok_is_card C) (hr.mono (by decide)) rfl C.d_is_card.mg C.d_is_card.fun_.kp (C.d_is_card.bnd B_is_card) (sa_cons (se_var (i := 21) rfl (vis_of rfl) rfl rfl) sa_nil rfl) rfl rfl rfl) (se_cmp (os_eq (hu64 hr)) (se_op os_mod (se_callF (ok_law_card C) (hr.mono (by decide)) rfl C.d_law_card.mg C.d_law_card.fun_.kp (C.d_law_card.bnd B_law_card) (sa_cons (se_var (i := 21) rfl (vis_of rfl) rfl rfl) sa_nil rfl) rfl rfl rfl) se_int) se_int rfl) rfl) (sw_or1 (st_not (st_truth (se_callF (ok_is_card C) (hr.mono (by decide)) rfl C.d_is_card.mg C.d_is_card.fun_.kp (C.d_is_card.bnd B_is_card) (sa_cons (se_var (i := 24) rfl (vis_of rfl) rfl rfl) sa_nil rfl) rfl rfl rfl) (fun _ => rfl))))))) (sss_cons (ss_ret se_bl)
    sss_nil) sss_nil)
    (sss_cons (ss_if (PW.pt (sw_or (st_cmp (os_ne (hu64 hr)) (se_callF (ok_number_of_card C) (hr.mono (by decide)) rfl C.d_number_of_card.mg C.d_number_of_card.fun_.kp (C.d_number_of_card.bnd B_number_of_card) (sa_cons (se_var (i := 24) rfl (vis_of rfl) rfl rfl) sa_nil rfl) rfl rfl rfl) (se_var (i := 23) rfl (vis_of rfl) rfl rfl) rfl) (sw_or (st_cmp (os_ne (hu64 hr)) (se_fnB fs_len rfl C.n_len bt_len (sa_cons (se_var (i := 24) rfl (vis_of rfl) rfl rfl) sa_nil rfl) (by decide) rfl rfl rfl) (se_op os_add (se_var (i := 22) rfl (vis_of rfl) rfl rfl) se_int) rfl) (sw_or1 (st_cmp (os_ne (hu64 hr)) (se_fnT (fs_list rfl) rfl C.n_list bt_list (sa_cons (se_callF (ok_mended_by_one C) (hr.mono (by decide)) rfl C.d_mended_by_one.mg C.d_mended_by_one.fun_.kp (C.d_mended_by_one.bnd B_mended_by_one) (sa_cons (se_var (i := 21) rfl (vis_of rfl) rfl rfl) sa_nil rfl) rfl rfl rfl) sa_nil rfl) (by decide) rfl rfl rfl) (se_callF (ok_law_near C) (hr.mono (by decide)) rfl C.d_law_near.mg C.d_law_near.fun_.kp (C.d_law_near.bnd B_law_near) (sa_cons (se_var (i := 21) rfl (vis_of rfl) rfl rfl) sa_nil rfl) rfl rfl rfl) rfl))))) (sss_cons (ss_ret se_bl)
    sss_nil) sss_nil)
    (sss_cons (ss_if (st_cmp (os_ne (hu64 hr)) (se_comp (own := [("one", 28)]) rfl sc_law.nd (si_any (se_callF (ok_law_near C) (hr.mono (by decide)) rfl C.d_law_near.mg C.d_law_near.fun_.kp (C.d_law_near.bnd B_law_near) (sa_cons (se_var (i := 24) rfl (vis_of rfl) rfl rfl) sa_nil rfl) rfl rfl rfl)) (blkOk_by (by kernel_rfl)) (fun _ _ _ _ _ => (sg_name (i := 28) sc_law.nd rfl (loc_of rfl) (.inl rfl))) (by decide) (fun _ _ _ _ _ => (sts_one (st_cmp os_lt (se_fnB fs_len rfl C.n_len bt_len (sa_cons (se_comp (own := [("k", 29)]) rfl sc_law.nd (si_range1 rfl C.n_range (se_fnB fs_len rfl C.n_len bt_len (sa_cons (se_var (i := 24) rfl (vis_of rfl) rfl rfl) sa_nil rfl) (by decide) rfl rfl rfl) rfl) (blkOk_by (by kernel_rfl)) (fun _ _ _ _ _ => (sg_name (i := 29) sc_law.nd rfl (loc_of rfl) (.inr rfl))) (by decide) (fun _ _ _ _ _ => (sts_one (st_cmp (os_ne (hu64 hr)) (se_ix (hu1 hr) (se_var (i := 28) rfl (vis_of rfl) rfl rfl) (se_var (i := 29) rfl (vis_of rfl) rfl rfl) (fun _ _ => rfl)) (se_ix (hu1 hr) (se_var (i := 24) rfl (vis_of rfl) rfl rfl) (se_var (i := 29) rfl (vis_of rfl) rfl rfl) (fun _ _ => rfl)) rfl))) (fun _ _ _ _ _ => (se_var (i := 29) rfl (vis_of rfl) rfl rfl)) (fun _ => rfl)) sa_nil rfl) (by decide) rfl rfl rfl) se_int rfl))) (fun _ _ _ _ _ => (se_var (i := 28) rfl (vis_of rfl) rfl rfl)) (fun _ => rfl)) (se_lst sa_nil) rfl) (sss_cons (ss_ret se_bl)
    sss_nil) sss_nil)
    sss_nil)))))))))))))))))))))))))))))) (fun _ => rfl))
    (sss_cons (ss_ret (se_call0F (ok_law_plain C) (hr.mono (by decide)) rfl C.d_law_plain.mg C.d_law_plain.fun_.kp (C.d_law_plain.bnd B_law_plain) rfl))
    sss_nil)))
end
end K01
namespace K01
open Ev
/-! signs, figures_of, the two checks -/
def DGs : List Nat := [48, 49, 50, 51, 52, 53, 54, 55, 56, 57]
def CS : List Nat := [48, 49, 50, 51, 52, 53, 54, 55, 56, 57, 88, 45, 32, 63]
def isD (x : Nat) : Bool := Nat.ble 48 x && Nat.ble x 57
def kp (x : Nat) : Bool := !(x == 45 || x == 32)
theorem isD_mem {x : Nat} (h : isD x = true) : x ∈ DGs := by
  obtain ⟨h1, h2⟩ := ba2 h
  have a := Nat.le_of_ble_eq_true h1
  have b := Nat.le_of_ble_eq_true h2
  have : x = 48 ∨ x = 49 ∨ x = 50 ∨ x = 51 ∨ x = 52 ∨ x = 53 ∨ x = 54 ∨ x = 55 ∨ x = 56 ∨ x = 57 := by omega
  simpa [DGs] using this
theorem isD_iff {x : Nat} : isD x = true ↔ 48 ≤ x ∧ x ≤ 57 := by
  unfold isD
  rw [Bool.and_eq_true]
  exact ⟨fun h => ⟨Nat.le_of_ble_eq_true h.1, Nat.le_of_ble_eq_true h.2⟩, fun h => ⟨Nat.ble_eq_true_of_le h.1, Nat.ble_eq_true_of_le h.2⟩⟩
theorem DG_CS {x : Nat} (h : isD x = true) : x ∈ CS := by
  show x ∈ DGs ++ [88, 45, 32, 63]
  exact List.mem_append_left _ (isD_mem h)
theorem n_fig (s : Stt) : ∀ x ∈ CS, cNotIn s (.str [x]) c_FIGURES = some (!(isD x)) := all_map (by kernel_rfl)
theorem n_figX (s : Stt) : ∀ x ∈ CS, cNotIn s (.str [x]) (.str [48, 49, 50, 51, 52, 53, 54, 55, 56, 57, 88]) = some (!(isD x || x == 88)) := all_map (by kernel_rfl)
theorem n_kp (s : Stt) : ∀ x ∈ CS, cNotIn s (.str [x]) (.str [45, 32]) = some (kp x) := all_map (by kernel_rfl)
theorem b_int (s : Stt) : ∀ x ∈ DGs, bInt s [.str [x]] = some (.int ((x : Int) - 48)) := all_map (by kernel_rfl)
theorem joinL_one : ∀ l : List Nat, joinL [] (l.map fun x => [x]) = l
  | [] => rfl
  | [x] => rfl
  | x :: y :: l => by
    have q := joinL_one (y :: l)
    show [x] ++ ([] ++ joinL [] ((y :: l).map fun x => [x])) = _
    rw [q]
    rfl
theorem txts_map : ∀ xs : List (List Nat), txtsP (xs.map .str) = some xs
  | [] => rfl
  | x :: xs => by
    rw [List.map_cons, txtsP, txts_map xs]
    rfl
theorem sumN_one : ∀ l : List Nat, sumN (l.map fun x => [x]) = l.length
  | [] => rfl
  | x :: l => by
    show 1 + sumN (l.map fun x => [x]) = l.length + 1
    rw [sumN_one l]
    omega
theorem join1 (s : Stt) {l : List Nat} (h : l.length ≤ 1000) : mJoin s [] (.lst (l.map fun x => .str [x])) = some (.str l) := by
  have e : (l.map fun x => PV.str [x]) = (l.map fun x => [x]).map .str := by rw [List.map_map]; rfl
  unfold mJoin
  show (some (l.map fun x => PV.str [x])).bind _ = _
  rw [Option.bind_some, e, txts_map, Option.bind_some, if_pos, joinL_one]
  rw [sumN_one, List.length_map]
  exact Nat.ble_eq_true_of_le (by show l.length + l.length * 0 ≤ szl; unfold szl; omega)
/-- any(sign not in FIGURES for sign in a) -/
theorem any_fig {l : List Nat} (hl : ∀ x ∈ l, x ∈ CS) {a : Ex} {ρ : Env} {s : Stt} {k : Nat} (ha : a ρ s = .ok (.str l) s) (hk : k < ρ.length) :
    tE (eAny true [k] (Ev.gN k) (iE a) Ev.tYes (eCp cNotIn (eV k) (eC c_FIGURES))) ρ s = .ok (l.any fun x => !(isD x)) s := by
  have e := eAny_t (own := [k]) (g := Ev.gN k) (e := eCp cNotIn (eV k) (eC c_FIGURES)) (ρ := ρ) (s := s) (fun x => match x with | .str [y] => !(isD y) | _ => false) (iE_ok ha (show live (.str l) s = some (l.map fun c => .str [c]) from rfl)) rfl fun x hx => by
    obtain ⟨y, hy, rfl⟩ := List.mem_map.mp hx
    refine ⟨_, rfl, ?_⟩
    have q : ((wipeE ρ [k]).set k (some (PV.str [y])))[k]? = some (some (.str [y])) := by
      rw [List.getElem?_set_self]
      show k < (ρ.set k none).length
      rw [List.length_set]
      exact hk
    rw [eCp_s, eV_s, q, Res.var_some, Res.bind_ok, eC_s, Res.bind_ok, n_fig s y (hl y hy)]
    rfl
  rw [tE_s, e, Res.bind_ok, List.any_map]
  rfl
/-- the signs that are kept -/
theorem keep_ok {l : List Nat} (hl : ∀ x ∈ l, x ∈ CS) (hz : l.length ≤ 1000) (s : Stt) (a1 a2 : Option PV) : eComp [2] (Ev.gN 2) (iE (eV 0)) (tCp cNotIn (eV 2) (eC (.str [45, 32]))) (eV 2) [some (.str l), a1, a2] s = .ok (.lst ((l.filter kp).map fun x => .str [x])) s := by
  have e := eComp_pure (own := [2]) (g := Ev.gN 2) (t := tCp cNotIn (eV 2) (eC (.str [45, 32]))) (e := eV 2) (ρ := [some (.str l), a1, a2]) (s := s) (fun x => match x with | .str [y] => kp y | _ => false) (fun x => x) (iE_ok (a := eV 0) (p := .str l) rfl (show live (.str l) s = some (l.map fun c => .str [c]) from rfl)) rfl (by rw [List.length_map]; unfold szl; omega) fun x hx => by
    obtain ⟨y, hy, rfl⟩ := List.mem_map.mp hx
    refine ⟨_, rfl, ?_, fun _ => rfl⟩
    show Res.ofO s (cNotIn s (.str [y]) (.str [45, 32])) = _
    rw [n_kp s y (hl y hy)]
    rfl
  rw [e, List.map_id', List.filter_map]
  rfl
theorem last_at (n : Nat) (c : Nat → Nat) : atI (tx (n + 1) c) (-1) = some (c n) := by
  unfold atI ixN
  rw [tx_len, if_neg (by omega), if_pos (by omega)]
  have e : ((-1 : Int) + ((n + 1 : Nat) : Int)).toNat = n := by omega
  simp only [Option.bind_some, e]
  exact tx_at (by omega)
/-- what figures_of lets through -/
def good (l : List Nat) : Bool := !(l == []) && (!((l.dropLast).any fun x => !(isD x)) && (match l.getLast? with | some x => isD x || x == 88 | none => false))
theorem fig_ok {l : List Nat} (hl : ∀ x ∈ l, x ∈ CS) (hz : l.length ≤ 1000) (s : Stt) : pureF f_figures_of [.str l] s = if good (l.filter kp) then .ok (.str (l.filter kp)) s else .err 1 s := by
  have run : ∀ s, f_figures_of [.str l] s = (b_figures_of [some (.str l), none, none] s).fn := fun s => mkFn_e 3 1 b_figures_of _ _ rfl
  have hf : ∀ x ∈ l.filter kp, x ∈ CS := fun x hx => hl x (List.mem_filter.mp hx).1
  have hfz : (l.filter kp).length ≤ 1000 := Nat.le_trans (List.length_filter_le ..) hz
  have core : ∀ s, f_figures_of [.str l] s = if good (l.filter kp) then .ok (.str (l.filter kp)) s else .err 1 s := fun s => by
    rw [run]
    unfold b_figures_of
    rw [sSeq_s, sAsg_s, eM1_s, eC_s, Res.bind_ok]
    simp only [keep_ok hl hz, Res.bind_ok, join1 s hfz, Res.ofO_some, Res.sbind_ok]
    generalize l.filter kp = f at *
    show (SRes.seq (.nx [some (.str l), some (.str f), none] s) _).fn = _
    rw [SRes.seq_nx, sSeq_s, sIf_s]
    cases f with
    | nil => rfl
    | cons x0 r0 =>
      obtain ⟨n, c, hc⟩ : ∃ n c, x0 :: r0 = tx (n + 1) c := ⟨r0.length, _, tx_of (x0 :: r0)⟩
      rw [hc] at hf hfz ⊢
      rw [tx_len] at hfz
      have t1 : tCp cEq (eV 1) (eC (.str [])) [some (.str l), some (.str (tx (n + 1) c)), none] s = .ok false s := by
        show Res.ofO s (some (tx (n + 1) c == [])) = _
        rw [tx_succ]
        cases tx n c <;> rfl
      have t2 : tE (eAny true [2] (Ev.gN 2) (iE (eCut (eV 1) none (some (eNeg (eC (.int 1)))))) Ev.tYes (eCp cNotIn (eV 2) (eC c_FIGURES))) [some (.str l), some (.str (tx (n + 1) c)), none] s = .ok ((tx n c).any fun x => !(isD x)) s := by
        refine any_fig (fun x hx => hf x (by rw [tx_succ]; exact List.mem_append_left _ hx)) ?_ (by simp)
        show Res.ofO s (if lenOk (tx (n + 1) c) then some (PV.str (cutL (tx (n + 1) c) none (some (-1)))) else none) = _
        rw [lenOk_of (by rw [tx_len]; unfold szl; omega), cut_last]
        rfl
      have t3 : tCp cNotIn (eOp oIx (eV 1) (eNeg (eC (.int 1)))) (eOp oAdd (eC c_FIGURES) (eC (.str [88]))) [some (.str l), some (.str (tx (n + 1) c)), none] s = .ok (!(isD (c n) || c n == 88)) s := by
        have e : eOp oIx (eV 1) (eNeg (eC (.int 1))) [some (.str l), some (.str (tx (n + 1) c)), none] s = .ok (.str [c n]) s := by
          show Res.ofO s (if lenOk (tx (n + 1) c) then (atI (tx (n + 1) c) (-1)).map fun c => PV.str [c] else none) = _
          rw [lenOk_of (by rw [tx_len]; unfold szl; omega), last_at]
          rfl
        rw [tCp_s, e, Res.bind_ok]
        show Res.ofO s (cNotIn s (.str [c n]) (.str [48, 49, 50, 51, 52, 53, 54, 55, 56, 57, 88])) = _
        rw [n_figX s (c n) (hf _ (by rw [tx_succ]; simp))]
        rfl
      have eg : good (tx (n + 1) c) = (!((tx n c).any fun x => !(isD x)) && (isD (c n) || c n == 88)) := by
        unfold good
        rw [tx_succ, List.dropLast_concat, List.getLast?_concat]
        have e1 : (tx n c ++ [c n] == []) = false := by cases tx n c <;> rfl
        rw [e1]
        rfl
      rw [tOr_s, t1, Res.bind_ok, if_neg Bool.false_ne_true, tOr_s, t2, Res.bind_ok, t3, eg]
      cases (tx n c).any fun x => !(isD x) with
      | true => rfl
      | false =>
        rw [if_neg Bool.false_ne_true, Res.sbind_ok]
        cases isD (c n) || c n == 88 <;> rfl
  refine (show pureF f_figures_of [.str l] s = _ from ?_)
  unfold pureF
  rw [show nrPs [PV.str l] = true from rfl, if_pos rfl, core]
  cases good (l.filter kp) <;> rfl
end K01
namespace K01
open Ev
/-! check_of_ten, check_of_thirteen, and the law's own -/
theorem mulB (s : Stt) {a b : Int} (h0 : -100000 < b) (h1 : b < 100000) : oMulB s (.int a) (.int b) = some (.int (a * b)) := by
  simp [oMulB, oMulA, oMul, mulOk]
  omega
theorem emod_ok (s : Stt) (a : Int) {m : Int} (h : 0 < m) (h1 : m < 100000) : oMod s (.int a) (.int m) = some (.int (a % m)) := by
  simp [oMod]
  omega
theorem dec10 : ∀ v ∈ List.range 10, decT (v : Nat) = [48 + v] := all_map (by decide +kernel)
theorem str10 (s : Stt) {v : Int} (h0 : 0 ≤ v) (h1 : v < 10) : bStr s [.int v] = some (.str [48 + v.toNat]) := by
  rw [bStr_ok s h0 (by omega)]
  have e := dec10 v.toNat (List.mem_range.mpr (by omega))
  rw [show ((v.toNat : Nat) : Int) = v by omega] at e
  rw [e]
def DD (n : Nat) (c : Nat → Nat) : Prop := ∀ i, i < n → isD (c i) = true
def dv (x : Nat) : Int := (x : Int) - 48
theorem dv_le {x : Nat} (h : isD x = true) : 0 ≤ dv x ∧ dv x ≤ 9 := by
  have := isD_iff.mp h
  unfold dv
  omega
theorem int1 (s : Stt) {x : Nat} (h : isD x = true) : bInt s [.str [x]] = some (.int (dv x)) := b_int s x (isD_mem h)
theorem tx_mem {n : Nat} {c : Nat → Nat} {x : Nat} (h : x ∈ tx n c) : ∃ i, i < n ∧ x = c i := by
  obtain ⟨i, hi, rfl⟩ := List.mem_map.mp h
  exact ⟨i, List.mem_range.mp hi, rfl⟩
theorem DD_CS {n : Nat} {c : Nat → Nat} (h : DD n c) : ∀ x ∈ tx n c, x ∈ CS := fun x hx => by
  obtain ⟨i, hi, rfl⟩ := tx_mem hx
  exact DG_CS (h i hi)
theorem DD_any {n : Nat} {c : Nat → Nat} (h : DD n c) : ((tx n c).any fun x => !(isD x)) = false := by
  rw [List.any_eq_false]
  intro x hx
  obtain ⟨i, hi, rfl⟩ := tx_mem hx
  rw [h i hi]
  decide
/-- the places and signs of a text, one after the other -/
theorem enum_tx (n : Nat) (c : Nat → Nat) (s : Stt) : (liveE (.str (tx n c)) s).map (enumL 0) = some ((List.range n).map fun i => .tup [.int (i : Nat), .str [c i]]) := by
  show (live (.str (tx n c)) s).map (enumL 0) = _
  rw [live_tx]
  exact congrArg some (enumL_range _ n)
theorem iEnum_tx {a : Ex} {ρ : Env} {s : Stt} {n : Nat} {c : Nat → Nat} (h : a ρ s = .ok (.str (tx n c)) s) : Ev.iEnum a ρ s = .ok (fun s => (liveE (.str (tx n c)) s).map (enumL 0)) s := by
  unfold Ev.iEnum
  rw [h, Res.bind_ok]
  unfold ixOk
  simp only [enum_tx]
theorem small_SU {n : Nat} {f : Nat → Int} (h : ∀ i, i < n → -1000 ≤ f i ∧ f i ≤ 1000) : ((List.range n).map f).all smallI = true := by
  rw [List.all_eq_true]
  intro x hx
  obtain ⟨i, hi, rfl⟩ := List.mem_map.mp hx
  have := h i (List.mem_range.mp hi)
  unfold smallI
  simp only [Bool.and_eq_true, decide_eq_true_eq]
  omega
theorem sumG_ok {own : List Nat} {g : Gx} {e : Ex} {a : Ex} {ρ : Env} {s : Stt} {n : Nat} {c : Nat → Nat} (f : Nat → Int) (ha : a ρ s = .ok (.str (tx n c)) s) (hn : n ≤ 1000) (hb : ∀ i, i < n → -1000 ≤ f i ∧ f i ≤ 1000)
    (h : ∀ i, i < n → ∃ ρ', g (.tup [.int (i : Nat), .str [c i]]) (wipeE ρ own) = some ρ' ∧ e ρ' s = .ok (.int (f i)) s) : eSumG (lComp own g (Ev.iEnum a) Ev.tYes e) ρ s = .ok (.int (SU n f)) s := by
  unfold eSumG
  rw [lComp_ix (fun i => .int (f i)) (iEnum_tx ha) (enum_tx n c s) (by unfold szl; omega) h, Res.bind_ok, intsP_map]
  show (if ((List.range n).map f).all smallI then Res.ok (PV.int (sumI ((List.range n).map f))) s else .bad) = _
  rw [small_SU hb]
  rfl
def w10 (i : Nat) : Int := 10 - (i : Int)
def w13 (i : Nat) : Int := if i % 2 = 1 then 3 else 1
def S10 (n : Nat) (c : Nat → Nat) : Int := SU n fun i => w10 i * dv (c i)
def S13 (n : Nat) (c : Nat → Nat) : Int := SU n fun i => w13 i * dv (c i)
/-- the sign that checks -/
def k10 (S : Int) : Nat := if (11 - S % 11) % 11 = 10 then 88 else 48 + ((11 - S % 11) % 11).toNat
def k13 (S : Int) : Nat := 48 + ((10 - S % 10) % 10).toNat
theorem w_le {i : Nat} {v : Int} (hi : i ≤ 20) (h0 : 0 ≤ v) (h1 : v ≤ 9) : -1000 ≤ w10 i * v ∧ w10 i * v ≤ 1000 := by
  unfold w10
  have : (10 - (i : Int)) * v = 10 * v - i * v := by rw [Int.sub_mul]
  have h2 : (i : Int) * v ≤ 20 * v := Int.mul_le_mul_of_nonneg_right (by omega) h0
  have h3 : 0 ≤ (i : Int) * v := Int.mul_nonneg (by omega) h0
  omega
theorem ten_ok {c : Nat → Nat} (h : DD 9 c) (s : Stt) : pureF f_check_of_ten [.str (tx 9 c)] s = .ok (.str [k10 (S10 9 c)]) s := by
  refine pureF_ok (s2 := ⟨[]⟩) s rfl ?_ rfl
  generalize (⟨[]⟩ : Stt) = s
  have run : f_check_of_ten [.str (tx 9 c)] s = (b_check_of_ten [some (.str (tx 9 c)), none, none, none, none] s).fn := mkFn_e 5 1 b_check_of_ten _ _ rfl
  have t1 : tCp cNe (eFn bLen (lCons (eV 0) lNil)) (eC (.int 9)) [some (.str (tx 9 c)), none, none, none, none] s = .ok false s := by
    show Res.ofO s (some (!(((tx 9 c).length : Int) == 9))) = _
    rw [tx_len]
    rfl
  have t2 := any_fig (DD_CS h) (a := eV 0) (ρ := [some (.str (tx 9 c)), none, none, none, none]) (s := s) (k := 4) rfl (by simp)
  rw [DD_any h] at t2
  have e1 := sumG_ok (own := [3, 4]) (g := gT [(Ev.gN 3), (Ev.gN 4)]) (e := eOp oMulB (eOp oSub (eC (.int 10)) (eV 3)) (eFn bInt (lCons (eV 4) lNil))) (a := eV 0) (ρ := [some (.str (tx 9 c)), none, none, none, none]) (s := s) (n := 9) (c := c) (fun i => w10 i * dv (c i)) rfl (by omega)
    (fun i hi => w_le (by omega) (dv_le (h i hi)).1 (dv_le (h i hi)).2) fun i hi => by
    refine ⟨[some (.str (tx 9 c)), none, none, some (.int (i : Nat)), some (.str [c i])], rfl, ?_⟩
    have q : eFn bInt (lCons (eV 4) lNil) [some (.str (tx 9 c)), none, none, some (.int (i : Nat)), some (.str [c i])] s = .ok (.int (dv (c i))) s := by
      show Res.ofO s (bInt s [.str [c i]]) = _
      rw [int1 s (h i hi)]
      rfl
    have b := dv_le (h i hi)
    rw [eOp_s]
    show ((eFn bInt (lCons (eV 4) lNil) _ s).bind _) = _
    rw [q, Res.bind_ok]
    show Res.ofO s (oMulB s (.int (10 - (i : Int))) (.int (dv (c i)))) = _
    rw [mulB s (by omega) (by omega)]
    rfl
  rw [run]
  unfold b_check_of_ten
  rw [sSeq_s, sIf_s, tOr_s, t1, Res.bind_ok, if_neg Bool.false_ne_true, t2, Res.sbind_ok, if_neg Bool.false_ne_true, sNop_s, SRes.seq_nx, sSeq_s, sAsg_s, e1, Res.sbind_ok]
  show (SRes.seq (.nx [some (.str (tx 9 c)), some (.int (S10 9 c)), none, none, none] s) _).fn = _
  generalize S10 9 c = S
  have e2 : eOp oMod (eOp oSub (eC (.int 11)) (eOp oMod (eV 1) (eC (.int 11)))) (eC (.int 11)) [some (.str (tx 9 c)), some (.int S), none, none, none] s = .ok (.int ((11 - S % 11) % 11)) s := rfl
  rw [SRes.seq_nx, sSeq_s, sAsg_s, e2, Res.sbind_ok]
  have hb : 0 ≤ (11 - S % 11) % 11 ∧ (11 - S % 11) % 11 ≤ 10 := by omega
  have ek : k10 S = if (11 - S % 11) % 11 = 10 then 88 else 48 + ((11 - S % 11) % 11).toNat := rfl
  rw [ek]
  generalize (11 - S % 11) % 11 = v at hb
  show (SRes.seq (.nx [some (.str (tx 9 c)), some (.int S), some (.int v), none, none] s) _).fn = _
  rw [SRes.seq_nx, sSeq_s, sRet_s, eIf_s]
  show ((((Res.ofO s (some (v == 10))).bind _).sbind _).seq sNop).fn = _
  rw [Res.ofO_some, Res.bind_ok]
  by_cases h10 : v = 10
  · subst h10
    rfl
  · rw [if_neg (by simpa using h10), if_neg h10]
    show (((Res.ofO s (bStr s [.int v])).sbind _).seq sNop).fn = _
    rw [str10 s hb.1 (by omega)]
    rfl
end K01
namespace K01
open Ev
theorem w13_le {i : Nat} {v : Int} (h0 : 0 ≤ v) (h1 : v ≤ 9) : -1000 ≤ w13 i * v ∧ w13 i * v ≤ 1000 := by
  unfold w13
  split <;> omega
theorem dv_e {k : Nat} {ρ : Env} {s : Stt} {x : Nat} (hk : ρ[k]? = some (some (.str [x]))) (h : isD x = true) : eFn bInt (lCons (eV k) lNil) ρ s = .ok (.int (dv x)) s := by
  rw [eFn_s, lCons_s, eV_s, hk, Res.var_some, Res.bind_ok, lNil_s, Res.bind_ok, Res.bind_ok, int1 s h]
  rfl
theorem par (i : Nat) : ((i : Int) % 2 == 1) = decide (i % 2 = 1) := by
  rw [Bool.eq_iff_iff]
  simp only [beq_iff_eq, decide_eq_true_eq]
  omega
theorem thirteen_ok {c : Nat → Nat} (h : DD 12 c) (s : Stt) : pureF f_check_of_thirteen [.str (tx 12 c)] s = .ok (.str [k13 (S13 12 c)]) s := by
  refine pureF_ok (s2 := ⟨[]⟩) s rfl ?_ rfl
  generalize (⟨[]⟩ : Stt) = s
  have run : f_check_of_thirteen [.str (tx 12 c)] s = (b_check_of_thirteen [some (.str (tx 12 c)), none, none, none] s).fn := mkFn_e 4 1 b_check_of_thirteen _ _ rfl
  have t1 : tCp cNe (eFn bLen (lCons (eV 0) lNil)) (eC (.int 12)) [some (.str (tx 12 c)), none, none, none] s = .ok false s := by
    show Res.ofO s (some (!(((tx 12 c).length : Int) == 12))) = _
    rw [tx_len]
    rfl
  have t2 := any_fig (DD_CS h) (a := eV 0) (ρ := [some (.str (tx 12 c)), none, none, none]) (s := s) (k := 3) rfl (by simp)
  rw [DD_any h] at t2
  have e1 := sumG_ok (own := [2, 3]) (g := gT [(Ev.gN 2), (Ev.gN 3)]) (e := eOp oMulB (eIf (tCp cEq (eOp oMod (eV 2) (eC (.int 2))) (eC (.int 1))) (eC (.int 3)) (eC (.int 1))) (eFn bInt (lCons (eV 3) lNil))) (a := eV 0) (ρ := [some (.str (tx 12 c)), none, none, none]) (s := s) (n := 12) (c := c) (fun i => w13 i * dv (c i)) rfl (by omega)
    (fun i hi => w13_le (dv_le (h i hi)).1 (dv_le (h i hi)).2) fun i hi => by
    refine ⟨[some (.str (tx 12 c)), none, some (.int (i : Nat)), some (.str [c i])], rfl, ?_⟩
    have b := dv_le (h i hi)
    have q : eIf (tCp cEq (eOp oMod (eV 2) (eC (.int 2))) (eC (.int 1))) (eC (.int 3)) (eC (.int 1)) [some (.str (tx 12 c)), none, some (.int (i : Nat)), some (.str [c i])] s = .ok (.int (w13 i)) s := by
      show (Res.ok ((i : Int) % 2 == 1) s).bind (fun b s => if b then Res.ok (PV.int 3) s else Res.ok (PV.int 1) s) = _
      rw [par, Res.bind_ok]
      unfold w13
      by_cases hp : i % 2 = 1
      · rw [if_pos (by simpa using hp), if_pos hp]
      · rw [if_neg (by simpa using hp), if_neg hp]
    rw [eOp_s, q, Res.bind_ok, dv_e rfl (h i hi), Res.bind_ok, mulB s (by omega) (by omega)]
    rfl
  rw [run]
  unfold b_check_of_thirteen
  rw [sSeq_s, sIf_s, tOr_s, t1, Res.bind_ok, if_neg Bool.false_ne_true, t2, Res.sbind_ok, if_neg Bool.false_ne_true, sNop_s, SRes.seq_nx, sSeq_s, sAsg_s, e1, Res.sbind_ok]
  show (SRes.seq (.nx [some (.str (tx 12 c)), some (.int (S13 12 c)), none, none] s) _).fn = _
  generalize S13 12 c = S
  have hb : 0 ≤ (10 - S % 10) % 10 ∧ (10 - S % 10) % 10 < 10 := by omega
  rw [SRes.seq_nx, sSeq_s, sRet_s]
  show (((Res.ofO s (bStr s [.int ((10 - S % 10) % 10)])).sbind _).seq sNop).fn = _
  rw [str10 s hb.1 hb.2]
  rfl
/-! the law's -/
def wv (x : Nat) : Int := if x = 88 then 10 else dv x
def DX (n : Nat) (c : Nat → Nat) : Prop := ∀ i, i < n → (isD (c i) || c i == 88) = true
theorem wv_le {x : Nat} (h : (isD x || x == 88) = true) : 0 ≤ wv x ∧ wv x ≤ 10 := by
  unfold wv
  split
  · omega
  · rename_i hx
    have : isD x = true := by
      rcases Bool.or_eq_true_iff.mp h with h | h
      · exact h
      · exact absurd (by simpa using h) hx
    have := dv_le this
    omega
theorem enum_lst (n : Nat) (p : Nat → PV) (s : Stt) : (liveE (.lst ((List.range n).map p)) s).map (enumL 0) = some ((List.range n).map fun i => .tup [.int (i : Nat), p i]) :=
  congrArg some (enumL_range _ n)
theorem iEnum_lst {a : Ex} {ρ : Env} {s : Stt} {n : Nat} {p : Nat → PV} (h : a ρ s = .ok (.lst ((List.range n).map p)) s) : Ev.iEnum a ρ s = .ok (fun s => (liveE (.lst ((List.range n).map p)) s).map (enumL 0)) s := by
  unfold Ev.iEnum
  rw [h, Res.bind_ok]
  unfold ixOk
  simp only [enum_lst]
theorem bSum_map (s : Stt) (n : Nat) (f : Nat → Int) : bSum s [.lst ((List.range n).map fun i => .int (f i))] = some (.int (SU n f)) := by
  show (some ((List.range n).map fun i => PV.int (f i))).bind (fun l => (intsP l).map fun is => PV.int (sumI is)) = _
  rw [Option.bind_some, intsP_map]
  rfl
def T10 (n : Nat) (c : Nat → Nat) : Int := SU n fun i => w10 i * wv (c i)
theorem lten_ok {n : Nat} (hn : n ≤ 20) {c : Nat → Nat} (h : DX n c) (s : Stt) : pureF f_law_ten [.str (tx n c)] s = .ok (.bl (T10 n c % 11 == 0)) s := by
  refine pureF_ok (s2 := ⟨[]⟩) s rfl ?_ rfl
  generalize (⟨[]⟩ : Stt) = s
  have run : f_law_ten [.str (tx n c)] s = (b_law_ten [some (.str (tx n c)), none, none, none, none] s).fn := mkFn_e 5 1 b_law_ten _ _ rfl
  have e1 := eComp_ix (own := [2]) (g := Ev.gN 2) (e := eIf (tCp cEq (eV 2) (eC (.str [88]))) (eC (.int 10)) (eFn bInt (lCons (eV 2) lNil))) (ρ := [some (.str (tx n c)), none, none, none, none]) (s := s) (n := n) (p := fun i => .str [c i]) (fun i => .int (wv (c i))) (iE_ok (a := eV 0) (p := .str (tx n c)) rfl (live_tx n c s)) (live_tx n c s) (by unfold szl; omega) fun i hi => by
    refine ⟨[some (.str (tx n c)), none, some (.str [c i]), none, none], rfl, ?_⟩
    rw [eIf_s]
    show (Res.ok ([c i] == [88]) s).bind _ = _
    rw [Res.bind_ok]
    unfold wv
    by_cases hx : c i = 88
    · rw [if_pos hx, hx]
      rfl
    · have hd : isD (c i) = true := by
        rcases Bool.or_eq_true_iff.mp (h i hi) with q | q
        · exact q
        · exact absurd (by simpa using q) hx
      rw [if_neg hx, if_neg (by simpa using hx)]
      exact dv_e rfl hd
  have e2 := eComp_ix (own := [3, 4]) (g := gT [(Ev.gN 3), (Ev.gN 4)]) (e := eOp oMulB (eOp oSub (eC (.int 10)) (eV 3)) (eV 4)) (ρ := [some (.str (tx n c)), some (.lst ((List.range n).map fun i => .int (wv (c i)))), none, none, none]) (s := s) (n := n) (p := fun i => .tup [.int (i : Nat), .int (wv (c i))]) (fun i => .int (w10 i * wv (c i))) (iEnum_lst (a := eV 1) rfl) (enum_lst n _ s) (by unfold szl; omega) fun i hi => by
    refine ⟨[some (.str (tx n c)), some (.lst ((List.range n).map fun i => .int (wv (c i)))), none, some (.int (i : Nat)), some (.int (wv (c i)))], rfl, ?_⟩
    have b := wv_le (h i hi)
    show Res.ofO s (oMulB s (.int (10 - (i : Int))) (.int (wv (c i)))) = _
    rw [mulB s (by omega) (by omega)]
    rfl
  rw [run]
  unfold b_law_ten
  rw [sSeq_s, sAsg_s, e1, Res.sbind_ok]
  show (SRes.seq (.nx [some (.str (tx n c)), some (.lst ((List.range n).map fun i => .int (wv (c i)))), none, none, none] s) _).fn = _
  rw [SRes.seq_nx, sSeq_s, sRet_s, eCp_s, eOp_s, eFn_s, lCons_s, e2, Res.bind_ok, lNil_s, Res.bind_ok, Res.bind_ok, bSum_map]
  rfl
theorem lthir_ok {n : Nat} (hn : n ≤ 20) {c : Nat → Nat} (h : DD n c) (s : Stt) : pureF f_law_thirteen [.str (tx n c)] s = .ok (.bl (S13 n c % 10 == 0)) s := by
  refine pureF_ok (s2 := ⟨[]⟩) s rfl ?_ rfl
  generalize (⟨[]⟩ : Stt) = s
  have run : f_law_thirteen [.str (tx n c)] s = (b_law_thirteen [some (.str (tx n c)), none, none] s).fn := mkFn_e 3 1 b_law_thirteen _ _ rfl
  have e2 := eComp_ix (own := [1, 2]) (g := gT [(Ev.gN 1), (Ev.gN 2)]) (e := eOp oMulB (eFn bInt (lCons (eV 2) lNil)) (eOp oIx (eLst (lCons (eC (.int 1)) (lCons (eC (.int 3)) lNil))) (eOp oMod (eV 1) (eC (.int 2))))) (ρ := [some (.str (tx n c)), none, none]) (s := s) (n := n) (p := fun i => .tup [.int (i : Nat), .str [c i]]) (fun i => .int (w13 i * dv (c i))) (iEnum_tx (a := eV 0) rfl) (enum_tx n c s) (by unfold szl; omega) fun i hi => by
    refine ⟨[some (.str (tx n c)), some (.int (i : Nat)), some (.str [c i])], rfl, ?_⟩
    have b := dv_le (h i hi)
    have q : eOp oIx (eLst (lCons (eC (.int 1)) (lCons (eC (.int 3)) lNil))) (eOp oMod (eV 1) (eC (.int 2))) [some (.str (tx n c)), some (.int (i : Nat)), some (.str [c i])] s = .ok (.int (w13 i)) s := by
      show Res.ofO s (oIx s (.lst [.int 1, .int 3]) (.int ((i : Int) % 2))) = _
      unfold w13
      by_cases hp : i % 2 = 1
      · rw [if_pos hp, show (i : Int) % 2 = 1 by omega]
        rfl
      · rw [if_neg hp, show (i : Int) % 2 = 0 by omega]
        rfl
    have wb : w13 i = 3 ∨ w13 i = 1 := by unfold w13; split <;> simp
    rw [eOp_s, dv_e rfl (h i hi), Res.bind_ok, q, Res.bind_ok, mulB s (by omega) (by omega), Int.mul_comm]
    rfl
  rw [run]
  unfold b_law_thirteen
  rw [sSeq_s, sRet_s, eCp_s, eOp_s, eFn_s, lCons_s, e2, Res.bind_ok, lNil_s, Res.bind_ok, Res.bind_ok, bSum_map]
  rfl
end K01
namespace K01
open Ev
/-! numbers of books -/
theorem good_tx {n : Nat} {c : Nat → Nat} (h : DD n c) (hl : (isD (c n) || c n == 88) = true) : good (tx (n + 1) c) = true := by
  unfold good
  rw [tx_succ, List.dropLast_concat, List.getLast?_concat, DD_any h]
  have e1 : (tx n c ++ [c n] == []) = false := by cases tx n c <;> rfl
  rw [e1]
  show (true && (true && (isD (c n) || c n == 88))) = true
  rw [hl]
  rfl
/-- the text is, but for hyphens and blanks, c's first n signs -/
structure Txt (l : List Nat) (n : Nat) (c : Nat → Nat) : Prop where
  cs : ∀ x ∈ l, x ∈ CS
  len : l.length ≤ 1000
  f : l.filter kp = tx n c
theorem Txt.fig {l : List Nat} {n : Nat} {c : Nat → Nat} (t : Txt l (n + 1) c) (h : DD n c) (hl : (isD (c n) || c n == 88) = true) (s : Stt) : pureF f_figures_of [.str l] s = .ok (.str (tx (n + 1) c)) s := by
  rw [fig_ok t.cs t.len, t.f, good_tx h hl]
  rfl
theorem kp_dx {x : Nat} (h : (isD x || x == 88) = true) : kp x = true ∧ x ∈ CS := by
  have : x ∈ DGs ++ [88] := by
    rcases Bool.or_eq_true_iff.mp h with q | q
    · exact List.mem_append_left _ (isD_mem q)
    · exact List.mem_append_right _ (by simpa using q)
  have all : ∀ x ∈ DGs ++ [88], (kp x && CS.contains x) = true := by decide
  have q := all x this
  rw [Bool.and_eq_true] at q
  exact ⟨q.1, by simpa using q.2⟩
theorem Txt.self {n : Nat} {c : Nat → Nat} (hn : n ≤ 1000) (h : DX n c) : Txt (tx n c) n c := ⟨fun x hx => by
  obtain ⟨i, hi, rfl⟩ := tx_mem hx
  exact (kp_dx (h i hi)).2, by rw [tx_len]; exact hn, List.filter_eq_self.mpr fun x hx => by
  obtain ⟨i, hi, rfl⟩ := tx_mem hx
  exact (kp_dx (h i hi)).1⟩
theorem DD.dx {n : Nat} {c : Nat → Nat} (h : DD n c) : DX n c := fun i hi => by rw [h i hi]; rfl
theorem cut_v (s : Stt) {n k : Nat} {c : Nat → Nat} (hn : n ≤ 1000) (h : k ≤ n) : cutV s (.str (tx n c)) none (some (k : Int)) = some (.str (tx k c)) := by
  show (if lenOk (tx n c) then some (PV.str (cutL (tx n c) none (some (k : Int)))) else none) = _
  rw [lenOk_of (by rw [tx_len]; unfold szl; omega), cut_lo c h]
  rfl
theorem cut_m (s : Stt) {n a b : Nat} {c : Nat → Nat} (hn : n ≤ 1000) (h : a ≤ b) (h2 : b ≤ n) : cutV s (.str (tx n c)) (some (a : Int)) (some (b : Int)) = some (.str (tx (b - a) fun i => c (a + i))) := by
  show (if lenOk (tx n c) then some (PV.str (cutL (tx n c) (some (a : Int)) (some (b : Int)))) else none) = _
  rw [lenOk_of (by rw [tx_len]; unfold szl; omega), cut_mid c h h2]
  rfl
theorem cut_h (s : Stt) {n k : Nat} {c : Nat → Nat} (hn : n ≤ 1000) (h : k ≤ n) : cutV s (.str (tx n c)) (some (k : Int)) none = some (.str (tx (n - k) fun i => c (k + i))) := by
  show (if lenOk (tx n c) then some (PV.str (cutL (tx n c) (some (k : Int)) none)) else none) = _
  rw [lenOk_of (by rw [tx_len]; unfold szl; omega), cut_hi c h]
  rfl
theorem ix_tx (s : Stt) {n k : Nat} {c : Nat → Nat} (hn : n ≤ 1000) (h : k < n) : oIx s (.str (tx n c)) (.int (k : Nat)) = some (.str [c k]) := by
  show (if lenOk (tx n c) then (atI (tx n c) (k : Int)).map fun c => PV.str [c] else none) = _
  rw [lenOk_of (by rw [tx_len]; unfold szl; omega), atI_nat (tx_at h)]
  rfl
theorem len_tx (s : Stt) {n : Nat} (c : Nat → Nat) (hn : n ≤ 1000) : bLen s [.str (tx n c)] = some (.int (n : Nat)) := by
  unfold bLen
  simp only [tx_len]
  rw [if_pos (lenOk_of (by rw [tx_len]; unfold szl; omega))]
theorem book10 {l : List Nat} {c : Nat → Nat} (t : Txt l 10 c) (h : DD 9 c) (hl : (isD (c 9) || c 9 == 88) = true) (s : Stt) : pureF f_is_book_number [.str l] s = .ok (.bl ([k10 (S10 9 c)] == [c 9])) s := by
  refine pureF_ok (s2 := ⟨[]⟩) s rfl ?_ rfl
  generalize (⟨[]⟩ : Stt) = s
  have run : f_is_book_number [.str l] s = (b_is_book_number [some (.str l), none] s).fn := mkFn_e 2 1 b_is_book_number _ _ rfl
  have e1 : eCallF f_figures_of (lCons (eV 0) lNil) [some (.str l), none] s = .ok (.str (tx 10 c)) s := t.fig h hl s
  have e2 : eCallF f_check_of_ten (lCons (eCut (eV 1) none (some (eC (.int 9)))) lNil) [some (.str l), some (.str (tx 10 c))] s = .ok (.str [k10 (S10 9 c)]) s := by
    have q : eCut (eV 1) none (some (eC (.int 9))) [some (.str l), some (.str (tx 10 c))] s = .ok (.str (tx 9 c)) s := by
      show Res.ofO s (cutV s (.str (tx 10 c)) none (some ((9 : Nat) : Int))) = _
      rw [cut_v s (by omega) (by omega)]
      rfl
    rw [eCallF_s, lCons_s, q, Res.bind_ok, lNil_s, Res.bind_ok, Res.bind_ok]
    exact ten_ok h s
  have e3 : eOp oIx (eV 1) (eC (.int 9)) [some (.str l), some (.str (tx 10 c))] s = .ok (.str [c 9]) s := by
    show Res.ofO s (oIx s (.str (tx 10 c)) (.int ((9 : Nat) : Int))) = _
    rw [ix_tx s (by omega) (by omega)]
    rfl
  have e4 : tCp cEq (eFn bLen (lCons (eV 1) lNil)) (eC (.int 10)) [some (.str l), some (.str (tx 10 c))] s = .ok true s := by
    show (Res.bind (Res.ofO s (bLen s [.str (tx 10 c)])) fun x s => Res.ofO s (cEq s x (.int 10))) = _
    rw [len_tx s c (by omega)]
    rfl
  rw [run]
  unfold b_is_book_number
  rw [sSeq_s, sAsg_s, e1, Res.sbind_ok]
  show (SRes.seq (.nx [some (.str l), some (.str (tx 10 c))] s) _).fn = _
  rw [SRes.seq_nx, sSeq_s, sIf_s, e4, Res.sbind_ok, if_pos rfl, sSeq_s, sRet_s, eCp_s, e2, Res.bind_ok, e3]
  rfl
def p3 (c : Nat → Nat) : Bool := inL [.str [57, 55, 56], .str [57, 55, 57]] (.str (tx 3 c))
theorem book13 {l : List Nat} {c : Nat → Nat} (t : Txt l 13 c) (h : DD 13 c) (s : Stt) : pureF f_is_book_number [.str l] s = .ok (.bl (p3 c && ([k13 (S13 12 c)] == [c 12]))) s := by
  refine pureF_ok (s2 := ⟨[]⟩) s rfl ?_ rfl
  generalize (⟨[]⟩ : Stt) = s
  have h12 : DD 12 c := fun i hi => h i (by omega)
  have run : f_is_book_number [.str l] s = (b_is_book_number [some (.str l), none] s).fn := mkFn_e 2 1 b_is_book_number _ _ rfl
  have e1 : eCallF f_figures_of (lCons (eV 0) lNil) [some (.str l), none] s = .ok (.str (tx 13 c)) s := t.fig h12 (by rw [h 12 (by omega)]; rfl) s
  have e2 : eCallF f_check_of_thirteen (lCons (eCut (eV 1) none (some (eC (.int 12)))) lNil) [some (.str l), some (.str (tx 13 c))] s = .ok (.str [k13 (S13 12 c)]) s := by
    have q : eCut (eV 1) none (some (eC (.int 12))) [some (.str l), some (.str (tx 13 c))] s = .ok (.str (tx 12 c)) s := by
      show Res.ofO s (cutV s (.str (tx 13 c)) none (some ((12 : Nat) : Int))) = _
      rw [cut_v s (by omega) (by omega)]
      rfl
    rw [eCallF_s, lCons_s, q, Res.bind_ok, lNil_s, Res.bind_ok, Res.bind_ok]
    exact thirteen_ok h12 s
  have e3 : eOp oIx (eV 1) (eC (.int 12)) [some (.str l), some (.str (tx 13 c))] s = .ok (.str [c 12]) s := by
    show Res.ofO s (oIx s (.str (tx 13 c)) (.int ((12 : Nat) : Int))) = _
    rw [ix_tx s (by omega) (by omega)]
    rfl
  have e4 : tCp cEq (eFn bLen (lCons (eV 1) lNil)) (eC (.int 10)) [some (.str l), some (.str (tx 13 c))] s = .ok false s := by
    show (Res.bind (Res.ofO s (bLen s [.str (tx 13 c)])) fun x s => Res.ofO s (cEq s x (.int 10))) = _
    rw [len_tx s c (by omega)]
    rfl
  have e5 : tCp cNe (eFn bLen (lCons (eV 1) lNil)) (eC (.int 13)) [some (.str l), some (.str (tx 13 c))] s = .ok false s := by
    show (Res.bind (Res.ofO s (bLen s [.str (tx 13 c)])) fun x s => Res.ofO s (cNe s x (.int 13))) = _
    rw [len_tx s c (by omega)]
    rfl
  have e6 : tCp cNotIn (eCut (eV 1) none (some (eC (.int 3)))) (eTup (lCons (eC (.str [57, 55, 56])) (lCons (eC (.str [57, 55, 57])) lNil))) [some (.str l), some (.str (tx 13 c))] s = .ok (!(p3 c)) s := by
    have q : eCut (eV 1) none (some (eC (.int 3))) [some (.str l), some (.str (tx 13 c))] s = .ok (.str (tx 3 c)) s := by
      show Res.ofO s (cutV s (.str (tx 13 c)) none (some ((3 : Nat) : Int))) = _
      rw [cut_v s (by omega) (by omega)]
      rfl
    rw [tCp_s, q, Res.bind_ok]
    show Res.ofO s ((cIn s (.str (tx 3 c)) (.tup [.str [57, 55, 56], .str [57, 55, 57]])).map not) = _
    rw [cIn_tup s (dOk_str _ _) (by rfl)]
    rfl
  rw [run]
  unfold b_is_book_number
  rw [sSeq_s, sAsg_s, e1, Res.sbind_ok]
  show (SRes.seq (.nx [some (.str l), some (.str (tx 13 c))] s) _).fn = _
  rw [SRes.seq_nx, sSeq_s, sIf_s, e4, Res.sbind_ok, if_neg Bool.false_ne_true, sNop_s, SRes.seq_nx, sSeq_s, sIf_s, tOr_s, e5, Res.bind_ok, if_neg Bool.false_ne_true, e6, Res.sbind_ok]
  cases p3 c with
  | false => rfl
  | true =>
    rw [if_neg (by decide), sNop_s, SRes.seq_nx, sSeq_s, sRet_s, eCp_s, e2, Res.bind_ok, e3]
    rfl
end K01
namespace K01
open Ev
/-! plain_number, old_number, is_same_number -/
theorem add_s (s : Stt) {a b : List Nat} (h : a.length + b.length ≤ 1000) : oAdd s (.str a) (.str b) = some (.str (a ++ b)) := by
  show (if Nat.ble (a.length + b.length) szl then some (PV.str (a ++ b)) else none) = _
  rw [if_pos (Nat.ble_eq_true_of_le (by unfold szl; omega))]
theorem add_tx (s : Stt) {n m : Nat} (c d : Nat → Nat) (h : n + m ≤ 1000) : oAdd s (.str (tx n c)) (.str (tx m d)) = some (.str (tx (n + m) fun i => if i < n then c i else d (i - n))) := by
  rw [add_s s (by rw [tx_len, tx_len]; exact h), tx_app]
theorem k13_d (S : Int) : isD (k13 S) = true := by
  rw [isD_iff]
  unfold k13
  omega
theorem k10_d (S : Int) : (isD (k10 S) || k10 S == 88) = true := by
  unfold k10
  split
  · rfl
  · rename_i h
    have : isD (48 + ((11 - S % 11) % 11).toNat) = true := by
      rw [isD_iff]
      omega
    rw [this]
    rfl
def n978 (i : Nat) : Nat := [57, 55, 56].getD i 0
def m12 (c : Nat → Nat) (i : Nat) : Nat := if i < 3 then n978 i else c (i - 3)
def same (c : Nat → Nat) (i : Nat) : Nat := if i < 12 then m12 c i else k13 (S13 12 (m12 c))
theorem n978_d : DD 3 n978 := fun i hi => by
  have : i = 0 ∨ i = 1 ∨ i = 2 := by omega
  rcases this with rfl | rfl | rfl <;> rfl
theorem m12_d {c : Nat → Nat} (h : DD 9 c) : DD 12 (m12 c) := fun i hi => by
  unfold m12
  split
  · rename_i h3
    exact n978_d i h3
  · exact h _ (by omega)
theorem same_d {c : Nat → Nat} (h : DD 9 c) : DD 13 (same c) := fun i hi => by
  unfold same
  split
  · rename_i h3
    exact m12_d h i h3
  · exact k13_d _
theorem same_tx (c : Nat → Nat) : tx 12 (same c) = tx 12 (m12 c) := tx_ext fun i hi => if_pos hi
theorem same_S (c : Nat → Nat) : S13 12 (same c) = S13 12 (m12 c) := SU_ext fun i hi => by
  show w13 i * dv (same c i) = _
  rw [show same c i = m12 c i from if_pos hi]
theorem same_p3 (c : Nat → Nat) : p3 (same c) = true := by
  have e : tx 3 (same c) = [57, 55, 56] := rfl
  unfold p3
  rw [e]
  rfl
theorem plain10 {l : List Nat} {c : Nat → Nat} (t : Txt l 10 c) (h : DD 9 c) (hc : c 9 = k10 (S10 9 c)) (s : Stt) : pureF f_plain_number [.str l] s = .ok (.str (tx 13 (same c))) s := by
  refine pureF_ok (s2 := ⟨[]⟩) s rfl ?_ rfl
  generalize (⟨[]⟩ : Stt) = s
  have hl : (isD (c 9) || c 9 == 88) = true := by rw [hc]; exact k10_d _
  have hX : DX 10 c := fun i hi => by
    by_cases h9 : i = 9
    · rw [h9]; exact hl
    · rw [h i (by omega)]; rfl
  have run : f_plain_number [.str l] s = (b_plain_number [some (.str l), none] s).fn := mkFn_e 2 1 b_plain_number _ _ rfl
  have e1 : eCallF f_figures_of (lCons (eV 0) lNil) [some (.str l), none] s = .ok (.str (tx 10 c)) s := t.fig h hl s
  have e2 : eCallF f_is_book_number (lCons (eV 1) lNil) [some (.str l), some (.str (tx 10 c))] s = .ok (.bl true) s := by
    have q := book10 (Txt.self (by omega) hX) h hl s
    rw [← hc, beq_self_eq_true] at q
    exact q
  have e4 : tCp cEq (eFn bLen (lCons (eV 1) lNil)) (eC (.int 13)) [some (.str l), some (.str (tx 10 c))] s = .ok false s := by
    show (Res.bind (Res.ofO s (bLen s [.str (tx 10 c)])) fun x s => Res.ofO s (cEq s x (.int 13))) = _
    rw [len_tx s c (by omega)]
    rfl
  have e5 : eOp oAdd (eC (.str [57, 55, 56])) (eCut (eV 1) none (some (eC (.int 9)))) [some (.str l), some (.str (tx 10 c))] s = .ok (.str (tx 12 (m12 c))) s := by
    have q : eCut (eV 1) none (some (eC (.int 9))) [some (.str l), some (.str (tx 10 c))] s = .ok (.str (tx 9 c)) s := by
      show Res.ofO s (cutV s (.str (tx 10 c)) none (some ((9 : Nat) : Int))) = _
      rw [cut_v s (by omega) (by omega)]
      rfl
    rw [eOp_s, eC_s, Res.bind_ok, q, Res.bind_ok]
    show Res.ofO s (oAdd s (.str (tx 3 n978)) (.str (tx 9 c))) = _
    rw [add_tx s n978 c (by omega)]
    rfl
  rw [run]
  unfold b_plain_number
  rw [sSeq_s, sAsg_s, e1, Res.sbind_ok]
  show (SRes.seq (.nx [some (.str l), some (.str (tx 10 c))] s) _).fn = _
  rw [SRes.seq_nx, sSeq_s, sIf_s, tNot_s, tE_s, e2, Res.bind_ok]
  show (SRes.seq (.nx [some (.str l), some (.str (tx 10 c))] s) _).fn = _
  rw [SRes.seq_nx, sSeq_s, sIf_s, e4, Res.sbind_ok, if_neg Bool.false_ne_true, sNop_s, SRes.seq_nx, sSeq_s, sRet_s, eOp_s, e5, Res.bind_ok, eCallF_s, lCons_s, e5, Res.bind_ok, lNil_s, Res.bind_ok, Res.bind_ok, thirteen_ok (m12_d h), Res.bind_ok]
  have q : oAdd s (.str (tx 12 (m12 c))) (.str [k13 (S13 12 (m12 c))]) = some (.str (tx 13 (same c))) := add_tx (n := 12) (m := 1) s (m12 c) (fun _ => k13 (S13 12 (m12 c))) (by omega)
  rw [q]
  rfl
theorem plain13 {l : List Nat} {c : Nat → Nat} (t : Txt l 13 c) (h : DD 13 c) (hp : p3 c = true) (hc : c 12 = k13 (S13 12 c)) (s : Stt) : pureF f_plain_number [.str l] s = .ok (.str (tx 13 c)) s := by
  refine pureF_ok (s2 := ⟨[]⟩) s rfl ?_ rfl
  generalize (⟨[]⟩ : Stt) = s
  have run : f_plain_number [.str l] s = (b_plain_number [some (.str l), none] s).fn := mkFn_e 2 1 b_plain_number _ _ rfl
  have e1 : eCallF f_figures_of (lCons (eV 0) lNil) [some (.str l), none] s = .ok (.str (tx 13 c)) s := t.fig (fun i hi => h i (by omega)) (by rw [h 12 (by omega)]; rfl) s
  have e2 : eCallF f_is_book_number (lCons (eV 1) lNil) [some (.str l), some (.str (tx 13 c))] s = .ok (.bl true) s := by
    have q := book13 (Txt.self (by omega) h.dx) h s
    rw [← hc, beq_self_eq_true, hp] at q
    exact q
  have e4 : tCp cEq (eFn bLen (lCons (eV 1) lNil)) (eC (.int 13)) [some (.str l), some (.str (tx 13 c))] s = .ok true s := by
    show (Res.bind (Res.ofO s (bLen s [.str (tx 13 c)])) fun x s => Res.ofO s (cEq s x (.int 13))) = _
    rw [len_tx s c (by omega)]
    rfl
  rw [run]
  unfold b_plain_number
  rw [sSeq_s, sAsg_s, e1, Res.sbind_ok]
  show (SRes.seq (.nx [some (.str l), some (.str (tx 13 c))] s) _).fn = _
  rw [SRes.seq_nx, sSeq_s, sIf_s, tNot_s, tE_s, e2, Res.bind_ok]
  show (SRes.seq (.nx [some (.str l), some (.str (tx 13 c))] s) _).fn = _
  rw [SRes.seq_nx, sSeq_s, sIf_s, e4, Res.sbind_ok, if_pos rfl]
  rfl
def is978 (c : Nat → Nat) : Bool := tx 3 c == [57, 55, 56]
def old (c : Nat → Nat) (i : Nat) : Nat := if i < 9 then c (3 + i) else k10 (S10 9 fun i => c (3 + i))
theorem old13 {l : List Nat} {c : Nat → Nat} (t : Txt l 13 c) (h : DD 13 c) (hp : p3 c = true) (hc : c 12 = k13 (S13 12 c)) (s : Stt) : pureF f_old_number [.str l] s = .ok (.str (if is978 c then tx 10 (old c) else [])) s := by
  refine pureF_ok (s2 := ⟨[]⟩) s rfl ?_ rfl
  generalize (⟨[]⟩ : Stt) = s
  have run : f_old_number [.str l] s = (b_old_number [some (.str l), none] s).fn := mkFn_e 2 1 b_old_number _ _ rfl
  have e1 : eCallF f_plain_number (lCons (eV 0) lNil) [some (.str l), none] s = .ok (.str (tx 13 c)) s := plain13 t h hp hc s
  have e2 : tCp cEq (eCut (eV 1) none (some (eC (.int 3)))) (eC (.str [57, 55, 56])) [some (.str l), some (.str (tx 13 c))] s = .ok (is978 c) s := by
    have q : eCut (eV 1) none (some (eC (.int 3))) [some (.str l), some (.str (tx 13 c))] s = .ok (.str (tx 3 c)) s := by
      show Res.ofO s (cutV s (.str (tx 13 c)) none (some ((3 : Nat) : Int))) = _
      rw [cut_v s (by omega) (by omega)]
      rfl
    rw [tCp_s, q, Res.bind_ok]
    rfl
  have e3 : eCut (eV 1) (some (eC (.int 3))) (some (eC (.int 12))) [some (.str l), some (.str (tx 13 c))] s = .ok (.str (tx 9 fun i => c (3 + i))) s := by
    show Res.ofO s (cutV s (.str (tx 13 c)) (some ((3 : Nat) : Int)) (some ((12 : Nat) : Int))) = _
    rw [cut_m s (by omega) (by omega) (by omega)]
    rfl
  have h9 : DD 9 fun i => c (3 + i) := fun i hi => h _ (by omega)
  rw [run]
  unfold b_old_number
  rw [sSeq_s, sAsg_s, e1, Res.sbind_ok]
  show (SRes.seq (.nx [some (.str l), some (.str (tx 13 c))] s) _).fn = _
  rw [SRes.seq_nx, sSeq_s, sRet_s, eIf_s, e2, Res.bind_ok]
  cases is978 c with
  | false => rfl
  | true =>
    rw [if_pos rfl, if_pos rfl, eOp_s, e3, Res.bind_ok, eCallF_s, lCons_s, e3, Res.bind_ok, lNil_s, Res.bind_ok, Res.bind_ok, ten_ok h9, Res.bind_ok]
    have q : oAdd s (.str (tx 9 fun i => c (3 + i))) (.str [k10 (S10 9 fun i => c (3 + i))]) = some (.str (tx 10 (old c))) := add_tx (n := 9) (m := 1) s (fun i => c (3 + i)) (fun _ => k10 (S10 9 fun i => c (3 + i))) (by omega)
    rw [q]
    rfl
theorem same_ok {a b x y : List Nat} (ha : ∀ s, pureF f_plain_number [.str a] s = .ok (.str x) s) (hb : ∀ s, pureF f_plain_number [.str b] s = .ok (.str y) s) (s : Stt) : pureF f_is_same_number [.str a, .str b] s = .ok (.bl (x == y)) s := by
  refine pureF_ok (s2 := ⟨[]⟩) s rfl ?_ rfl
  generalize (⟨[]⟩ : Stt) = s
  have run : f_is_same_number [.str a, .str b] s = (b_is_same_number [some (.str a), some (.str b)] s).fn := mkFn_e 2 2 b_is_same_number _ _ rfl
  have e1 : eCallF f_plain_number (lCons (eV 0) lNil) [some (.str a), some (.str b)] s = .ok (.str x) s := ha s
  have e2 : eCallF f_plain_number (lCons (eV 1) lNil) [some (.str a), some (.str b)] s = .ok (.str y) s := hb s
  rw [run]
  unfold b_is_same_number
  rw [sSeq_s, sRet_s, eCp_s, e1, Res.bind_ok, e2]
  rfl
end K01
namespace K01
open Ev
/-! cards -/
theorem sAug_s (i : Nat) (f : Op2) (e : Ex) (ρ : Env) (s : Stt) {x : PV} (h : ρ[i]? = some (some x)) : sAug i f e ρ s = (e ρ s).sbind fun y s => SRes.ofO s ((f s x y).map fun z => ρ.set i (some z)) := by
  unfold sAug
  rw [h]
  dsimp only
  cases e ρ s with
  | ok y s' =>
    simp only [Res.sbind_ok]
    cases f s' x y <;> rfl
  | err c s' => rfl
  | bad => rfl
def cw (i : Nat) (v : Int) : Int := if 9 < v * (if i % 2 = 1 then 2 else 1) then v * (if i % 2 = 1 then 2 else 1) - 9 else v * (if i % 2 = 1 then 2 else 1)
def CD (n : Nat) (c : Nat → Nat) : Int := SU n fun i => cw i (dv (c (n - 1 - i)))
theorem tx_rev (n : Nat) (c : Nat → Nat) : (tx n c).reverse = tx n fun i => c (n - 1 - i) := by
  apply List.ext_getElem?
  intro i
  by_cases h : i < n
  · rw [List.getElem?_reverse (by rw [tx_len]; exact h), tx_len, tx_at (by omega), tx_at h]
  · rw [List.getElem?_eq_none (by rw [List.length_reverse, tx_len]; omega), List.getElem?_eq_none (by rw [tx_len]; omega)]
theorem card_ok {n : Nat} {c : Nat → Nat} (h : DD n c) (h1 : 1 ≤ n) (h2 : n ≤ 18) (s : Stt) : pureF f_sum_of_card [.str (tx n c)] s = .ok (.int (CD n c)) s := by
  refine pureF_ok (s2 := ⟨[]⟩) s rfl ?_ rfl
  generalize (⟨[]⟩ : Stt) = s
  have run : f_sum_of_card [.str (tx n c)] s = (b_sum_of_card [some (.str (tx n c)), none, none, none, none] s).fn := mkFn_e 5 1 b_sum_of_card _ _ rfl
  have t1 : Ev.tNot (tCh cLe cLe (eC (.int 1)) (eFn bLen (lCons (eV 0) lNil)) (eC c_MOST_FIGURES)) [some (.str (tx n c)), none, none, none, none] s = .ok false s := by
    have e : tCh cLe cLe (eC (.int 1)) (eFn bLen (lCons (eV 0) lNil)) (eC c_MOST_FIGURES) [some (.str (tx n c)), none, none, none, none] s = .ok true s := by
      have q : eFn bLen (lCons (eV 0) lNil) [some (.str (tx n c)), none, none, none, none] s = .ok (.int (n : Nat)) s := by
        show Res.ofO s (bLen s [.str (tx n c)]) = _
        rw [len_tx s c (by omega)]
        rfl
      unfold tCh
      rw [eC_s, Res.bind_ok, q, Res.bind_ok]
      show (match some (decide ((1 : Int) ≤ (n : Int))) with
        | some true => (eC c_MOST_FIGURES _ _).bind fun z s => Res.ofO s (cLe s (.int (n : Nat)) z)
        | some false => .ok false _
        | none => .bad) = _
      rw [decide_eq_true (show (1 : Int) ≤ (n : Int) by omega)]
      show Res.ofO s (some (decide ((n : Int) ≤ 18))) = _
      rw [decide_eq_true (show (n : Int) ≤ 18 by omega)]
      rfl
    rw [tNot_s, e]
    rfl
  have t2 := any_fig (DD_CS h) (a := eV 0) (ρ := [some (.str (tx n c)), none, none, none, none]) (s := s) (k := 3) rfl (by simp)
  rw [DD_any h] at t2
  have er : eOp oRevS (eV 0) (eNeg (eC (.int 1))) [some (.str (tx n c)), some (.int 0), none, none, none] s = .ok (.str (tx n fun i => c (n - 1 - i))) s := by
    show Res.ofO s (if (-1 : Int) == -1 && lenOk (tx n c) then some (PV.str (tx n c).reverse) else none) = _
    rw [lenOk_of (by rw [tx_len]; unfold szl; omega), tx_rev]
    rfl
  obtain ⟨ρ', s', e, ⟨z2, z3, z4, rfl⟩, rfl⟩ := sFor_acc (l := (List.range n).map fun i => .tup [.int (i : Nat), .str [c (n - 1 - i)]]) (g := gT [(Ev.gN 2), (Ev.gN 3)]) (src := Ev.iEnum (eOp oRevS (eV 0) (eNeg (eC (.int 1))))) (ρ := [some (.str (tx n c)), some (.int 0), none, none, none]) (s := s)
    (b := sSeq (sAsg (Ev.gN 4) (eOp oMulB (eFn bInt (lCons (eV 3) lNil)) (eIf (tCp cEq (eOp oMod (eV 2) (eC (.int 2))) (eC (.int 1))) (eC (.int 2)) (eC (.int 1))))) (sSeq (sAug 1 iAdd (eIf (tCp cGt (eV 4) (eC (.int 9))) (eOp oSub (eV 4) (eC (.int 9))) (eV 4))) sNop))
    (P := fun k ρ s1 => (∃ z2 z3 z4, ρ = [some (.str (tx n c)), some (.int (SU k fun i => cw i (dv (c (n - 1 - i))))), z2, z3, z4]) ∧ s1 = s)
    (iEnum_tx er) (fun s => enum_tx n _ s) ⟨⟨none, none, none, rfl⟩, rfl⟩ fun k x ρ s1 hx hP => by
      obtain ⟨⟨z2, z3, z4, rfl⟩, rfl⟩ := hP
      rw [List.getElem?_map] at hx
      have hk : k < n := by
        have := List.getElem?_eq_some_iff.mp (Option.map_eq_some_iff.mp hx).choose_spec.1
        simpa using this.1
      rw [List.getElem?_range hk] at hx
      cases hx
      have hd := h (n - 1 - k) (by omega)
      have b := dv_le hd
      have q1 : eIf (tCp cEq (eOp oMod (eV 2) (eC (.int 2))) (eC (.int 1))) (eC (.int 2)) (eC (.int 1)) [some (.str (tx n c)), some (.int (SU k fun i => cw i (dv (c (n - 1 - i))))), some (.int (k : Nat)), some (.str [c (n - 1 - k)]), z4] s1 = .ok (.int (if k % 2 = 1 then 2 else 1)) s1 := by
        show (Res.ok ((k : Int) % 2 == 1) s1).bind (fun b s => if b then Res.ok (PV.int 2) s else Res.ok (PV.int 1) s) = _
        rw [par, Res.bind_ok]
        by_cases hp : k % 2 = 1
        · rw [if_pos (by simpa using hp), if_pos hp]
        · rw [if_neg (by simpa using hp), if_neg hp]
      have wb : (if k % 2 = 1 then (2 : Int) else 1) = 2 ∨ (if k % 2 = 1 then (2 : Int) else 1) = 1 := by split <;> simp
      have q2 : eOp oMulB (eFn bInt (lCons (eV 3) lNil)) (eIf (tCp cEq (eOp oMod (eV 2) (eC (.int 2))) (eC (.int 1))) (eC (.int 2)) (eC (.int 1))) [some (.str (tx n c)), some (.int (SU k fun i => cw i (dv (c (n - 1 - i))))), some (.int (k : Nat)), some (.str [c (n - 1 - k)]), z4] s1 = .ok (.int (dv (c (n - 1 - k)) * (if k % 2 = 1 then 2 else 1))) s1 := by
        rw [eOp_s, dv_e rfl hd, Res.bind_ok, q1, Res.bind_ok, mulB s1 (by omega) (by omega)]
        rfl
      refine ⟨[some (.str (tx n c)), some (.int (SU k fun i => cw i (dv (c (n - 1 - i))))), some (.int (k : Nat)), some (.str [c (n - 1 - k)]), z4], [some (.str (tx n c)), some (.int (SU (k + 1) fun i => cw i (dv (c (n - 1 - i))))), some (.int (k : Nat)), some (.str [c (n - 1 - k)]), some (.int (dv (c (n - 1 - k)) * (if k % 2 = 1 then 2 else 1)))], s1, rfl, ?_, ⟨_, _, _, rfl⟩, rfl⟩
      rw [sSeq_s, sAsg_s, q2, Res.sbind_ok]
      have ecw : cw k (dv (c (n - 1 - k))) = if 9 < dv (c (n - 1 - k)) * (if k % 2 = 1 then 2 else 1) then dv (c (n - 1 - k)) * (if k % 2 = 1 then 2 else 1) - 9 else dv (c (n - 1 - k)) * (if k % 2 = 1 then 2 else 1) := rfl
      rw [SU_succ, ecw]
      generalize dv (c (n - 1 - k)) * (if k % 2 = 1 then 2 else 1) = v
      generalize (SU k fun i => cw i (dv (c (n - 1 - i)))) = S
      show (SRes.seq (.nx [some (.str (tx n c)), some (.int S), some (.int (k : Nat)), some (.str [c (n - 1 - k)]), some (.int v)] s1) _) = _
      have q3 : eIf (tCp cGt (eV 4) (eC (.int 9))) (eOp oSub (eV 4) (eC (.int 9))) (eV 4) [some (.str (tx n c)), some (.int S), some (.int (k : Nat)), some (.str [c (n - 1 - k)]), some (.int v)] s1 = .ok (.int (if 9 < v then v - 9 else v)) s1 := by
        show (Res.ok (decide ((9 : Int) < v)) s1).bind (fun b s => if b then Res.ok (PV.int (v - 9)) s else Res.ok (PV.int v) s) = _
        rw [Res.bind_ok]
        by_cases hv : 9 < v
        · rw [if_pos (by simpa using hv), if_pos hv]
        · rw [if_neg (by simpa using hv), if_neg hv]
      rw [SRes.seq_nx, sSeq_s, sAug_s 1 iAdd _ _ s1 (x := .int S) rfl, q3]
      rfl
  rw [run]
  unfold b_sum_of_card
  rw [sSeq_s, sIf_s, tOr_s, t1, Res.bind_ok, if_neg Bool.false_ne_true, t2, Res.sbind_ok, if_neg Bool.false_ne_true, sNop_s, SRes.seq_nx, sSeq_s]
  show (SRes.seq (.nx [some (.str (tx n c)), some (.int 0), none, none, none] s') _).fn = _
  rw [SRes.seq_nx, sSeq_s]
  refine (congrArg (fun r => (SRes.seq r _).fn) e).trans ?_
  rw [SRes.seq_nx, List.length_map, List.length_range]
  rfl
end K01
namespace K01
open Ev
theorem ix_back (s : Stt) {n k : Nat} {c : Nat → Nat} (hn : n ≤ 1000) (h : k < n) : oIx s (.str (tx n c)) (.int (-1 - (k : Nat))) = some (.str [c (n - 1 - k)]) := by
  show (if lenOk (tx n c) then (atI (tx n c) (-1 - (k : Nat))).map fun c => PV.str [c] else none) = _
  rw [lenOk_of (by rw [tx_len]; unfold szl; omega), if_pos rfl]
  have e : atI (tx n c) (-1 - (k : Nat)) = some (c (n - 1 - k)) := by
    unfold atI ixN
    rw [tx_len, if_neg (by omega), if_pos (by omega)]
    have e : ((-1 - (k : Int)) + (n : Int)).toNat = n - 1 - k := by omega
    simp only [Option.bind_some, e]
    exact tx_at (by omega)
  rw [e]
  rfl
theorem cw_law {k : Nat} {v : Int} (h0 : 0 ≤ v) (h1 : v ≤ 9) : cw k v = (v * (1 + (k : Int) % 2)) / 10 + (v * (1 + (k : Int) % 2)) % 10 := by
  unfold cw
  by_cases hp : k % 2 = 1
  · rw [if_pos hp, show (k : Int) % 2 = 1 by omega]
    split <;> omega
  · rw [if_neg hp, show (k : Int) % 2 = 0 by omega]
    split <;> omega
theorem lcard_ok {n : Nat} {c : Nat → Nat} (h : DD n c) (h2 : n ≤ 20) (s : Stt) : pureF f_law_card [.str (tx n c)] s = .ok (.int (CD n c)) s := by
  refine pureF_ok (s2 := ⟨[]⟩) s rfl ?_ rfl
  generalize (⟨[]⟩ : Stt) = s
  have run : f_law_card [.str (tx n c)] s = (b_law_card [some (.str (tx n c)), none, none, none] s).fn := mkFn_e 4 1 b_law_card _ _ rfl
  have el : eFn bLen (lCons (eV 0) lNil) [some (.str (tx n c)), some (.int 0), none, none] s = .ok (.int (n : Nat)) s := by
    show Res.ofO s (bLen s [.str (tx n c)]) = _
    rw [len_tx s c (by omega)]
    rfl
  obtain ⟨ρ', s', e, ⟨z2, z3, rfl⟩, rfl⟩ := sFor_acc (l := (List.range n).map fun i => .int (i : Nat)) (g := Ev.gN 2) (src := iRange1 (eFn bLen (lCons (eV 0) lNil))) (ρ := [some (.str (tx n c)), some (.int 0), none, none]) (s := s)
    (b := sSeq (sAsg (Ev.gN 3) (eOp oMulB (eFn bInt (lCons (eOp oIx (eV 0) (eOp oSub (eNeg (eC (.int 1))) (eV 2))) lNil)) (eOp oAdd (eC (.int 1)) (eOp oMod (eV 2) (eC (.int 2)))))) (sSeq (sAsg (Ev.gN 1) (eOp oAdd (eOp oAdd (eV 1) (eOp oDiv (eV 3) (eC (.int 10)))) (eOp oMod (eV 3) (eC (.int 10))))) sNop))
    (P := fun k ρ s1 => (∃ z2 z3, ρ = [some (.str (tx n c)), some (.int (SU k fun i => cw i (dv (c (n - 1 - i))))), z2, z3]) ∧ s1 = s)
    (iRange1_ok el (by omega) (by omega)) (fun s => by
      rw [rng_range, Int.toNat_natCast]
      congr 1
      refine List.map_congr_left fun d _ => ?_
      rw [Int.zero_add]) ⟨⟨none, none, rfl⟩, rfl⟩ fun k x ρ s1 hx hP => by
      obtain ⟨⟨z2, z3, rfl⟩, rfl⟩ := hP
      rw [List.getElem?_map] at hx
      have hk : k < n := by
        have := List.getElem?_eq_some_iff.mp (Option.map_eq_some_iff.mp hx).choose_spec.1
        simpa using this.1
      rw [List.getElem?_range hk] at hx
      cases hx
      have hd := h (n - 1 - k) (by omega)
      have b := dv_le hd
      have q0 : eOp oIx (eV 0) (eOp oSub (eNeg (eC (.int 1))) (eV 2)) [some (.str (tx n c)), some (.int (SU k fun i => cw i (dv (c (n - 1 - i))))), some (.int (k : Nat)), z3] s1 = .ok (.str [c (n - 1 - k)]) s1 := by
        show Res.ofO s1 (oIx s1 (.str (tx n c)) (.int (-1 - (k : Nat)))) = _
        rw [ix_back s1 (by omega) hk]
        rfl
      have q2 : eOp oMulB (eFn bInt (lCons (eOp oIx (eV 0) (eOp oSub (eNeg (eC (.int 1))) (eV 2))) lNil)) (eOp oAdd (eC (.int 1)) (eOp oMod (eV 2) (eC (.int 2)))) [some (.str (tx n c)), some (.int (SU k fun i => cw i (dv (c (n - 1 - i))))), some (.int (k : Nat)), z3] s1 = .ok (.int (dv (c (n - 1 - k)) * (1 + (k : Int) % 2))) s1 := by
        rw [eOp_s, eFn_s, lCons_s, q0, Res.bind_ok, lNil_s, Res.bind_ok, Res.bind_ok, int1 s1 hd, Res.ofO_some, Res.bind_ok]
        show Res.ofO s1 (oMulB s1 (.int (dv (c (n - 1 - k)))) (.int (1 + (k : Int) % 2))) = _
        rw [mulB s1 (by omega) (by omega)]
        rfl
      refine ⟨[some (.str (tx n c)), some (.int (SU k fun i => cw i (dv (c (n - 1 - i))))), some (.int (k : Nat)), z3], [some (.str (tx n c)), some (.int (SU (k + 1) fun i => cw i (dv (c (n - 1 - i))))), some (.int (k : Nat)), some (.int (dv (c (n - 1 - k)) * (1 + (k : Int) % 2)))], s1, rfl, ?_, ⟨_, _, rfl⟩, rfl⟩
      rw [sSeq_s, sAsg_s, q2, Res.sbind_ok, SU_succ, cw_law b.1 b.2]
      generalize dv (c (n - 1 - k)) * (1 + (k : Int) % 2) = v
      generalize (SU k fun i => cw i (dv (c (n - 1 - i)))) = S
      show (SRes.seq (.nx [some (.str (tx n c)), some (.int S), some (.int (k : Nat)), some (.int v)] s1) _) = _
      have q3 : eOp oAdd (eOp oAdd (eV 1) (eOp oDiv (eV 3) (eC (.int 10)))) (eOp oMod (eV 3) (eC (.int 10))) [some (.str (tx n c)), some (.int S), some (.int (k : Nat)), some (.int v)] s1 = .ok (.int (S + v / 10 + v % 10)) s1 := rfl
      rw [SRes.seq_nx, sSeq_s, sAsg_s, q3, Int.add_assoc]
      rfl
  rw [run]
  unfold b_law_card
  rw [sSeq_s]
  show (SRes.seq (.nx [some (.str (tx n c)), some (.int 0), none, none] s') _).fn = _
  rw [SRes.seq_nx, sSeq_s]
  refine (congrArg (fun r => (SRes.seq r _).fn) e).trans ?_
  rw [SRes.seq_nx, List.length_map, List.length_range]
  rfl
theorem isc_ok {n : Nat} {c : Nat → Nat} (h : DD n c) (h1 : 1 ≤ n) (h2 : n ≤ 18) (s : Stt) : pureF f_is_card [.str (tx n c)] s = .ok (.bl (CD n c % 10 == 0)) s := by
  refine pureF_ok (s2 := ⟨[]⟩) s rfl ?_ rfl
  generalize (⟨[]⟩ : Stt) = s
  have run : f_is_card [.str (tx n c)] s = (b_is_card [some (.str (tx n c))] s).fn := mkFn_e 1 1 b_is_card _ _ rfl
  have e1 : eCallF f_sum_of_card (lCons (eV 0) lNil) [some (.str (tx n c))] s = .ok (.int (CD n c)) s := card_ok h h1 h2 s
  rw [run]
  unfold b_is_card
  rw [sSeq_s, sRet_s, eCp_s, eOp_s, e1, Res.bind_ok]
  rfl
end K01
namespace K01
open Ev
/-! texts of numbers -/
theorem numV_app (l : List Nat) (x : Nat) : numV (l ++ [x]) = numV l * 10 + (x - 48) := by
  unfold numV
  rw [List.foldl_append]
  rfl
theorem natF_ok : ∀ (f n : Nat), n ≤ f → (∀ x ∈ natF f n, isD x = true) ∧ numV (natF f n) = n ∧ 1 ≤ (natF f n).length ∧ ∀ k, n < 10 ^ (k + 1) → (natF f n).length ≤ k + 1
  | 0, n, h => by
    have : n = 0 := by omega
    subst this
    exact ⟨by decide, by decide, by decide, fun k _ => by show 1 ≤ k + 1; omega⟩
  | f + 1, n, h => by
    unfold natF
    by_cases hn : n < 10
    · rw [if_pos (show Nat.blt n 10 = true from Nat.ble_eq_true_of_le hn)]
      refine ⟨fun x hx => ?_, ?_, by simp, fun k _ => by simp⟩
      · rw [List.mem_singleton.mp hx, isD_iff]
        omega
      · show 0 * 10 + (48 + n - 48) = n
        omega
    · rw [if_neg (show ¬ Nat.blt n 10 = true from fun q => hn (Nat.le_of_ble_eq_true q))]
      obtain ⟨h1, h2, h3, h4⟩ := natF_ok f (n / 10) (by omega)
      refine ⟨fun x hx => ?_, ?_, by simp, fun k hk => ?_⟩
      · rcases List.mem_append.mp hx with q | q
        · exact h1 x q
        · rw [List.mem_singleton.mp q, isD_iff]
          omega
      · rw [numV_app, h2]
        omega
      · rw [List.length_append]
        cases k with
        | zero => exact absurd hk (by omega)
        | succ k =>
          have := h4 k (by rw [Nat.div_lt_iff_lt_mul (by omega)]; rw [Nat.pow_succ] at hk; omega)
          simp
          omega
theorem numV_zeros (l : List Nat) : ∀ k, numV (List.replicate k 48 ++ l) = numV l
  | 0 => rfl
  | k + 1 => by
    have q := numV_zeros l k
    rw [List.replicate_succ]
    show List.foldl _ 0 (48 :: (List.replicate k 48 ++ l)) = _
    exact q
theorem numV_lt : ∀ (n : Nat) {c : Nat → Nat}, DD n c → numV (tx n c) < 10 ^ n
  | 0, _, _ => by show 0 < 1; decide
  | n + 1, c, h => by
    have q := numV_lt n (c := c) fun i hi => h i (by omega)
    have b := isD_iff.mp (h n (by omega))
    rw [tx_succ, numV_app, Nat.pow_succ]
    omega
theorem figs_of {l : List Nat} (h : ∀ x ∈ l, isD x = true) : figs l = true := List.all_eq_true.mpr fun x hx => h x hx
theorem int_txt (s : Stt) {l : List Nat} (h : ∀ x ∈ l, isD x = true) (h1 : 1 ≤ l.length) (h2 : l.length ≤ 640) : bInt s [.str l] = some (.int (numV l : Nat)) := by
  show (numT l).map PV.int = _
  unfold numT
  have e : l.isEmpty = false := by
    cases l with
    | nil => simp at h1
    | cons _ _ => rfl
  rw [figs_of h, e, Nat.ble_eq_true_of_le h2]
  rfl
theorem str_num (s : Stt) {n : Nat} (h : n < 10 ^ 15) : bStr s [.int (n : Nat)] = some (.str (natF n n)) := by
  unfold bStr
  simp only
  rw [if_pos (log_small (by omega))]
  rfl
end K01
namespace K01
open Ev
/-! made_card, number_of_card -/
/-- the number, with zeros ahead of it -/
def ZT (long v : Nat) : List Nat := List.replicate (long - (natF v v).length) 48 ++ natF v v
def zc (long v i : Nat) : Nat := (ZT long v).getD i 0
theorem ZT_ok {long v : Nat} (h : (natF v v).length ≤ long) : ZT long v = tx long (zc long v) ∧ DD long (zc long v) ∧ numV (ZT long v) = v := by
  obtain ⟨h1, h2, h3, _⟩ := natF_ok v v (Nat.le_refl _)
  have hl : (ZT long v).length = long := by
    unfold ZT
    rw [List.length_append, List.length_replicate]
    omega
  have e : ZT long v = tx long (zc long v) := by
    have q := tx_of (ZT long v)
    rw [hl] at q
    exact q
  refine ⟨e, fun i hi => ?_, ?_⟩
  · have m : zc long v i ∈ ZT long v := by
      rw [e]
      exact List.mem_map.mpr ⟨i, List.mem_range.mpr hi, rfl⟩
    rcases List.mem_append.mp m with q | q
    · rw [List.eq_of_mem_replicate q]
      rfl
    · exact h1 _ q
  · unfold ZT
    rw [numV_zeros, h2]
/-- the card -/
def cc (n : Nat) (z : Nat → Nat) (i : Nat) : Nat := if i < n then z i else 48 + ((10 - CD (n + 1) (fun i => if i < n then z i else 48) % 10) % 10).toNat
theorem cc_d {n : Nat} {z : Nat → Nat} (h : DD n z) : DD (n + 1) (cc n z) := fun i hi => by
  unfold cc
  split
  · rename_i q
    exact h i q
  · rw [isD_iff]
    omega
theorem CD_last (n : Nat) (c : Nat → Nat) : CD (n + 1) c = CD (n + 1) (fun i => if i < n then c i else 48) + cw 0 (dv (c n)) := by
  unfold CD
  rw [SU_set (n := n + 1) (k := 0) (g := fun i => cw i (dv ((fun i => if i < n then c i else 48) (n + 1 - 1 - i)))) (by omega) fun i hi hne => ?_]
  · simp only [Nat.add_sub_cancel, Nat.sub_zero]
    rw [if_neg (Nat.lt_irrefl n)]
    have : cw 0 (dv 48) = 0 := by decide
    omega
  · simp only [Nat.add_sub_cancel]
    rw [if_pos (by omega)]
theorem cc_check {n : Nat} {z : Nat → Nat} : CD (n + 1) (cc n z) % 10 = 0 := by
  rw [CD_last]
  have e : (fun i => if i < n then cc n z i else 48) = fun i => if i < n then z i else 48 := by
    funext i
    by_cases h : i < n
    · rw [if_pos h, if_pos h]
      exact if_pos h
    · rw [if_neg h, if_neg h]
  have e2 : cc n z n = 48 + ((10 - CD (n + 1) (fun i => if i < n then z i else 48) % 10) % 10).toNat := if_neg (Nat.lt_irrefl n)
  rw [e, e2]
  generalize CD (n + 1) (fun i => if i < n then z i else 48) = S
  have hd : dv (48 + ((10 - S % 10) % 10).toNat) = (10 - S % 10) % 10 := by
    unfold dv
    omega
  have hw : cw 0 ((10 - S % 10) % 10) = (10 - S % 10) % 10 := by
    unfold cw
    rw [show (if 0 % 2 = 1 then (2 : Int) else 1) = 1 from rfl, Int.mul_one, if_neg (by omega)]
  rw [hd, hw]
  omega
theorem made_ok {v long : Nat} (h1 : 1 ≤ long) (h2 : long ≤ 12) (h3 : (natF v v).length ≤ long) (hv : v < 10 ^ 15) (s : Stt) : pureF f_made_card [.int (v : Nat), .int (long : Nat)] s = .ok (.str (tx (long + 1) (cc long (zc long v)))) s := by
  refine pureF_ok (s2 := ⟨[]⟩) s rfl ?_ rfl
  generalize (⟨[]⟩ : Stt) = s
  obtain ⟨z1, z2, z3⟩ := ZT_ok h3
  obtain ⟨n1, n2, n3, n4⟩ := natF_ok v v (Nat.le_refl _)
  have run : f_made_card [.int (v : Nat), .int (long : Nat)] s = (b_made_card [some (.int (v : Nat)), some (.int (long : Nat)), none] s).fn := mkFn_e 3 2 b_made_card _ _ rfl
  have es : eFn bStr (lCons (eV 0) lNil) [some (.int (v : Nat)), some (.int (long : Nat)), none] s = .ok (.str (natF v v)) s := by
    show Res.ofO s (bStr s [.int (v : Nat)]) = _
    rw [str_num s hv]
    rfl
  have el : eFn bLen (lCons (eFn bStr (lCons (eV 0) lNil)) lNil) [some (.int (v : Nat)), some (.int (long : Nat)), none] s = .ok (.int ((natF v v).length : Nat)) s := by
    rw [eFn_s, lCons_s, es, Res.bind_ok, lNil_s, Res.bind_ok, Res.bind_ok]
    show Res.ofO s (if lenOk (natF v v) then some (PV.int ((natF v v).length : Nat)) else none) = _
    rw [lenOk_of (by unfold szl; omega)]
    rfl
  have t1 : Ev.tNot (tCh cLe cLt (eC (.int 1)) (eV 1) (eC c_MOST_FIGURES)) [some (.int (v : Nat)), some (.int (long : Nat)), none] s = .ok false s := by
    have e : tCh cLe cLt (eC (.int 1)) (eV 1) (eC c_MOST_FIGURES) [some (.int (v : Nat)), some (.int (long : Nat)), none] s = .ok true s := by
      unfold tCh
      rw [eC_s, Res.bind_ok, eV_s]
      show (match some (decide ((1 : Int) ≤ (long : Int))) with
        | some true => (eC c_MOST_FIGURES _ _).bind fun z s => Res.ofO s (cLt s (.int (long : Nat)) z)
        | some false => .ok false _
        | none => .bad) = _
      rw [decide_eq_true (show (1 : Int) ≤ (long : Int) by omega)]
      show Res.ofO s (some (decide ((long : Int) < 18))) = _
      rw [decide_eq_true (show (long : Int) < 18 by omega)]
      rfl
    rw [tNot_s, e]
    rfl
  have t2 : tCp cLt (eV 0) (eC (.int 0)) [some (.int (v : Nat)), some (.int (long : Nat)), none] s = .ok false s := by
    show Res.ofO s (some (decide ((v : Int) < 0))) = _
    rw [decide_eq_false (by omega)]
    rfl
  have t3 : tCp cGt (eFn bLen (lCons (eFn bStr (lCons (eV 0) lNil)) lNil)) (eV 1) [some (.int (v : Nat)), some (.int (long : Nat)), none] s = .ok false s := by
    rw [tCp_s, el, Res.bind_ok]
    show Res.ofO s (some (decide ((long : Int) < ((natF v v).length : Int)))) = _
    rw [decide_eq_false (by omega)]
    rfl
  have e2 : eOp oAdd (eOp oMulB (eC (.str [48])) (eOp oSub (eV 1) (eFn bLen (lCons (eFn bStr (lCons (eV 0) lNil)) lNil)))) (eFn bStr (lCons (eV 0) lNil)) [some (.int (v : Nat)), some (.int (long : Nat)), none] s = .ok (.str (tx long (zc long v))) s := by
    have q : eOp oMulB (eC (.str [48])) (eOp oSub (eV 1) (eFn bLen (lCons (eFn bStr (lCons (eV 0) lNil)) lNil))) [some (.int (v : Nat)), some (.int (long : Nat)), none] s = .ok (.str (List.replicate (long - (natF v v).length) 48)) s := by
      rw [eOp_s, eC_s, Res.bind_ok, eOp_s]
      show ((((eFn bLen _ _ s).bind _)).bind _) = _
      rw [el, Res.bind_ok]
      show Res.ofO s (oMulB s (.str [48]) (.int ((long : Int) - ((natF v v).length : Int)))) = _
      have e : (long : Int) - ((natF v v).length : Int) = ((long - (natF v v).length : Nat) : Int) := by omega
      have hk : long - (natF v v).length ≤ 12 := by omega
      rw [e]
      generalize long - (natF v v).length = k at hk
      have all : ∀ k ∈ List.range 13, oMulB s (.str [48]) (.int (k : Nat)) = some (.str (List.replicate k 48)) := all_map (by kernel_rfl)
      rw [all k (List.mem_range.mpr (by omega))]
      rfl
    rw [eOp_s, q, Res.bind_ok, es, Res.bind_ok, add_s s (by rw [List.length_replicate]; omega), ← z1]
    rfl
  have e3 : eCallF f_sum_of_card (lCons (eOp oAdd (eV 2) (eC (.str [48]))) lNil) [some (.int (v : Nat)), some (.int (long : Nat)), some (.str (tx long (zc long v)))] s = .ok (.int (CD (long + 1) fun i => if i < long then zc long v i else 48)) s := by
    have q : eOp oAdd (eV 2) (eC (.str [48])) [some (.int (v : Nat)), some (.int (long : Nat)), some (.str (tx long (zc long v)))] s = .ok (.str (tx (long + 1) fun i => if i < long then zc long v i else 48)) s := by
      show Res.ofO s (oAdd s (.str (tx long (zc long v))) (.str (tx 1 fun _ => 48))) = _
      rw [add_tx s _ _ (by omega)]
      rfl
    rw [eCallF_s, lCons_s, q, Res.bind_ok, lNil_s, Res.bind_ok, Res.bind_ok]
    refine card_ok (fun i hi => ?_) (by omega) (by omega) s
    show isD (if i < long then zc long v i else 48) = true
    split
    · rename_i q
      exact z2 i q
    · rfl
  rw [run]
  unfold b_made_card
  rw [sSeq_s, sIf_s, tOr_s, t1, Res.bind_ok, if_neg Bool.false_ne_true, tOr_s, t2, Res.bind_ok, if_neg Bool.false_ne_true, t3, Res.sbind_ok, if_neg Bool.false_ne_true, sNop_s, SRes.seq_nx, sSeq_s, sAsg_s, e2, Res.sbind_ok]
  show (SRes.seq (.nx [some (.int (v : Nat)), some (.int (long : Nat)), some (.str (tx long (zc long v)))] s) _).fn = _
  rw [SRes.seq_nx, sSeq_s, sRet_s]
  have e4 : eFn bStr (lCons (eOp oMod (eOp oSub (eC (.int 10)) (eOp oMod (eCallF f_sum_of_card (lCons (eOp oAdd (eV 2) (eC (.str [48]))) lNil)) (eC (.int 10)))) (eC (.int 10))) lNil) [some (.int (v : Nat)), some (.int (long : Nat)), some (.str (tx long (zc long v)))] s
      = .ok (.str [48 + ((10 - CD (long + 1) (fun i => if i < long then zc long v i else 48) % 10) % 10).toNat]) s := by
    rw [eFn_s, lCons_s, eOp_s, eOp_s, eC_s, Res.bind_ok, eOp_s, e3, Res.bind_ok]
    generalize CD (long + 1) (fun i => if i < long then zc long v i else 48) = S
    show Res.ofO s (bStr s [.int ((10 - S % 10) % 10)]) = _
    rw [str10 s (by omega) (by omega)]
    rfl
  rw [eOp_s, eV_s]
  show ((((eFn bStr _ _ s).bind _).sbind _).seq _).fn = _
  rw [e4, Res.bind_ok]
  have q : oAdd s (.str (tx long (zc long v))) (.str [48 + ((10 - CD (long + 1) (fun i => if i < long then zc long v i else 48) % 10) % 10).toNat]) = some (.str (tx (long + 1) (cc long (zc long v)))) := add_tx (n := long) (m := 1) s (zc long v) (fun _ => 48 + ((10 - CD (long + 1) (fun i => if i < long then zc long v i else 48) % 10) % 10).toNat) (by omega)
  rw [q]
  rfl
end K01
namespace K01
open Ev
theorem cut_l (s : Stt) {n : Nat} {c : Nat → Nat} (hn : n ≤ 900) : cutV s (.str (tx (n + 1) c)) none (some (-1)) = some (.str (tx n c)) := by
  show (if lenOk (tx (n + 1) c) then some (PV.str (cutL (tx (n + 1) c) none (some (-1)))) else none) = _
  rw [lenOk_of (by rw [tx_len]; unfold szl; omega), cut_last]
  rfl
theorem noc_ok {n : Nat} {c : Nat → Nat} (h : DD (n + 1) c) (h1 : 1 ≤ n) (h2 : n ≤ 17) (hc : CD (n + 1) c % 10 = 0) (s : Stt) : pureF f_number_of_card [.str (tx (n + 1) c)] s = .ok (.int (numV (tx n c) : Nat)) s := by
  refine pureF_ok (s2 := ⟨[]⟩) s rfl ?_ rfl
  generalize (⟨[]⟩ : Stt) = s
  have run : f_number_of_card [.str (tx (n + 1) c)] s = (b_number_of_card [some (.str (tx (n + 1) c))] s).fn := mkFn_e 1 1 b_number_of_card _ _ rfl
  have e1 : eCallF f_is_card (lCons (eV 0) lNil) [some (.str (tx (n + 1) c))] s = .ok (.bl true) s := by
    have q := isc_ok h (by omega) (by omega) s
    rw [hc] at q
    exact q
  have e2 : tCp cLt (eFn bLen (lCons (eV 0) lNil)) (eC (.int 2)) [some (.str (tx (n + 1) c))] s = .ok false s := by
    have q : eFn bLen (lCons (eV 0) lNil) [some (.str (tx (n + 1) c))] s = .ok (.int ((n + 1 : Nat) : Int)) s := by
      show Res.ofO s (bLen s [.str (tx (n + 1) c)]) = _
      rw [len_tx s c (by omega)]
      rfl
    rw [tCp_s, q, Res.bind_ok]
    show Res.ofO s (some (decide (((n + 1 : Nat) : Int) < 2))) = _
    rw [decide_eq_false (by omega)]
    rfl
  have e3 : eCut (eV 0) none (some (eNeg (eC (.int 1)))) [some (.str (tx (n + 1) c))] s = .ok (.str (tx n c)) s := by
    show Res.ofO s (cutV s (.str (tx (n + 1) c)) none (some (-1))) = _
    rw [cut_l s (by omega)]
    rfl
  rw [run]
  unfold b_number_of_card
  rw [sSeq_s, sIf_s, tOr_s, tNot_s, tE_s, e1, Res.bind_ok]
  show (((Res.bind (.ok false s) _).sbind _).seq _).fn = _
  rw [Res.bind_ok, if_neg Bool.false_ne_true, e2, Res.sbind_ok, if_neg Bool.false_ne_true, sNop_s, SRes.seq_nx, sSeq_s, sRet_s, eFn_s, lCons_s, e3, Res.bind_ok, lNil_s, Res.bind_ok, Res.bind_ok]
  rw [int_txt s (fun x hx => by
    obtain ⟨i, hi, rfl⟩ := tx_mem hx
    exact h i (by omega)) (by rw [tx_len]; exact h1) (by rw [tx_len]; omega)]
  rfl
/-! what the law asks of one changed figure -/
/-- the ten check is the law's -/
theorem ten_iff {c : Nat → Nat} (h : DD 9 c) (hl : (isD (c 9) || c 9 == 88) = true) : ([k10 (S10 9 c)] == [c 9]) = (T10 10 c % 11 == 0) := by
  have e : T10 10 c = S10 9 c + wv (c 9) := by
    unfold T10
    rw [SU_succ]
    have e1 : SU 9 (fun i => w10 i * wv (c i)) = S10 9 c := SU_ext fun i hi => by
      have : c i ≠ 88 := fun q => by
        have := h i hi
        rw [q] at this
        cases this
      unfold wv
      rw [if_neg this]
    rw [e1]
    show S10 9 c + w10 9 * wv (c 9) = _
    have : w10 9 = 1 := rfl
    rw [this, Int.one_mul]
  rw [e]
  generalize S10 9 c = S
  have hw := wv_le hl
  have e2 : ([k10 S] == [c 9]) = decide (k10 S = c 9) := by
    rw [Bool.eq_iff_iff]
    simp
  rw [e2, Bool.eq_iff_iff, decide_eq_true_eq, beq_iff_eq]
  unfold k10
  by_cases hx : c 9 = 88
  · have hv : wv (c 9) = 10 := by unfold wv; rw [if_pos hx]
    rw [hv, hx]
    split <;> omega
  · have hd : isD (c 9) = true := by
      rcases Bool.or_eq_true_iff.mp hl with q | q
      · exact q
      · exact absurd (by simpa using q) hx
    have hv : wv (c 9) = (c 9 : Int) - 48 := by unfold wv; rw [if_neg hx]; rfl
    have := isD_iff.mp hd
    rw [hv]
    split <;> omega
theorem thir_iff {c : Nat → Nat} (h : DD 13 c) : ([k13 (S13 12 c)] == [c 12]) = (S13 13 c % 10 == 0) := by
  have e : S13 13 c = S13 12 c + dv (c 12) := by
    unfold S13
    rw [SU_succ]
    show _ + w13 12 * dv (c 12) = _
    have : w13 12 = 1 := rfl
    rw [this, Int.one_mul]
  rw [e]
  generalize S13 12 c = S
  have := isD_iff.mp (h 12 (by omega))
  have e2 : ([k13 S] == [c 12]) = decide (k13 S = c 12) := by
    rw [Bool.eq_iff_iff]
    simp
  rw [e2, Bool.eq_iff_iff, decide_eq_true_eq, beq_iff_eq]
  unfold k13 dv
  omega
end K01
namespace K01
open Ev
/-! missing_figure -/
theorem repl1 (x z : Nat) : ∀ l : List Nat, replN [x] [z] l = l.map fun c => if c = x then z else c
  | [] => rfl
  | c :: r => by
    have q := repl1 x z r
    have e : replN [x] [z] (c :: r) = if (c :: r).take 1 = [x] then [z] ++ replN [x] [z] r else c :: replN [x] [z] r := rfl
    rw [e, q, List.map_cons]
    by_cases h : c = x
    · subst h
      rw [if_pos (by simp), if_pos rfl]
      rfl
    · rw [if_neg (by simpa using h), if_neg h]
def put (c : Nat → Nat) (k x : Nat) (i : Nat) : Nat := if i = k then x else c i
theorem repl_tx {n k z : Nat} {c : Nat → Nat} (h : ∀ i, i < n → i ≠ k → c i ≠ 63) : replN [63] [z] (tx n (put c k 63)) = tx n (put c k z) := by
  rw [repl1]
  unfold tx
  rw [List.map_map]
  refine List.map_congr_left fun i hi => ?_
  show (if put c k 63 i = 63 then z else put c k 63 i) = put c k z i
  unfold put
  by_cases hk : i = k
  · rw [if_pos hk, if_pos rfl, if_pos hk]
  · rw [if_neg hk, if_neg (h i (List.mem_range.mp hi) hk), if_neg hk]
theorem cnt_app (x y : Nat) : ∀ l : List Nat, cntL x (l ++ [y]) = cntL x l + if y == x then 1 else 0
  | [] => by
    show (if y == x then 0 + 1 else 0) = 0 + _
    split <;> rfl
  | d :: r => by
    have q := cnt_app x y r
    show (if d == x then cntL x (r ++ [y]) + 1 else cntL x (r ++ [y])) = (if d == x then cntL x r + 1 else cntL x r) + _
    rw [q]
    split <;> omega
theorem cnt_put {k : Nat} {c : Nat → Nat} : ∀ n, (∀ i, i < n → i ≠ k → c i ≠ 63) → cntL 63 (tx n (put c k 63)) = if k < n then 1 else 0
  | 0, _ => rfl
  | n + 1, h => by
    rw [tx_succ, cnt_app, cnt_put n fun i hi => h i (by omega)]
    unfold put
    by_cases hk : n = k
    · rw [if_pos hk, if_neg (show ¬ k < n by omega), if_pos (show k < n + 1 by omega)]
      rfl
    · have hc := h n (by omega) hk
      rw [if_neg hk]
      have e : (c n == 63) = false := beq_eq_false_iff_ne.mpr hc
      rw [e]
      by_cases h1 : k < n
      · rw [if_pos h1, if_pos (show k < n + 1 by omega)]
        rfl
      · rw [if_neg h1, if_neg (show ¬ k < n + 1 by omega)]
        rfl
theorem nat_ok {l : List Nat} (hl : ∀ x ∈ l, x ∈ CS) (hz : l.length ≤ 1000) (s : Stt) : pureF f_is_number_at_all [.str l] s = .ok (.bl (good (l.filter kp))) s := by
  refine pureF_ok (s2 := ⟨[]⟩) s rfl ?_ rfl
  generalize (⟨[]⟩ : Stt) = s
  have run : f_is_number_at_all [.str l] s = (b_is_number_at_all [some (.str l)] s).fn := mkFn_e 1 1 b_is_number_at_all _ _ rfl
  have e1 : eCallF f_figures_of (lCons (eV 0) lNil) [some (.str l)] s = if good (l.filter kp) then .ok (.str (l.filter kp)) s else .err 1 s := fig_ok hl hz s
  rw [run]
  unfold b_is_number_at_all
  rw [sSeq_s]
  unfold sTry
  rw [sSeq_s, sExpr_s, e1]
  cases good (l.filter kp) <;> rfl
end K01
namespace K01
open Ev
/-! missing_figure: the loop -/
def SG : List Nat := [48, 49, 50, 51, 52, 53, 54, 55, 56, 57, 88]
theorem SG_dx : ∀ x ∈ SG, (isD x || x == 88) = true := by decide
def Fm (c : Nat → Nat) (k x : Nat) : Bool := (!(x == 88) || k == 9) && (T10 10 (put c k x) % 11 == 0)
theorem good_not {n k : Nat} {c : Nat → Nat} (hk : k < n) (h : isD (c k) = false) : good (tx (n + 1) c) = false := by
  unfold good
  rw [tx_succ, List.dropLast_concat]
  have e : ((tx n c).any fun x => !(isD x)) = true := List.any_eq_true.mpr ⟨c k, List.mem_map.mpr ⟨k, List.mem_range.mpr hk, rfl⟩, by rw [h]; rfl⟩
  rw [e]
  simp
theorem put_dx {c : Nat → Nat} {k x : Nat} (h : DX 10 c) (hx : (isD x || x == 88) = true) : DX 10 (put c k x) := fun i hi => by
  unfold put
  split
  · exact hx
  · exact h i hi
theorem put_d9 {c : Nat → Nat} {k x : Nat} (h : DD 9 c) (hx : isD x = true ∨ k = 9) : DD 9 (put c k x) := fun i hi => by
  unfold put
  split
  · rename_i e
    rcases hx with q | q
    · exact q
    · omega
  · exact h i hi
/-- one sign is tried -/
theorem try_ok {c : Nat → Nat} {k x : Nat} (hk : k < 10) (h : DD 9 c) (hX : DX 10 c) (hx : x ∈ SG) (ρ : Env) (s : Stt) (h3 : ρ[3]? = some (some (.str (tx 10 (put c k x))))) :
    Ev.tAnd (tE (eCallF f_is_number_at_all (lCons (eV 3) lNil))) (tE (eCallF f_is_book_number (lCons (eV 3) lNil))) ρ s = .ok (Fm c k x) s := by
  have dx := put_dx (k := k) hX (SG_dx x hx)
  have t : Txt (tx 10 (put c k x)) 10 (put c k x) := Txt.self (by omega) dx
  have e1 : eCallF f_is_number_at_all (lCons (eV 3) lNil) ρ s = .ok (.bl (good (tx 10 (put c k x)))) s := by
    rw [eCallF_s, lCons_s, eV_s, h3, Res.var_some, Res.bind_ok, lNil_s, Res.bind_ok, Res.bind_ok, nat_ok t.cs t.len, t.f]
  rw [tAnd_s, tE_s, e1, Res.bind_ok]
  show (Res.ok (good (tx 10 (put c k x))) s).bind _ = _
  rw [Res.bind_ok]
  unfold Fm
  by_cases hg : (!(x == 88) || k == 9) = true
  · have hd : isD x = true ∨ k = 9 := by
      rcases Bool.or_eq_true_iff.mp hg with q | q
      · rcases Bool.or_eq_true_iff.mp (SG_dx x hx) with r | r
        · exact .inl r
        · rw [r] at q; cases q
      · exact .inr (by simpa using q)
    have d9 := put_d9 h hd
    have g : good (tx 10 (put c k x)) = true := good_tx d9 (dx 9 (by omega))
    have b := book10 t d9 (dx 9 (by omega)) s
    rw [ten_iff d9 (dx 9 (by omega))] at b
    rw [g, if_pos rfl, tE_s, eCallF_s, lCons_s, eV_s, h3, Res.var_some, Res.bind_ok, lNil_s, Res.bind_ok, Res.bind_ok, b, hg, Res.bind_ok]
    rfl
  · have hx8 : x = 88 ∧ k ≠ 9 := by
      have : (!(x == 88) || k == 9) = false := by simpa using hg
      rw [Bool.or_eq_false_iff] at this
      exact ⟨by simpa using this.1, by simpa using this.2⟩
    have g : good (tx 10 (put c k x)) = false := good_not (n := 9) (k := k) (by omega) (by
      unfold put
      rw [if_pos rfl, hx8.1]
      rfl)
    have e0 : (!(x == 88) || k == 9) = false := by simpa using hg
    rw [g, e0, if_neg Bool.false_ne_true]
    rfl
theorem miss_ok {c : Nat → Nat} {k : Nat} (hk : k < 10) (h : DD 9 c) (hl : (isD (c 9) || c 9 == 88) = true) (s : Stt) : pureF f_missing_figure [.str (tx 10 (put c k 63))] s = .ok (.tup ((SG.filter (Fm c k)).map fun x => .str [x])) s := by
  have hX : DX 10 c := fun i hi => by
    by_cases h9 : i = 9
    · rw [h9]; exact hl
    · rw [h i (by omega)]; rfl
  have n63 : ∀ i, i < 10 → i ≠ k → c i ≠ 63 := fun i hi _ q => by
    have := hX i hi
    rw [q] at this
    cases this
  have run : f_missing_figure [.str (tx 10 (put c k 63))] ⟨[]⟩ = (b_missing_figure [some (.str (tx 10 (put c k 63))), none, none, none] ⟨[]⟩).fn := mkFn_e 4 1 b_missing_figure _ _ rfl
  have t1 : tCp cNe (eM1 mCount (eV 0) (eC (.str [63]))) (eC (.int 1)) [some (.str (tx 10 (put c k 63))), none, none, none] ⟨[]⟩ = .ok false ⟨[]⟩ := by
    show Res.ofO _ (some (!((cntL 63 (tx 10 (put c k 63)) : Int) == 1))) = _
    rw [cnt_put 10 n63, if_pos hk]
    rfl
  have rep : ∀ x ∈ SG, repOk (tx 10 (put c k 63)) [63] [x] = true := by
    intro x hx
    unfold repOk
    rw [tx_len]
    have all : ∀ x ∈ SG, (Nat.ble 1 [63].length && (!([63] == [x]) && Nat.ble (10 + (10 + 1) * [x].length) szl)) = true := by decide
    exact all x hx
  have e1 : eCallF f_figures_of (lCons (eRepC (eV 0) [63] [48]) lNil) [some (.str (tx 10 (put c k 63))), none, none, none] ⟨[]⟩ = .ok (.str (tx 10 (put c k 48))) ⟨[]⟩ := by
    have q : eRepC (eV 0) [63] [48] [some (.str (tx 10 (put c k 63))), none, none, none] ⟨[]⟩ = .ok (.str (tx 10 (put c k 48))) ⟨[]⟩ := by
      show (if repOk (tx 10 (put c k 63)) [63] [48] then Res.ok (PV.str (replN [63] [48] (tx 10 (put c k 63)))) ⟨[]⟩ else .bad) = _
      rw [rep 48 (by decide), if_pos rfl, repl_tx n63]
    rw [eCallF_s, lCons_s, q, Res.bind_ok, lNil_s, Res.bind_ok, Res.bind_ok]
    exact (Txt.self (by omega) (put_dx hX (by decide))).fig (put_d9 h (.inl (by decide))) (put_dx (k := k) hX (x := 48) (by decide) 9 (by omega)) _
  obtain ⟨ρ', s', e, ⟨z2, z3, rfl⟩, q⟩ := forV_acc (l := SG.map fun x => .str [x]) (f := fun _ => some (SG.map fun x => .str [x])) (g := Ev.gN 2)
    (b := sSeq (sAsg (Ev.gN 3) (eRepV 0 2 [63])) (sSeq (sIf (Ev.tAnd (tE (eCallF f_is_number_at_all (lCons (eV 3) lNil))) (tE (eCallF f_is_book_number (lCons (eV 3) lNil)))) (sSeq (sExpr (eApp (eV 1) (eV 2))) sNop) sNop) sNop))
    (P := fun j ρ s => (∃ z2 z3, ρ = [some (.str (tx 10 (put c k 63))), some (.ref 0), z2, z3]) ∧ s.objs[0]? = some (.lst (((SG.take j).filter (Fm c k)).map fun x => .str [x])))
    (fun _ => rfl) (fun j x ρ s hx hP => by
      obtain ⟨⟨z2, z3, rfl⟩, h0⟩ := hP
      rw [List.getElem?_map] at hx
      obtain ⟨y, hy, rfl⟩ := Option.map_eq_some_iff.mp hx
      obtain ⟨hj, hyj⟩ := List.getElem?_eq_some_iff.mp hy
      have ym : y ∈ SG := by rw [← hyj]; exact List.getElem_mem hj
      have tk : SG.take (j + 1) = SG.take j ++ [y] := by rw [List.take_succ, hy]; rfl
      have r : eRepV 0 2 [63] [some (.str (tx 10 (put c k 63))), some (.ref 0), some (.str [y]), z3] s = .ok (.str (tx 10 (put c k y))) s := by
        show (if repOk (tx 10 (put c k 63)) [63] [y] then Res.ok (PV.str (replN [63] [y] (tx 10 (put c k 63)))) s else .bad) = _
        rw [rep y ym, if_pos rfl, repl_tx n63]
      have t := try_ok hk h hX ym [some (.str (tx 10 (put c k 63))), some (.ref 0), some (.str [y]), some (.str (tx 10 (put c k y)))] s rfl
      have run1 : ∀ b : Sx, (sSeq (sAsg (Ev.gN 3) (eRepV 0 2 [63])) b) [some (.str (tx 10 (put c k 63))), some (.ref 0), some (.str [y]), z3] s = b [some (.str (tx 10 (put c k 63))), some (.ref 0), some (.str [y]), some (.str (tx 10 (put c k y)))] s := fun b => by
        rw [sSeq_s, sAsg_s, r]
        rfl
      cases hF : Fm c k y with
      | false =>
        refine ⟨[some (.str (tx 10 (put c k 63))), some (.ref 0), some (.str [y]), z3], [some (.str (tx 10 (put c k 63))), some (.ref 0), some (.str [y]), some (.str (tx 10 (put c k y)))], s, rfl, ?_, ⟨_, _, rfl⟩, ?_⟩
        · rw [run1, sSeq_s, sIf_s, t, Res.sbind_ok, hF]
          rfl
        · rw [tk, List.filter_append, List.filter_cons, hF]
          simpa using h0
      | true =>
        have hlen : (((SG.take j).filter (Fm c k)).map fun x => PV.str [x]).length ≤ 11 := by
          rw [List.length_map]
          refine Nat.le_trans (List.length_filter_le ..) ?_
          rw [List.length_take]
          exact Nat.min_le_right ..
        refine ⟨[some (.str (tx 10 (put c k 63))), some (.ref 0), some (.str [y]), z3], [some (.str (tx 10 (put c k 63))), some (.ref 0), some (.str [y]), some (.str (tx 10 (put c k y)))], s.set 0 (.lst ((((SG.take j).filter (Fm c k)).map fun x => .str [x]) ++ [.str [y]])), rfl, ?_, ⟨_, _, rfl⟩, ?_⟩
        · rw [run1, sSeq_s, sIf_s, t, Res.sbind_ok, hF, if_pos rfl]
          have a : eApp (eV 1) (eV 2) [some (.str (tx 10 (put c k 63))), some (.ref 0), some (.str [y]), some (.str (tx 10 (put c k y)))] s = .ok .non (s.set 0 (.lst ((((SG.take j).filter (Fm c k)).map fun x => .str [x]) ++ [.str [y]]))) := by
            unfold eApp
            rw [eV_s]
            simp only [List.getElem?_cons_succ, List.getElem?_cons_zero, Res.var_some, Res.bind_ok, h0, eV_s]
            rw [if_pos (show Nat.blt _ szl = true from Nat.ble_eq_true_of_le (by unfold szl; omega))]
          rw [sSeq_s, sExpr_s, a]
          rfl
        · rw [get_set h0, tk, List.filter_append, List.filter_cons, hF]
          simp) 11 0 [some (.str (tx 10 (put c k 63))), some (.ref 0), none, none] ⟨[.lst []]⟩ rfl ⟨⟨none, none, rfl⟩, rfl⟩
  have q' : s'.objs[0]? = some (.lst ((SG.filter (Fm c k)).map fun x => .str [x])) := q
  have tl : sRet (eFn bTuple (lCons (eV 1) lNil)) [some (.str (tx 10 (put c k 63))), some (.ref 0), z2, z3] s' = .rt (.tup ((SG.filter (Fm c k)).map fun x => .str [x])) s' := by
    rw [sRet_s, eFn_s, lCons_s]
    show (Res.ofO s' (bTuple s' [.ref 0])).sbind _ = _
    have b : bTuple s' [.ref 0] = some (.tup ((SG.filter (Fm c k)).map fun x => .str [x])) := by
      unfold bTuple
      simp only [Stt.lst?, Stt.seq?, q']
      rfl
    rw [b]
    rfl
  have nr : ∀ l : List Nat, nrPs (l.map fun x => PV.str [x]) = true := fun l => by
    induction l with
    | nil => rfl
    | cons x l ih => show (true && nrPs (l.map fun x => PV.str [x])) = true; rw [ih]; rfl
  refine pureF_ok (s2 := s') s rfl ?_ (nr _)
  rw [run]
  unfold b_missing_figure
  rw [sSeq_s, chk_nx t1, SRes.seq_nx, sSeq_s, sExpr_s, e1, Res.sbind_ok, SRes.seq_nx, sSeq_s]
  show (SRes.seq (.nx [some (.str (tx 10 (put c k 63))), some (.ref 0), none, none] ⟨[.lst []]⟩) _).fn = _
  rw [SRes.seq_nx, sSeq_s]
  have e' : sForRep 2 3 0 [63] (eOp oAdd (eC c_FIGURES) (eC (.str [88]))) (sSeq (sIf (Ev.tAnd (tE (eCallF f_is_number_at_all (lCons (eV 3) lNil))) (tE (eCallF f_is_book_number (lCons (eV 3) lNil)))) (sSeq (sExpr (eApp (eV 1) (eV 2))) sNop) sNop) sNop) [some (.str (tx 10 (put c k 63))), some (.ref 0), none, none] ⟨[.lst []]⟩ = .nx [some (.str (tx 10 (put c k 63))), some (.ref 0), z2, z3] s' := e
  rw [e', SRes.seq_nx, sSeq_s, tl]
  rfl
end K01
namespace K01
open Ev
/-! rolled figures -/
theorem roll_eq : f_law_roll = rollF := rfl
theorem rounds_eq : f_law_rounds = roundsF := rfl
theorem pick_dg : ∀ {ys : List PV}, (∀ y ∈ ys, ∃ x, isD x = true ∧ y = .str [x]) → ∃ l : List Nat, ys = l.map (fun x => .str [x]) ∧ ∀ x ∈ l, isD x = true
  | [], _ => ⟨[], rfl, fun x hx => by cases hx⟩
  | y :: ys, h => by
    obtain ⟨x, hx, rfl⟩ := h y (List.mem_cons_self ..)
    obtain ⟨l, rfl, hl⟩ := pick_dg (ys := ys) fun z hz => h z (List.mem_cons_of_mem _ hz)
    exact ⟨x :: l, rfl, fun z hz => by
      cases hz with
      | head => exact hx
      | tail _ hz => exact hl z hz⟩
theorem lfig_ok {i m : Nat} {s : Stt} (h : Dz i s) (hm : m ≤ 100) : ∃ c s', f_law_figures [.ref i, .int (m : Nat)] s = .ok (.str (tx m c)) s' ∧ DD m c ∧ Dz i s' := by
  have run : f_law_figures [.ref i, .int (m : Nat)] s = (b_law_figures [some (.ref i), some (.int (m : Nat)), none] s).fn := mkFn_e 3 2 b_law_figures _ _ rfl
  obtain ⟨ys, s2, e, hl, hr, dz⟩ := eComp_inv (P := fun s => Dz i s) (R := fun y => ∃ x, isD x = true ∧ y = .str [x]) (own := [2]) (g := Ev.gN 2) (src := iRange1 (eV 1)) (e := eFn bStr (lCons (eCall f_law_roll (lCons (eV 0) (lCons (eC (.int 10)) lNil))) lNil)) (ρ := [some (.ref i), some (.int (m : Nat)), none]) (s := s)
    (iRange1_ok (a := eV 1) (j := (m : Nat)) rfl (by omega) (by omega)) (fun _ => rfl) (by rw [rng_len]; unfold szl; omega) h fun x hx s1 hs => by
      obtain ⟨v, s3, e, v0, v1, d⟩ := eRoll (F := f_law_roll) (d := eV 0) (ρ := ([some (.ref i), some (.int (m : Nat)), none] : Env).set 2 (some x)) (m := 10) roll_eq rfl hs (by omega) (by omega)
      refine ⟨[some (.ref i), some (.int (m : Nat)), some x], .str [48 + v.toNat], s3, rfl, ?_, d, 48 + v.toNat, by rw [isD_iff]; omega, rfl⟩
      have e' : eCall f_law_roll (lCons (eV 0) (lCons (eC (.int 10)) lNil)) [some (.ref i), some (.int (m : Nat)), some x] s1 = .ok (.int v) s3 := e
      rw [eFn_s, lCons_s, e', Res.bind_ok, lNil_s, Res.bind_ok, Res.bind_ok, str10 s3 v0 v1]
      rfl
  obtain ⟨l, rfl, hd⟩ := pick_dg hr
  rw [rng_len, List.length_map] at hl
  have hl' : l.length = m := by omega
  refine ⟨fun i => l.getD i 0, s2, ?_, fun i hi => ?_, dz⟩
  · have q := tx_of l
    rw [hl'] at q
    rw [run]
    unfold b_law_figures
    rw [sSeq_s, sRet_s, eM1_s, eC_s, Res.bind_ok]
    simp only [e, Res.bind_ok, join1 s2 (show l.length ≤ 1000 by omega), Res.ofO_some]
    rw [← q]
    rfl
  · have : i < l.length := by omega
    show isD (l.getD i 0) = true
    have e : l.getD i 0 = l[i] := by simp [List.getD, this]
    rw [e]
    exact hd _ (List.getElem_mem this)
end K01
namespace K01
open Ev
/-! one figure changed -/
theorem put_same (c : Nat → Nat) (k x : Nat) : put c k x k = x := if_pos rfl
theorem put_ne {c : Nat → Nat} {k x i : Nat} (h : i ≠ k) : put c k x i = c i := if_neg h
theorem wv_inj {x y : Nat} (hx : (isD x || x == 88) = true) (hy : (isD y || y == 88) = true) (h : wv x = wv y) : x = y := by
  unfold wv dv at h
  have gx : x = 88 ∨ (48 ≤ x ∧ x ≤ 57) := by
    rcases Bool.or_eq_true_iff.mp hx with q | q
    · exact .inr (isD_iff.mp q)
    · exact .inl (by simpa using q)
  have gy : y = 88 ∨ (48 ≤ y ∧ y ≤ 57) := by
    rcases Bool.or_eq_true_iff.mp hy with q | q
    · exact .inr (isD_iff.mp q)
    · exact .inl (by simpa using q)
  split at h <;> split at h <;> omega
theorem ten_diff {c : Nat → Nat} {k x : Nat} (hk : k < 10) : T10 10 (put c k x) = T10 10 c + (w10 k * wv x - w10 k * wv (c k)) := by
  unfold T10
  rw [SU_set (n := 10) (k := k) (g := fun i => w10 i * wv (c i)) hk fun i hi hne => by rw [put_ne hne]]
  simp only [put_same]
theorem ten_odd {c : Nat → Nat} {k x : Nat} (hk : k < 10) (hX : DX 10 c) (hx : (isD x || x == 88) = true) (h0 : T10 10 c % 11 = 0) (h1 : T10 10 (put c k x) % 11 = 0) : x = c k := by
  rw [ten_diff hk] at h1
  have a := wv_le hx
  have b := wv_le (hX k hk)
  refine wv_inj hx (hX k hk) ?_
  generalize T10 10 c = T at h0 h1
  generalize wv x = u at a h1 ⊢
  generalize wv (c k) = v at b h1 ⊢
  have hw : w10 k = 10 ∨ w10 k = 9 ∨ w10 k = 8 ∨ w10 k = 7 ∨ w10 k = 6 ∨ w10 k = 5 ∨ w10 k = 4 ∨ w10 k = 3 ∨ w10 k = 2 ∨ w10 k = 1 := by
    unfold w10
    omega
  rcases hw with e | e | e | e | e | e | e | e | e | e <;> rw [e] at h1 <;> omega
theorem dv_inj {x y : Nat} (hx : isD x = true) (hy : isD y = true) (h : dv x = dv y) : x = y := by
  have := isD_iff.mp hx
  have := isD_iff.mp hy
  unfold dv at h
  omega
theorem thir_odd {c : Nat → Nat} {k x : Nat} (hk : k < 13) (hD : DD 13 c) (hx : isD x = true) (h0 : S13 13 c % 10 = 0) (h1 : S13 13 (put c k x) % 10 = 0) : x = c k := by
  have e : S13 13 (put c k x) = S13 13 c + (w13 k * dv x - w13 k * dv (c k)) := by
    unfold S13
    rw [SU_set (n := 13) (k := k) (g := fun i => w13 i * dv (c i)) hk fun i hi hne => by rw [put_ne hne]]
    simp only [put_same]
  rw [e] at h1
  have a := dv_le hx
  have b := dv_le (hD k hk)
  refine dv_inj hx (hD k hk) ?_
  generalize S13 13 c = T at h0 h1
  generalize dv x = u at a h1 ⊢
  generalize dv (c k) = v at b h1 ⊢
  unfold w13 at h1
  split at h1 <;> omega
theorem cw_inj {k : Nat} {u v : Int} (a : 0 ≤ u ∧ u ≤ 9) (b : 0 ≤ v ∧ v ≤ 9) (h : (cw k u - cw k v) % 10 = 0) : u = v := by
  unfold cw at h
  by_cases hp : k % 2 = 1
  · simp only [hp, if_true] at h
    split at h <;> split at h <;> omega
  · simp only [hp, if_false] at h
    split at h <;> split at h <;> omega
theorem card_odd {n : Nat} {c : Nat → Nat} {k x : Nat} (hk : k < n) (hD : DD n c) (hx : isD x = true) (h0 : CD n c % 10 = 0) (h1 : CD n (put c k x) % 10 = 0) : x = c k := by
  have e : CD n (put c k x) = CD n c + (cw (n - 1 - k) (dv x) - cw (n - 1 - k) (dv (c k))) := by
    unfold CD
    rw [SU_set (n := n) (k := n - 1 - k) (g := fun i => cw i (dv (c (n - 1 - i)))) (by omega) fun i hi hne => by rw [put_ne (by omega)]]
    have q : n - 1 - (n - 1 - k) = k := by omega
    simp only [q, put_same]
  rw [e] at h1
  exact dv_inj hx (hD k hk) (cw_inj (dv_le hx) (dv_le (hD k hk)) (k := n - 1 - k) (by omega))
end K01
namespace K01
open Ev
/-! sorting texts, and leaving some out -/
theorem lt_cons (a b : Nat) (as bs : List Nat) : ltN (a :: as) (b :: bs) = false ↔ b < a ∨ (a = b ∧ ltN as bs = false) := by
  have e : ltN (a :: as) (b :: bs) = if Nat.blt a b then true else if a == b then ltN as bs else false := rfl
  rw [e]
  by_cases h : a < b
  · rw [if_pos (show Nat.blt a b = true from Nat.ble_eq_true_of_le h)]
    constructor
    · intro q; cases q
    · intro q; omega
  · rw [if_neg (show ¬ Nat.blt a b = true from fun q => h (Nat.le_of_ble_eq_true q))]
    by_cases h2 : a = b
    · rw [if_pos (by simpa using h2)]
      exact ⟨fun q => .inr ⟨h2, q⟩, fun q => q.elim (fun r => by omega) fun r => r.2⟩
    · rw [if_neg (by simpa using h2)]
      exact ⟨fun _ => .inl (by omega), fun _ => rfl⟩
theorem ltN_trans : ∀ {a b c : List Nat}, ltN b a = false → ltN c b = false → ltN c a = false
  | [], _, [], _, _ => rfl
  | [], [], _ :: _, _, _ => rfl
  | [], _ :: _, _ :: _, _, _ => rfl
  | _ :: _, [], _, h, _ => by cases h
  | _ :: _, _ :: _, [], _, h => by cases h
  | a :: as, b :: bs, c :: cs, h1, h2 => by
    rw [lt_cons] at h1 h2 ⊢
    rcases h1 with h1 | ⟨h1, q1⟩
    · rcases h2 with h2 | ⟨h2, q2⟩
      · exact .inl (by omega)
      · exact .inl (by omega)
    · rcases h2 with h2 | ⟨h2, q2⟩
      · exact .inl (by omega)
      · exact .inr ⟨by omega, ltN_trans q1 q2⟩
theorem ltN_asymm : ∀ {a b : List Nat}, ltN a b = true → ltN b a = false
  | [], [], h => by cases h
  | [], _ :: _, _ => rfl
  | _ :: _, [], h => by cases h
  | a :: as, b :: bs, h => by
    rw [lt_cons]
    have e : ltN (a :: as) (b :: bs) = if Nat.blt a b then true else if a == b then ltN as bs else false := rfl
    rw [e] at h
    by_cases q : a < b
    · exact .inl q
    · rw [if_neg (show ¬ Nat.blt a b = true from fun r => q (Nat.le_of_ble_eq_true r))] at h
      by_cases h2 : a = b
      · rw [if_pos (by simpa using h2)] at h
        exact .inr ⟨h2.symm, ltN_asymm h⟩
      · rw [if_neg (by simpa using h2)] at h
        cases h
/-- in order: nothing later is less -/
def Ord : List (List Nat) → Prop
  | [] => True
  | x :: l => (∀ y ∈ l, ltN y x = false) ∧ Ord l
def ofS (l : List (List Nat)) : List PV := l.map .str
def insN (x : List Nat) : List (List Nat) → List (List Nat)
  | [] => [x]
  | y :: ys => if ltN y x then y :: insN x ys else x :: y :: ys
def srtN : List (List Nat) → List (List Nat)
  | [] => []
  | x :: xs => insN x (srtN xs)
theorem insP_strs (x : List Nat) : ∀ l, insP (.str x) (ofS l) = ofS (insN x l)
  | [] => rfl
  | y :: ys => by
    show (if ltN y x then PV.str y :: insP (.str x) (ofS ys) else PV.str x :: PV.str y :: ofS ys) = ofS (if ltN y x then y :: insN x ys else x :: y :: ys)
    rw [insP_strs x ys]
    split <;> rfl
theorem srtP_strs : ∀ l, srtP (ofS l) = ofS (srtN l)
  | [] => rfl
  | x :: xs => by
    show insP (.str x) (srtP (ofS xs)) = _
    rw [srtP_strs xs, insP_strs]
    rfl
theorem insN_mem {x z : List Nat} : ∀ {l}, z ∈ insN x l → z = x ∨ z ∈ l
  | [], h => .inl (List.mem_singleton.mp h)
  | y :: ys, h => by
    unfold insN at h
    split at h
    · rcases List.mem_cons.mp h with q | q
      · exact .inr (q ▸ List.mem_cons_self ..)
      · exact (insN_mem q).imp id fun r => List.mem_cons_of_mem _ r
    · exact List.mem_cons.mp h
theorem insN_ord (x : List Nat) : ∀ {l}, Ord l → Ord (insN x l)
  | [], _ => ⟨(fun y hy => by cases hy), trivial⟩
  | y :: ys, ⟨h1, h2⟩ => by
    unfold insN
    by_cases h : ltN y x = true
    · rw [if_pos h]
      exact ⟨fun z hz => (insN_mem hz).elim (fun e => e ▸ ltN_asymm h) (h1 z), insN_ord x h2⟩
    · rw [if_neg h]
      have h' : ltN y x = false := by simpa using h
      exact ⟨fun z hz => (List.mem_cons.mp hz).elim (fun e => e ▸ h') fun q => ltN_trans h' (h1 z q), h1, h2⟩
theorem srtN_ord : ∀ l, Ord (srtN l)
  | [] => trivial
  | x :: xs => insN_ord x (srtN_ord xs)
theorem insN_first {x : List Nat} : ∀ {l : List (List Nat)}, (∀ y ∈ l, ltN y x = false) → insN x l = x :: l
  | [], _ => rfl
  | y :: ys, h => by
    unfold insN
    rw [if_neg (by rw [h y (List.mem_cons_self ..)]; decide)]
theorem insN_filter (c : List Nat → Bool) (x : List Nat) : ∀ {l}, Ord l → (insN x l).filter c = if c x then insN x (l.filter c) else l.filter c
  | [], _ => by
    show ([x].filter c) = _
    rw [List.filter_cons]
    rfl
  | y :: ys, ⟨h1, h2⟩ => by
    by_cases h : ltN y x = true
    · have e : insN x (y :: ys) = y :: insN x ys := (show (if ltN y x then y :: insN x ys else x :: y :: ys) = _ from if_pos h)
      rw [e, List.filter_cons, insN_filter c x h2, List.filter_cons]
      by_cases hx : c x = true
      · rw [if_pos hx, if_pos hx]
        by_cases hy : c y = true
        · rw [if_pos hy, if_pos hy]
          show y :: insN x (ys.filter c) = if ltN y x then y :: insN x (ys.filter c) else _
          rw [if_pos h]
        · rw [if_neg hy, if_neg hy]
      · rw [if_neg hx, if_neg hx]
    · have h' : ltN y x = false := by simpa using h
      have all : ∀ z ∈ y :: ys, ltN z x = false := fun z hz => (List.mem_cons.mp hz).elim (fun e => e ▸ h') fun q => ltN_trans h' (h1 z q)
      rw [insN_first all, List.filter_cons]
      by_cases hx : c x = true
      · rw [if_pos hx, if_pos hx, insN_first fun z hz => all z (List.mem_filter.mp hz).1]
      · rw [if_neg hx, if_neg hx]
/-- leaving out, then sorting: sorting, then leaving out -/
theorem srtN_filter (c : List Nat → Bool) : ∀ l, srtN (l.filter c) = (srtN l).filter c
  | [] => rfl
  | x :: xs => by
    show _ = (insN x (srtN xs)).filter c
    rw [insN_filter c x (srtN_ord xs), ← srtN_filter c xs, List.filter_cons]
    split <;> rfl
end K01
namespace K01
open Ev
/-! one sign alone checks -/
theorem one10 : ∀ r ∈ List.range 11, SG.filter (fun x => ((r : Int) + wv x) % 11 == 0) = [k10 (r : Int)] := all_map (by decide +kernel)
theorem one13 : ∀ r ∈ List.range 10, DGs.filter (fun x => ((r : Int) + dv x) % 10 == 0) = [k13 (r : Int)] := all_map (by decide +kernel)
theorem only10 (S : Int) : SG.filter (fun x => (S + wv x) % 11 == 0) = [k10 S] := by
  have q := one10 (S % 11).toNat (List.mem_range.mpr (by omega))
  have e : (((S % 11).toNat : Nat) : Int) = S % 11 := by omega
  rw [e] at q
  have e2 : k10 (S % 11) = k10 S := by
    unfold k10
    rw [Int.emod_emod_of_dvd S (by decide : (11 : Int) ∣ 11)]
  rw [← e2, ← q]
  refine List.filter_congr fun x _ => ?_
  congr 1
  omega
theorem only13 (S : Int) : DGs.filter (fun x => (S + dv x) % 10 == 0) = [k13 S] := by
  have q := one13 (S % 10).toNat (List.mem_range.mpr (by omega))
  have e : (((S % 10).toNat : Nat) : Int) = S % 10 := by omega
  rw [e] at q
  have e2 : k13 (S % 10) = k13 S := by
    unfold k13
    rw [Int.emod_emod_of_dvd S (by decide : (10 : Int) ∣ 10)]
  rw [← e2, ← q]
  refine List.filter_congr fun x _ => ?_
  congr 1
  omega
/-- nine figures and a sign -/
theorem T10_add {c : Nat → Nat} (h : DD 9 c) (x : Nat) : T10 10 (put c 9 x) = S10 9 c + wv x := by
  unfold T10
  rw [SU_succ]
  have e1 : SU 9 (fun i => w10 i * wv (put c 9 x i)) = S10 9 c := SU_ext fun i hi => by
    rw [put_ne (by omega)]
    have : c i ≠ 88 := fun q => by
      have := h i hi
      rw [q] at this
      cases this
    unfold wv
    rw [if_neg this]
  rw [e1, put_same]
  show S10 9 c + w10 9 * wv x = _
  rw [show w10 9 = 1 from rfl, Int.one_mul]
theorem S13_add (c : Nat → Nat) (x : Nat) : S13 13 (put c 12 x) = S13 12 c + dv x := by
  unfold S13
  rw [SU_succ]
  have e1 : SU 12 (fun i => w13 i * dv (put c 12 x i)) = SU 12 fun i => w13 i * dv (c i) := SU_ext fun i hi => by rw [put_ne (by omega)]
  rw [e1, put_same]
  show _ + w13 12 * dv x = _
  rw [show w13 12 = 1 from rfl, Int.one_mul]
theorem fits10 {c : Nat → Nat} (h : DD 9 c) : SG.filter (fun x => T10 10 (put c 9 x) % 11 == 0) = [k10 (S10 9 c)] := by
  rw [← only10]
  exact List.filter_congr fun x _ => by rw [T10_add h]
theorem fits13 (c : Nat → Nat) : DGs.filter (fun x => S13 13 (put c 12 x) % 10 == 0) = [k13 (S13 12 c)] := by
  rw [← only13]
  exact List.filter_congr fun x _ => by rw [S13_add]
end K01
namespace K01
open Ev
/-! texts with one figure put in, with two changed about -/
theorem put_tx {n k : Nat} {c : Nat → Nat} (x : Nat) (h : k < n) : (tx k c ++ [x]) ++ tx (n - (k + 1)) (fun i => c (k + 1 + i)) = tx n (put c k x) := by
  rw [tx_one x, tx_app, tx_app, show k + 1 + (n - (k + 1)) = n by omega]
  refine tx_ext fun i hi => ?_
  unfold put
  by_cases h1 : i < k
  · rw [if_pos (by omega), if_pos h1, if_neg (by omega)]
  · by_cases h2 : i = k
    · rw [if_pos (by omega), if_neg h1, if_pos h2]
    · rw [if_neg (by omega), if_neg h2]
      congr 1
      omega
def swp (c : Nat → Nat) (k i : Nat) : Nat := if i = k then c (k + 1) else if i = k + 1 then c k else c i
theorem swp_tx {n k : Nat} {c : Nat → Nat} (h : k + 1 < n) : ((tx k c ++ [c (k + 1)]) ++ [c k]) ++ tx (n - (k + 2)) (fun i => c (k + 2 + i)) = tx n (swp c k) := by
  rw [tx_one (c (k + 1)), tx_one (c k), tx_app, tx_app, tx_app, show k + 1 + 1 + (n - (k + 2)) = n by omega]
  refine tx_ext fun i hi => ?_
  unfold swp
  by_cases h1 : i < k
  · rw [if_pos (by omega), if_pos (by omega), if_pos h1, if_neg (by omega), if_neg (by omega)]
  · by_cases h2 : i = k
    · rw [if_pos (by omega), if_pos (by omega), if_neg h1, if_pos h2]
    · by_cases h3 : i = k + 1
      · rw [if_pos (by omega), if_neg (by omega), if_neg h2, if_pos h3]
      · rw [if_neg (by omega), if_neg h2, if_neg h3]
        congr 1
        omega
theorem cutE {a lo hi : Ex} {ρ : Env} {s : Stt} {n k : Nat} {c : Nat → Nat} (ha : a ρ s = .ok (.str (tx n c)) s) (hk : hi ρ s = .ok (.int (k : Nat)) s) (hn : n ≤ 1000) (h : k ≤ n) : eCut a none (some hi) ρ s = .ok (.str (tx k c)) s := by
  rw [eCut_s, ha, Res.bind_ok, pE_none, Res.bind_ok, pE_some, hk, Res.bind_ok]
  show Res.ofO s (cutV s (.str (tx n c)) none (some (k : Int))) = _
  rw [cut_v s hn h]
  rfl
theorem cutF {a lo : Ex} {ρ : Env} {s : Stt} {n k : Nat} {c : Nat → Nat} (ha : a ρ s = .ok (.str (tx n c)) s) (hk : lo ρ s = .ok (.int (k : Nat)) s) (hn : n ≤ 1000) (h : k ≤ n) : eCut a (some lo) none ρ s = .ok (.str (tx (n - k) fun i => c (k + i))) s := by
  rw [eCut_s, ha, Res.bind_ok, pE_some, hk, Res.bind_ok]
  show Res.ofO s (cutV s (.str (tx n c)) (some (k : Int)) none) = _
  rw [cut_h s hn h]
  rfl
/-- code[:place] + sign + code[place + 1:] -/
theorem sub_e {a p q : Ex} {ρ : Env} {s : Stt} {n k x : Nat} {c : Nat → Nat} (ha : a ρ s = .ok (.str (tx n c)) s) (hp : p ρ s = .ok (.int (k : Nat)) s) (hq : q ρ s = .ok (.str [x]) s) (hn : n ≤ 400) (h : k < n) :
    eOp oAdd (eOp oAdd (eCut a none (some p)) q) (eCut a (some (eOp oAdd p (eC (.int 1)))) none) ρ s = .ok (.str (tx n (put c k x))) s := by
  have e1 := cutE (lo := p) ha hp (by omega) (Nat.le_of_lt h)
  have hp1 : eOp oAdd p (eC (.int 1)) ρ s = .ok (.int ((k + 1 : Nat) : Int)) s := by
    rw [eOp_s, hp]
    rfl
  have e2 := cutF ha hp1 (by omega) h
  rw [eOp_s, eOp_s, e1, Res.bind_ok, hq, Res.bind_ok, add_s s (by rw [tx_len]; show k + 1 ≤ 1000; omega), Res.ofO_some, Res.bind_ok, e2, Res.bind_ok, add_s s (by rw [List.length_append, tx_len, tx_len]; show k + 1 + (n - (k + 1)) ≤ 1000; omega), put_tx x h]
  rfl
end K01
namespace K01
open Ev
/-- code[:place] + code[place + 1] + code[place] + code[place + 2:] -/
theorem swp_e {a p : Ex} {ρ : Env} {s : Stt} {n k : Nat} {c : Nat → Nat} (ha : a ρ s = .ok (.str (tx n c)) s) (hp : p ρ s = .ok (.int (k : Nat)) s) (hn : n ≤ 400) (h : k + 1 < n) :
    eOp oAdd (eOp oAdd (eOp oAdd (eCut a none (some p)) (eOp oIx a (eOp oAdd p (eC (.int 1))))) (eOp oIx a p)) (eCut a (some (eOp oAdd p (eC (.int 2)))) none) ρ s = .ok (.str (tx n (swp c k))) s := by
  have e1 := cutE (lo := p) ha hp (by omega) (show k ≤ n by omega)
  have hp1 : eOp oAdd p (eC (.int 1)) ρ s = .ok (.int ((k + 1 : Nat) : Int)) s := by
    rw [eOp_s, hp]
    rfl
  have hp2 : eOp oAdd p (eC (.int 2)) ρ s = .ok (.int ((k + 2 : Nat) : Int)) s := by
    rw [eOp_s, hp]
    rfl
  have x1 : eOp oIx a (eOp oAdd p (eC (.int 1))) ρ s = .ok (.str [c (k + 1)]) s := by
    rw [eOp_s, ha, Res.bind_ok, hp1, Res.bind_ok, ix_tx s (by omega) h]
    rfl
  have x2 : eOp oIx a p ρ s = .ok (.str [c k]) s := by
    rw [eOp_s, ha, Res.bind_ok, hp, Res.bind_ok, ix_tx s (by omega) (by omega)]
    rfl
  have e2 := cutF ha hp2 (by omega) (show k + 2 ≤ n by omega)
  rw [eOp_s, eOp_s, eOp_s, e1, Res.bind_ok, x1, Res.bind_ok, add_s s (by rw [tx_len]; show k + 1 ≤ 1000; omega), Res.ofO_some, Res.bind_ok, x2, Res.bind_ok,
    add_s s (by rw [List.length_append, tx_len]; show k + 1 + 1 ≤ 1000; omega), Res.ofO_some, Res.bind_ok, e2, Res.bind_ok,
    add_s s (by rw [List.length_append, List.length_append, tx_len, tx_len]; show k + 1 + 1 + (n - (k + 2)) ≤ 1000; omega), swp_tx h]
  rfl
/-- the near ones, as they come: one figure put in at each place, then the swaps -/
def NR (n : Nat) (c : Nat → Nat) : List (List Nat) := ((List.range n).map fun k => DGs.map fun x => tx n (put c k x)).flatten ++ (List.range (n - 1)).map fun k => tx n (swp c k)
theorem NR_mem {n : Nat} {c : Nat → Nat} {l : List Nat} (h : l ∈ NR n c) : (∃ k x, k < n ∧ isD x = true ∧ l = tx n (put c k x)) ∨ ∃ k, k + 1 < n ∧ l = tx n (swp c k) := by
  rcases List.mem_append.mp h with q | q
  · obtain ⟨r, hr, hl⟩ := List.mem_flatten.mp q
    obtain ⟨k, hk, rfl⟩ := List.mem_map.mp hr
    obtain ⟨x, hx, rfl⟩ := List.mem_map.mp hl
    have all : ∀ x ∈ DGs, isD x = true := by decide
    exact .inl ⟨k, x, List.mem_range.mp hk, all x hx, rfl⟩
  · obtain ⟨k, hk, rfl⟩ := List.mem_map.mp q
    have := List.mem_range.mp hk
    exact .inr ⟨k, by omega, rfl⟩
theorem swp_d {n k : Nat} {c : Nat → Nat} (h : DD n c) (hk : k + 1 < n) : DD n (swp c k) := fun i hi => by
  unfold swp
  split
  · exact h _ (by omega)
  · split
    · exact h _ (by omega)
    · exact h _ hi
theorem putd {n k x : Nat} {c : Nat → Nat} (h : DD n c) (hx : isD x = true) : DD n (put c k x) := fun i hi => by
  unfold put
  split
  · exact hx
  · exact h _ hi
theorem NR_d {n : Nat} {c : Nat → Nat} (h : DD n c) {l : List Nat} (hl : l ∈ NR n c) : ∃ d, l = tx n d ∧ DD n d := by
  rcases NR_mem hl with ⟨k, x, hk, hx, rfl⟩ | ⟨k, hk, rfl⟩
  · exact ⟨_, rfl, putd h hx⟩
  · exact ⟨_, rfl, swp_d h hk⟩
end K01
namespace K01
open Ev
theorem near1 {n : Nat} {c : Nat → Nat} (hn : n ≤ 20) (s : Stt) (a1 a2 a3 a4 a5 : Option PV) :
    eFn bSumL (lCons (eComp [2] (Ev.gN 2) (iRange1 (eFn bLen (lCons (eV 0) lNil))) Ev.tYes (eComp [4] (Ev.gN 4) (iE (eC (.str [48, 49, 50, 51, 52, 53, 54, 55, 56, 57]))) Ev.tYes (eOp oAdd (eOp oAdd (eCut (eV 0) none (some (eV 2))) (eV 4)) (eCut (eV 0) (some (eOp oAdd (eV 2) (eC (.int 1)))) none)))) (lCons (eLst lNil) lNil)) [some (.str (tx n c)), a1, a2, a3, a4, a5] s
      = .ok (.lst (((List.range n).map fun k => DGs.map fun x => tx n (put c k x)).flatten.map .str)) s := by
  have el : eFn bLen (lCons (eV 0) lNil) [some (.str (tx n c)), a1, a2, a3, a4, a5] s = .ok (.int (n : Nat)) s := by
    show Res.ofO s (bLen s [.str (tx n c)]) = _
    rw [len_tx s c (by omega)]
    rfl
  have e1 := eComp_ix (own := [2]) (g := Ev.gN 2) (e := eComp [4] (Ev.gN 4) (iE (eC (.str [48, 49, 50, 51, 52, 53, 54, 55, 56, 57]))) Ev.tYes (eOp oAdd (eOp oAdd (eCut (eV 0) none (some (eV 2))) (eV 4)) (eCut (eV 0) (some (eOp oAdd (eV 2) (eC (.int 1)))) none))) (ρ := [some (.str (tx n c)), a1, a2, a3, a4, a5]) (s := s) (n := n) (p := fun i => .int (i : Nat)) (fun k => .lst (DGs.map fun x => .str (tx n (put c k x)))) (iRange1_ok el (by omega) (by omega)) (by
      rw [rng_range, Int.toNat_natCast]
      congr 1
      refine List.map_congr_left fun d _ => ?_
      rw [Int.zero_add]) (by unfold szl; omega) fun k hk => by
    refine ⟨[some (.str (tx n c)), a1, some (.int (k : Nat)), a3, a4, a5], rfl, ?_⟩
    have e2 := eComp_map (own := [4]) (g := Ev.gN 4) (e := eOp oAdd (eOp oAdd (eCut (eV 0) none (some (eV 2))) (eV 4)) (eCut (eV 0) (some (eOp oAdd (eV 2) (eC (.int 1)))) none)) (ρ := [some (.str (tx n c)), a1, some (.int (k : Nat)), a3, a4, a5]) (s := s) (l := DGs.map fun x => .str [x]) (fun x => match x with | .str [y] => .str (tx n (put c k y)) | _ => .non) (iE_ok (a := eC (.str [48, 49, 50, 51, 52, 53, 54, 55, 56, 57])) (p := .str DGs) rfl rfl) rfl (by show 10 ≤ szl; decide) fun x hx => by
      obtain ⟨y, hy, rfl⟩ := List.mem_map.mp hx
      exact ⟨[some (.str (tx n c)), a1, some (.int (k : Nat)), a3, some (.str [y]), a5], rfl, sub_e (a := eV 0) (p := eV 2) (q := eV 4) rfl rfl rfl (by omega) hk⟩
    rw [e2, List.map_map]
    rfl
  rw [eFn_s, lCons_s, e1, Res.bind_ok]
  show Res.ofO s (bSumL s [.lst ((List.range n).map fun k => PV.lst (DGs.map fun x => .str (tx n (put c k x)))), .lst []]) = _
  have q : ((List.range n).map fun k => PV.lst (DGs.map fun x => .str (tx n (put c k x)))) = ((List.range n).map fun k => DGs.map fun x => PV.str (tx n (put c k x))).map .lst := by
    rw [List.map_map]
    rfl
  have len : ((List.range n).map fun k => DGs.map fun x => PV.str (tx n (put c k x))).flatten.length ≤ 200 := by
    have g : ∀ l : List Nat, (l.map fun k => DGs.map fun x => PV.str (tx n (put c k x))).flatten.length = l.length * 10 := fun l => by
      induction l with
      | nil => rfl
      | cons a l ih =>
        rw [List.map_cons, List.flatten_cons, List.length_append, ih, List.length_map, List.length_cons]
        show 10 + _ = _
        omega
    rw [g, List.length_range]
    omega
  rw [q, sumL_ok s (by unfold szl; omega)]
  show Res.ok (PV.lst _) s = Res.ok (PV.lst _) s
  congr 2
  rw [List.map_flatten, List.map_map]
  congr 1
end K01
namespace K01
open Ev
theorem near2 {n : Nat} {c : Nat → Nat} (h1 : 1 ≤ n) (hn : n ≤ 20) (s : Stt) (a1 a2 a3 a4 a5 : Option PV) :
    eComp [2] (Ev.gN 2) (iRange1 (eOp oSub (eFn bLen (lCons (eV 0) lNil)) (eC (.int 1)))) Ev.tYes (eOp oAdd (eOp oAdd (eOp oAdd (eCut (eV 0) none (some (eV 2))) (eOp oIx (eV 0) (eOp oAdd (eV 2) (eC (.int 1))))) (eOp oIx (eV 0) (eV 2))) (eCut (eV 0) (some (eOp oAdd (eV 2) (eC (.int 2)))) none)) [some (.str (tx n c)), a1, a2, a3, a4, a5] s
      = .ok (.lst ((List.range (n - 1)).map fun k => .str (tx n (swp c k)))) s := by
  have el : eOp oSub (eFn bLen (lCons (eV 0) lNil)) (eC (.int 1)) [some (.str (tx n c)), a1, a2, a3, a4, a5] s = .ok (.int ((n - 1 : Nat) : Int)) s := by
    have q : eFn bLen (lCons (eV 0) lNil) [some (.str (tx n c)), a1, a2, a3, a4, a5] s = .ok (.int (n : Nat)) s := by
      show Res.ofO s (bLen s [.str (tx n c)]) = _
      rw [len_tx s c (by omega)]
      rfl
    rw [eOp_s, q, Res.bind_ok]
    show Res.ok (PV.int ((n : Int) - 1)) s = _
    rw [show (n : Int) - 1 = ((n - 1 : Nat) : Int) by omega]
  exact eComp_ix (own := [2]) (g := Ev.gN 2) (n := n - 1) (p := fun i => .int (i : Nat)) (fun k => .str (tx n (swp c k))) (iRange1_ok el (by omega) (by omega)) (by
      rw [rng_range, Int.toNat_natCast]
      congr 1
      refine List.map_congr_left fun d _ => ?_
      rw [Int.zero_add]) (by unfold szl; omega) fun k hk =>
    ⟨[some (.str (tx n c)), a1, some (.int (k : Nat)), a3, a4, a5], rfl, swp_e (a := eV 0) (p := eV 2) rfl rfl (by omega) (by omega)⟩
end K01
namespace K01
open Ev
/-- the sum over a text -/
def cdT (l : List Nat) : Int := CD l.length fun i => l.getD i 0
theorem cdT_tx (n : Nat) (c : Nat → Nat) : cdT (tx n c) = CD n c := by
  unfold cdT CD
  rw [tx_len]
  refine SU_ext fun i hi => ?_
  have e : (tx n c).getD (n - 1 - i) 0 = c (n - 1 - i) := by
    rw [List.getD, tx_at (by omega)]
    rfl
  show cw i (dv ((tx n c).getD (n - 1 - i) 0)) = _
  rw [e]
def keepN (code : List Nat) (l : List Nat) : Bool := !(l == code) && (cdT l % 10 == 0)
theorem NR_len {n : Nat} {c : Nat → Nat} (hn : n ≤ 20) : (NR n c).length ≤ 300 := by
  have g : ∀ l : List Nat, (l.map fun k => DGs.map fun x => tx n (put c k x)).flatten.length = l.length * 10 := fun l => by
    induction l with
    | nil => rfl
    | cons a l ih =>
      rw [List.map_cons, List.flatten_cons, List.length_append, ih, List.length_map, List.length_cons]
      show 10 + _ = _
      omega
  unfold NR
  rw [List.length_append, g, List.length_range, List.length_map, List.length_range]
  omega
end K01
namespace K01
open Ev
/-- the keys, as texts -/
def kN (ks : List (List Nat)) (k : List Nat) : List (List Nat) := if ks.any fun j => j == k then ks else ks ++ [k]
def keysN (l : List (List Nat)) : List (List Nat) := l.foldl kN []
theorem kPut_S (ks : List (List Nat)) (k : List Nat) : kPut (ks.map .str) (.str k) = (kN ks k).map .str := by
  unfold kPut kN
  have e : ((ks.map PV.str).any fun j => eqP j (.str k)) = ks.any fun j => j == k := by
    rw [List.any_map]
    rfl
  rw [e]
  split
  · rfl
  · rw [List.map_append]
    rfl
theorem fold_S : ∀ (l ks : List (List Nat)), (l.map PV.str).foldl kPut (ks.map .str) = (l.foldl kN ks).map .str
  | [], ks => rfl
  | k :: l, ks => by
    show (l.map PV.str).foldl kPut (kPut (ks.map .str) (.str k)) = _
    rw [kPut_S, fold_S l (kN ks k)]
    rfl
theorem keys_S (l : List (List Nat)) : keysL (l.map .str) = (keysN l).map .str := fold_S l []
end K01
namespace K01
open Ev
theorem strs_d (n : Nat) (l : List (List Nat)) : (l.map PV.str).all (dOk n) = true := List.all_eq_true.mpr fun x hx => by
  obtain ⟨y, _, rfl⟩ := List.mem_map.mp hx
  exact dOk_str _ _
theorem srtOk_S (l : List (List Nat)) : srtOk (l.map .str) = true := by
  have a : alAll (l.map PV.str) = true := List.all_eq_true.mpr fun x hx => List.all_eq_true.mpr fun y hy => by
    obtain ⟨i, _, rfl⟩ := List.mem_map.mp hx
    obtain ⟨j, _, rfl⟩ := List.mem_map.mp hy
    rfl
  have c : (l.map PV.str).all othP = true := List.all_eq_true.mpr fun x hx => by
    obtain ⟨y, _, rfl⟩ := List.mem_map.mp hx
    rfl
  unfold srtOk
  rw [a, strs_d, c, Bool.or_true]
  rfl
theorem sorted_S (s : Stt) (l : List (List Nat)) : bSortedA s [.lst (l.map .str)] = some (.lst ((srtN l).map .str)) := by
  show (if srtOk (l.map .str) then some (PV.lst (srtP (l.map .str))) else none) = _
  rw [srtOk_S, if_pos rfl]
  show some (PV.lst (srtP (ofS l))) = _
  rw [srtP_strs]
  rfl
theorem keysN_sub {l : List (List Nat)} {x : List Nat} (h : x ∈ keysN l) : x ∈ l := by
  have q : PV.str x ∈ keysL (l.map .str) := by
    rw [keys_S]
    exact List.mem_map.mpr ⟨x, h, rfl⟩
  obtain ⟨y, hy, e⟩ := List.mem_map.mp (keysL_sub q)
  cases e
  exact hy
end K01
namespace K01
open Ev
/-! parted_number -/
def hou (o : Nat → Nat) (g m : Nat) : List Nat := tx m fun i => o (g + i)
def boo (o : Nat → Nat) (k : Nat) : List Nat := tx (9 - k) fun i => o (k + i)
def VV (o : Nat → Nat) (G : List Nat) (g m : Nat) : List Nat := joinL [45] [tx 3 (same o), G, hou o g m, boo o (g + m), [same o 12]]
theorem cutM {a lo hi : Ex} {ρ : Env} {s : Stt} {n p q : Nat} {c : Nat → Nat} (ha : a ρ s = .ok (.str (tx n c)) s) (h1 : lo ρ s = .ok (.int (p : Nat)) s) (h2 : hi ρ s = .ok (.int (q : Nat)) s) (hn : n ≤ 1000) (h : p ≤ q) (hq : q ≤ n) : eCut a (some lo) (some hi) ρ s = .ok (.str (tx (q - p) fun i => c (p + i))) s := by
  rw [eCut_s, ha, Res.bind_ok, pE_some, h1, Res.bind_ok]
  show Res.bind (pE (some hi) ρ s) _ = _
  rw [pE_some, h2, Res.bind_ok]
  show Res.ofO s (cutV s (.str (tx n c)) (some (p : Int)) (some (q : Int))) = _
  rw [cut_m s hn h hq]
  rfl
theorem join5 (s : Stt) (a b c d e : List Nat) (h : a.length + b.length + c.length + d.length + e.length ≤ 1000) : mJoin s [45] (.lst [.str a, .str b, .str c, .str d, .str e]) = some (.str (joinL [45] [a, b, c, d, e])) := by
  show (if Nat.ble (sumN [a, b, c, d, e] + 5 * 1) szl then some (PV.str (joinL [45] [a, b, c, d, e])) else none) = _
  rw [if_pos]
  refine Nat.ble_eq_true_of_le ?_
  show a.length + (b.length + (c.length + (d.length + (e.length + 0)))) + 5 ≤ szl
  unfold szl
  omega
def eJ (a b c d e : Ex) : Ex := eM1 mJoin (eC (.str [45])) (eLst (lCons a (lCons b (lCons c (lCons d (lCons e lNil))))))
theorem eJ_ok {a b c d e : Ex} {ρ : Env} {s : Stt} {A B C D E : List Nat} (ha : a ρ s = .ok (.str A) s) (hb : b ρ s = .ok (.str B) s) (hc : c ρ s = .ok (.str C) s) (hd : d ρ s = .ok (.str D) s) (he : e ρ s = .ok (.str E) s)
    (h : A.length + B.length + C.length + D.length + E.length ≤ 1000) : eJ a b c d e ρ s = .ok (.str (joinL [45] [A, B, C, D, E])) s := by
  unfold eJ
  rw [eM1_s, eC_s, Res.bind_ok]
  simp only [eLst_s, lCons_s, lNil_s, ha, hb, hc, hd, he, Res.bind_ok, lenOk_5, if_true, join5 s A B C D E h, Res.ofO_some]
def lgf (i j : Nat) : Ex := eOp oAdd (eFn bLen (lCons (eV i) lNil)) (eFn bLen (lCons (eV j) lNil))
def pt8 : Sx := sAsg (Ev.gN 8) (eCut (eV 3) (some (eFn bLen (lCons (eV 4) lNil))) (some (lgf 4 6)))
def pt9 : Sx := (sSeq (sAsg (Ev.gN 9) (eCut (eV 3) (some (lgf 4 6)) none)) (sSeq (sRet (eJ (eCut (eV 2) none (some (eC (.int 3)))) (eV 4) (eV 8) (eV 9) (eOp oIx (eV 2) (eC (.int 12))))) sNop))
def ptI : Sx := sSeq pt8 (sSeq (sIf (Ev.tAnd (tCh cLe cLe (eV 6) (eV 8) (eV 7)) (tCp cLt (lgf 4 6) (eC (.int 9)))) pt9 sNop) sNop)
def ptO : Sx := sSeq (sIf (tCp cEq (eCut (eV 3) none (some (eFn bLen (lCons (eV 4) lNil)))) (eV 4)) (sSeq (sFor (gT [(Ev.gN 6), (Ev.gN 7)]) (iE (eV 5)) ptI) sNop) sNop) sNop
theorem b_parted_eq : b_parted_number = sSeq (sAsg (Ev.gN 2) (eCallF f_plain_number (lCons (eV 0) lNil))) (sSeq (sAsg (Ev.gN 3) (eCut (eV 2) (some (eC (.int 3))) (some (eC (.int 12)))))
    (sSeq (sFor (gT [(Ev.gN 4), (Ev.gN 5)]) (iE (eV 1)) ptO) (sSeq (sRaise 1) sNop))) := rfl
theorem lgf_ok {ρ : Env} {s : Stt} {i j : Nat} {G A : List Nat} (h1 : ρ[i]? = some (some (.str G))) (h2 : ρ[j]? = some (some (.str A))) (hG : G.length ≤ 1000) (hA : A.length ≤ 1000) : lgf i j ρ s = .ok (.int ((G.length + A.length : Nat) : Int)) s := by
  unfold lgf
  rw [eOp_s, len_e (eV_e h1) (by omega), Res.bind_ok, len_e (eV_e h2) (by omega), Res.bind_ok]
  rfl
section
variable {o : Nat → Nat} {G A B : List Nat} {g m : Nat}
theorem prow (hG : G.length = g) (hA : A.length = m) (hgm : g + m < 9) (z0 z1 z5 z8 z9 : Option PV) (s : Stt) :
    ptI [z0, z1, some (.str (tx 13 (same o))), some (.str (tx 9 o)), some (.str G), z5, some (.str A), some (.str B), z8, z9] s = if inR A B (hou o g m) then .rt (.str (VV o G g m)) s
      else .nx [z0, z1, some (.str (tx 13 (same o))), some (.str (tx 9 o)), some (.str G), z5, some (.str A), some (.str B), some (.str (hou o g m)), z9] s := by
  subst hG hA
  have l4 : ∀ z8 z9, eFn bLen (lCons (eV 4) lNil) [z0, z1, some (.str (tx 13 (same o))), some (.str (tx 9 o)), some (.str G), z5, some (.str A), some (.str B), z8, z9] s = .ok (.int (G.length : Nat)) s := fun z8 z9 => len_e rfl (by omega)
  have l46 : ∀ z8 z9, lgf 4 6 [z0, z1, some (.str (tx 13 (same o))), some (.str (tx 9 o)), some (.str G), z5, some (.str A), some (.str B), z8, z9] s = .ok (.int ((G.length + A.length : Nat) : Int)) s := fun z8 z9 => lgf_ok rfl rfl (by omega) (by omega)
  have e8 := cutM (a := eV 3) (c := o) rfl (l4 z8 z9) (l46 z8 z9) (by omega) (by omega) (by omega)
  rw [Nat.add_sub_cancel_left] at e8
  have e9 := cutF (lo := lgf 4 6) (a := eV 3) (c := o) rfl (l46 (some (.str (hou o G.length A.length))) z9) (by omega) (by omega)
  unfold ptI pt8
  rw [sSeq_s, sAsg_s, e8, Res.sbind_ok]
  show (SRes.seq (.nx [z0, z1, some (.str (tx 13 (same o))), some (.str (tx 9 o)), some (.str G), z5, some (.str A), some (.str B), some (.str (hou o G.length A.length)), z9] s) _) = _
  rw [SRes.seq_nx, sSeq_s, sIf_s, tAnd_s, chain_e (A := A) (H := hou o G.length A.length) (B := B) rfl rfl rfl, Res.bind_ok]
  cases inR A B (hou o G.length A.length) with
  | false => rfl
  | true =>
    have t : tCp cLt (lgf 4 6) (eC (.int 9)) [z0, z1, some (.str (tx 13 (same o))), some (.str (tx 9 o)), some (.str G), z5, some (.str A), some (.str B), some (.str (hou o G.length A.length)), z9] s = .ok true s := by
      rw [tCp_s, l46, Res.bind_ok]
      show Res.ofO s (some (decide (((G.length + A.length : Nat) : Int) < 9))) = _
      rw [decide_eq_true (by omega)]
      rfl
    rw [if_pos rfl, t, Res.sbind_ok, if_pos rfl]
    unfold pt9
    rw [sSeq_s, sAsg_s, e9, Res.sbind_ok]
    show (SRes.seq (SRes.seq (.nx [z0, z1, some (.str (tx 13 (same o))), some (.str (tx 9 o)), some (.str G), z5, some (.str A), some (.str B), some (.str (hou o G.length A.length)), some (.str (boo o (G.length + A.length)))] s) _) _) = _
    rw [SRes.seq_nx, sSeq_s, sRet_s, eJ_ok (A := tx 3 (same o)) (B := G) (C := hou o G.length A.length) (D := boo o (G.length + A.length)) (E := [same o 12]) (cutE (lo := eC (.int 3)) (c := same o) (n := 13) (k := 3) rfl rfl (by omega) (by omega)) rfl rfl rfl ?_ ?_]
    · rfl
    · show Res.ofO s (oIx s (.str (tx 13 (same o))) (.int (12 : Nat))) = _
      rw [ix_tx s (by omega) (by omega)]
      rfl
    · unfold hou boo
      rw [tx_len, tx_len, tx_len]
      show 3 + G.length + A.length + (9 - (G.length + A.length)) + 1 ≤ 1000
      omega
end
end K01
namespace K01
open Ev
def rw1 (A B : List Nat) : PV := .tup [.str A, .str B]
def grp0 : PV := .tup [.str [48], .tup [rw1 [48, 48] [49, 57], rw1 [50, 48, 48] [54, 57, 57], rw1 [55, 48, 48, 48] [56, 52, 57, 57]]]
def grp1 : PV := .tup [.str [49, 51], .tup [rw1 [48] [52]]]
def GRP : PV := .tup [grp0, grp1]
def due (o : Nat → Nat) : Option (List Nat) :=
  if tx 1 o == [48] && inR [48, 48] [49, 57] (hou o 1 2) then some (VV o [48] 1 2)
  else if tx 1 o == [48] && inR [50, 48, 48] [54, 57, 57] (hou o 1 3) then some (VV o [48] 1 3)
  else if tx 1 o == [48] && inR [55, 48, 48, 48] [56, 52, 57, 57] (hou o 1 4) then some (VV o [48] 1 4)
  else if tx 2 o == [49, 51] && inR [48] [52] (hou o 2 1) then some (VV o [49, 51] 2 1) else none
section
variable {o : Nat → Nat} {G : List Nat} {g : Nat}
theorem isG (hG : G.length = g) (hg : g ≤ 9) (z0 z1 z5 z6 z7 z8 z9 : Option PV) (s : Stt) : tCp cEq (eCut (eV 3) none (some (eFn bLen (lCons (eV 4) lNil)))) (eV 4) [z0, z1, some (.str (tx 13 (same o))), some (.str (tx 9 o)), some (.str G), z5, z6, z7, z8, z9] s = .ok (tx g o == G) s := by
  subst hG
  rw [tCp_s, cutE (lo := eV 3) (c := o) (n := 9) rfl (len_e (G := G) rfl (by omega)) (by omega) hg, Res.bind_ok]
  rfl
theorem grow0 (hp : (tx 1 o == [48]) = true) (z0 z1 z6 z7 z8 z9 : Option PV) (s : Stt) : ∃ u6 u7 u8, ptO [z0, z1, some (.str (tx 13 (same o))), some (.str (tx 9 o)), some (.str [48]), some (.tup [rw1 [48, 48] [49, 57], rw1 [50, 48, 48] [54, 57, 57], rw1 [55, 48, 48, 48] [56, 52, 57, 57]]), z6, z7, z8, z9] s
    = if inR [48, 48] [49, 57] (hou o 1 2) then .rt (.str (VV o [48] 1 2)) s else if inR [50, 48, 48] [54, 57, 57] (hou o 1 3) then .rt (.str (VV o [48] 1 3)) s else if inR [55, 48, 48, 48] [56, 52, 57, 57] (hou o 1 4) then .rt (.str (VV o [48] 1 4)) s
      else .nx [z0, z1, some (.str (tx 13 (same o))), some (.str (tx 9 o)), some (.str [48]), some (.tup [rw1 [48, 48] [49, 57], rw1 [50, 48, 48] [54, 57, 57], rw1 [55, 48, 48, 48] [56, 52, 57, 57]]), u6, u7, u8, z9] s := by
  refine ⟨some (.str [55, 48, 48, 48]), some (.str [56, 52, 57, 57]), some (.str (hou o 1 4)), ?_⟩
  unfold ptO
  rw [sSeq_s, sIf_s, isG (g := 1) rfl (by omega), hp, Res.sbind_ok, if_pos rfl, sSeq_s, sFor_V (i := 5) (p := .tup [rw1 [48, 48] [49, 57], rw1 [50, 48, 48] [54, 57, 57], rw1 [55, 48, 48, 48] [56, 52, 57, 57]]) rfl (fun _ => rfl)]
  rw [forL_cons (ρ1 := [z0, z1, some (.str (tx 13 (same o))), some (.str (tx 9 o)), some (.str [48]), some (.tup [rw1 [48, 48] [49, 57], rw1 [50, 48, 48] [54, 57, 57], rw1 [55, 48, 48, 48] [56, 52, 57, 57]]), some (.str [48, 48]), some (.str [49, 57]), z8, z9]) rfl, prow (g := 1) (m := 2) rfl rfl (by omega)]
  cases inR [48, 48] [49, 57] (hou o 1 2) with
  | true => rfl
  | false =>
    rw [if_neg Bool.false_ne_true, if_neg Bool.false_ne_true, SRes.seq_nx]
    rw [forL_cons (ρ1 := [z0, z1, some (.str (tx 13 (same o))), some (.str (tx 9 o)), some (.str [48]), some (.tup [rw1 [48, 48] [49, 57], rw1 [50, 48, 48] [54, 57, 57], rw1 [55, 48, 48, 48] [56, 52, 57, 57]]), some (.str [50, 48, 48]), some (.str [54, 57, 57]), some (.str (hou o 1 2)), z9]) rfl, prow (g := 1) (m := 3) rfl rfl (by omega)]
    cases inR [50, 48, 48] [54, 57, 57] (hou o 1 3) with
    | true => rfl
    | false =>
      rw [if_neg Bool.false_ne_true, if_neg Bool.false_ne_true, SRes.seq_nx]
      rw [forL_cons (ρ1 := [z0, z1, some (.str (tx 13 (same o))), some (.str (tx 9 o)), some (.str [48]), some (.tup [rw1 [48, 48] [49, 57], rw1 [50, 48, 48] [54, 57, 57], rw1 [55, 48, 48, 48] [56, 52, 57, 57]]), some (.str [55, 48, 48, 48]), some (.str [56, 52, 57, 57]), some (.str (hou o 1 3)), z9]) rfl, prow (g := 1) (m := 4) rfl rfl (by omega)]
      cases inR [55, 48, 48, 48] [56, 52, 57, 57] (hou o 1 4) with
      | true => rfl
      | false => rfl
theorem grow1 (hp : (tx 2 o == [49, 51]) = true) (z0 z1 z6 z7 z8 z9 : Option PV) (s : Stt) : ptO [z0, z1, some (.str (tx 13 (same o))), some (.str (tx 9 o)), some (.str [49, 51]), some (.tup [rw1 [48] [52]]), z6, z7, z8, z9] s
    = if inR [48] [52] (hou o 2 1) then .rt (.str (VV o [49, 51] 2 1)) s
      else .nx [z0, z1, some (.str (tx 13 (same o))), some (.str (tx 9 o)), some (.str [49, 51]), some (.tup [rw1 [48] [52]]), some (.str [48]), some (.str [52]), some (.str (hou o 2 1)), z9] s := by
  unfold ptO
  rw [sSeq_s, sIf_s, isG (g := 2) rfl (by omega), hp, Res.sbind_ok, if_pos rfl, sSeq_s, sFor_V (i := 5) (p := .tup [rw1 [48] [52]]) rfl (fun _ => rfl)]
  rw [forL_cons (ρ1 := [z0, z1, some (.str (tx 13 (same o))), some (.str (tx 9 o)), some (.str [49, 51]), some (.tup [rw1 [48] [52]]), some (.str [48]), some (.str [52]), z8, z9]) rfl, prow (g := 2) (m := 1) rfl rfl (by omega)]
  cases inR [48] [52] (hou o 2 1) with
  | true => rfl
  | false => rfl
theorem grow_no (hG : G.length = g) (hg : g ≤ 9) (hp : (tx g o == G) = false) (z0 z1 z5 z6 z7 z8 z9 : Option PV) (s : Stt) : ptO [z0, z1, some (.str (tx 13 (same o))), some (.str (tx 9 o)), some (.str G), z5, z6, z7, z8, z9] s
    = .nx [z0, z1, some (.str (tx 13 (same o))), some (.str (tx 9 o)), some (.str G), z5, z6, z7, z8, z9] s := by
  unfold ptO
  rw [sSeq_s, sIf_s, isG hG hg, hp, Res.sbind_ok, if_neg Bool.false_ne_true]
  rfl
end
theorem rest_ok (o : Nat → Nat) (s : Stt) (z0 z1 z3 z4 z5 z6 z7 z8 z9 : Option PV) : eCut (eV 2) (some (eC (.int 3))) (some (eC (.int 12))) [z0, z1, some (.str (tx 13 (same o))), z3, z4, z5, z6, z7, z8, z9] s = .ok (.str (tx 9 o)) s := by
  rw [cutM (a := eV 2) (c := same o) (n := 13) (p := 3) (q := 12) rfl rfl rfl (by omega) (by omega) (by omega)]
  rfl
theorem parted_ok {l : List Nat} {o : Nat → Nat} (t : Txt l 10 o) (h : DD 9 o) (hc : o 9 = k10 (S10 9 o)) (s : Stt) : pureF f_parted_number [.str l, GRP] s = match due o with
    | some v => .ok (.str v) s
    | none => .err 1 s := by
  have core : ∀ s, f_parted_number [.str l, GRP] s = match due o with
      | some v => .ok (.str v) s
      | none => .err 1 s := fun s => by
    have run : f_parted_number [.str l, GRP] s = (b_parted_number [some (.str l), some GRP, none, none, none, none, none, none, none, none] s).fn := mkFn_e 10 2 b_parted_number _ _ rfl
    have e1 : eCallF f_plain_number (lCons (eV 0) lNil) [some (.str l), some GRP, none, none, none, none, none, none, none, none] s = .ok (.str (tx 13 (same o))) s := plain10 t h hc s
    rw [run, b_parted_eq, sSeq_s, sAsg_s, e1, Res.sbind_ok]
    show (SRes.seq (.nx [some (.str l), some GRP, some (.str (tx 13 (same o))), none, none, none, none, none, none, none] s) _).fn = _
    rw [SRes.seq_nx, sSeq_s, sAsg_s, rest_ok, Res.sbind_ok]
    show (SRes.seq (.nx [some (.str l), some GRP, some (.str (tx 13 (same o))), some (.str (tx 9 o)), none, none, none, none, none, none] s) _).fn = _
    rw [SRes.seq_nx, sSeq_s, sFor_V (i := 1) (p := GRP) rfl (fun _ => rfl)]
    rw [forL_cons (ρ1 := [some (.str l), some GRP, some (.str (tx 13 (same o))), some (.str (tx 9 o)), some (.str [48]), some (.tup [rw1 [48, 48] [49, 57], rw1 [50, 48, 48] [54, 57, 57], rw1 [55, 48, 48, 48] [56, 52, 57, 57]]), none, none, none, none]) rfl]
    have two : ∀ z6 z7 z8, ((forL (gT [(Ev.gN 4), (Ev.gN 5)]) ptO [grp1] [some (.str l), some GRP, some (.str (tx 13 (same o))), some (.str (tx 9 o)), some (.str [48]), some (.tup [rw1 [48, 48] [49, 57], rw1 [50, 48, 48] [54, 57, 57], rw1 [55, 48, 48, 48] [56, 52, 57, 57]]), z6, z7, z8, none] s).seq (sSeq (sRaise 1) sNop)).fn
        = match (if tx 2 o == [49, 51] && inR [48] [52] (hou o 2 1) then some (VV o [49, 51] 2 1) else none : Option (List Nat)) with
          | some v => .ok (.str v) s
          | none => .err 1 s := fun z6 z7 z8 => by
      rw [forL_cons (ρ1 := [some (.str l), some GRP, some (.str (tx 13 (same o))), some (.str (tx 9 o)), some (.str [49, 51]), some (.tup [rw1 [48] [52]]), z6, z7, z8, none]) rfl]
      cases hp : tx 2 o == [49, 51] with
      | false =>
        rw [grow_no (g := 2) rfl (by omega) hp]
        rfl
      | true =>
        rw [grow1 hp]
        cases inR [48] [52] (hou o 2 1) with
        | true => rfl
        | false => rfl
    unfold due
    cases hp : tx 1 o == [48] with
    | false =>
      rw [grow_no (g := 1) rfl (by omega) hp, SRes.seq_nx]
      exact two _ _ _
    | true =>
      obtain ⟨z6, z7, z8, e⟩ := grow0 hp (some (.str l)) (some GRP) none none none none s
      rw [e]
      cases inR [48, 48] [49, 57] (hou o 1 2) with
      | true => rfl
      | false =>
        cases inR [50, 48, 48] [54, 57, 57] (hou o 1 3) with
        | true => rfl
        | false =>
          cases inR [55, 48, 48, 48] [56, 52, 57, 57] (hou o 1 4) with
          | true => rfl
          | false => exact two _ _ _
  unfold pureF
  rw [show nrPs [PV.str l, GRP] = true from rfl, if_pos rfl, core]
  cases due o <;> rfl
end K01
namespace K01
open Ev
/-! the law's near ones -/
def isK (code : List Nat) (p : PV) : Bool := match p with
  | .str l => keepN code l
  | _ => false
def KN (n : Nat) (c : Nat → Nat) : List (List Nat) := srtN ((keysN (NR n c)).filter (keepN (tx n c)))
theorem keysN_len (l : List (List Nat)) : (keysN l).length ≤ l.length := by
  have q := keysL_len (l.map PV.str)
  rw [keys_S, List.length_map, List.length_map] at q
  exact q
theorem filt_isK (code : List Nat) (l : List (List Nat)) : (l.map PV.str).filter (isK code) = (l.filter (keepN code)).map .str := by
  rw [List.filter_map]
  rfl
theorem keep_t {n : Nat} {c : Nat → Nat} (h1 : 1 ≤ n) (hn : n ≤ 18) (hD : DD n c) {x : List Nat} (hx : x ∈ NR n c) (s : Stt) (a1 a2 a4 a5 : Option PV) :
    Ev.tAnd (tCp cNe (eV 3) (eV 0)) (tCp cEq (eOp oMod (eCallF f_law_card (lCons (eV 3) lNil)) (eC (.int 10))) (eC (.int 0))) [some (.str (tx n c)), a1, a2, some (.str x), a4, a5] s = .ok (keepN (tx n c) x) s := by
  obtain ⟨d, rfl, hd⟩ := NR_d hD hx
  have e1 : tCp cNe (eV 3) (eV 0) [some (.str (tx n c)), a1, a2, some (.str (tx n d)), a4, a5] s = .ok (!(tx n d == tx n c)) s := rfl
  have e2 : eCallF f_law_card (lCons (eV 3) lNil) [some (.str (tx n c)), a1, a2, some (.str (tx n d)), a4, a5] s = .ok (.int (CD n d)) s := lcard_ok hd (by omega) s
  have e3 : tCp cEq (eOp oMod (eCallF f_law_card (lCons (eV 3) lNil)) (eC (.int 10))) (eC (.int 0)) [some (.str (tx n c)), a1, a2, some (.str (tx n d)), a4, a5] s = .ok (CD n d % 10 == 0) s := by
    rw [tCp_s, eOp_s, e2]
    rfl
  rw [tAnd_s, e1, Res.bind_ok]
  unfold keepN
  rw [cdT_tx]
  cases (tx n d == tx n c) with
  | true => rfl
  | false => exact e3
theorem near_ok {n : Nat} {c : Nat → Nat} (h1 : 1 ≤ n) (hn : n ≤ 18) (hD : DD n c) (s : Stt) : pureF f_law_near [.str (tx n c)] s = .ok (.lst ((KN n c).map .str)) s := by
  have nr : nrP (.lst ((KN n c).map .str)) = true := by
    show nrPs ((KN n c).map .str) = true
    generalize KN n c = L
    induction L with
    | nil => rfl
    | cons x l ih => exact ih
  refine pureF_ok (s2 := ⟨[]⟩) s rfl ?_ nr
  generalize (⟨[]⟩ : Stt) = s
  have run : f_law_near [.str (tx n c)] s = (b_law_near [some (.str (tx n c)), none, none, none, none, none] s).fn := mkFn_e 6 1 b_law_near _ _ rfl
  rw [run]
  unfold b_law_near
  rw [sSeq_s, sAsg_s, near1 (by omega), Res.sbind_ok]
  show (SRes.seq (.nx [some (.str (tx n c)), some (.lst (((List.range n).map fun k => DGs.map fun x => tx n (put c k x)).flatten.map .str)), none, none, none, none] s) _).fn = _
  have zl := NR_len (c := c) (show n ≤ 20 by omega)
  have ea : oAdd s (.lst (((List.range n).map fun k => DGs.map fun x => tx n (put c k x)).flatten.map .str)) (.lst ((List.range (n - 1)).map fun k => .str (tx n (swp c k)))) = some (.lst ((NR n c).map .str)) := by
    unfold NR at zl
    rw [List.length_append, List.length_map] at zl
    show (if Nat.ble (_ + _) szl then some (PV.lst (_ ++ _)) else none) = _
    rw [if_pos]
    · unfold NR
      rw [List.map_append, List.map_map]
      rfl
    · refine Nat.ble_eq_true_of_le ?_
      rw [List.length_map, List.length_map]
      unfold szl
      omega
  rw [SRes.seq_nx, sSeq_s, sAsg_s, eOp_s, eV_e (i := 1) (p := .lst (((List.range n).map fun k => DGs.map fun x => tx n (put c k x)).flatten.map .str)) rfl, Res.bind_ok, near2 h1 (by omega), Res.bind_ok, ea, Res.ofO_some, Res.sbind_ok]
  show (SRes.seq (.nx [some (.str (tx n c)), some (.lst ((NR n c).map .str)), none, none, none, none] s) _).fn = _
  have e1 : eComp [5] (Ev.gN 5) (iE (eV 1)) Ev.tYes (eTup (lCons (eV 5) (lCons (eC (.int 1)) lNil))) [some (.str (tx n c)), some (.lst ((NR n c).map .str)), none, none, none, none] s = .ok (.lst (((NR n c).map PV.str).map fun x => .tup [x, .int 1])) s :=
    eComp_map (fun x => .tup [x, .int 1]) (iE_ok (a := eV 1) (p := .lst ((NR n c).map .str)) rfl rfl) rfl (by rw [List.length_map]; unfold szl; omega) fun x _ => ⟨[some (.str (tx n c)), some (.lst ((NR n c).map .str)), none, none, none, some x], rfl, rfl⟩
  obtain ⟨d, ed, ek⟩ := bDict_ok s (fun _ => .int 1) (l := (NR n c).map .str) (fun x hx => strs_key hx) (by rw [List.length_map]; unfold szl; omega)
  rw [keys_S] at ek
  have e2 : eFn bDict (lCons (eComp [5] (Ev.gN 5) (iE (eV 1)) Ev.tYes (eTup (lCons (eV 5) (lCons (eC (.int 1)) lNil)))) lNil) [some (.str (tx n c)), some (.lst ((NR n c).map .str)), none, none, none, none] s = .ok (.dct d) s := by
    rw [eFn_s, lCons_s, e1, Res.bind_ok, lNil_s, Res.bind_ok, Res.bind_ok, ed]
    rfl
  have e3 := eComp_pure (own := [3]) (g := Ev.gN 3) (t := Ev.tAnd (tCp cNe (eV 3) (eV 0)) (tCp cEq (eOp oMod (eCallF f_law_card (lCons (eV 3) lNil)) (eC (.int 10))) (eC (.int 0)))) (e := eV 3) (ρ := [some (.str (tx n c)), some (.lst ((NR n c).map .str)), none, none, none, none]) (s := s) (l := (keysN (NR n c)).map .str) (isK (tx n c)) (fun x => x) (iE_ok e2 (show live (.dct d) s = some (d.map (·.1)) from rfl)) (congrArg some ek) (by rw [List.length_map]; have := keysN_len (NR n c); unfold szl; omega) fun x hx => by
    obtain ⟨y, hy, rfl⟩ := List.mem_map.mp hx
    exact ⟨[some (.str (tx n c)), some (.lst ((NR n c).map .str)), none, some (.str y), none, none], rfl, keep_t h1 hn hD (keysN_sub hy) s _ _ _ _, fun _ => rfl⟩
  rw [List.map_id', filt_isK] at e3
  rw [SRes.seq_nx, sSeq_s, sRet_s, eFn_s, lCons_s, e3, Res.bind_ok, lNil_s, Res.bind_ok, Res.bind_ok, sorted_S]
  rfl
end K01
namespace K01
open Ev
/-! mended_by_one -/
def HasD (s : Stt) (M : List (List Nat)) : Prop := ∃ d : List (PV × PV), s = ⟨[.dct d]⟩ ∧ d.map (·.1) = (keysN M).map .str
theorem put_row {e : Ex} {ρ : Env} {s : Stt} {M : List (List Nat)} {x : List Nat} (hs : HasD s M) (hM : M.length ≤ 1000) (e1 : e ρ s = .ok (.str x) s) (h1 : ρ[1]? = some (some (.ref 0))) : ∃ s', sPut (eV 1) e (eC (.bl true)) ρ s = .nx ρ s' ∧ HasD s' (M ++ [x]) := by
  obtain ⟨d, rfl, hd⟩ := hs
  refine ⟨⟨[.dct (dPut d (.str x) (.bl true))]⟩, ?_, _, rfl, ?_⟩
  · have st : setIt ⟨[.dct d]⟩ (.ref 0) (.str x) (.bl true) = some ⟨[.dct (dPut d (.str x) (.bl true))]⟩ := by
      show (if true && Nat.blt d.length szl then some (Stt.set ⟨[.dct d]⟩ 0 (.dct (dPut d (.str x) (.bl true)))) else none) = _
      have hl : d.length ≤ 1000 := by
        have q := congrArg List.length hd
        rw [List.length_map, List.length_map] at q
        have := keysN_len M
        omega
      rw [show Nat.blt d.length szl = true from Nat.ble_eq_true_of_le (by unfold szl; omega)]
      rfl
    unfold sPut
    simp only [eC_s, Res.sbind_ok, eV_e h1, e1, st]
  · rw [dPut_keys, hd, kPut_S]
    unfold keysN
    rw [List.foldl_append]
    rfl
def RWp (n : Nat) (c : Nat → Nat) (k : Nat) : List (List Nat) := ((List.range k).map fun j => DGs.map fun x => tx n (put c j x)).flatten
theorem RWp_succ (n : Nat) (c : Nat → Nat) (k : Nat) : RWp n c (k + 1) = RWp n c k ++ DGs.map fun x => tx n (put c k x) := by
  unfold RWp
  rw [List.range_succ, List.map_append, List.flatten_append, List.map_singleton, List.flatten_singleton]
theorem RWp_len (n : Nat) (c : Nat → Nat) : ∀ k, (RWp n c k).length = k * 10
  | 0 => rfl
  | k + 1 => by
    rw [RWp_succ, List.length_append, RWp_len n c k, List.length_map]
    show k * 10 + 10 = _
    omega
def lpI : Sx := sFor (Ev.gN 3) (iE (eC c_FIGURES)) (sSeq (sPut (eV 1) (eOp oAdd (eOp oAdd (eCut (eV 0) none (some (eV 2))) (eV 3)) (eCut (eV 0) (some (eOp oAdd (eV 2) (eC (.int 1)))) none)) (eC (.bl true))) sNop)
theorem lpI_ok {n k : Nat} {c : Nat → Nat} (hn : n ≤ 18) (hk : k < n) {s : Stt} (hs : HasD s (RWp n c k)) (z3 : Option PV) : ∃ u3 s', lpI [some (.str (tx n c)), some (.ref 0), some (.int (k : Nat)), z3, none] s = .nx [some (.str (tx n c)), some (.ref 0), some (.int (k : Nat)), u3, none] s' ∧ HasD s' (RWp n c (k + 1)) := by
  obtain ⟨ρ', s', e, ⟨z3', rfl⟩, hd⟩ := sFor_acc (l := DGs.map fun x => .str [x]) (g := Ev.gN 3) (src := iE (eC c_FIGURES)) (ρ := [some (.str (tx n c)), some (.ref 0), some (.int (k : Nat)), z3, none]) (s := s)
    (b := sSeq (sPut (eV 1) (eOp oAdd (eOp oAdd (eCut (eV 0) none (some (eV 2))) (eV 3)) (eCut (eV 0) (some (eOp oAdd (eV 2) (eC (.int 1)))) none)) (eC (.bl true))) sNop)
    (P := fun j ρ s1 => (∃ z3, ρ = [some (.str (tx n c)), some (.ref 0), some (.int (k : Nat)), z3, none]) ∧ HasD s1 (RWp n c k ++ (DGs.take j).map fun x => tx n (put c k x)))
    (iE_ok (a := eC c_FIGURES) (p := c_FIGURES) rfl rfl) (fun _ => rfl) ⟨⟨z3, rfl⟩, by simpa using hs⟩ fun j x ρ s1 hx hP => by
      obtain ⟨⟨z3, rfl⟩, hd⟩ := hP
      rw [List.getElem?_map] at hx
      obtain ⟨y, hy, rfl⟩ := Option.map_eq_some_iff.mp hx
      obtain ⟨hj, hy⟩ := List.getElem?_eq_some_iff.mp hy
      have hj' : j < 10 := hj
      obtain ⟨s2, e, h2⟩ := put_row (e := eOp oAdd (eOp oAdd (eCut (eV 0) none (some (eV 2))) (eV 3)) (eCut (eV 0) (some (eOp oAdd (eV 2) (eC (.int 1)))) none)) (ρ := [some (.str (tx n c)), some (.ref 0), some (.int (k : Nat)), some (.str [y]), none]) hd (by
        rw [List.length_append, RWp_len, List.length_map, List.length_take]
        omega) (sub_e (a := eV 0) (p := eV 2) (q := eV 3) rfl rfl rfl (by omega) hk) rfl
      refine ⟨[some (.str (tx n c)), some (.ref 0), some (.int (k : Nat)), some (.str [y]), none], [some (.str (tx n c)), some (.ref 0), some (.int (k : Nat)), some (.str [y]), none], s2, rfl, ?_, ⟨_, rfl⟩, ?_⟩
      · rw [sSeq_s, e]
        rfl
      · have q : DGs.take (j + 1) = DGs.take j ++ [y] := by
          rw [← hy]
          exact List.take_succ_eq_append_getElem hj
        rw [q, List.map_append, ← List.append_assoc]
        exact h2
  refine ⟨z3', s', e, ?_⟩
  rw [RWp_succ]
  have q : (DGs.take (DGs.map fun x => PV.str [x]).length) = DGs := rfl
  rw [q] at hd
  exact hd
def lpO : Sx := sFor (Ev.gN 2) (iRange1 (eFn bLen (lCons (eV 0) lNil))) (sSeq lpI sNop)
theorem rng_nat (n : Nat) : (fun (_ : Stt) => some (rng 0 ((n : Nat) : Int).toNat)) = fun _ => some ((List.range n).map fun i => PV.int (i : Nat)) := by
  funext _
  rw [rng_range, Int.toNat_natCast]
  congr 1
  refine List.map_congr_left fun d _ => ?_
  rw [Int.zero_add]
theorem lpO_ok {n : Nat} {c : Nat → Nat} (hn : n ≤ 18) {s : Stt} (hs : HasD s []) : ∃ z2 z3 s', lpO [some (.str (tx n c)), some (.ref 0), none, none, none] s = .nx [some (.str (tx n c)), some (.ref 0), z2, z3, none] s' ∧ HasD s' (RWp n c n) := by
  have el : eFn bLen (lCons (eV 0) lNil) [some (.str (tx n c)), some (.ref 0), none, none, none] s = .ok (.int (n : Nat)) s := by
    have q := len_e (a := eV 0) (ρ := [some (.str (tx n c)), some (.ref 0), none, none, none]) (s := s) (G := tx n c) rfl (by rw [tx_len]; omega)
    rw [tx_len] at q
    exact q
  have es := iRange1_ok el (by omega) (by omega)
  rw [rng_nat] at es
  obtain ⟨ρ', s', e, ⟨z2, z3, rfl⟩, hd⟩ := sFor_acc (l := (List.range n).map fun i => PV.int (i : Nat)) (g := Ev.gN 2) (ρ := [some (.str (tx n c)), some (.ref 0), none, none, none]) (s := s) (b := sSeq lpI sNop)
    (P := fun k ρ s1 => (∃ z2 z3, ρ = [some (.str (tx n c)), some (.ref 0), z2, z3, none]) ∧ HasD s1 (RWp n c k)) es (fun _ => rfl) ⟨⟨none, none, rfl⟩, hs⟩ fun k x ρ s1 hx hP => by
      obtain ⟨⟨z2, z3, rfl⟩, hd⟩ := hP
      rw [List.getElem?_map] at hx
      have hk : k < n := by
        have := List.getElem?_eq_some_iff.mp (Option.map_eq_some_iff.mp hx).choose_spec.1
        simpa using this.1
      rw [List.getElem?_range hk] at hx
      cases hx
      obtain ⟨z3', s2, e, h2⟩ := lpI_ok hn hk hd z3
      refine ⟨[some (.str (tx n c)), some (.ref 0), some (.int (k : Nat)), z3, none], [some (.str (tx n c)), some (.ref 0), some (.int (k : Nat)), z3', none], s2, rfl, ?_, ⟨_, _, rfl⟩, h2⟩
      rw [sSeq_s, e]
      rfl
  rw [List.length_map, List.length_range] at hd
  exact ⟨z2, z3, s', e, hd⟩
def lpS : Sx := sFor (Ev.gN 2) (iRange1 (eOp oSub (eFn bLen (lCons (eV 0) lNil)) (eC (.int 1)))) (sSeq (sPut (eV 1) (eOp oAdd (eOp oAdd (eOp oAdd (eCut (eV 0) none (some (eV 2))) (eOp oIx (eV 0) (eOp oAdd (eV 2) (eC (.int 1))))) (eOp oIx (eV 0) (eV 2))) (eCut (eV 0) (some (eOp oAdd (eV 2) (eC (.int 2)))) none)) (eC (.bl true))) sNop)
theorem lpS_ok {n : Nat} {c : Nat → Nat} (h1 : 1 ≤ n) (hn : n ≤ 18) {s : Stt} (hs : HasD s (RWp n c n)) (z2 z3 : Option PV) : ∃ u2 s', lpS [some (.str (tx n c)), some (.ref 0), z2, z3, none] s = .nx [some (.str (tx n c)), some (.ref 0), u2, z3, none] s' ∧ HasD s' (NR n c) := by
  have el : eOp oSub (eFn bLen (lCons (eV 0) lNil)) (eC (.int 1)) [some (.str (tx n c)), some (.ref 0), z2, z3, none] s = .ok (.int ((n - 1 : Nat) : Int)) s := by
    have q := len_e (a := eV 0) (ρ := [some (.str (tx n c)), some (.ref 0), z2, z3, none]) (s := s) (G := tx n c) rfl (by rw [tx_len]; omega)
    rw [tx_len] at q
    rw [eOp_s, q]
    show Res.ok (PV.int ((n : Int) - 1)) s = _
    rw [show (n : Int) - 1 = ((n - 1 : Nat) : Int) by omega]
  have es := iRange1_ok el (by omega) (by omega)
  rw [rng_nat] at es
  obtain ⟨ρ', s', e, ⟨z2', rfl⟩, hd⟩ := sFor_acc (l := (List.range (n - 1)).map fun i => PV.int (i : Nat)) (g := Ev.gN 2) (ρ := [some (.str (tx n c)), some (.ref 0), z2, z3, none]) (s := s) (b := sSeq (sPut (eV 1) (eOp oAdd (eOp oAdd (eOp oAdd (eCut (eV 0) none (some (eV 2))) (eOp oIx (eV 0) (eOp oAdd (eV 2) (eC (.int 1))))) (eOp oIx (eV 0) (eV 2))) (eCut (eV 0) (some (eOp oAdd (eV 2) (eC (.int 2)))) none)) (eC (.bl true))) sNop)
    (P := fun k ρ s1 => (∃ z2, ρ = [some (.str (tx n c)), some (.ref 0), z2, z3, none]) ∧ HasD s1 (RWp n c n ++ (List.range k).map fun k => tx n (swp c k))) es (fun _ => rfl) ⟨⟨z2, rfl⟩, by simpa using hs⟩ fun k x ρ s1 hx hP => by
      obtain ⟨⟨z2, rfl⟩, hd⟩ := hP
      rw [List.getElem?_map] at hx
      have hk : k < n - 1 := by
        have := List.getElem?_eq_some_iff.mp (Option.map_eq_some_iff.mp hx).choose_spec.1
        simpa using this.1
      rw [List.getElem?_range hk] at hx
      cases hx
      obtain ⟨s2, e, h2⟩ := put_row (e := eOp oAdd (eOp oAdd (eOp oAdd (eCut (eV 0) none (some (eV 2))) (eOp oIx (eV 0) (eOp oAdd (eV 2) (eC (.int 1))))) (eOp oIx (eV 0) (eV 2))) (eCut (eV 0) (some (eOp oAdd (eV 2) (eC (.int 2)))) none)) (ρ := [some (.str (tx n c)), some (.ref 0), some (.int (k : Nat)), z3, none]) hd (by
        rw [List.length_append, RWp_len, List.length_map, List.length_range]
        omega) (swp_e (a := eV 0) (p := eV 2) rfl rfl (by omega) (by omega)) rfl
      refine ⟨[some (.str (tx n c)), some (.ref 0), some (.int (k : Nat)), z3, none], [some (.str (tx n c)), some (.ref 0), some (.int (k : Nat)), z3, none], s2, rfl, ?_, ⟨_, rfl⟩, ?_⟩
      · rw [sSeq_s, e]
        rfl
      · rw [List.range_succ, List.map_append, ← List.append_assoc]
        exact h2
  rw [List.length_map, List.length_range] at hd
  exact ⟨z2', s', e, hd⟩
theorem srtN_mem {x : List Nat} : ∀ {l : List (List Nat)}, x ∈ srtN l → x ∈ l
  | [], h => h
  | y :: ys, h => (insN_mem h).elim (fun e => e ▸ List.mem_cons_self ..) fun q => List.mem_cons_of_mem _ (srtN_mem q)
theorem b_mended_eq : b_mended_by_one = sSeq (sExpr (eCallF f_sum_of_card (lCons (eV 0) lNil))) (sSeq (sAsg (Ev.gN 1) eDctM) (sSeq lpO (sSeq lpS (sSeq (sRet (eTupG (lComp [4] (Ev.gN 4) (iE (eFn bSortedA (lCons (eV 1) lNil))) (Ev.tAnd (tCp cNe (eV 4) (eV 0)) (tE (eCallF f_is_card (lCons (eV 4) lNil)))) (eV 4)))) sNop)))) := rfl
theorem mend_ok {n : Nat} {c : Nat → Nat} (h1 : 1 ≤ n) (hn : n ≤ 18) (hD : DD n c) (s : Stt) : pureF f_mended_by_one [.str (tx n c)] s = .ok (.tup ((KN n c).map .str)) s := by
  have nr : nrP (.tup ((KN n c).map .str)) = true := by
    show nrPs ((KN n c).map .str) = true
    generalize KN n c = L
    induction L with
    | nil => rfl
    | cons x l ih => exact ih
  have core : ∃ s2, f_mended_by_one [.str (tx n c)] ⟨[]⟩ = .ok (.tup ((KN n c).map .str)) s2 := by
    have run : f_mended_by_one [.str (tx n c)] ⟨[]⟩ = (b_mended_by_one [some (.str (tx n c)), none, none, none, none] ⟨[]⟩).fn := mkFn_e 5 1 b_mended_by_one _ _ rfl
    have e0 : eCallF f_sum_of_card (lCons (eV 0) lNil) [some (.str (tx n c)), none, none, none, none] ⟨[]⟩ = .ok (.int (CD n c)) ⟨[]⟩ := card_ok hD h1 hn ⟨[]⟩
    obtain ⟨z2, z3, s1, e1, d1⟩ := lpO_ok (c := c) hn (s := ⟨[.dct []]⟩) ⟨[], rfl, rfl⟩
    obtain ⟨z2', s2, e2, d2⟩ := lpS_ok (c := c) h1 hn d1 z2 z3
    obtain ⟨d, rfl, hd⟩ := d2
    refine ⟨⟨[.dct d]⟩, ?_⟩
    rw [run, b_mended_eq, sSeq_s, sExpr_s, e0, Res.sbind_ok, SRes.seq_nx, sSeq_s]
    show (SRes.seq (.nx [some (.str (tx n c)), some (.ref 0), none, none, none] ⟨[.dct []]⟩) _).fn = _
    rw [SRes.seq_nx, sSeq_s, e1, SRes.seq_nx, sSeq_s, e2, SRes.seq_nx, sSeq_s, sRet_s]
    have el : eFn bSortedA (lCons (eV 1) lNil) [some (.str (tx n c)), some (.ref 0), z2', z3, none] ⟨[.dct d]⟩ = .ok (.lst ((srtN (keysN (NR n c))).map .str)) ⟨[.dct d]⟩ := by
      show Res.ofO _ (if srtOk (d.map (·.1)) && lenOk d then some (PV.lst (srtP (d.map (·.1)))) else none) = _
      have hl : lenOk d = true := lenOk_of (by
        have q := congrArg List.length hd
        rw [List.length_map, List.length_map] at q
        have := keysN_len (NR n c)
        have := NR_len (c := c) (show n ≤ 20 by omega)
        unfold szl
        omega)
      rw [hl, hd, srtOk_S]
      show Res.ofO _ (some (PV.lst (srtP (ofS (keysN (NR n c)))))) = _
      rw [srtP_strs]
      rfl
    have e3 := lComp_pure (own := [4]) (g := Ev.gN 4) (t := Ev.tAnd (tCp cNe (eV 4) (eV 0)) (tE (eCallF f_is_card (lCons (eV 4) lNil)))) (e := eV 4) (ρ := [some (.str (tx n c)), some (.ref 0), z2', z3, none]) (s := ⟨[.dct d]⟩) (l := (srtN (keysN (NR n c))).map .str) (isK (tx n c)) (fun x => x) (iE_ok el rfl) rfl (by
        rw [List.length_map]
        have q : ∀ l : List (List Nat), (srtN l).length = l.length := fun l => by
          have a := congrArg List.length (srtP_strs l)
          unfold ofS at a
          rw [List.length_map] at a
          have b : ∀ (x : PV) (m : List PV), (insP x m).length = m.length + 1 := fun x m => by
            induction m with
            | nil => rfl
            | cons y ys ih =>
              unfold insP
              split
              · rw [List.length_cons, ih, List.length_cons]
              · rfl
          have b2 : ∀ m : List PV, (srtP m).length = m.length := fun m => by
            induction m with
            | nil => rfl
            | cons y ys ih =>
              show (insP y (srtP ys)).length = _
              rw [b, ih, List.length_cons]
          rw [b2, List.length_map] at a
          exact a.symm
        rw [q]
        have := keysN_len (NR n c)
        have := NR_len (c := c) (show n ≤ 20 by omega)
        unfold szl
        omega) fun x hx => by
      obtain ⟨y, hy, rfl⟩ := List.mem_map.mp hx
      obtain ⟨d', rfl, hd'⟩ := NR_d hD (keysN_sub (srtN_mem hy))
      refine ⟨[some (.str (tx n c)), some (.ref 0), z2', z3, some (.str (tx n d'))], rfl, ?_, fun _ => rfl⟩
      have t1 : tCp cNe (eV 4) (eV 0) [some (.str (tx n c)), some (.ref 0), z2', z3, some (.str (tx n d'))] ⟨[.dct d]⟩ = .ok (!(tx n d' == tx n c)) ⟨[.dct d]⟩ := rfl
      have t2 : eCallF f_is_card (lCons (eV 4) lNil) [some (.str (tx n c)), some (.ref 0), z2', z3, some (.str (tx n d'))] ⟨[.dct d]⟩ = .ok (.bl (CD n d' % 10 == 0)) ⟨[.dct d]⟩ := isc_ok hd' h1 hn _
      rw [tAnd_s, t1, Res.bind_ok, tE_s, t2]
      show _ = Res.ok (keepN (tx n c) (tx n d')) _
      unfold keepN
      rw [cdT_tx]
      cases (tx n d' == tx n c) <;> rfl
    rw [List.map_id', filt_isK, ← srtN_filter] at e3
    unfold eTupG
    rw [e3]
    rfl
  obtain ⟨s2, core⟩ := core
  exact pureF_ok s rfl core nr
end K01
namespace K01
open Ev
/-! the near ones of a card differ in two places -/
def dif (n : Nat) (c d : Nat → Nat) : List Nat := (List.range n).filter fun i => !(d i == c i)
theorem dif_succ (n : Nat) (c d : Nat → Nat) : (dif (n + 1) c d).length = (dif n c d).length + if d n == c n then 0 else 1 := by
  unfold dif
  rw [List.range_succ, List.filter_append, List.length_append]
  congr 1
  cases h : d n == c n with
  | true => simp [h]
  | false => simp [h]
theorem dif_mono (n m : Nat) (c d : Nat → Nat) : (dif n c d).length ≤ (dif (n + m) c d).length := by
  induction m with
  | zero => exact Nat.le_refl _
  | succ m ih =>
    rw [← Nat.add_assoc, dif_succ]
    omega
theorem near_two {n : Nat} {c : Nat → Nat} (hD : DD n c) (h0 : CD n c % 10 = 0) {x : List Nat} (hx : x ∈ NR n c) (hk : keepN (tx n c) x = true) : ∃ d, x = tx n d ∧ DD n d ∧ 2 ≤ (dif n c d).length := by
  have hk' : (x == tx n c) = false ∧ cdT x % 10 = 0 := by
    unfold keepN at hk
    simpa using hk
  rcases NR_mem hx with ⟨k, y, hkn, hy, rfl⟩ | ⟨k, hkn, rfl⟩
  · rw [cdT_tx] at hk'
    have e := card_odd hkn hD hy h0 hk'.2
    have : tx n (put c k y) = tx n c := tx_ext fun i hi => by
      unfold put
      split
      · rename_i q
        rw [q]
        exact e
      · rfl
    rw [this] at hk'
    simp at hk'
  · refine ⟨_, rfl, swp_d hD hkn, ?_⟩
    have ne : c k ≠ c (k + 1) := fun q => by
      have : tx n (swp c k) = tx n c := tx_ext fun i hi => by
        unfold swp
        split
        · rename_i r
          rw [r]
          exact q.symm
        · split
          · rename_i r
            rw [r]
            exact q
          · rfl
      rw [this] at hk'
      simp at hk'
    have a1 : swp c k k = c (k + 1) := if_pos rfl
    have a2 : swp c k (k + 1) = c k := by
      unfold swp
      rw [if_neg (by omega), if_pos rfl]
    have b1 := dif_succ k c (swp c k)
    have b2 := dif_succ (k + 1) c (swp c k)
    rw [a1, if_neg (by simpa using fun q => ne q.symm)] at b1
    rw [a2, if_neg (by simpa using ne)] at b2
    have b3 := dif_mono (k + 2) (n - (k + 2)) c (swp c k)
    rw [show k + 2 + (n - (k + 2)) = n by omega] at b3
    have b2' : (dif (k + 2) c (swp c k)).length = (dif (k + 1) c (swp c k)).length + 1 := b2
    omega
theorem KN_mem {n : Nat} {c : Nat → Nat} {x : List Nat} (h : x ∈ KN n c) : x ∈ NR n c ∧ keepN (tx n c) x = true := by
  have a := List.mem_filter.mp (srtN_mem h)
  exact ⟨keysN_sub a.1, a.2⟩
/-- the law's loop over groups -/
def lw27 : Sx := sAsg (Ev.gN 27) (eCut (eV 3) (some (eFn bLen (lCons (eV 19) lNil))) (some (lgf 19 25)))
def lwJ : Ex := eJ (eC (.str [57, 55, 56])) (eV 19) (eV 27) (eCut (eV 3) (some (lgf 19 25)) none) (eOp oIx (eV 10) (eC (.int 12)))
def CE : List Nat := [67, 111, 100, 101, 69, 114, 114, 111, 114]
def lwT : Tx := Ev.tAnd (tCp cEq (eV 18) (eC (.str CE))) (Ev.tAnd (tCp cEq (eCut (eV 3) none (some (eFn bLen (lCons (eV 19) lNil)))) (eV 19)) (tCh cLe cLe (eV 25) (eV 27) (eV 26)))
def lwI : Sx := sSeq lw27 (sSeq (sIf lwT (sSeq (sAsg (Ev.gN 18) lwJ) sNop) sNop) sNop)
def lwO : Sx := sSeq (sFor (gT [(Ev.gN 25), (Ev.gN 26)]) (iE (eV 20)) lwI) sNop
/-- what stands in slot 18 after a row -/
def nxt (D : List Nat) (o : Nat → Nat) (G A B : List Nat) (g m : Nat) : List Nat := if D == CE && (tx g o == G && inR A B (hou o g m)) then VV o G g m else D
theorem V_tx3 (o : Nat → Nat) : tx 3 (same o) = [57, 55, 56] := rfl
section
variable {o : Nat → Nat} {G A B D : List Nat} {g m : Nat}
theorem lrow (hG : G.length = g) (hA : A.length = m) (hgm : g + m < 9) {ρ : Env} {s : Stt} (h3 : ρ[3]? = some (some (.str (tx 9 o)))) (h10 : ρ[10]? = some (some (.str (tx 13 (same o))))) (h18 : ρ[18]? = some (some (.str D))) (h19 : ρ[19]? = some (some (.str G)))
    (h25 : ρ[25]? = some (some (.str A))) (h26 : ρ[26]? = some (some (.str B))) (h27 : 27 < ρ.length) : lwI ρ s = .nx ((ρ.set 27 (some (.str (hou o g m)))).set 18 (some (.str (nxt D o G A B g m)))) s := by
  subst hG hA
  have e27 := cutM (a := eV 3) (c := o) (s := s) (eV_e h3) (len_e (a := eV 19) (eV_e h19) (by omega)) (lgf_ok h19 h25 (by omega) (by omega)) (by omega) (by omega) (by omega)
  rw [Nat.add_sub_cancel_left, show (tx A.length fun i => o (G.length + i)) = hou o G.length A.length from rfl] at e27
  unfold lwI lw27
  rw [sSeq_s, sAsg_s, e27, Res.sbind_ok, gN_s, SRes.ofO_some, SRes.seq_nx, sSeq_s]
  generalize hρ : ρ.set 27 (some (.str (hou o G.length A.length))) = ρ'
  have k3 : ρ'[3]? = some (some (.str (tx 9 o))) := by rw [← hρ, List.getElem?_set_ne (by omega)]; exact h3
  have k10 : ρ'[10]? = some (some (.str (tx 13 (same o)))) := by rw [← hρ, List.getElem?_set_ne (by omega)]; exact h10
  have k18 : ρ'[18]? = some (some (.str D)) := by rw [← hρ, List.getElem?_set_ne (by omega)]; exact h18
  have k19 : ρ'[19]? = some (some (.str G)) := by rw [← hρ, List.getElem?_set_ne (by omega)]; exact h19
  have k25 : ρ'[25]? = some (some (.str A)) := by rw [← hρ, List.getElem?_set_ne (by omega)]; exact h25
  have k26 : ρ'[26]? = some (some (.str B)) := by rw [← hρ, List.getElem?_set_ne (by omega)]; exact h26
  have k27 : ρ'[27]? = some (some (.str (hou o G.length A.length))) := by rw [← hρ, List.getElem?_set_self h27]
  have t1 : tCp cEq (eV 18) (eC (.str CE)) ρ' s = .ok (D == CE) s := by
    rw [tCp_s, eV_e k18, Res.bind_ok, eC_s, Res.bind_ok]
    rfl
  have t2 : tCp cEq (eCut (eV 3) none (some (eFn bLen (lCons (eV 19) lNil)))) (eV 19) ρ' s = .ok (tx G.length o == G) s := by
    rw [tCp_s, cutE (lo := eV 3) (c := o) (n := 9) (eV_e k3) (len_e (a := eV 19) (eV_e k19) (by omega)) (by omega) (by omega), Res.bind_ok, eV_e k19]
    rfl
  have t3 := chain_e (s := s) (eV_e k25) (eV_e k27) (eV_e k26)
  have eT : lwT ρ' s = .ok (D == CE && (tx G.length o == G && inR A B (hou o G.length A.length))) s := by
    unfold lwT
    rw [tAnd_s, t1, Res.bind_ok]
    cases D == CE with
    | false => rfl
    | true =>
      rw [if_pos rfl, tAnd_s, t2, Res.bind_ok]
      cases tx G.length o == G with
      | false => rfl
      | true => exact t3
  rw [sIf_s, eT, Res.sbind_ok]
  unfold nxt
  cases D == CE && (tx G.length o == G && inR A B (hou o G.length A.length)) with
  | false =>
    have q : ρ'.set 18 (some (.str D)) = ρ' := by
      apply List.ext_getElem?
      intro i
      by_cases hi : i = 18
      · subst hi
        rw [k18, List.getElem?_set_self (by have := List.getElem?_eq_some_iff.mp k18; exact this.1)]
      · rw [List.getElem?_set_ne (fun r => hi r.symm)]
    rw [if_neg Bool.false_ne_true, if_neg Bool.false_ne_true, q]
    rfl
  | true =>
    have ej : lwJ ρ' s = .ok (.str (VV o G G.length A.length)) s := by
      unfold lwJ
      rw [eJ_ok (A := [57, 55, 56]) (B := G) (C := hou o G.length A.length) (D := boo o (G.length + A.length)) (E := [same o 12]) rfl (eV_e k19) (eV_e k27) (cutF (lo := lgf 19 25) (a := eV 3) (c := o) (eV_e k3) (lgf_ok k19 k25 (by omega) (by omega)) (by omega) (by omega)) ?_ ?_]
      · rfl
      · rw [eOp_s, eV_e k10, Res.bind_ok, eC_s, Res.bind_ok]
        show Res.ofO s (oIx s (.str (tx 13 (same o))) (.int (12 : Nat))) = _
        rw [ix_tx s (by omega) (by omega)]
        rfl
      · unfold hou boo
        rw [tx_len, tx_len]
        show 3 + G.length + A.length + (9 - (G.length + A.length)) + 1 ≤ 1000
        omega
    rw [if_pos rfl, sSeq_s, sAsg_s, ej, Res.sbind_ok, gN_s]
    rfl
end
end K01
namespace K01
open Ev
/-! the law's slots; the loop over groups -/
abbrev EA (p : PV) (k : Nat) (o w : Nat → Nat) (l : Env) : Env := some p :: some GRP :: some (.ref k) :: some (.str (tx 9 o)) :: some (.str (tx 12 w)) :: some (.str [o 9]) :: some (.str [w 12]) :: some (.str (tx 10 o)) :: some (.str (tx 13 w)) :: some (.str (tx 12 (same o))) :: some (.str (tx 13 (same o))) :: l
def dueT (o : Nat → Nat) : List Nat := match due o with
  | some v => v
  | none => CE
theorem VV_CE (o : Nat → Nat) (G : List Nat) (g m : Nat) : (VV o G g m == CE) = false := rfl
theorem nxt_V (o : Nat → Nat) (G A B : List Nat) (g m : Nat) (G' : List Nat) (g' m' : Nat) : nxt (VV o G' g' m') o G A B g m = VV o G' g' m' := by
  unfold nxt
  rw [VV_CE]
  rfl
theorem nxt_CE (o : Nat → Nat) (G A B : List Nat) (g m : Nat) : nxt CE o G A B g m = if tx g o == G && inR A B (hou o g m) then VV o G g m else CE := rfl
theorem nxt4 (o : Nat → Nat) : nxt (nxt (nxt (nxt CE o [48] [48, 48] [49, 57] 1 2) o [48] [50, 48, 48] [54, 57, 57] 1 3) o [48] [55, 48, 48, 48] [56, 52, 57, 57] 1 4) o [49, 51] [48] [52] 2 1 = dueT o := by
  unfold dueT due
  rw [nxt_CE]
  cases tx 1 o == [48] && inR [48, 48] [49, 57] (hou o 1 2) with
  | true => simp only [if_true, nxt_V]
  | false =>
    rw [if_neg Bool.false_ne_true, if_neg Bool.false_ne_true, nxt_CE]
    cases tx 1 o == [48] && inR [50, 48, 48] [54, 57, 57] (hou o 1 3) with
    | true => simp only [if_true, nxt_V]
    | false =>
      rw [if_neg Bool.false_ne_true, if_neg Bool.false_ne_true, nxt_CE]
      cases tx 1 o == [48] && inR [55, 48, 48, 48] [56, 52, 57, 57] (hou o 1 4) with
      | true => simp only [if_true, nxt_V]
      | false =>
        rw [if_neg Bool.false_ne_true, if_neg Bool.false_ne_true, nxt_CE]
        cases tx 2 o == [49, 51] && inR [48] [52] (hou o 2 1) <;> rfl
section
variable {p : PV} {k : Nat} {o w : Nat → Nat}
/-- the slots in the loop -/
abbrev EG (p : PV) (k : Nat) (o w : Nat → Nat) (a11 a12 a13 a14 a15 a16 a17 : Option PV) (D : List Nat) (z19 z20 a21 a22 a23 a24 z25 z26 z27 a28 a29 : Option PV) : Env := EA p k o w [a11, a12, a13, a14, a15, a16, a17, some (.str D), z19, z20, a21, a22, a23, a24, z25, z26, z27, a28, a29]
theorem lrow' {G A B D : List Nat} {g m : Nat} (hG : G.length = g) (hA : A.length = m) (hgm : g + m < 9) (a11 a12 a13 a14 a15 a16 a17 z20 a21 a22 a23 a24 z27 a28 a29 : Option PV) (s : Stt) :
    lwI (EG p k o w a11 a12 a13 a14 a15 a16 a17 D (some (.str G)) z20 a21 a22 a23 a24 (some (.str A)) (some (.str B)) z27 a28 a29) s = .nx (EG p k o w a11 a12 a13 a14 a15 a16 a17 (nxt D o G A B g m) (some (.str G)) z20 a21 a22 a23 a24 (some (.str A)) (some (.str B)) (some (.str (hou o g m))) a28 a29) s :=
  lrow (G := G) (A := A) (B := B) (D := D) (g := g) (m := m) hG hA hgm rfl rfl rfl rfl rfl rfl (by show 27 < 30; omega)
def st24 : Sx := sFor (gT [(Ev.gN 19), (Ev.gN 20)]) (iE (eV 1)) lwO
theorem st24_ok (a11 a12 a13 a14 a15 a16 a17 z19 z20 a21 a22 a23 a24 z25 z26 z27 a28 a29 : Option PV) (s : Stt) : ∃ u19 u20 u25 u26 u27, st24 (EG p k o w a11 a12 a13 a14 a15 a16 a17 CE z19 z20 a21 a22 a23 a24 z25 z26 z27 a28 a29) s = .nx (EG p k o w a11 a12 a13 a14 a15 a16 a17 (dueT o) u19 u20 a21 a22 a23 a24 u25 u26 u27 a28 a29) s := by
  refine ⟨some (.str [49, 51]), some (.tup [rw1 [48] [52]]), some (.str [48]), some (.str [52]), some (.str (hou o 2 1)), ?_⟩
  unfold st24
  rw [sFor_V (i := 1) (p := GRP) rfl (fun _ => rfl)]
  rw [forL_cons (ρ1 := EG p k o w a11 a12 a13 a14 a15 a16 a17 CE (some (.str [48])) (some (.tup [rw1 [48, 48] [49, 57], rw1 [50, 48, 48] [54, 57, 57], rw1 [55, 48, 48, 48] [56, 52, 57, 57]])) a21 a22 a23 a24 z25 z26 z27 a28 a29) rfl]
  have g0 : lwO (EG p k o w a11 a12 a13 a14 a15 a16 a17 CE (some (.str [48])) (some (.tup [rw1 [48, 48] [49, 57], rw1 [50, 48, 48] [54, 57, 57], rw1 [55, 48, 48, 48] [56, 52, 57, 57]])) a21 a22 a23 a24 z25 z26 z27 a28 a29) s
      = .nx (EG p k o w a11 a12 a13 a14 a15 a16 a17 (nxt (nxt (nxt CE o [48] [48, 48] [49, 57] 1 2) o [48] [50, 48, 48] [54, 57, 57] 1 3) o [48] [55, 48, 48, 48] [56, 52, 57, 57] 1 4) (some (.str [48])) (some (.tup [rw1 [48, 48] [49, 57], rw1 [50, 48, 48] [54, 57, 57], rw1 [55, 48, 48, 48] [56, 52, 57, 57]])) a21 a22 a23 a24 (some (.str [55, 48, 48, 48])) (some (.str [56, 52, 57, 57])) (some (.str (hou o 1 4))) a28 a29) s := by
    unfold lwO
    rw [sSeq_s, sFor_V (i := 20) (p := .tup [rw1 [48, 48] [49, 57], rw1 [50, 48, 48] [54, 57, 57], rw1 [55, 48, 48, 48] [56, 52, 57, 57]]) rfl (fun _ => rfl)]
    rw [forL_cons (ρ1 := EG p k o w a11 a12 a13 a14 a15 a16 a17 CE (some (.str [48])) (some (.tup [rw1 [48, 48] [49, 57], rw1 [50, 48, 48] [54, 57, 57], rw1 [55, 48, 48, 48] [56, 52, 57, 57]])) a21 a22 a23 a24 (some (.str [48, 48])) (some (.str [49, 57])) z27 a28 a29) rfl, lrow' (g := 1) (m := 2) rfl rfl (by omega), SRes.seq_nx]
    rw [forL_cons (ρ1 := EG p k o w a11 a12 a13 a14 a15 a16 a17 (nxt CE o [48] [48, 48] [49, 57] 1 2) (some (.str [48])) (some (.tup [rw1 [48, 48] [49, 57], rw1 [50, 48, 48] [54, 57, 57], rw1 [55, 48, 48, 48] [56, 52, 57, 57]])) a21 a22 a23 a24 (some (.str [50, 48, 48])) (some (.str [54, 57, 57])) (some (.str (hou o 1 2))) a28 a29) rfl, lrow' (g := 1) (m := 3) rfl rfl (by omega), SRes.seq_nx]
    rw [forL_cons (ρ1 := EG p k o w a11 a12 a13 a14 a15 a16 a17 (nxt (nxt CE o [48] [48, 48] [49, 57] 1 2) o [48] [50, 48, 48] [54, 57, 57] 1 3) (some (.str [48])) (some (.tup [rw1 [48, 48] [49, 57], rw1 [50, 48, 48] [54, 57, 57], rw1 [55, 48, 48, 48] [56, 52, 57, 57]])) a21 a22 a23 a24 (some (.str [55, 48, 48, 48])) (some (.str [56, 52, 57, 57])) (some (.str (hou o 1 3))) a28 a29) rfl, lrow' (g := 1) (m := 4) rfl rfl (by omega), SRes.seq_nx]
    rfl
  rw [g0, SRes.seq_nx]
  rw [forL_cons (ρ1 := EG p k o w a11 a12 a13 a14 a15 a16 a17 (nxt (nxt (nxt CE o [48] [48, 48] [49, 57] 1 2) o [48] [50, 48, 48] [54, 57, 57] 1 3) o [48] [55, 48, 48, 48] [56, 52, 57, 57] 1 4) (some (.str [49, 51])) (some (.tup [rw1 [48] [52]])) a21 a22 a23 a24 (some (.str [55, 48, 48, 48])) (some (.str [56, 52, 57, 57])) (some (.str (hou o 1 4))) a28 a29) rfl]
  unfold lwO
  rw [sSeq_s, sFor_V (i := 20) (p := .tup [rw1 [48] [52]]) rfl (fun _ => rfl)]
  rw [forL_cons (ρ1 := EG p k o w a11 a12 a13 a14 a15 a16 a17 (nxt (nxt (nxt CE o [48] [48, 48] [49, 57] 1 2) o [48] [50, 48, 48] [54, 57, 57] 1 3) o [48] [55, 48, 48, 48] [56, 52, 57, 57] 1 4) (some (.str [49, 51])) (some (.tup [rw1 [48] [52]])) a21 a22 a23 a24 (some (.str [48])) (some (.str [52])) (some (.str (hou o 1 4))) a28 a29) rfl, lrow' (g := 2) (m := 1) rfl rfl (by omega), SRes.seq_nx, nxt4]
  rfl
end
end K01
namespace K01
open Ev
/-! the one sign that checks, picked; the first slots -/
def isS (c : Nat → Bool) (p : PV) : Bool := match p with
  | .str [x] => c x
  | _ => false
theorem filt_isS (c : Nat → Bool) (l : List Nat) : (l.map fun x => PV.str [x]).filter (isS c) = (l.filter c).map fun x => .str [x] := by
  rw [List.filter_map]
  rfl
theorem put_app {n : Nat} (c : Nat → Nat) (x : Nat) : tx n c ++ [x] = tx (n + 1) (put c n x) := by
  rw [tx_succ, put_same]
  congr 1
  exact tx_ext fun i hi => (put_ne (by omega)).symm
theorem app_e {a b : Ex} {ρ : Env} {s : Stt} {n : Nat} {c : Nat → Nat} {x : Nat} (ha : a ρ s = .ok (.str (tx n c)) s) (hb : b ρ s = .ok (.str [x]) s) (hn : n ≤ 500) : eOp oAdd a b ρ s = .ok (.str (tx (n + 1) (put c n x))) s := by
  rw [eOp_s, ha, Res.bind_ok, hb, Res.bind_ok, add_s s (by rw [tx_len]; show n + 1 ≤ 1000; omega), put_app]
  rfl
def pk10 (a : Ex) : Ex := eOp oIx (eComp [12] (Ev.gN 12) (iE (eC (.str [48, 49, 50, 51, 52, 53, 54, 55, 56, 57, 88]))) (tE (eCallF f_law_ten (lCons (eOp oAdd a (eV 12)) lNil))) (eV 12)) (eC (.int 0))
def pk13 (a : Ex) : Ex := eOp oIx (eComp [12] (Ev.gN 12) (iE (eC (.str [48, 49, 50, 51, 52, 53, 54, 55, 56, 57]))) (tE (eCallF f_law_thirteen (lCons (eOp oAdd a (eV 12)) lNil))) (eV 12)) (eC (.int 0))
theorem pk10_ok {a : Ex} {ρ : Env} {s : Stt} {c : Nat → Nat} (hD : DD 9 c) (hl : 12 < ρ.length) (ha : ∀ x, a ((wipeE ρ [12]).set 12 (some x)) s = .ok (.str (tx 9 c)) s) : pk10 a ρ s = .ok (.str [k10 (S10 9 c)]) s := by
  have e := eComp_pure (own := [12]) (g := Ev.gN 12) (t := tE (eCallF f_law_ten (lCons (eOp oAdd a (eV 12)) lNil))) (e := eV 12) (ρ := ρ) (s := s) (l := SG.map fun x => .str [x]) (isS fun x => T10 10 (put c 9 x) % 11 == 0) (fun x => x) (iE_ok (a := eC (.str [48, 49, 50, 51, 52, 53, 54, 55, 56, 57, 88])) (p := .str SG) rfl rfl) rfl (by show 11 ≤ szl; decide) fun x hx => by
    obtain ⟨y, hy, rfl⟩ := List.mem_map.mp hx
    have h12 : ((wipeE ρ [12]).set 12 (some (PV.str [y])))[12]? = some (some (.str [y])) := by
      rw [List.getElem?_set_self]
      show 12 < (ρ.set 12 none).length
      rw [List.length_set]
      exact hl
    refine ⟨_, rfl, ?_, fun _ => eV_e h12⟩
    have q := lten_ok (n := 10) (by omega) (c := put c 9 y) (fun i hi => by
      unfold put
      split
      · exact SG_dx y hy
      · exact (hD.dx) i (by omega)) s
    rw [tE_s, eCallF_s, lCons_s, app_e (ha _) (eV_e h12) (by omega), Res.bind_ok, lNil_s, Res.bind_ok, Res.bind_ok, q]
    rfl
  rw [List.map_id', filt_isS, fits10 hD] at e
  unfold pk10
  rw [eOp_s, e]
  rfl
theorem pk13_ok {a : Ex} {ρ : Env} {s : Stt} {c : Nat → Nat} (hD : DD 12 c) (hl : 12 < ρ.length) (ha : ∀ x, a ((wipeE ρ [12]).set 12 (some x)) s = .ok (.str (tx 12 c)) s) : pk13 a ρ s = .ok (.str [k13 (S13 12 c)]) s := by
  have e := eComp_pure (own := [12]) (g := Ev.gN 12) (t := tE (eCallF f_law_thirteen (lCons (eOp oAdd a (eV 12)) lNil))) (e := eV 12) (ρ := ρ) (s := s) (l := DGs.map fun x => .str [x]) (isS fun x => S13 13 (put c 12 x) % 10 == 0) (fun x => x) (iE_ok (a := eC (.str [48, 49, 50, 51, 52, 53, 54, 55, 56, 57])) (p := .str DGs) rfl rfl) rfl (by show 10 ≤ szl; decide) fun x hx => by
    obtain ⟨y, hy, rfl⟩ := List.mem_map.mp hx
    have h12 : ((wipeE ρ [12]).set 12 (some (PV.str [y])))[12]? = some (some (.str [y])) := by
      rw [List.getElem?_set_self]
      show 12 < (ρ.set 12 none).length
      rw [List.length_set]
      exact hl
    have all : ∀ x ∈ DGs, isD x = true := by decide
    refine ⟨_, rfl, ?_, fun _ => eV_e h12⟩
    have q := lthir_ok (n := 13) (by omega) (c := put c 12 y) (fun i hi => by
      unfold put
      split
      · exact all y hy
      · exact hD i (by omega)) s
    rw [tE_s, eCallF_s, lCons_s, app_e (ha _) (eV_e h12) (by omega), Res.bind_ok, lNil_s, Res.bind_ok, Res.bind_ok, q]
    rfl
  rw [List.map_id', filt_isS, fits13] at e
  unfold pk13
  rw [eOp_s, e]
  rfl
/-! statements -/
abbrev N19 : Env := [none, none, none, none, none, none, none, none, none, none, none, none, none, none, none, none, none, none, none]
def sA : Sx := (sAsg (gT [(Ev.gN 3), (Ev.gN 4)]) (eTup (lCons (eCall f_law_figures (lCons (eV 2) (lCons (eC (.int 9)) lNil))) (lCons (eOp oAdd (eOp oIx (eLst (lCons (eC (.str [57, 55, 56])) (lCons (eC (.str [57, 55, 57])) lNil))) (eCall f_law_roll (lCons (eV 2) (lCons (eC (.int 2)) lNil)))) (eCall f_law_figures (lCons (eV 2) (lCons (eC (.int 9)) lNil)))) lNil))))
def sB : Sx := (sAsg (Ev.gN 5) (pk10 (eV 3)))
def sC : Sx := (sAsg (Ev.gN 6) (pk13 (eV 4)))
def sD : Sx := (sAsg (gT [(Ev.gN 7), (Ev.gN 8)]) (eTup (lCons (eOp oAdd (eV 3) (eV 5)) (lCons (eOp oAdd (eV 4) (eV 6)) lNil))))
def sE : Sx := (sAsg (Ev.gN 9) (eOp oAdd (eC (.str [57, 55, 56])) (eV 3)))
def sF : Sx := (sAsg (Ev.gN 10) (eOp oAdd (eV 9) (pk13 (eV 9))))
/-- what is known of the old and the new number -/
structure Hk (o w : Nat → Nat) : Prop where
  o9 : DD 9 o
  oc : o 9 = k10 (S10 9 o)
  w13 : DD 13 w
  wp : p3 w = true
  wc : w 12 = k13 (S13 12 w)
theorem lfig_e {i m : Nat} {ρ : Env} {s : Stt} (h2 : ρ[2]? = some (some (.ref i))) (h : Dz i s) (hm : m ≤ 100) {e : Ex} {s0 : Stt} (he : e ρ s0 = .ok (.int (m : Nat)) s) : ∃ c s', eCall f_law_figures (lCons (eV 2) (lCons e lNil)) ρ s0 = .ok (.str (tx m c)) s' ∧ DD m c ∧ Dz i s' := by
  obtain ⟨c, s', e1, hd, dz⟩ := lfig_ok h hm
  refine ⟨c, s', ?_, hd, dz⟩
  rw [eCall_s, lCons_s, eV_e h2, Res.bind_ok, lCons_s, he, Res.bind_ok, lNil_s, Res.bind_ok, Res.bind_ok, Res.bind_ok, e1]
def pre (b : Nat) (i : Nat) : Nat := [57, 55, 56 + b].getD i 0
theorem sA_ok {p : PV} {k : Nat} {s : Stt} (h : Dz k s) : ∃ c v s', sA (some p :: some GRP :: some (.ref k) :: none :: none :: none :: none :: none :: none :: none :: none :: N19) s = .nx (some p :: some GRP :: some (.ref k) :: some (.str (tx 9 c)) :: some (.str (tx 12 v)) :: none :: none :: none :: none :: none :: none :: N19) s'
    ∧ DD 9 c ∧ DD 12 v ∧ (∃ b, (b = 0 ∨ b = 1) ∧ ∀ i, i < 3 → v i = pre b i) ∧ Dz k s' := by
  obtain ⟨c, s1, e1, hc, d1⟩ := lfig_e (ρ := some p :: some GRP :: some (.ref k) :: none :: none :: none :: none :: none :: none :: none :: none :: N19) (m := 9) rfl h (by omega) (e := eC (.int 9)) rfl
  obtain ⟨x, s2, e2, hx, d2⟩ := ePick (F := f_law_roll) (d := eV 2) (e := eLst (lCons (eC (.str [57, 55, 56])) (lCons (eC (.str [57, 55, 57])) lNil))) (L := [.str [57, 55, 56], .str [57, 55, 57]]) (m := 2) (ρ := some p :: some GRP :: some (.ref k) :: none :: none :: none :: none :: none :: none :: none :: none :: N19) roll_eq rfl rfl rfl d1 (by decide) (by decide)
  obtain ⟨d, s3, e3, hd, d3⟩ := lfig_e (ρ := some p :: some GRP :: some (.ref k) :: none :: none :: none :: none :: none :: none :: none :: none :: N19) (m := 9) rfl d2 (by omega) (e := eC (.int 9)) rfl
  have hb : ∃ b, (b = 0 ∨ b = 1) ∧ x = .str (tx 3 (pre b)) := by
    simp only [List.mem_cons, List.not_mem_nil, or_false] at hx
    rcases hx with rfl | rfl
    · exact ⟨0, .inl rfl, rfl⟩
    · exact ⟨1, .inr rfl, rfl⟩
  obtain ⟨b, hb, rfl⟩ := hb
  refine ⟨c, fun i => if i < 3 then pre b i else d (i - 3), s3, ?_, hc, ?_, ⟨b, hb, fun i hi => if_pos hi⟩, d3⟩
  · have e1' : eCall f_law_figures (lCons (eV 2) (lCons (eC (.int 9)) lNil)) (some p :: some GRP :: some (.ref k) :: none :: none :: none :: none :: none :: none :: none :: none :: N19) s = .ok (.str (tx 9 c)) s1 := e1
    have e3' : eCall f_law_figures (lCons (eV 2) (lCons (eC (.int 9)) lNil)) (some p :: some GRP :: some (.ref k) :: none :: none :: none :: none :: none :: none :: none :: none :: N19) s2 = .ok (.str (tx 9 d)) s3 := e3
    unfold sA
    rw [sAsg_s, eTup_s, lCons_s, e1', Res.bind_ok, lCons_s, eOp_s, e2, Res.bind_ok, e3', Res.bind_ok, add_tx s3 _ _ (by omega)]
    rfl
  · intro i hi
    show isD (if i < 3 then pre b i else d (i - 3)) = true
    split
    · rename_i q
      have : i = 0 ∨ i = 1 ∨ i = 2 := by omega
      rcases hb with rfl | rfl <;> rcases this with rfl | rfl | rfl <;> rfl
    · exact hd _ (by omega)
theorem first_ok {p : PV} {k : Nat} {s : Stt} (h : Dz k s) : ∃ o w s', (sSeq sA (sSeq sB (sSeq sC (sSeq sD (sSeq sE (sSeq sF sNop)))))) (some p :: some GRP :: some (.ref k) :: none :: none :: none :: none :: none :: none :: none :: none :: N19) s = .nx (EA p k o w N19) s' ∧ Hk o w ∧ Dz k s' := by
  obtain ⟨c, v, s1, e1, hc, hv, ⟨b, hb, hp⟩, d1⟩ := sA_ok (p := p) h
  refine ⟨put c 9 (k10 (S10 9 c)), put v 12 (k13 (S13 12 v)), s1, ?_, ?_, d1⟩
  · have q9 : tx 9 (put c 9 (k10 (S10 9 c))) = tx 9 c := tx_ext fun i hi => put_ne (by omega)
    have q12 : tx 12 (put v 12 (k13 (S13 12 v))) = tx 12 v := tx_ext fun i hi => put_ne (by omega)
    have qs : tx 12 (same (put c 9 (k10 (S10 9 c)))) = tx 12 (m12 c) := by
      rw [same_tx]
      exact tx_ext fun i hi => by
        unfold m12
        split
        · rfl
        · exact put_ne (by omega)
    have qS : S13 12 (m12 (put c 9 (k10 (S10 9 c)))) = S13 12 (m12 c) := SU_ext fun i hi => by
      unfold m12
      split
      · rfl
      · rw [put_ne (by omega)]
    have q13 : tx 13 (same (put c 9 (k10 (S10 9 c)))) = tx 13 (put (m12 c) 12 (k13 (S13 12 (m12 c)))) := by
      rw [tx_succ, qs, ← put_app]
      congr 2
    show _ = SRes.nx (some p :: some GRP :: some (.ref k) :: some (.str (tx 9 (put c 9 (k10 (S10 9 c))))) :: some (.str (tx 12 (put v 12 (k13 (S13 12 v))))) :: some (.str [put c 9 (k10 (S10 9 c)) 9]) :: some (.str [put v 12 (k13 (S13 12 v)) 12]) :: some (.str (tx 10 (put c 9 (k10 (S10 9 c))))) :: some (.str (tx 13 (put v 12 (k13 (S13 12 v))))) :: some (.str (tx 12 (same (put c 9 (k10 (S10 9 c)))))) :: some (.str (tx 13 (same (put c 9 (k10 (S10 9 c)))))) :: N19) s1
    rw [q9, q12, qs, q13, put_same, put_same]
    have eB := pk10_ok (a := eV 3) (ρ := some p :: some GRP :: some (.ref k) :: some (.str (tx 9 c)) :: some (.str (tx 12 v)) :: none :: none :: none :: none :: none :: none :: N19) (s := s1) hc (by show 12 < 30; omega) fun x => rfl
    have eC' := pk13_ok (a := eV 4) (ρ := some p :: some GRP :: some (.ref k) :: some (.str (tx 9 c)) :: some (.str (tx 12 v)) :: some (.str [k10 (S10 9 c)]) :: none :: none :: none :: none :: none :: N19) (s := s1) hv (by show 12 < 30; omega) fun x => rfl
    have a7 := app_e (a := eV 3) (b := eV 5) (x := k10 (S10 9 c)) (ρ := some p :: some GRP :: some (.ref k) :: some (.str (tx 9 c)) :: some (.str (tx 12 v)) :: some (.str [k10 (S10 9 c)]) :: some (.str [k13 (S13 12 v)]) :: none :: none :: none :: none :: N19) (s := s1) rfl rfl (by omega)
    have a8 := app_e (a := eV 4) (b := eV 6) (x := k13 (S13 12 v)) (ρ := some p :: some GRP :: some (.ref k) :: some (.str (tx 9 c)) :: some (.str (tx 12 v)) :: some (.str [k10 (S10 9 c)]) :: some (.str [k13 (S13 12 v)]) :: none :: none :: none :: none :: N19) (s := s1) rfl rfl (by omega)
    have a9 : oAdd s1 (.str [57, 55, 56]) (.str (tx 9 c)) = some (.str (tx 12 (m12 c))) := add_tx (n := 3) (m := 9) s1 n978 c (by omega)
    rw [sSeq_s, e1, SRes.seq_nx, sSeq_s]
    unfold sB
    rw [sAsg_s, eB, Res.sbind_ok]
    show SRes.seq (.nx (some p :: some GRP :: some (.ref k) :: some (.str (tx 9 c)) :: some (.str (tx 12 v)) :: some (.str [k10 (S10 9 c)]) :: none :: none :: none :: none :: none :: N19) s1) _ = _
    rw [SRes.seq_nx, sSeq_s]
    unfold sC
    rw [sAsg_s, eC', Res.sbind_ok]
    show SRes.seq (.nx (some p :: some GRP :: some (.ref k) :: some (.str (tx 9 c)) :: some (.str (tx 12 v)) :: some (.str [k10 (S10 9 c)]) :: some (.str [k13 (S13 12 v)]) :: none :: none :: none :: none :: N19) s1) _ = _
    rw [SRes.seq_nx, sSeq_s]
    unfold sD
    rw [sAsg_s, eTup_s, lCons_s, a7, Res.bind_ok, lCons_s, a8, Res.bind_ok]
    show SRes.seq (.nx (some p :: some GRP :: some (.ref k) :: some (.str (tx 9 c)) :: some (.str (tx 12 v)) :: some (.str [k10 (S10 9 c)]) :: some (.str [k13 (S13 12 v)]) :: some (.str (tx 10 (put c 9 (k10 (S10 9 c))))) :: some (.str (tx 13 (put v 12 (k13 (S13 12 v))))) :: none :: none :: N19) s1) _ = _
    rw [SRes.seq_nx, sSeq_s]
    unfold sE
    rw [sAsg_s, eOp_s, eC_s, Res.bind_ok, eV_e (i := 3) (p := .str (tx 9 c)) rfl, Res.bind_ok, a9, Res.ofO_some, Res.sbind_ok]
    show SRes.seq (.nx (some p :: some GRP :: some (.ref k) :: some (.str (tx 9 c)) :: some (.str (tx 12 v)) :: some (.str [k10 (S10 9 c)]) :: some (.str [k13 (S13 12 v)]) :: some (.str (tx 10 (put c 9 (k10 (S10 9 c))))) :: some (.str (tx 13 (put v 12 (k13 (S13 12 v))))) :: some (.str (tx 12 (m12 c))) :: none :: N19) s1) _ = _
    have eF := pk13_ok (a := eV 9) (ρ := some p :: some GRP :: some (.ref k) :: some (.str (tx 9 c)) :: some (.str (tx 12 v)) :: some (.str [k10 (S10 9 c)]) :: some (.str [k13 (S13 12 v)]) :: some (.str (tx 10 (put c 9 (k10 (S10 9 c))))) :: some (.str (tx 13 (put v 12 (k13 (S13 12 v))))) :: some (.str (tx 12 (m12 c))) :: none :: N19) (s := s1) (m12_d hc) (by show 12 < 30; omega) fun x => rfl
    rw [SRes.seq_nx, sSeq_s]
    unfold sF
    rw [sAsg_s, app_e (n := 12) (c := m12 c) rfl eF (by omega), Res.sbind_ok]
    rfl
  · refine ⟨fun i hi => by rw [put_ne (by omega)]; exact hc i hi, ?_, fun i hi => ?_, ?_, ?_⟩
    · rw [put_same]
      congr 1
    · by_cases q : i = 12
      · rw [q, put_same]
        exact k13_d _
      · rw [put_ne q]
        exact hv i (by omega)
    · have q : tx 3 (put v 12 (k13 (S13 12 v))) = tx 3 (pre b) := tx_ext fun i hi => by rw [put_ne (by omega), hp i hi]
      unfold p3
      rw [q]
      rcases hb with rfl | rfl <;> rfl
    · rw [put_same]
      congr 1
end K01
namespace K01
open Ev
/-! the first five checks -/
def rF : Sx := sSeq (sRet (eC (.bl false))) sNop
def t1 : Tx := (Ev.tOr (tCp cNe (eCallF f_check_of_ten (lCons (eV 3) lNil)) (eV 5)) (Ev.tOr (tCp cNe (eCallF f_check_of_thirteen (lCons (eV 4) lNil)) (eV 6)) (Ev.tNot (tE (eCallF f_is_book_number (lCons (eV 7) lNil))))))
def x2 : Ex := (eOp oAdd (eOp oAdd (eOp oAdd (eOp oAdd (eCut (eV 7) none (some (eC (.int 1)))) (eC (.str [45]))) (eCut (eV 7) (some (eC (.int 1))) (some (eC (.int 5))))) (eC (.str [32]))) (eCut (eV 7) (some (eC (.int 5))) none))
def t2 : Tx := (Ev.tOr (Ev.tNot (tE (eCallF f_is_book_number (lCons (eV 8) lNil)))) (tCp cNe (eCallF f_plain_number (lCons x2 lNil)) (eV 10)))
def t3 : Tx := (Ev.tOr (tCp cNe (eCallF f_plain_number (lCons (eV 8) lNil)) (eV 8)) (Ev.tOr (tCp cNe (eCallF f_plain_number (lCons (eV 10) lNil)) (eV 10)) (tCp cNe (eCallF f_old_number (lCons (eV 10) lNil)) (eV 7))))
def x4 : Ex := (eIf (tCp cEq (eCut (eV 4) none (some (eC (.int 3)))) (eC (.str [57, 55, 57]))) (eC (.str [])) (eOp oAdd (eCut (eV 4) (some (eC (.int 3))) none) (pk10 (eCut (eV 4) (some (eC (.int 3))) none))))
def t4 : Tx := (tCp cNe (eCallF f_old_number (lCons (eV 8) lNil)) x4)
def t5 : Tx := (Ev.tOr (tCp cIsNot (eCallF f_is_same_number (lCons (eV 7) (lCons (eV 10) lNil))) (eC (.bl true))) (tCp cNe (eCallF f_is_same_number (lCons (eV 7) (lCons (eV 8) lNil))) (eCp cEq (eV 10) (eV 8))))
section
variable {p : PV} {k : Nat} {o w : Nat → Nat} {l : Env} {s : Stt}
theorem oX (h : Hk o w) : (isD (o 9) || o 9 == 88) = true := by
  rw [h.oc]
  exact k10_d _
theorem oDX (h : Hk o w) : DX 10 o := fun i hi => by
  by_cases q : i < 9
  · exact h.o9.dx i q
  · rw [show i = 9 by omega]
    exact oX h
theorem same_e (o : Nat → Nat) : same o 12 = k13 (S13 12 (same o)) := by
  rw [same_S]
  rfl
theorem t1_ok (h : Hk o w) : t1 (EA p k o w l) s = .ok false s := by
  refine tOr_ff (tNe_same (p := .str [o 9]) ?_ rfl rfl) (tOr_ff (tNe_same (p := .str [w 12]) ?_ rfl rfl) ?_)
  · show (pureF f_check_of_ten [.str (tx 9 o)] s) = _
    rw [ten_ok h.o9, ← h.oc]
  · show (pureF f_check_of_thirteen [.str (tx 12 w)] s) = _
    rw [thirteen_ok (fun i hi => h.w13 i (by omega)), ← h.wc]
  · rw [tNot_s, tE_s]
    show (((pureF f_is_book_number [.str (tx 10 o)] s).bind _).bind _) = _
    rw [book10 (Txt.self (by omega) (oDX h)) h.o9 (oX h), ← h.oc]
    show Res.ok (!([o 9] == [o 9])) s = _
    simp
theorem x2_ok : x2 (EA p k o w l) s = .ok (.str ([o 0, 45, o 1, o 2, o 3, o 4, 32, o 5, o 6, o 7, o 8, o 9])) s := by
  have c1 := cutE (lo := eV 0) (a := eV 7) (hi := eC (.int 1)) (c := o) (n := 10) (k := 1) (ρ := EA p k o w l) (s := s) rfl rfl (by omega) (by omega)
  have c2 := cutM (a := eV 7) (lo := eC (.int 1)) (hi := eC (.int 5)) (c := o) (n := 10) (p := 1) (q := 5) (ρ := EA p k o w l) (s := s) rfl rfl rfl (by omega) (by omega) (by omega)
  have c3 := cutF (a := eV 7) (lo := eC (.int 5)) (c := o) (n := 10) (k := 5) (ρ := EA p k o w l) (s := s) rfl rfl (by omega) (by omega)
  unfold x2
  rw [eOp_s, eOp_s, eOp_s, eOp_s, c1, Res.bind_ok, eC_s, Res.bind_ok, add_s s (by rw [tx_len]; show 1 + 1 ≤ 1000; omega), Res.ofO_some, Res.bind_ok, c2, Res.bind_ok, add_s s (by rw [List.length_append, tx_len, tx_len]; show 1 + 1 + (5 - 1) ≤ 1000; omega), Res.ofO_some, Res.bind_ok]
  rw [eC_s, Res.bind_ok, add_s s (by rw [List.length_append, List.length_append, tx_len, tx_len]; show 1 + 1 + (5 - 1) + 1 ≤ 1000; omega), Res.ofO_some, Res.bind_ok, c3, Res.bind_ok, add_s s (by rw [List.length_append, List.length_append, List.length_append, tx_len, tx_len, tx_len]; show 1 + 1 + (5 - 1) + 1 + (10 - 5) ≤ 1000; omega)]
  rfl
theorem x2_txt (h : Hk o w) : Txt [o 0, 45, o 1, o 2, o 3, o 4, 32, o 5, o 6, o 7, o 8, o 9] 10 o := by
  have kk : ∀ i, i < 10 → kp (o i) = true ∧ o i ∈ CS := fun i hi => kp_dx (oDX h i hi)
  refine ⟨fun x hx => ?_, by show 12 ≤ 1000; omega, ?_⟩
  · simp only [List.mem_cons, List.not_mem_nil, or_false] at hx
    rcases hx with rfl | rfl | rfl | rfl | rfl | rfl | rfl | rfl | rfl | rfl | rfl | rfl
    · exact (kk 0 (by omega)).2
    · decide
    · exact (kk 1 (by omega)).2
    · exact (kk 2 (by omega)).2
    · exact (kk 3 (by omega)).2
    · exact (kk 4 (by omega)).2
    · decide
    · exact (kk 5 (by omega)).2
    · exact (kk 6 (by omega)).2
    · exact (kk 7 (by omega)).2
    · exact (kk 8 (by omega)).2
    · exact (kk 9 (by omega)).2
  · have a : kp 45 = false := rfl
    have b : kp 32 = false := rfl
    simp only [List.filter_cons, List.filter_nil, a, b, (kk 0 (by omega)).1, (kk 1 (by omega)).1, (kk 2 (by omega)).1, (kk 3 (by omega)).1, (kk 4 (by omega)).1, (kk 5 (by omega)).1, (kk 6 (by omega)).1, (kk 7 (by omega)).1, (kk 8 (by omega)).1, (kk 9 (by omega)).1, if_true, Bool.false_eq_true, if_false]
    rfl
theorem pl_w (h : Hk o w) (s : Stt) : pureF f_plain_number [.str (tx 13 w)] s = .ok (.str (tx 13 w)) s := plain13 (Txt.self (by omega) h.w13.dx) h.w13 h.wp h.wc s
theorem pl_s (h : Hk o w) (s : Stt) : pureF f_plain_number [.str (tx 13 (same o))] s = .ok (.str (tx 13 (same o))) s := plain13 (Txt.self (by omega) (same_d h.o9).dx) (same_d h.o9) (same_p3 o) (same_e o) s
theorem pl_o (h : Hk o w) (s : Stt) : pureF f_plain_number [.str (tx 10 o)] s = .ok (.str (tx 13 (same o))) s := plain10 (Txt.self (by omega) (oDX h)) h.o9 h.oc s
theorem bk_w (h : Hk o w) (s : Stt) : pureF f_is_book_number [.str (tx 13 w)] s = .ok (.bl true) s := by
  rw [book13 (Txt.self (by omega) h.w13.dx) h.w13, h.wp, ← h.wc]
  simp
theorem t2_ok (h : Hk o w) : t2 (EA p k o w l) s = .ok false s := by
  refine tOr_ff ?_ (tNe_same (p := .str (tx 13 (same o))) ?_ rfl (dOk_str _ _))
  · rw [tNot_s, tE_s]
    show (((pureF f_is_book_number [.str (tx 13 w)] s).bind _).bind _) = _
    rw [bk_w h]
    rfl
  · rw [eCallF_s, lCons_s, x2_ok, Res.bind_ok, lNil_s, Res.bind_ok, Res.bind_ok, plain10 (x2_txt h) h.o9 h.oc]
theorem t3_ok (h : Hk o w) : t3 (EA p k o w l) s = .ok false s := by
  refine tOr_ff (tNe_same (p := .str (tx 13 w)) (pl_w h s) rfl (dOk_str _ _)) (tOr_ff (tNe_same (p := .str (tx 13 (same o))) (pl_s h s) rfl (dOk_str _ _)) (tNe_same (p := .str (tx 10 o)) ?_ rfl (dOk_str _ _)))
  show (pureF f_old_number [.str (tx 13 (same o))] s) = _
  rw [old13 (Txt.self (by omega) (same_d h.o9).dx) (same_d h.o9) (same_p3 o) (same_e o)]
  have e : tx 10 (old (same o)) = tx 10 o := by
    rw [tx_succ, tx_succ 9 o]
    congr 1
    show [k10 (S10 9 fun i => same o (3 + i))] = _
    rw [h.oc]
    rfl
  rw [show is978 (same o) = true from rfl, if_pos rfl, e]
theorem t4_ok (h : Hk o w) (hl : 1 < l.length) : t4 (EA p k o w l) s = .ok false s := by
  refine tNe_same (p := .str (if is978 w then tx 10 (old w) else [])) ?_ ?_ (dOk_str _ _)
  · exact old13 (Txt.self (by omega) h.w13.dx) h.w13 h.wp h.wc s
  · have c1 := cutE (lo := eV 0) (a := eV 4) (hi := eC (.int 3)) (c := w) (n := 12) (k := 3) (ρ := EA p k o w l) (s := s) rfl rfl (by omega) (by omega)
    have c2 := cutF (a := eV 4) (lo := eC (.int 3)) (c := w) (n := 12) (k := 3) (ρ := EA p k o w l) (s := s) rfl rfl (by omega) (by omega)
    have pk := pk10_ok (a := eCut (eV 4) (some (eC (.int 3))) none) (c := fun i => w (3 + i)) (ρ := EA p k o w l) (s := s) (fun i hi => h.w13 _ (by omega)) (by
      show 12 < l.length + 11
      omega) fun x => by
        refine cutF (a := eV 4) (lo := eC (.int 3)) (c := w) (n := 12) (k := 3) ?_ rfl (by omega) (by omega)
        rfl
    have ap := app_e (a := eCut (eV 4) (some (eC (.int 3))) none) (n := 9) (c := fun i => w (3 + i)) c2 pk (by omega)
    unfold x4
    rw [eIf_s, tCp_s, c1, Res.bind_ok, eC_s, Res.bind_ok]
    show ((Res.ok (tx 3 w == [57, 55, 57]) s).bind _) = _
    have hp := h.wp
    unfold p3 inL at hp
    have hp' : ([57, 55, 56] == tx 3 w) = true ∨ ([57, 55, 57] == tx 3 w) = true := by
      have q : (([57, 55, 56] == tx 3 w) || (([57, 55, 57] == tx 3 w) || false)) = true := hp
      rcases Bool.or_eq_true_iff.mp q with r | r
      · exact .inl r
      · exact .inr (by simpa using r)
    unfold is978
    rcases hp' with q | q
    · rw [← eq_of_beq q]
      rw [show ([57, 55, 56] == [57, 55, 57]) = false from rfl, Res.bind_ok, if_neg Bool.false_ne_true, ap]
      show _ = Res.ok (PV.str (tx 10 (old w))) s
      congr 2
    · rw [← eq_of_beq q]
      rfl
theorem t5_ok (h : Hk o w) : t5 (EA p k o w l) s = .ok false s := by
  have e1 : eCallF f_is_same_number (lCons (eV 7) (lCons (eV 10) lNil)) (EA p k o w l) s = .ok (.bl (tx 13 (same o) == tx 13 (same o))) s := same_ok (pl_o h) (pl_s h) s
  have e2 : eCallF f_is_same_number (lCons (eV 7) (lCons (eV 8) lNil)) (EA p k o w l) s = .ok (.bl (tx 13 (same o) == tx 13 w)) s := same_ok (pl_o h) (pl_w h) s
  refine tOr_ff ?_ (tNe_same (p := .bl (tx 13 (same o) == tx 13 w)) e2 rfl rfl)
  rw [tCp_s, e1, Res.bind_ok, beq_self_eq_true]
  rfl
end
end K01
namespace K01
open Ev
/-! one figure changed: the checks -/
abbrev EB (p : PV) (k : Nat) (o w : Nat → Nat) (r x q : Nat) (l : Env) : Env := EA p k o w (some (.int (r : Nat)) :: some (.str [x]) :: some (.str (tx 13 (put w r x))) :: some (.int (q : Nat)) :: some (.str (tx 10 (put o q x))) :: l)
def sG : Sx := (sPar 11 12 (eCall f_law_roll (lCons (eV 2) (lCons (eC (.int 13)) lNil))) (eFn bStr (lCons (eCall f_law_roll (lCons (eV 2) (lCons (eC (.int 10)) lNil))) lNil)))
def sub3 (a p q : Ex) : Ex := eOp oAdd (eOp oAdd (eCut a none (some p)) q) (eCut a (some (eOp oAdd p (eC (.int 1)))) none)
def sH : Sx := (sAsg (Ev.gN 13) (sub3 (eV 8) (eV 11) (eV 12)))
def sI : Sx := (sAsg (Ev.gN 14) (eCall f_law_roll (lCons (eV 2) (lCons (eC (.int 10)) lNil))))
def sJ : Sx := (sAsg (Ev.gN 15) (sub3 (eV 7) (eV 14) (eV 12)))
def t6 : Tx := (tCp cNe (eCallF f_is_book_number (lCons (eV 13) lNil)) (eAnd (eCp cIn (eCut (eV 13) none (some (eC (.int 3)))) (eLst (lCons (eC (.str [57, 55, 56])) (lCons (eC (.str [57, 55, 57])) lNil)))) (eCallF f_law_thirteen (lCons (eV 13) lNil))))
def t7 : Tx := (Ev.tOr (Ev.tAnd (tCp cNe (eV 13) (eV 8)) (Ev.tAnd (tCp cGt (eV 11) (eC (.int 2))) (tE (eCallF f_is_book_number (lCons (eV 13) lNil))))) (tCp cNe (eCallF f_is_book_number (lCons (eV 15) lNil)) (eCallF f_law_ten (lCons (eV 15) lNil))))
def t8 : Tx := (Ev.tAnd (tCp cNe (eV 15) (eV 7)) (tE (eCallF f_is_book_number (lCons (eV 15) lNil))))
def sK : Sx := (sAsg (Ev.gN 16) (sub3 (eV 7) (eV 14) (eC (.str [63]))))
def tL : Tx := (Ev.tAnd (Ev.tOr (tCp cNe (eV 28) (eC (.str [88]))) (tCp cEq (eV 14) (eC (.int 9)))) (tE (eCallF f_law_ten (lCons (sub3 (eV 7) (eV 14) (eV 28)) lNil))))
def xL : Ex := (eComp [28] (Ev.gN 28) (iE (eC (.str [48, 49, 50, 51, 52, 53, 54, 55, 56, 57, 88]))) tL (eV 28))
def sL : Sx := (sAsg (Ev.gN 17) xL)
def t9 : Tx := (tCp cNe (eFn bList (lCons (eCallF f_missing_figure (lCons (eV 16) lNil)) lNil)) (eV 17))
theorem roll_e {F : Fx} {i : Nat} {ρ : Env} {s : Stt} {m : Nat} (hF : F = rollF) (h2 : ρ[2]? = some (some (.ref i))) (h : Dz i s) (h0 : 0 < m) (h1 : m ≤ 100000) : ∃ (v : Nat) (s' : Stt), eCall F (lCons (eV 2) (lCons (eC (.int (m : Nat))) lNil)) ρ s = .ok (.int (v : Nat)) s' ∧ v < m ∧ Dz i s' := by
  obtain ⟨v, s', e, v0, v1, d⟩ := eRoll (m := (m : Nat)) hF (eV_e h2) h (by omega) (by omega)
  refine ⟨v.toNat, s', ?_, by omega, d⟩
  rw [show ((v.toNat : Nat) : Int) = v by omega]
  exact e
section
variable {p : PV} {k : Nat} {o w : Nat → Nat} {s : Stt}
theorem mid_ok (h : Dz k s) : ∃ (r x q : Nat) (s' : Stt), (sSeq sG (sSeq sH (sSeq sI (sSeq sJ sNop)))) (EA p k o w N19) s = .nx (EB p k o w r x q [none, none, none, none, none, none, none, none, none, none, none, none, none, none]) s' ∧ r < 13 ∧ isD x = true ∧ q < 10 ∧ Dz k s' := by
  obtain ⟨r, s1, e1, hr, d1⟩ := roll_e (F := f_law_roll) (ρ := EA p k o w N19) (m := 13) roll_eq rfl h (by omega) (by omega)
  obtain ⟨x, s2, e2, hx, d2⟩ := roll_e (F := f_law_roll) (ρ := EA p k o w N19) (m := 10) roll_eq rfl d1 (by omega) (by omega)
  have e1' : eCall f_law_roll (lCons (eV 2) (lCons (eC (.int 13)) lNil)) (EA p k o w N19) s = .ok (.int (r : Nat)) s1 := e1
  have e2' : eFn bStr (lCons (eCall f_law_roll (lCons (eV 2) (lCons (eC (.int 10)) lNil))) lNil) (EA p k o w N19) s1 = .ok (.str [48 + x]) s2 := by
    have q : eCall f_law_roll (lCons (eV 2) (lCons (eC (.int 10)) lNil)) (EA p k o w N19) s1 = .ok (.int (x : Nat)) s2 := e2
    rw [eFn_s, lCons_s, q, Res.bind_ok, lNil_s, Res.bind_ok, Res.bind_ok, str10 s2 (by omega) (by omega)]
    rfl
  obtain ⟨q, s3, e3, hq, d3⟩ := roll_e (F := f_law_roll) (ρ := EA p k o w (some (.int (r : Nat)) :: some (.str [48 + x]) :: some (.str (tx 13 (put w r (48 + x)))) :: [none, none, none, none, none, none, none, none, none, none, none, none, none, none, none, none])) (m := 10) roll_eq rfl d2 (by omega) (by omega)
  refine ⟨r, 48 + x, q, s3, ?_, hr, by rw [isD_iff]; omega, hq, d3⟩
  have a1 := sub_e (a := eV 8) (p := eV 11) (q := eV 12) (ρ := EA p k o w (some (.int (r : Nat)) :: some (.str [48 + x]) :: none :: [none, none, none, none, none, none, none, none, none, none, none, none, none, none, none, none])) (s := s2) (n := 13) (k := r) (x := 48 + x) (c := w) rfl rfl rfl (by omega) hr
  have a2 := sub_e (a := eV 7) (p := eV 14) (q := eV 12) (ρ := EA p k o w (some (.int (r : Nat)) :: some (.str [48 + x]) :: some (.str (tx 13 (put w r (48 + x)))) :: some (.int (q : Nat)) :: [none, none, none, none, none, none, none, none, none, none, none, none, none, none, none])) (s := s3) (n := 10) (k := q) (x := 48 + x) (c := o) rfl rfl rfl (by omega) hq
  rw [sSeq_s]
  unfold sG
  rw [sPar_s, e1', Res.sbind_ok, e2', Res.sbind_ok]
  show SRes.seq (.nx (EA p k o w (some (.int (r : Nat)) :: some (.str [48 + x]) :: none :: [none, none, none, none, none, none, none, none, none, none, none, none, none, none, none, none])) s2) _ = _
  rw [SRes.seq_nx, sSeq_s]
  unfold sH sub3
  rw [sAsg_s, a1, Res.sbind_ok]
  show SRes.seq (.nx (EA p k o w (some (.int (r : Nat)) :: some (.str [48 + x]) :: some (.str (tx 13 (put w r (48 + x)))) :: [none, none, none, none, none, none, none, none, none, none, none, none, none, none, none, none])) s2) _ = _
  have e3' : eCall f_law_roll (lCons (eV 2) (lCons (eC (.int 10)) lNil)) (EA p k o w (some (.int (r : Nat)) :: some (.str [48 + x]) :: some (.str (tx 13 (put w r (48 + x)))) :: [none, none, none, none, none, none, none, none, none, none, none, none, none, none, none, none])) s2 = .ok (.int (q : Nat)) s3 := e3
  rw [SRes.seq_nx, sSeq_s]
  unfold sI
  rw [sAsg_s, e3', Res.sbind_ok]
  show SRes.seq (.nx (EA p k o w (some (.int (r : Nat)) :: some (.str [48 + x]) :: some (.str (tx 13 (put w r (48 + x)))) :: some (.int (q : Nat)) :: [none, none, none, none, none, none, none, none, none, none, none, none, none, none, none])) s3) _ = _
  rw [SRes.seq_nx, sSeq_s]
  unfold sJ sub3
  rw [sAsg_s, a2, Res.sbind_ok]
  rfl
variable {r x q : Nat} {l : Env}
theorem bk_wr (h : Hk o w) (hx : isD x = true) (s : Stt) : pureF f_is_book_number [.str (tx 13 (put w r x))] s = .ok (.bl (p3 (put w r x) && (S13 13 (put w r x) % 10 == 0))) s := by
  have d := putd (k := r) h.w13 hx
  rw [book13 (Txt.self (by omega) d.dx) d, thir_iff d]
theorem odx (h : Hk o w) (hx : isD x = true) : DX 10 (put o q x) := put_dx (oDX h) (by rw [hx]; rfl)
theorem bk_od (h : Hk o w) (hx : isD x = true) (s : Stt) : pureF f_is_book_number [.str (tx 10 (put o q x))] s = .ok (.bl (T10 10 (put o q x) % 11 == 0)) s := by
  have d := put_d9 (k := q) h.o9 (.inl hx)
  have dx := odx (q := q) h hx
  rw [book10 (Txt.self (by omega) dx) d (dx 9 (by omega)), ten_iff d (dx 9 (by omega))]
theorem w_0 (h : Hk o w) : S13 13 w % 10 = 0 := by
  have e := thir_iff h.w13
  rw [← h.wc] at e
  have e2 : (S13 13 w % 10 == 0) = true := by
    rw [← e]
    simp
  simpa using e2
theorem o_0 (h : Hk o w) : T10 10 o % 11 = 0 := by
  have e := ten_iff h.o9 (oX h)
  rw [← h.oc] at e
  have e2 : (T10 10 o % 11 == 0) = true := by
    rw [← e]
    simp
  simpa using e2
theorem put_self {n : Nat} {c : Nat → Nat} {r x : Nat} (e : x = c r) : tx n (put c r x) = tx n c := tx_ext fun i hi => by
  unfold put
  split
  · rename_i q
    rw [q]
    exact e
  · rfl
theorem t6_ok (h : Hk o w) (hx : isD x = true) : t6 (EB p k o w r x q l) s = .ok false s := by
  refine tNe_same (p := .bl (p3 (put w r x) && (S13 13 (put w r x) % 10 == 0))) (bk_wr h hx s) ?_ rfl
  have c1 := cutE (lo := eV 0) (a := eV 13) (hi := eC (.int 3)) (c := put w r x) (n := 13) (k := 3) (ρ := EB p k o w r x q l) (s := s) rfl rfl (by omega) (by omega)
  have e1 : eCp cIn (eCut (eV 13) none (some (eC (.int 3)))) (eLst (lCons (eC (.str [57, 55, 56])) (lCons (eC (.str [57, 55, 57])) lNil))) (EB p k o w r x q l) s = .ok (.bl (p3 (put w r x))) s := by
    rw [eCp_s, c1, Res.bind_ok]
    show Res.ofO s ((cIn s (.str (tx 3 (put w r x))) (.lst [.str [57, 55, 56], .str [57, 55, 57]])).map PV.bl) = _
    rw [cIn_lst s (dOk_str _ _) rfl]
    rfl
  have e2 : eCallF f_law_thirteen (lCons (eV 13) lNil) (EB p k o w r x q l) s = .ok (.bl (S13 13 (put w r x) % 10 == 0)) s := lthir_ok (by omega) (putd h.w13 hx) s
  unfold eAnd
  rw [e1, Res.bind_ok]
  cases p3 (put w r x) with
  | true => exact e2
  | false => rfl
theorem t7_ok (h : Hk o w) (hx : isD x = true) (hr : r < 13) : t7 (EB p k o w r x q l) s = .ok false s := by
  refine tOr_ff ?_ (tNe_same (p := .bl (T10 10 (put o q x) % 11 == 0)) (bk_od h hx s) (lten_ok (by omega) (odx h hx) s) rfl)
  have e1 : tCp cNe (eV 13) (eV 8) (EB p k o w r x q l) s = .ok (!(tx 13 (put w r x) == tx 13 w)) s := rfl
  rw [tAnd_s, e1, Res.bind_ok]
  by_cases he : x = w r
  · rw [put_self he]
    simp
  · have hs : (S13 13 (put w r x) % 10 == 0) = false := by
      rw [beq_eq_false_iff_ne]
      exact fun z => he (thir_odd hr h.w13 hx (w_0 h) z)
    have e2 : tE (eCallF f_is_book_number (lCons (eV 13) lNil)) (EB p k o w r x q l) s = .ok false s := by
      rw [tE_s]
      show ((pureF f_is_book_number [.str (tx 13 (put w r x))] s).bind _) = _
      rw [bk_wr h hx, hs, Bool.and_false]
      rfl
    have e3 : tCp cGt (eV 11) (eC (.int 2)) (EB p k o w r x q l) s = .ok (decide ((2 : Int) < (r : Int))) s := rfl
    split
    · rw [tAnd_s, e3, Res.bind_ok]
      split
      · exact e2
      · rfl
    · rfl
theorem t8_ok (h : Hk o w) (hx : isD x = true) (hq : q < 10) : t8 (EB p k o w r x q l) s = .ok false s := by
  have e1 : tCp cNe (eV 15) (eV 7) (EB p k o w r x q l) s = .ok (!(tx 10 (put o q x) == tx 10 o)) s := rfl
  unfold t8
  rw [tAnd_s, e1, Res.bind_ok]
  by_cases he : x = o q
  · rw [put_self he]
    simp
  · have hs : (T10 10 (put o q x) % 11 == 0) = false := by
      rw [beq_eq_false_iff_ne]
      exact fun z => he (ten_odd hq (oDX h) (by rw [hx]; rfl) (o_0 h) z)
    have e2 : tE (eCallF f_is_book_number (lCons (eV 15) lNil)) (EB p k o w r x q l) s = .ok false s := by
      rw [tE_s]
      show ((pureF f_is_book_number [.str (tx 10 (put o q x))] s).bind _) = _
      rw [bk_od h hx, hs]
      rfl
    split
    · exact e2
    · rfl
abbrev EC (p : PV) (k : Nat) (o w : Nat → Nat) (r x q : Nat) (l : Env) : Env := EB p k o w r x q (some (.str (tx 10 (put o q 63))) :: some (.lst ((SG.filter (Fm o q)).map fun x => .str [x])) :: l)
theorem hole_ok (h : Hk o w) (hq : q < 10) : (sSeq sK (sSeq sL (sSeq (sIf t9 rF sNop) sNop))) (EB p k o w r x q [none, none, none, none, none, none, none, none, none, none, none, none, none, none]) s = .nx (EC p k o w r x q [none, none, none, none, none, none, none, none, none, none, none, none]) s := by
  have a1 := sub_e (a := eV 7) (p := eV 14) (q := eC (.str [63])) (ρ := EB p k o w r x q [none, none, none, none, none, none, none, none, none, none, none, none, none, none]) (s := s) (n := 10) (k := q) (x := 63) (c := o) rfl rfl rfl (by omega) hq
  rw [sSeq_s]
  unfold sK sub3
  rw [sAsg_s, a1, Res.sbind_ok]
  show SRes.seq (.nx (EB p k o w r x q (some (.str (tx 10 (put o q 63))) :: [none, none, none, none, none, none, none, none, none, none, none, none, none])) s) _ = _
  have e := eComp_pure (own := [28]) (g := Ev.gN 28) (t := tL) (e := eV 28) (ρ := EB p k o w r x q (some (.str (tx 10 (put o q 63))) :: [none, none, none, none, none, none, none, none, none, none, none, none, none])) (s := s) (l := SG.map fun x => .str [x]) (isS (Fm o q)) (fun x => x) (iE_ok (a := eC (.str [48, 49, 50, 51, 52, 53, 54, 55, 56, 57, 88])) (p := .str SG) rfl rfl) rfl (by show 11 ≤ szl; decide) fun z hz => by
    obtain ⟨y, hy, rfl⟩ := List.mem_map.mp hz
    refine ⟨EB p k o w r x q (some (.str (tx 10 (put o q 63))) :: [none, none, none, none, none, none, none, none, none, none, none, some (.str [y]), none]), rfl, ?_, fun _ => rfl⟩
    generalize hρ : EB p k o w r x q (some (.str (tx 10 (put o q 63))) :: [none, none, none, none, none, none, none, none, none, none, none, some (.str [y]), none]) = ρ
    have k28 : ρ[28]? = some (some (.str [y])) := by rw [← hρ]; rfl
    have k14 : ρ[14]? = some (some (.int (q : Nat))) := by rw [← hρ]; rfl
    have k7 : ρ[7]? = some (some (.str (tx 10 o))) := by rw [← hρ]; rfl
    have s1 : tCp cNe (eV 28) (eC (.str [88])) ρ s = .ok (!(y == 88)) s := by
      rw [tCp_s, eV_e k28, Res.bind_ok, eC_s, Res.bind_ok]
      show Res.ok (!([y] == [88])) s = _
      congr 2
      rw [Bool.eq_iff_iff]
      simp
    have s2 : tCp cEq (eV 14) (eC (.int 9)) ρ s = .ok (q == 9) s := by
      rw [tCp_s, eV_e k14, Res.bind_ok, eC_s, Res.bind_ok]
      show Res.ok ((q : Int) == 9) s = _
      congr 1
      rw [Bool.eq_iff_iff]
      simp
      omega
    have s3 : tE (eCallF f_law_ten (lCons (sub3 (eV 7) (eV 14) (eV 28)) lNil)) ρ s = .ok (T10 10 (put o q y) % 11 == 0) s := by
      have b := sub_e (a := eV 7) (p := eV 14) (q := eV 28) (s := s) (n := 10) (k := q) (x := y) (c := o) (eV_e k7) (eV_e k14) (eV_e k28) (by omega) hq
      rw [tE_s, eCallF_s, lCons_s]
      unfold sub3
      rw [b, Res.bind_ok, lNil_s, Res.bind_ok, Res.bind_ok, lten_ok (by omega) (put_dx (oDX h) (SG_dx y hy))]
      rfl
    unfold tL
    rw [tAnd_s, tOr_s, s1, Res.bind_ok]
    show _ = Res.ok ((!(y == 88) || q == 9) && (T10 10 (put o q y) % 11 == 0)) s
    cases !(y == 88) with
    | true =>
      rw [if_pos rfl, Res.bind_ok, if_pos rfl, s3]
      rfl
    | false =>
      rw [if_neg Bool.false_ne_true, s2, Res.bind_ok]
      cases q == 9 with
      | true => rw [if_pos rfl, s3]; rfl
      | false => rfl
  rw [List.map_id', filt_isS] at e
  rw [SRes.seq_nx, sSeq_s]
  unfold sL xL
  rw [sAsg_s, e, Res.sbind_ok]
  show SRes.seq (.nx (EC p k o w r x q [none, none, none, none, none, none, none, none, none, none, none, none]) s) _ = _
  rw [SRes.seq_nx, sSeq_s]
  have m : eCallF f_missing_figure (lCons (eV 16) lNil) (EC p k o w r x q [none, none, none, none, none, none, none, none, none, none, none, none]) s = .ok (.tup ((SG.filter (Fm o q)).map fun x => .str [x])) s := miss_ok hq h.o9 (oX h) s
  rw [chk_nx (t := t9) (tNe_same (p := .lst ((SG.filter (Fm o q)).map fun x => .str [x])) ?_ rfl (dOks_all 59 fun z hz => ?_))]
  · rfl
  · rw [eFn_s, lCons_s, m]
    rfl
  · obtain ⟨y, _, rfl⟩ := List.mem_map.mp hz
    exact dOk_str _ _
end
end K01
namespace K01
open Ev
/-! parted, and plain again -/
theorem filt_all {l : List Nat} (h : ∀ x ∈ l, kp x = true) : l.filter kp = l := List.filter_eq_self.mpr h
theorem VV_txt {o : Nat → Nat} (h : DD 9 o) {G : List Nat} {g m : Nat} (hG : (tx g o == G) = true) (hgm : g + m < 9) (e : tx 3 (same o) ++ (tx g o ++ (hou o g m ++ (boo o (g + m) ++ [same o 12]))) = tx 13 (same o)) : Txt (VV o G g m) 13 (same o) := by
  have e0 : VV o G g m = tx 3 (same o) ++ ([45] ++ (tx g o ++ ([45] ++ (hou o g m ++ ([45] ++ (boo o (g + m) ++ ([45] ++ [same o 12]))))))) := by
    rw [eq_of_beq hG]
    rfl
  have sd := same_d h
  have k1 : ∀ x ∈ tx 3 (same o), isD x = true := fun x hx => by
    obtain ⟨i, hi, rfl⟩ := tx_mem hx
    exact sd i (by omega)
  have k2 : ∀ x ∈ tx g o, isD x = true := fun x hx => by
    obtain ⟨i, hi, rfl⟩ := tx_mem hx
    exact h i (by omega)
  have k3 : ∀ x ∈ hou o g m, isD x = true := fun x hx => by
    obtain ⟨i, hi, rfl⟩ := tx_mem hx
    exact h _ (by omega)
  have k4 : ∀ x ∈ boo o (g + m), isD x = true := fun x hx => by
    obtain ⟨i, hi, rfl⟩ := tx_mem hx
    exact h _ (by omega)
  have k5 : ∀ x ∈ [same o 12], isD x = true := fun x hx => by
    rw [List.mem_singleton.mp hx]
    exact sd 12 (by omega)
  have kd : ∀ {x}, isD x = true → kp x = true ∧ x ∈ CS := fun {x} hx => kp_dx (by rw [hx]; rfl)
  refine ⟨fun x hx => ?_, ?_, ?_⟩
  · rw [e0] at hx
    simp only [List.mem_append] at hx
    have hy : x ∈ [45] → x ∈ CS := fun q => by
      rw [List.mem_singleton.mp q]
      decide
    rcases hx with q | q | q | q | q | q | q | q | q
    · exact (kd (k1 x q)).2
    · exact hy q
    · exact (kd (k2 x q)).2
    · exact hy q
    · exact (kd (k3 x q)).2
    · exact hy q
    · exact (kd (k4 x q)).2
    · exact hy q
    · exact (kd (k5 x q)).2
  · rw [e0]
    simp only [List.length_append, tx_len]
    unfold hou boo
    rw [tx_len, tx_len]
    show 3 + (1 + (g + (1 + (m + (1 + (9 - (g + m) + (1 + 1))))))) ≤ 1000
    omega
  · have hy : [45].filter kp = [] := rfl
    rw [e0]
    simp only [List.filter_append, hy, List.nil_append]
    rw [filt_all fun x hx => (kd (k1 x hx)).1, filt_all fun x hx => (kd (k2 x hx)).1, filt_all fun x hx => (kd (k3 x hx)).1, filt_all fun x hx => (kd (k4 x hx)).1, filt_all fun x hx => (kd (k5 x hx)).1]
    exact e
theorem due_txt {o : Nat → Nat} (h : DD 9 o) {v : List Nat} (e : due o = some v) : Txt v 13 (same o) ∧ (v == CE) = false := by
  unfold due at e
  split at e
  · rename_i q
    cases e
    exact ⟨VV_txt h (ba2 q).1 (by omega) rfl, rfl⟩
  · split at e
    · rename_i q
      cases e
      exact ⟨VV_txt h (ba2 q).1 (by omega) rfl, rfl⟩
    · split at e
      · rename_i q
        cases e
        exact ⟨VV_txt h (ba2 q).1 (by omega) rfl, rfl⟩
      · split at e
        · rename_i q
          cases e
          exact ⟨VV_txt h (ba2 q).1 (by omega) rfl, rfl⟩
        · cases e
def sM : Sx := (sAsg (Ev.gN 18) (eC (.str CE)))
def t10 : Tx := (Ev.tOr (tCp cNe (eTold told_cs told_ret (eCallF f_parted_number (lCons (eV 7) (lCons (eV 1) lNil)))) (eV 18)) (Ev.tAnd (tCp cNe (eV 18) (eC (.str CE))) (tCp cNe (eCallF f_plain_number (lCons (eV 18) lNil)) (eV 10))))
theorem t10_ok {p : PV} {k : Nat} {o w : Nat → Nat} {s : Stt} (h : Hk o w) (a11 a12 a13 a14 a15 a16 a17 z19 z20 a21 a22 a23 a24 z25 z26 z27 a28 a29 : Option PV) : t10 (EG p k o w a11 a12 a13 a14 a15 a16 a17 (dueT o) z19 z20 a21 a22 a23 a24 z25 z26 z27 a28 a29) s = .ok false s := by
  have pq := parted_ok (Txt.self (by omega) (oDX h)) h.o9 h.oc s
  have et : eTold told_cs told_ret (eCallF f_parted_number (lCons (eV 7) (lCons (eV 1) lNil))) (EG p k o w a11 a12 a13 a14 a15 a16 a17 (dueT o) z19 z20 a21 a22 a23 a24 z25 z26 z27 a28 a29) s = .ok (.str (dueT o)) s := by
    show (match pureF f_parted_number [.str (tx 10 o), GRP] s with
      | .ok v s => Res.ok v s
      | .err d s => if told_cs.contains d then .ok (.str told_ret) s else .bad
      | .bad => .bad) = _
    rw [pq]
    unfold dueT
    cases due o <;> rfl
  refine tOr_ff (tNe_same et rfl (dOk_str _ _)) ?_
  have e1 : tCp cNe (eV 18) (eC (.str CE)) (EG p k o w a11 a12 a13 a14 a15 a16 a17 (dueT o) z19 z20 a21 a22 a23 a24 z25 z26 z27 a28 a29) s = .ok (!(dueT o == CE)) s := rfl
  rw [tAnd_s, e1, Res.bind_ok]
  cases hd : due o with
  | none =>
    have q : dueT o = CE := by unfold dueT; rw [hd]
    rw [q]
    rfl
  | some v =>
    have q : dueT o = v := by unfold dueT; rw [hd]
    obtain ⟨t, hv⟩ := due_txt h.o9 hd
    rw [q, hv, Bool.not_false, if_pos rfl]
    refine tNe_same (p := .str (tx 13 (same o))) ?_ rfl (dOk_str _ _)
    exact plain13 t (same_d h.o9) (same_p3 o) (same_e o) s
/-! cards -/
def eR1 (m : Ex) : Ex := eOp oAdd (eC (.int 1)) (eCall f_law_roll (lCons (eV 2) (lCons m lNil)))
theorem r1_e {i : Nat} {ρ : Env} {s : Stt} {m : Nat} {e : Ex} (h2 : ρ[2]? = some (some (.ref i))) (he : e ρ s = .ok (.int (m : Nat)) s) (h : Dz i s) (h0 : 0 < m) (h1 : m ≤ 100000) : ∃ (v : Nat) (s' : Stt), eR1 e ρ s = .ok (.int (v : Nat)) s' ∧ 1 ≤ v ∧ v ≤ m ∧ Dz i s' := by
  obtain ⟨v, s', e1, hv, d⟩ := roll_e (F := f_law_roll) roll_eq h2 h h0 h1
  refine ⟨v + 1, s', ?_, by omega, by omega, d⟩
  have q : eCall f_law_roll (lCons (eV 2) (lCons e lNil)) ρ s = eCall f_law_roll (lCons (eV 2) (lCons (eC (.int (m : Nat))) lNil)) ρ s := by
    rw [eCall_s, eCall_s, lCons_s, lCons_s, eV_e h2, Res.bind_ok, Res.bind_ok, lCons_s, lCons_s, he, eC_s]
  unfold eR1
  rw [eOp_s, eC_s, Res.bind_ok, q, e1, Res.bind_ok]
  show Res.ok (PV.int (1 + (v : Int))) s' = _
  rw [show 1 + (v : Int) = ((v + 1 : Nat) : Int) by omega]
def sN : Sx := (sPar 21 22 (eCall f_law_figures (lCons (eV 2) (lCons (eR1 (eC (.int 12))) lNil))) (eR1 (eC (.int 12))))
def sO : Sx := (sAsg (Ev.gN 23) (eFn bInt (lCons (eCall f_law_figures (lCons (eV 2) (lCons (eR1 (eV 22)) lNil))) lNil)))
def sP : Sx := (sAsg (Ev.gN 24) (eCallF f_made_card (lCons (eV 23) (lCons (eV 22) lNil))))
theorem lfig_e' {i m : Nat} {ρ : Env} {s : Stt} (h2 : ρ[2]? = some (some (.ref i))) (h : Dz i s) (hm : m ≤ 100) {e : Ex} {s0 : Stt} (he : e ρ s0 = .ok (.int (m : Nat)) s) : ∃ c s', eCall f_law_figures (lCons (eV 2) (lCons e lNil)) ρ s0 = .ok (.str (tx m c)) s' ∧ DD m c ∧ Dz i s' := lfig_e h2 h hm he
/-- what the last checks know: the code, the card -/
structure Ck (n : Nat) (c : Nat → Nat) (g v : Nat) (d : Nat → Nat) : Prop where
  n1 : 1 ≤ n
  n2 : n ≤ 12
  hc : DD n c
  g1 : 1 ≤ g
  g2 : g ≤ 12
  hd : DD (g + 1) d
  d0 : CD (g + 1) d % 10 = 0
  dv : numV (tx g d) = v
abbrev ED (p : PV) (k : Nat) (o w : Nat → Nat) (a11 a12 a13 a14 a15 a16 a17 : Option PV) (D : List Nat) (z19 z20 : Option PV) (n : Nat) (c : Nat → Nat) (g v : Nat) (d : Nat → Nat) (z25 z26 z27 a28 a29 : Option PV) : Env :=
  EG p k o w a11 a12 a13 a14 a15 a16 a17 D z19 z20 (some (.str (tx n c))) (some (.int (g : Nat))) (some (.int (v : Nat))) (some (.str (tx (g + 1) d))) z25 z26 z27 a28 a29
theorem crd_ok {p : PV} {k : Nat} {o w : Nat → Nat} {s : Stt} {D : List Nat} (h : Dz k s) (a11 a12 a13 a14 a15 a16 a17 z19 z20 z25 z26 z27 a28 a29 : Option PV) : ∃ n c g v d s', (sSeq sN (sSeq sO (sSeq sP sNop))) (EG p k o w a11 a12 a13 a14 a15 a16 a17 D z19 z20 none none none none z25 z26 z27 a28 a29) s = .nx (ED p k o w a11 a12 a13 a14 a15 a16 a17 D z19 z20 n c g v d z25 z26 z27 a28 a29) s' ∧ Ck n c g v d := by
  obtain ⟨n, s1, e1, n1, n2, d1⟩ := r1_e (ρ := EG p k o w a11 a12 a13 a14 a15 a16 a17 D z19 z20 none none none none z25 z26 z27 a28 a29) (e := eC (.int 12)) (m := 12) rfl rfl h (by omega) (by omega)
  obtain ⟨c, s2, e2, hc, d2⟩ := lfig_e' (ρ := EG p k o w a11 a12 a13 a14 a15 a16 a17 D z19 z20 none none none none z25 z26 z27 a28 a29) rfl d1 (by omega) e1
  obtain ⟨g, s3, e3, g1, g2, d3⟩ := r1_e (ρ := EG p k o w a11 a12 a13 a14 a15 a16 a17 D z19 z20 none none none none z25 z26 z27 a28 a29) (e := eC (.int 12)) (m := 12) rfl rfl d2 (by omega) (by omega)
  obtain ⟨m, s4, e4, m1, m2, d4⟩ := r1_e (ρ := EG p k o w a11 a12 a13 a14 a15 a16 a17 D z19 z20 (some (.str (tx n c))) (some (.int (g : Nat))) none none z25 z26 z27 a28 a29) (e := eV 22) (m := g) rfl rfl d3 (by omega) (by omega)
  obtain ⟨u, s5, e5, hu, d5⟩ := lfig_e' (ρ := EG p k o w a11 a12 a13 a14 a15 a16 a17 D z19 z20 (some (.str (tx n c))) (some (.int (g : Nat))) none none z25 z26 z27 a28 a29) rfl d4 (by omega) e4
  have hv := numV_lt m hu
  have hlen : (natF (numV (tx m u)) (numV (tx m u))).length ≤ g := by
    have q := (natF_ok _ (numV (tx m u)) (Nat.le_refl _)).2.2.2 (m - 1) (by rw [show m - 1 + 1 = m by omega]; exact hv)
    omega
  have hv15 : numV (tx m u) < 10 ^ 15 := Nat.lt_of_lt_of_le hv (Nat.pow_le_pow_right (by omega) (by omega))
  obtain ⟨z1, z2, z3⟩ := ZT_ok hlen
  refine ⟨n, c, g, numV (tx m u), cc g (zc g (numV (tx m u))), s5, ?_, n1, n2, hc, g1, g2, cc_d z2, cc_check, ?_⟩
  · rw [sSeq_s]
    unfold sN
    rw [sPar_s, e2, Res.sbind_ok, e3, Res.sbind_ok]
    show SRes.seq (.nx (EG p k o w a11 a12 a13 a14 a15 a16 a17 D z19 z20 (some (.str (tx n c))) (some (.int (g : Nat))) none none z25 z26 z27 a28 a29) s3) _ = _
    rw [SRes.seq_nx, sSeq_s]
    unfold sO
    rw [sAsg_s, eFn_s, lCons_s, e5, Res.bind_ok, lNil_s, Res.bind_ok, Res.bind_ok, int_txt s5 (fun x hx => by
      obtain ⟨i, hi, rfl⟩ := tx_mem hx
      exact hu i hi) (by rw [tx_len]; exact m1) (by rw [tx_len]; omega), Res.ofO_some, Res.sbind_ok]
    show SRes.seq (.nx (EG p k o w a11 a12 a13 a14 a15 a16 a17 D z19 z20 (some (.str (tx n c))) (some (.int (g : Nat))) (some (.int (numV (tx m u) : Nat))) none z25 z26 z27 a28 a29) s5) _ = _
    have em : eCallF f_made_card (lCons (eV 23) (lCons (eV 22) lNil)) (EG p k o w a11 a12 a13 a14 a15 a16 a17 D z19 z20 (some (.str (tx n c))) (some (.int (g : Nat))) (some (.int (numV (tx m u) : Nat))) none z25 z26 z27 a28 a29) s5 = .ok (.str (tx (g + 1) (cc g (zc g (numV (tx m u)))))) s5 := made_ok g1 g2 hlen hv15 s5
    rw [SRes.seq_nx, sSeq_s]
    unfold sP
    rw [sAsg_s, em, Res.sbind_ok]
    rfl
  · have q : tx g (cc g (zc g (numV (tx m u)))) = tx g (zc g (numV (tx m u))) := tx_ext fun i hi => if_pos hi
    rw [q, ← z1, z3]
end K01
namespace K01
open Ev
def t11 : Tx := (Ev.tOr (tCp cNe (eCallF f_sum_of_card (lCons (eV 21) lNil)) (eCallF f_law_card (lCons (eV 21) lNil))) (Ev.tOr (tCp cNe (eCallF f_is_card (lCons (eV 21) lNil)) (eCp cEq (eOp oMod (eCallF f_law_card (lCons (eV 21) lNil)) (eC (.int 10))) (eC (.int 0)))) (Ev.tNot (tE (eCallF f_is_card (lCons (eV 24) lNil))))))
def t12 : Tx := (Ev.tOr (tCp cNe (eCallF f_number_of_card (lCons (eV 24) lNil)) (eV 23)) (Ev.tOr (tCp cNe (eFn bLen (lCons (eV 24) lNil)) (eOp oAdd (eV 22) (eC (.int 1)))) (tCp cNe (eFn bList (lCons (eCallF f_mended_by_one (lCons (eV 21) lNil)) lNil)) (eCallF f_law_near (lCons (eV 21) lNil)))))
def xC : Ex := (eComp [29] (Ev.gN 29) (iRange1 (eFn bLen (lCons (eV 24) lNil))) (tCp cNe (eOp oIx (eV 28) (eV 29)) (eOp oIx (eV 24) (eV 29))) (eV 29))
def tC : Tx := (tCp cLt (eFn bLen (lCons xC lNil)) (eC (.int 2)))
def t13 : Tx := (tCp cNe (eComp [28] (Ev.gN 28) (iE (eCallF f_law_near (lCons (eV 24) lNil))) tC (eV 28)) (eLst lNil))
section
variable {p : PV} {k : Nat} {o w : Nat → Nat} {s : Stt} {D : List Nat} {n : Nat} {c : Nat → Nat} {g v : Nat} {d : Nat → Nat}
theorem t11_ok (h : Ck n c g v d) (a11 a12 a13 a14 a15 a16 a17 z19 z20 z25 z26 z27 a28 a29 : Option PV) : t11 (ED p k o w a11 a12 a13 a14 a15 a16 a17 D z19 z20 n c g v d z25 z26 z27 a28 a29) s = .ok false s := by
  have n1 := h.n1
  have n2 := h.n2
  have g2 := h.g2
  have e1 : eCallF f_law_card (lCons (eV 21) lNil) (ED p k o w a11 a12 a13 a14 a15 a16 a17 D z19 z20 n c g v d z25 z26 z27 a28 a29) s = .ok (.int (CD n c)) s := lcard_ok h.hc (by omega) s
  refine tOr_ff (tNe_same (p := .int (CD n c)) (card_ok h.hc n1 (by omega) s) e1 rfl) (tOr_ff (tNe_same (p := .bl (CD n c % 10 == 0)) (isc_ok h.hc n1 (by omega) s) ?_ rfl) ?_)
  · rw [eCp_s, eOp_s, e1]
    rfl
  · rw [tNot_s, tE_s]
    show (((pureF f_is_card [.str (tx (g + 1) d)] s).bind _).bind _) = _
    rw [isc_ok h.hd (by omega) (by omega), h.d0]
    rfl
theorem t12_ok (h : Ck n c g v d) (a11 a12 a13 a14 a15 a16 a17 z19 z20 z25 z26 z27 a28 a29 : Option PV) : t12 (ED p k o w a11 a12 a13 a14 a15 a16 a17 D z19 z20 n c g v d z25 z26 z27 a28 a29) s = .ok false s := by
  have n1 := h.n1
  have n2 := h.n2
  have g1 := h.g1
  have g2 := h.g2
  have e1 : eCallF f_mended_by_one (lCons (eV 21) lNil) (ED p k o w a11 a12 a13 a14 a15 a16 a17 D z19 z20 n c g v d z25 z26 z27 a28 a29) s = .ok (.tup ((KN n c).map .str)) s := mend_ok n1 (by omega) h.hc s
  have e2 : eFn bLen (lCons (eV 24) lNil) (ED p k o w a11 a12 a13 a14 a15 a16 a17 D z19 z20 n c g v d z25 z26 z27 a28 a29) s = .ok (.int ((g + 1 : Nat) : Int)) s := by
    have q := len_e (a := eV 24) (ρ := ED p k o w a11 a12 a13 a14 a15 a16 a17 D z19 z20 n c g v d z25 z26 z27 a28 a29) (s := s) (G := tx (g + 1) d) rfl (by rw [tx_len]; omega)
    rw [tx_len] at q
    exact q
  refine tOr_ff (tNe_same (p := .int (v : Nat)) ?_ rfl rfl) (tOr_ff (tNe_same e2 ?_ rfl) (tNe_same (p := .lst ((KN n c).map .str)) ?_ (near_ok n1 (by omega) h.hc s) (dOks_strs 59 _)))
  · show (pureF f_number_of_card [.str (tx (g + 1) d)] s) = _
    rw [noc_ok h.hd g1 (by omega) h.d0, h.dv]
  · show Res.ok (PV.int ((g : Int) + 1)) s = _
    rfl
  · rw [eFn_s, lCons_s, e1]
    rfl
theorem tC_ok (h : Ck n c g v d) {x : List Nat} (hx : x ∈ KN (g + 1) d) (a11 a12 a13 a14 a15 a16 a17 z19 z20 z25 z26 z27 a29 : Option PV) : tC (ED p k o w a11 a12 a13 a14 a15 a16 a17 D z19 z20 n c g v d z25 z26 z27 (some (.str x)) a29) s = .ok false s := by
  have g2 := h.g2
  obtain ⟨m1, m2⟩ := KN_mem hx
  obtain ⟨e, rfl, he, hd⟩ := near_two h.hd h.d0 m1 m2
  have e2 : eFn bLen (lCons (eV 24) lNil) (ED p k o w a11 a12 a13 a14 a15 a16 a17 D z19 z20 n c g v d z25 z26 z27 (some (.str (tx (g + 1) e))) a29) s = .ok (.int ((g + 1 : Nat) : Int)) s := by
    have q := len_e (a := eV 24) (ρ := ED p k o w a11 a12 a13 a14 a15 a16 a17 D z19 z20 n c g v d z25 z26 z27 (some (.str (tx (g + 1) e))) a29) (s := s) (G := tx (g + 1) d) rfl (by rw [tx_len]; omega)
    rw [tx_len] at q
    exact q
  have es := iRange1_ok e2 (by omega) (by omega)
  rw [rng_nat] at es
  have ex : xC (ED p k o w a11 a12 a13 a14 a15 a16 a17 D z19 z20 n c g v d z25 z26 z27 (some (.str (tx (g + 1) e))) a29) s = .ok (.lst ((dif (g + 1) d e).map fun i => .int (i : Nat))) s :=
    eComp_ixF (n := g + 1) (p := fun i => .int (i : Nat)) (fun i => !(e i == d i)) (fun i => .int (i : Nat)) es rfl (by unfold szl; omega) fun i hi => by
      refine ⟨ED p k o w a11 a12 a13 a14 a15 a16 a17 D z19 z20 n c g v d z25 z26 z27 (some (.str (tx (g + 1) e))) (some (.int (i : Nat))), rfl, ?_, fun _ => rfl⟩
      rw [tCp_s, eOp_s, eV_e (i := 28) (p := .str (tx (g + 1) e)) rfl, Res.bind_ok, eV_e (i := 29) (p := .int (i : Nat)) rfl, Res.bind_ok, ix_tx s (by omega) hi, Res.ofO_some, Res.bind_ok, eOp_s, eV_e (i := 24) (p := .str (tx (g + 1) d)) rfl, Res.bind_ok, eV_e (i := 29) (p := .int (i : Nat)) rfl, Res.bind_ok, ix_tx s (by omega) hi, Res.ofO_some, Res.bind_ok]
      show Res.ok (!([e i] == [d i])) s = _
      congr 2
      rw [Bool.eq_iff_iff]
      simp
  unfold tC
  rw [tCp_s, eFn_s, lCons_s, ex]
  show Res.ofO s (some (decide (((((dif (g + 1) d e).map fun i => PV.int (i : Nat)).length : Nat) : Int) < 2))) = _
  rw [List.length_map, decide_eq_false (by omega)]
  rfl
theorem t13_ok (h : Ck n c g v d) (a11 a12 a13 a14 a15 a16 a17 z19 z20 z25 z26 z27 a28 a29 : Option PV) : t13 (ED p k o w a11 a12 a13 a14 a15 a16 a17 D z19 z20 n c g v d z25 z26 z27 a28 a29) s = .ok false s := by
  have g2 := h.g2
  have e1 : eCallF f_law_near (lCons (eV 24) lNil) (ED p k o w a11 a12 a13 a14 a15 a16 a17 D z19 z20 n c g v d z25 z26 z27 a28 a29) s = .ok (.lst ((KN (g + 1) d).map .str)) s := near_ok (by omega) (by omega) h.hd s
  have hl : (KN (g + 1) d).length ≤ 1000 := by
    have q : ∀ l : List (List Nat), (srtN l).length = l.length := fun l => by
      have b : ∀ (x : List Nat) (m : List (List Nat)), (insN x m).length = m.length + 1 := fun x m => by
        induction m with
        | nil => rfl
        | cons y ys ih =>
          unfold insN
          split
          · rw [List.length_cons, ih, List.length_cons]
          · rfl
      induction l with
      | nil => rfl
      | cons y ys ih =>
        show (insN y (srtN ys)).length = _
        rw [b, ih, List.length_cons]
    unfold KN
    rw [q]
    have a := List.length_filter_le (keepN (tx (g + 1) d)) (keysN (NR (g + 1) d))
    have := keysN_len (NR (g + 1) d)
    have := NR_len (c := d) (show g + 1 ≤ 20 by omega)
    omega
  have e := eComp_pure (own := [28]) (g := Ev.gN 28) (t := tC) (e := eV 28) (ρ := ED p k o w a11 a12 a13 a14 a15 a16 a17 D z19 z20 n c g v d z25 z26 z27 a28 a29) (s := s) (l := (KN (g + 1) d).map .str) (fun _ => false) (fun x => x) (iE_ok e1 rfl) rfl (by rw [List.length_map]; unfold szl; omega) fun x hx => by
    obtain ⟨y, hy, rfl⟩ := List.mem_map.mp hx
    exact ⟨ED p k o w a11 a12 a13 a14 a15 a16 a17 D z19 z20 n c g v d z25 z26 z27 (some (.str y)) a29, rfl, tC_ok h hy _ _ _ _ _ _ _ _ _ _ _ _ _, fun h => by cases h⟩
  have ef : ((KN (g + 1) d).map PV.str).filter (fun _ => false) = [] := List.filter_eq_nil_iff.mpr fun _ _ => by simp
  rw [ef] at e
  exact tNe_same (p := .lst []) e rfl rfl
end
end K01
namespace K01
open Ev
/-! the whole law -/
def blk : List Sx → Sx → Sx
  | [], r => r
  | a :: l, r => sSeq a (blk l r)
theorem blk_nx {r : Sx} : ∀ {l : List Sx} {ρ ρ' : Env} {s s' : Stt}, blk l sNop ρ s = .nx ρ' s' → blk l r ρ s = r ρ' s'
  | [], ρ, ρ', s, s', h => by
    cases h
    rfl
  | a :: l, ρ, ρ', s, s', h => by
    have h' : sSeq a (blk l sNop) ρ s = .nx ρ' s' := h
    show sSeq a (blk l r) ρ s = _
    rw [sSeq_s] at h' ⊢
    cases h1 : a ρ s with
    | nx ρ1 s1 =>
      rw [h1, SRes.seq_nx] at h'
      rw [SRes.seq_nx]
      exact blk_nx h'
    | rt v s1 => rw [h1] at h'; cases h'
    | err c s1 => rw [h1] at h'; cases h'
    | bad => rw [h1] at h'; cases h'
def lastP : Sx := sSeq (sIf t11 rF sNop) (sSeq (sIf t12 rF sNop) (sSeq (sIf t13 rF sNop) sNop))
def body : Sx := blk [sA, sB, sC, sD, sE, sF] (sSeq (sIf t1 rF sNop) (sSeq (sIf t2 rF sNop) (sSeq (sIf t3 rF sNop) (sSeq (sIf t4 rF sNop) (sSeq (sIf t5 rF sNop)
  (blk [sG, sH, sI, sJ] (sSeq (sIf t6 rF sNop) (sSeq (sIf t7 rF sNop) (sSeq (sIf t8 rF sNop) (blk [sK, sL, sIf t9 rF sNop] (sSeq sM (sSeq st24 (sSeq (sIf t10 rF sNop) (blk [sN, sO, sP] lastP))))))))))))))
def sGr : Sx := (sAsg (Ev.gN 1) (eTup (lCons (eTup (lCons (eC (.str [48])) (lCons (eTup (lCons (eTup (lCons (eC (.str [48, 48])) (lCons (eC (.str [49, 57])) lNil))) (lCons (eTup (lCons (eC (.str [50, 48, 48])) (lCons (eC (.str [54, 57, 57])) lNil))) (lCons (eTup (lCons (eC (.str [55, 48, 48, 48])) (lCons (eC (.str [56, 52, 57, 57])) lNil))) lNil)))) lNil))) (lCons (eTup (lCons (eC (.str [49, 51])) (lCons (eTup (lCons (eTup (lCons (eC (.str [48])) (lCons (eC (.str [52])) lNil))) lNil)) lNil))) lNil))))
theorem b_law_eq : b_law = sSeq sGr (sSeq (sFor (Ev.gN 2) (iE (eCall f_law_rounds (lCons (eV 0) (lCons (eC (.int 1)) lNil)))) body) (sSeq (sRet (eCallF f_law_plain lNil)) sNop)) := rfl
theorem body_ok {p : PV} {k : Nat} {s : Stt} (h : Dz k s) : ∃ ρ s', body (some p :: some GRP :: some (.ref k) :: none :: none :: none :: none :: none :: none :: none :: none :: N19) s = .nx ρ s' := by
  obtain ⟨o, w, s1, e1, hk, d1⟩ := first_ok (p := p) h
  obtain ⟨r, x, q, s2, e2, hr, hx, hq, d2⟩ := mid_ok (p := p) (o := o) (w := w) d1
  have e3 := hole_ok (p := p) (k := k) (s := s2) (r := r) (x := x) hk hq
  have eM : sM (EC p k o w r x q [none, none, none, none, none, none, none, none, none, none, none, none]) s2 = .nx (EG p k o w (some (.int (r : Nat))) (some (.str [x])) (some (.str (tx 13 (put w r x)))) (some (.int (q : Nat))) (some (.str (tx 10 (put o q x)))) (some (.str (tx 10 (put o q 63)))) (some (.lst ((SG.filter (Fm o q)).map fun x => .str [x]))) CE none none none none none none none none none none none) s2 := rfl
  obtain ⟨u19, u20, u25, u26, u27, e4⟩ := st24_ok (p := p) (k := k) (o := o) (w := w) (some (.int (r : Nat))) (some (.str [x])) (some (.str (tx 13 (put w r x)))) (some (.int (q : Nat))) (some (.str (tx 10 (put o q x)))) (some (.str (tx 10 (put o q 63)))) (some (.lst ((SG.filter (Fm o q)).map fun x => .str [x]))) none none none none none none none none none none none s2
  obtain ⟨n, c, g, v, d, s3, e5, ck⟩ := crd_ok (p := p) (o := o) (w := w) (D := dueT o) d2 (some (.int (r : Nat))) (some (.str [x])) (some (.str (tx 13 (put w r x)))) (some (.int (q : Nat))) (some (.str (tx 10 (put o q x)))) (some (.str (tx 10 (put o q 63)))) (some (.lst ((SG.filter (Fm o q)).map fun x => .str [x]))) u19 u20 u25 u26 u27 none none
  refine ⟨ED p k o w (some (.int (r : Nat))) (some (.str [x])) (some (.str (tx 13 (put w r x)))) (some (.int (q : Nat))) (some (.str (tx 10 (put o q x)))) (some (.str (tx 10 (put o q 63)))) (some (.lst ((SG.filter (Fm o q)).map fun x => .str [x]))) (dueT o) u19 u20 n c g v d u25 u26 u27 none none, s3, ?_⟩
  have e1' : blk [sA, sB, sC, sD, sE, sF] sNop (some p :: some GRP :: some (.ref k) :: none :: none :: none :: none :: none :: none :: none :: none :: N19) s = .nx (EA p k o w N19) s1 := e1
  have e2' : blk [sG, sH, sI, sJ] sNop (EA p k o w N19) s1 = .nx (EB p k o w r x q [none, none, none, none, none, none, none, none, none, none, none, none, none, none]) s2 := e2
  have e3' : blk [sK, sL, sIf t9 rF sNop] sNop (EB p k o w r x q [none, none, none, none, none, none, none, none, none, none, none, none, none, none]) s2 = .nx (EC p k o w r x q [none, none, none, none, none, none, none, none, none, none, none, none]) s2 := e3
  have e5' : blk [sN, sO, sP] sNop (EG p k o w (some (.int (r : Nat))) (some (.str [x])) (some (.str (tx 13 (put w r x)))) (some (.int (q : Nat))) (some (.str (tx 10 (put o q x)))) (some (.str (tx 10 (put o q 63)))) (some (.lst ((SG.filter (Fm o q)).map fun x => .str [x]))) (dueT o) u19 u20 none none none none u25 u26 u27 none none) s2 = _ := e5
  unfold body
  rw [blk_nx e1', sSeq_s, chk_nx (t1_ok hk), SRes.seq_nx, sSeq_s, chk_nx (t2_ok hk), SRes.seq_nx, sSeq_s, chk_nx (t3_ok hk), SRes.seq_nx, sSeq_s, chk_nx (t4_ok hk (by show 1 < 19; omega)), SRes.seq_nx, sSeq_s, chk_nx (t5_ok hk), SRes.seq_nx]
  rw [blk_nx e2', sSeq_s, chk_nx (t6_ok hk hx), SRes.seq_nx, sSeq_s, chk_nx (t7_ok hk hx hr), SRes.seq_nx, sSeq_s, chk_nx (t8_ok hk hx hq), SRes.seq_nx]
  rw [blk_nx e3', sSeq_s, eM, SRes.seq_nx, sSeq_s, e4, SRes.seq_nx, sSeq_s, chk_nx (t10_ok hk _ _ _ _ _ _ _ _ _ _ _ _ _ _ _ _ _ _), SRes.seq_nx, blk_nx e5']
  unfold lastP
  rw [sSeq_s, chk_nx (t11_ok ck _ _ _ _ _ _ _ _ _ _ _ _ _ _), SRes.seq_nx, sSeq_s, chk_nx (t12_ok ck _ _ _ _ _ _ _ _ _ _ _ _ _ _), SRes.seq_nx, sSeq_s, chk_nx (t13_ok ck _ _ _ _ _ _ _ _ _ _ _ _ _ _), SRes.seq_nx]
  rfl
theorem iE_ok' {a : Ex} {ρ : Env} {s s' : Stt} {p : PV} {l : List PV} (h : a ρ s = .ok p s') (hl : live p s' = some l) : iE a ρ s = .ok (live p) s' := by
  unfold iE
  rw [h]
  simp only [Res.bind_ok]
  unfold ixOk
  rw [hl]
def mc (i : Nat) : Nat := [55, 57, 57, 50, 55, 51, 57, 56, 55, 49, 48].getD i 0
theorem m_nr : NR 11 mc = [[48, 57, 57, 50, 55, 51, 57, 56, 55, 49, 48], [49, 57, 57, 50, 55, 51, 57, 56, 55, 49, 48], [50, 57, 57, 50, 55, 51, 57, 56, 55, 49, 48], [51, 57, 57, 50, 55, 51, 57, 56, 55, 49, 48], [52, 57, 57, 50, 55, 51, 57, 56, 55, 49, 48], [53, 57, 57, 50, 55, 51, 57, 56, 55, 49, 48], [54, 57, 57, 50, 55, 51, 57, 56, 55, 49, 48], [55, 57, 57, 50, 55, 51, 57, 56, 55, 49, 48], [56, 57, 57, 50, 55, 51, 57, 56, 55, 49, 48], [57, 57, 57, 50, 55, 51, 57, 56, 55, 49, 48], [55, 48, 57, 50, 55, 51, 57, 56, 55, 49, 48], [55, 49, 57, 50, 55, 51, 57, 56, 55, 49, 48], [55, 50, 57, 50, 55, 51, 57, 56, 55, 49, 48], [55, 51, 57, 50, 55, 51, 57, 56, 55, 49, 48], [55, 52, 57, 50, 55, 51, 57, 56, 55, 49, 48], [55, 53, 57, 50, 55, 51, 57, 56, 55, 49, 48], [55, 54, 57, 50, 55, 51, 57, 56, 55, 49, 48], [55, 55, 57, 50, 55, 51, 57, 56, 55, 49, 48], [55, 56, 57, 50, 55, 51, 57, 56, 55, 49, 48], [55, 57, 57, 50, 55, 51, 57, 56, 55, 49, 48], [55, 57, 48, 50, 55, 51, 57, 56, 55, 49, 48], [55, 57, 49, 50, 55, 51, 57, 56, 55, 49, 48], [55, 57, 50, 50, 55, 51, 57, 56, 55, 49, 48], [55, 57, 51, 50, 55, 51, 57, 56, 55, 49, 48], [55, 57, 52, 50, 55, 51, 57, 56, 55, 49, 48], [55, 57, 53, 50, 55, 51, 57, 56, 55, 49, 48], [55, 57, 54, 50, 55, 51, 57, 56, 55, 49, 48], [55, 57, 55, 50, 55, 51, 57, 56, 55, 49, 48], [55, 57, 56, 50, 55, 51, 57, 56, 55, 49, 48], [55, 57, 57, 50, 55, 51, 57, 56, 55, 49, 48], [55, 57, 57, 48, 55, 51, 57, 56, 55, 49, 48], [55, 57, 57, 49, 55, 51, 57, 56, 55, 49, 48], [55, 57, 57, 50, 55, 51, 57, 56, 55, 49, 48], [55, 57, 57, 51, 55, 51, 57, 56, 55, 49, 48], [55, 57, 57, 52, 55, 51, 57, 56, 55, 49, 48], [55, 57, 57, 53, 55, 51, 57, 56, 55, 49, 48], [55, 57, 57, 54, 55, 51, 57, 56, 55, 49, 48], [55, 57, 57, 55, 55, 51, 57, 56, 55, 49, 48], [55, 57, 57, 56, 55, 51, 57, 56, 55, 49, 48], [55, 57, 57, 57, 55, 51, 57, 56, 55, 49, 48], [55, 57, 57, 50, 48, 51, 57, 56, 55, 49, 48], [55, 57, 57, 50, 49, 51, 57, 56, 55, 49, 48], [55, 57, 57, 50, 50, 51, 57, 56, 55, 49, 48], [55, 57, 57, 50, 51, 51, 57, 56, 55, 49, 48], [55, 57, 57, 50, 52, 51, 57, 56, 55, 49, 48], [55, 57, 57, 50, 53, 51, 57, 56, 55, 49, 48], [55, 57, 57, 50, 54, 51, 57, 56, 55, 49, 48], [55, 57, 57, 50, 55, 51, 57, 56, 55, 49, 48], [55, 57, 57, 50, 56, 51, 57, 56, 55, 49, 48], [55, 57, 57, 50, 57, 51, 57, 56, 55, 49, 48], [55, 57, 57, 50, 55, 48, 57, 56, 55, 49, 48], [55, 57, 57, 50, 55, 49, 57, 56, 55, 49, 48], [55, 57, 57, 50, 55, 50, 57, 56, 55, 49, 48], [55, 57, 57, 50, 55, 51, 57, 56, 55, 49, 48], [55, 57, 57, 50, 55, 52, 57, 56, 55, 49, 48], [55, 57, 57, 50, 55, 53, 57, 56, 55, 49, 48], [55, 57, 57, 50, 55, 54, 57, 56, 55, 49, 48], [55, 57, 57, 50, 55, 55, 57, 56, 55, 49, 48], [55, 57, 57, 50, 55, 56, 57, 56, 55, 49, 48], [55, 57, 57, 50, 55, 57, 57, 56, 55, 49, 48], [55, 57, 57, 50, 55, 51, 48, 56, 55, 49, 48], [55, 57, 57, 50, 55, 51, 49, 56, 55, 49, 48], [55, 57, 57, 50, 55, 51, 50, 56, 55, 49, 48], [55, 57, 57, 50, 55, 51, 51, 56, 55, 49, 48], [55, 57, 57, 50, 55, 51, 52, 56, 55, 49, 48], [55, 57, 57, 50, 55, 51, 53, 56, 55, 49, 48], [55, 57, 57, 50, 55, 51, 54, 56, 55, 49, 48], [55, 57, 57, 50, 55, 51, 55, 56, 55, 49, 48], [55, 57, 57, 50, 55, 51, 56, 56, 55, 49, 48], [55, 57, 57, 50, 55, 51, 57, 56, 55, 49, 48], [55, 57, 57, 50, 55, 51, 57, 48, 55, 49, 48], [55, 57, 57, 50, 55, 51, 57, 49, 55, 49, 48], [55, 57, 57, 50, 55, 51, 57, 50, 55, 49, 48], [55, 57, 57, 50, 55, 51, 57, 51, 55, 49, 48], [55, 57, 57, 50, 55, 51, 57, 52, 55, 49, 48], [55, 57, 57, 50, 55, 51, 57, 53, 55, 49, 48], [55, 57, 57, 50, 55, 51, 57, 54, 55, 49, 48], [55, 57, 57, 50, 55, 51, 57, 55, 55, 49, 48], [55, 57, 57, 50, 55, 51, 57, 56, 55, 49, 48], [55, 57, 57, 50, 55, 51, 57, 57, 55, 49, 48], [55, 57, 57, 50, 55, 51, 57, 56, 48, 49, 48], [55, 57, 57, 50, 55, 51, 57, 56, 49, 49, 48], [55, 57, 57, 50, 55, 51, 57, 56, 50, 49, 48], [55, 57, 57, 50, 55, 51, 57, 56, 51, 49, 48], [55, 57, 57, 50, 55, 51, 57, 56, 52, 49, 48], [55, 57, 57, 50, 55, 51, 57, 56, 53, 49, 48], [55, 57, 57, 50, 55, 51, 57, 56, 54, 49, 48], [55, 57, 57, 50, 55, 51, 57, 56, 55, 49, 48], [55, 57, 57, 50, 55, 51, 57, 56, 56, 49, 48], [55, 57, 57, 50, 55, 51, 57, 56, 57, 49, 48], [55, 57, 57, 50, 55, 51, 57, 56, 55, 48, 48], [55, 57, 57, 50, 55, 51, 57, 56, 55, 49, 48], [55, 57, 57, 50, 55, 51, 57, 56, 55, 50, 48], [55, 57, 57, 50, 55, 51, 57, 56, 55, 51, 48], [55, 57, 57, 50, 55, 51, 57, 56, 55, 52, 48], [55, 57, 57, 50, 55, 51, 57, 56, 55, 53, 48], [55, 57, 57, 50, 55, 51, 57, 56, 55, 54, 48], [55, 57, 57, 50, 55, 51, 57, 56, 55, 55, 48], [55, 57, 57, 50, 55, 51, 57, 56, 55, 56, 48], [55, 57, 57, 50, 55, 51, 57, 56, 55, 57, 48], [55, 57, 57, 50, 55, 51, 57, 56, 55, 49, 48], [55, 57, 57, 50, 55, 51, 57, 56, 55, 49, 49], [55, 57, 57, 50, 55, 51, 57, 56, 55, 49, 50], [55, 57, 57, 50, 55, 51, 57, 56, 55, 49, 51], [55, 57, 57, 50, 55, 51, 57, 56, 55, 49, 52], [55, 57, 57, 50, 55, 51, 57, 56, 55, 49, 53], [55, 57, 57, 50, 55, 51, 57, 56, 55, 49, 54], [55, 57, 57, 50, 55, 51, 57, 56, 55, 49, 55], [55, 57, 57, 50, 55, 51, 57, 56, 55, 49, 56], [55, 57, 57, 50, 55, 51, 57, 56, 55, 49, 57], [57, 55, 57, 50, 55, 51, 57, 56, 55, 49, 48], [55, 57, 57, 50, 55, 51, 57, 56, 55, 49, 48], [55, 57, 50, 57, 55, 51, 57, 56, 55, 49, 48], [55, 57, 57, 55, 50, 51, 57, 56, 55, 49, 48], [55, 57, 57, 50, 51, 55, 57, 56, 55, 49, 48], [55, 57, 57, 50, 55, 57, 51, 56, 55, 49, 48], [55, 57, 57, 50, 55, 51, 56, 57, 55, 49, 48], [55, 57, 57, 50, 55, 51, 57, 55, 56, 49, 48], [55, 57, 57, 50, 55, 51, 57, 56, 49, 55, 48], [55, 57, 57, 50, 55, 51, 57, 56, 55, 48, 49]] := by kernel_rfl
theorem m_keys : keysN [[48, 57, 57, 50, 55, 51, 57, 56, 55, 49, 48], [49, 57, 57, 50, 55, 51, 57, 56, 55, 49, 48], [50, 57, 57, 50, 55, 51, 57, 56, 55, 49, 48], [51, 57, 57, 50, 55, 51, 57, 56, 55, 49, 48], [52, 57, 57, 50, 55, 51, 57, 56, 55, 49, 48], [53, 57, 57, 50, 55, 51, 57, 56, 55, 49, 48], [54, 57, 57, 50, 55, 51, 57, 56, 55, 49, 48], [55, 57, 57, 50, 55, 51, 57, 56, 55, 49, 48], [56, 57, 57, 50, 55, 51, 57, 56, 55, 49, 48], [57, 57, 57, 50, 55, 51, 57, 56, 55, 49, 48], [55, 48, 57, 50, 55, 51, 57, 56, 55, 49, 48], [55, 49, 57, 50, 55, 51, 57, 56, 55, 49, 48], [55, 50, 57, 50, 55, 51, 57, 56, 55, 49, 48], [55, 51, 57, 50, 55, 51, 57, 56, 55, 49, 48], [55, 52, 57, 50, 55, 51, 57, 56, 55, 49, 48], [55, 53, 57, 50, 55, 51, 57, 56, 55, 49, 48], [55, 54, 57, 50, 55, 51, 57, 56, 55, 49, 48], [55, 55, 57, 50, 55, 51, 57, 56, 55, 49, 48], [55, 56, 57, 50, 55, 51, 57, 56, 55, 49, 48], [55, 57, 57, 50, 55, 51, 57, 56, 55, 49, 48], [55, 57, 48, 50, 55, 51, 57, 56, 55, 49, 48], [55, 57, 49, 50, 55, 51, 57, 56, 55, 49, 48], [55, 57, 50, 50, 55, 51, 57, 56, 55, 49, 48], [55, 57, 51, 50, 55, 51, 57, 56, 55, 49, 48], [55, 57, 52, 50, 55, 51, 57, 56, 55, 49, 48], [55, 57, 53, 50, 55, 51, 57, 56, 55, 49, 48], [55, 57, 54, 50, 55, 51, 57, 56, 55, 49, 48], [55, 57, 55, 50, 55, 51, 57, 56, 55, 49, 48], [55, 57, 56, 50, 55, 51, 57, 56, 55, 49, 48], [55, 57, 57, 50, 55, 51, 57, 56, 55, 49, 48], [55, 57, 57, 48, 55, 51, 57, 56, 55, 49, 48], [55, 57, 57, 49, 55, 51, 57, 56, 55, 49, 48], [55, 57, 57, 50, 55, 51, 57, 56, 55, 49, 48], [55, 57, 57, 51, 55, 51, 57, 56, 55, 49, 48], [55, 57, 57, 52, 55, 51, 57, 56, 55, 49, 48], [55, 57, 57, 53, 55, 51, 57, 56, 55, 49, 48], [55, 57, 57, 54, 55, 51, 57, 56, 55, 49, 48], [55, 57, 57, 55, 55, 51, 57, 56, 55, 49, 48], [55, 57, 57, 56, 55, 51, 57, 56, 55, 49, 48], [55, 57, 57, 57, 55, 51, 57, 56, 55, 49, 48], [55, 57, 57, 50, 48, 51, 57, 56, 55, 49, 48], [55, 57, 57, 50, 49, 51, 57, 56, 55, 49, 48], [55, 57, 57, 50, 50, 51, 57, 56, 55, 49, 48], [55, 57, 57, 50, 51, 51, 57, 56, 55, 49, 48], [55, 57, 57, 50, 52, 51, 57, 56, 55, 49, 48], [55, 57, 57, 50, 53, 51, 57, 56, 55, 49, 48], [55, 57, 57, 50, 54, 51, 57, 56, 55, 49, 48], [55, 57, 57, 50, 55, 51, 57, 56, 55, 49, 48], [55, 57, 57, 50, 56, 51, 57, 56, 55, 49, 48], [55, 57, 57, 50, 57, 51, 57, 56, 55, 49, 48], [55, 57, 57, 50, 55, 48, 57, 56, 55, 49, 48], [55, 57, 57, 50, 55, 49, 57, 56, 55, 49, 48], [55, 57, 57, 50, 55, 50, 57, 56, 55, 49, 48], [55, 57, 57, 50, 55, 51, 57, 56, 55, 49, 48], [55, 57, 57, 50, 55, 52, 57, 56, 55, 49, 48], [55, 57, 57, 50, 55, 53, 57, 56, 55, 49, 48], [55, 57, 57, 50, 55, 54, 57, 56, 55, 49, 48], [55, 57, 57, 50, 55, 55, 57, 56, 55, 49, 48], [55, 57, 57, 50, 55, 56, 57, 56, 55, 49, 48], [55, 57, 57, 50, 55, 57, 57, 56, 55, 49, 48], [55, 57, 57, 50, 55, 51, 48, 56, 55, 49, 48], [55, 57, 57, 50, 55, 51, 49, 56, 55, 49, 48], [55, 57, 57, 50, 55, 51, 50, 56, 55, 49, 48], [55, 57, 57, 50, 55, 51, 51, 56, 55, 49, 48], [55, 57, 57, 50, 55, 51, 52, 56, 55, 49, 48], [55, 57, 57, 50, 55, 51, 53, 56, 55, 49, 48], [55, 57, 57, 50, 55, 51, 54, 56, 55, 49, 48], [55, 57, 57, 50, 55, 51, 55, 56, 55, 49, 48], [55, 57, 57, 50, 55, 51, 56, 56, 55, 49, 48], [55, 57, 57, 50, 55, 51, 57, 56, 55, 49, 48], [55, 57, 57, 50, 55, 51, 57, 48, 55, 49, 48], [55, 57, 57, 50, 55, 51, 57, 49, 55, 49, 48], [55, 57, 57, 50, 55, 51, 57, 50, 55, 49, 48], [55, 57, 57, 50, 55, 51, 57, 51, 55, 49, 48], [55, 57, 57, 50, 55, 51, 57, 52, 55, 49, 48], [55, 57, 57, 50, 55, 51, 57, 53, 55, 49, 48], [55, 57, 57, 50, 55, 51, 57, 54, 55, 49, 48], [55, 57, 57, 50, 55, 51, 57, 55, 55, 49, 48], [55, 57, 57, 50, 55, 51, 57, 56, 55, 49, 48], [55, 57, 57, 50, 55, 51, 57, 57, 55, 49, 48], [55, 57, 57, 50, 55, 51, 57, 56, 48, 49, 48], [55, 57, 57, 50, 55, 51, 57, 56, 49, 49, 48], [55, 57, 57, 50, 55, 51, 57, 56, 50, 49, 48], [55, 57, 57, 50, 55, 51, 57, 56, 51, 49, 48], [55, 57, 57, 50, 55, 51, 57, 56, 52, 49, 48], [55, 57, 57, 50, 55, 51, 57, 56, 53, 49, 48], [55, 57, 57, 50, 55, 51, 57, 56, 54, 49, 48], [55, 57, 57, 50, 55, 51, 57, 56, 55, 49, 48], [55, 57, 57, 50, 55, 51, 57, 56, 56, 49, 48], [55, 57, 57, 50, 55, 51, 57, 56, 57, 49, 48], [55, 57, 57, 50, 55, 51, 57, 56, 55, 48, 48], [55, 57, 57, 50, 55, 51, 57, 56, 55, 49, 48], [55, 57, 57, 50, 55, 51, 57, 56, 55, 50, 48], [55, 57, 57, 50, 55, 51, 57, 56, 55, 51, 48], [55, 57, 57, 50, 55, 51, 57, 56, 55, 52, 48], [55, 57, 57, 50, 55, 51, 57, 56, 55, 53, 48], [55, 57, 57, 50, 55, 51, 57, 56, 55, 54, 48], [55, 57, 57, 50, 55, 51, 57, 56, 55, 55, 48], [55, 57, 57, 50, 55, 51, 57, 56, 55, 56, 48], [55, 57, 57, 50, 55, 51, 57, 56, 55, 57, 48], [55, 57, 57, 50, 55, 51, 57, 56, 55, 49, 48], [55, 57, 57, 50, 55, 51, 57, 56, 55, 49, 49], [55, 57, 57, 50, 55, 51, 57, 56, 55, 49, 50], [55, 57, 57, 50, 55, 51, 57, 56, 55, 49, 51], [55, 57, 57, 50, 55, 51, 57, 56, 55, 49, 52], [55, 57, 57, 50, 55, 51, 57, 56, 55, 49, 53], [55, 57, 57, 50, 55, 51, 57, 56, 55, 49, 54], [55, 57, 57, 50, 55, 51, 57, 56, 55, 49, 55], [55, 57, 57, 50, 55, 51, 57, 56, 55, 49, 56], [55, 57, 57, 50, 55, 51, 57, 56, 55, 49, 57], [57, 55, 57, 50, 55, 51, 57, 56, 55, 49, 48], [55, 57, 57, 50, 55, 51, 57, 56, 55, 49, 48], [55, 57, 50, 57, 55, 51, 57, 56, 55, 49, 48], [55, 57, 57, 55, 50, 51, 57, 56, 55, 49, 48], [55, 57, 57, 50, 51, 55, 57, 56, 55, 49, 48], [55, 57, 57, 50, 55, 57, 51, 56, 55, 49, 48], [55, 57, 57, 50, 55, 51, 56, 57, 55, 49, 48], [55, 57, 57, 50, 55, 51, 57, 55, 56, 49, 48], [55, 57, 57, 50, 55, 51, 57, 56, 49, 55, 48], [55, 57, 57, 50, 55, 51, 57, 56, 55, 48, 49]] = [[48, 57, 57, 50, 55, 51, 57, 56, 55, 49, 48], [49, 57, 57, 50, 55, 51, 57, 56, 55, 49, 48], [50, 57, 57, 50, 55, 51, 57, 56, 55, 49, 48], [51, 57, 57, 50, 55, 51, 57, 56, 55, 49, 48], [52, 57, 57, 50, 55, 51, 57, 56, 55, 49, 48], [53, 57, 57, 50, 55, 51, 57, 56, 55, 49, 48], [54, 57, 57, 50, 55, 51, 57, 56, 55, 49, 48], [55, 57, 57, 50, 55, 51, 57, 56, 55, 49, 48], [56, 57, 57, 50, 55, 51, 57, 56, 55, 49, 48], [57, 57, 57, 50, 55, 51, 57, 56, 55, 49, 48], [55, 48, 57, 50, 55, 51, 57, 56, 55, 49, 48], [55, 49, 57, 50, 55, 51, 57, 56, 55, 49, 48], [55, 50, 57, 50, 55, 51, 57, 56, 55, 49, 48], [55, 51, 57, 50, 55, 51, 57, 56, 55, 49, 48], [55, 52, 57, 50, 55, 51, 57, 56, 55, 49, 48], [55, 53, 57, 50, 55, 51, 57, 56, 55, 49, 48], [55, 54, 57, 50, 55, 51, 57, 56, 55, 49, 48], [55, 55, 57, 50, 55, 51, 57, 56, 55, 49, 48], [55, 56, 57, 50, 55, 51, 57, 56, 55, 49, 48], [55, 57, 48, 50, 55, 51, 57, 56, 55, 49, 48], [55, 57, 49, 50, 55, 51, 57, 56, 55, 49, 48], [55, 57, 50, 50, 55, 51, 57, 56, 55, 49, 48], [55, 57, 51, 50, 55, 51, 57, 56, 55, 49, 48], [55, 57, 52, 50, 55, 51, 57, 56, 55, 49, 48], [55, 57, 53, 50, 55, 51, 57, 56, 55, 49, 48], [55, 57, 54, 50, 55, 51, 57, 56, 55, 49, 48], [55, 57, 55, 50, 55, 51, 57, 56, 55, 49, 48], [55, 57, 56, 50, 55, 51, 57, 56, 55, 49, 48], [55, 57, 57, 48, 55, 51, 57, 56, 55, 49, 48], [55, 57, 57, 49, 55, 51, 57, 56, 55, 49, 48], [55, 57, 57, 51, 55, 51, 57, 56, 55, 49, 48], [55, 57, 57, 52, 55, 51, 57, 56, 55, 49, 48], [55, 57, 57, 53, 55, 51, 57, 56, 55, 49, 48], [55, 57, 57, 54, 55, 51, 57, 56, 55, 49, 48], [55, 57, 57, 55, 55, 51, 57, 56, 55, 49, 48], [55, 57, 57, 56, 55, 51, 57, 56, 55, 49, 48], [55, 57, 57, 57, 55, 51, 57, 56, 55, 49, 48], [55, 57, 57, 50, 48, 51, 57, 56, 55, 49, 48], [55, 57, 57, 50, 49, 51, 57, 56, 55, 49, 48], [55, 57, 57, 50, 50, 51, 57, 56, 55, 49, 48], [55, 57, 57, 50, 51, 51, 57, 56, 55, 49, 48], [55, 57, 57, 50, 52, 51, 57, 56, 55, 49, 48], [55, 57, 57, 50, 53, 51, 57, 56, 55, 49, 48], [55, 57, 57, 50, 54, 51, 57, 56, 55, 49, 48], [55, 57, 57, 50, 56, 51, 57, 56, 55, 49, 48], [55, 57, 57, 50, 57, 51, 57, 56, 55, 49, 48], [55, 57, 57, 50, 55, 48, 57, 56, 55, 49, 48], [55, 57, 57, 50, 55, 49, 57, 56, 55, 49, 48], [55, 57, 57, 50, 55, 50, 57, 56, 55, 49, 48], [55, 57, 57, 50, 55, 52, 57, 56, 55, 49, 48], [55, 57, 57, 50, 55, 53, 57, 56, 55, 49, 48], [55, 57, 57, 50, 55, 54, 57, 56, 55, 49, 48], [55, 57, 57, 50, 55, 55, 57, 56, 55, 49, 48], [55, 57, 57, 50, 55, 56, 57, 56, 55, 49, 48], [55, 57, 57, 50, 55, 57, 57, 56, 55, 49, 48], [55, 57, 57, 50, 55, 51, 48, 56, 55, 49, 48], [55, 57, 57, 50, 55, 51, 49, 56, 55, 49, 48], [55, 57, 57, 50, 55, 51, 50, 56, 55, 49, 48], [55, 57, 57, 50, 55, 51, 51, 56, 55, 49, 48], [55, 57, 57, 50, 55, 51, 52, 56, 55, 49, 48], [55, 57, 57, 50, 55, 51, 53, 56, 55, 49, 48], [55, 57, 57, 50, 55, 51, 54, 56, 55, 49, 48], [55, 57, 57, 50, 55, 51, 55, 56, 55, 49, 48], [55, 57, 57, 50, 55, 51, 56, 56, 55, 49, 48], [55, 57, 57, 50, 55, 51, 57, 48, 55, 49, 48], [55, 57, 57, 50, 55, 51, 57, 49, 55, 49, 48], [55, 57, 57, 50, 55, 51, 57, 50, 55, 49, 48], [55, 57, 57, 50, 55, 51, 57, 51, 55, 49, 48], [55, 57, 57, 50, 55, 51, 57, 52, 55, 49, 48], [55, 57, 57, 50, 55, 51, 57, 53, 55, 49, 48], [55, 57, 57, 50, 55, 51, 57, 54, 55, 49, 48], [55, 57, 57, 50, 55, 51, 57, 55, 55, 49, 48], [55, 57, 57, 50, 55, 51, 57, 57, 55, 49, 48], [55, 57, 57, 50, 55, 51, 57, 56, 48, 49, 48], [55, 57, 57, 50, 55, 51, 57, 56, 49, 49, 48], [55, 57, 57, 50, 55, 51, 57, 56, 50, 49, 48], [55, 57, 57, 50, 55, 51, 57, 56, 51, 49, 48], [55, 57, 57, 50, 55, 51, 57, 56, 52, 49, 48], [55, 57, 57, 50, 55, 51, 57, 56, 53, 49, 48], [55, 57, 57, 50, 55, 51, 57, 56, 54, 49, 48], [55, 57, 57, 50, 55, 51, 57, 56, 56, 49, 48], [55, 57, 57, 50, 55, 51, 57, 56, 57, 49, 48], [55, 57, 57, 50, 55, 51, 57, 56, 55, 48, 48], [55, 57, 57, 50, 55, 51, 57, 56, 55, 50, 48], [55, 57, 57, 50, 55, 51, 57, 56, 55, 51, 48], [55, 57, 57, 50, 55, 51, 57, 56, 55, 52, 48], [55, 57, 57, 50, 55, 51, 57, 56, 55, 53, 48], [55, 57, 57, 50, 55, 51, 57, 56, 55, 54, 48], [55, 57, 57, 50, 55, 51, 57, 56, 55, 55, 48], [55, 57, 57, 50, 55, 51, 57, 56, 55, 56, 48], [55, 57, 57, 50, 55, 51, 57, 56, 55, 57, 48], [55, 57, 57, 50, 55, 51, 57, 56, 55, 49, 49], [55, 57, 57, 50, 55, 51, 57, 56, 55, 49, 50], [55, 57, 57, 50, 55, 51, 57, 56, 55, 49, 51], [55, 57, 57, 50, 55, 51, 57, 56, 55, 49, 52], [55, 57, 57, 50, 55, 51, 57, 56, 55, 49, 53], [55, 57, 57, 50, 55, 51, 57, 56, 55, 49, 54], [55, 57, 57, 50, 55, 51, 57, 56, 55, 49, 55], [55, 57, 57, 50, 55, 51, 57, 56, 55, 49, 56], [55, 57, 57, 50, 55, 51, 57, 56, 55, 49, 57], [57, 55, 57, 50, 55, 51, 57, 56, 55, 49, 48], [55, 57, 50, 57, 55, 51, 57, 56, 55, 49, 48], [55, 57, 57, 55, 50, 51, 57, 56, 55, 49, 48], [55, 57, 57, 50, 51, 55, 57, 56, 55, 49, 48], [55, 57, 57, 50, 55, 57, 51, 56, 55, 49, 48], [55, 57, 57, 50, 55, 51, 56, 57, 55, 49, 48], [55, 57, 57, 50, 55, 51, 57, 55, 56, 49, 48], [55, 57, 57, 50, 55, 51, 57, 56, 49, 55, 48], [55, 57, 57, 50, 55, 51, 57, 56, 55, 48, 49]] := by kernel_rfl
theorem m_flt : [[48, 57, 57, 50, 55, 51, 57, 56, 55, 49, 48], [49, 57, 57, 50, 55, 51, 57, 56, 55, 49, 48], [50, 57, 57, 50, 55, 51, 57, 56, 55, 49, 48], [51, 57, 57, 50, 55, 51, 57, 56, 55, 49, 48], [52, 57, 57, 50, 55, 51, 57, 56, 55, 49, 48], [53, 57, 57, 50, 55, 51, 57, 56, 55, 49, 48], [54, 57, 57, 50, 55, 51, 57, 56, 55, 49, 48], [55, 57, 57, 50, 55, 51, 57, 56, 55, 49, 48], [56, 57, 57, 50, 55, 51, 57, 56, 55, 49, 48], [57, 57, 57, 50, 55, 51, 57, 56, 55, 49, 48], [55, 48, 57, 50, 55, 51, 57, 56, 55, 49, 48], [55, 49, 57, 50, 55, 51, 57, 56, 55, 49, 48], [55, 50, 57, 50, 55, 51, 57, 56, 55, 49, 48], [55, 51, 57, 50, 55, 51, 57, 56, 55, 49, 48], [55, 52, 57, 50, 55, 51, 57, 56, 55, 49, 48], [55, 53, 57, 50, 55, 51, 57, 56, 55, 49, 48], [55, 54, 57, 50, 55, 51, 57, 56, 55, 49, 48], [55, 55, 57, 50, 55, 51, 57, 56, 55, 49, 48], [55, 56, 57, 50, 55, 51, 57, 56, 55, 49, 48], [55, 57, 48, 50, 55, 51, 57, 56, 55, 49, 48], [55, 57, 49, 50, 55, 51, 57, 56, 55, 49, 48], [55, 57, 50, 50, 55, 51, 57, 56, 55, 49, 48], [55, 57, 51, 50, 55, 51, 57, 56, 55, 49, 48], [55, 57, 52, 50, 55, 51, 57, 56, 55, 49, 48], [55, 57, 53, 50, 55, 51, 57, 56, 55, 49, 48], [55, 57, 54, 50, 55, 51, 57, 56, 55, 49, 48], [55, 57, 55, 50, 55, 51, 57, 56, 55, 49, 48], [55, 57, 56, 50, 55, 51, 57, 56, 55, 49, 48], [55, 57, 57, 48, 55, 51, 57, 56, 55, 49, 48], [55, 57, 57, 49, 55, 51, 57, 56, 55, 49, 48], [55, 57, 57, 51, 55, 51, 57, 56, 55, 49, 48], [55, 57, 57, 52, 55, 51, 57, 56, 55, 49, 48], [55, 57, 57, 53, 55, 51, 57, 56, 55, 49, 48], [55, 57, 57, 54, 55, 51, 57, 56, 55, 49, 48], [55, 57, 57, 55, 55, 51, 57, 56, 55, 49, 48], [55, 57, 57, 56, 55, 51, 57, 56, 55, 49, 48], [55, 57, 57, 57, 55, 51, 57, 56, 55, 49, 48], [55, 57, 57, 50, 48, 51, 57, 56, 55, 49, 48], [55, 57, 57, 50, 49, 51, 57, 56, 55, 49, 48], [55, 57, 57, 50, 50, 51, 57, 56, 55, 49, 48], [55, 57, 57, 50, 51, 51, 57, 56, 55, 49, 48], [55, 57, 57, 50, 52, 51, 57, 56, 55, 49, 48], [55, 57, 57, 50, 53, 51, 57, 56, 55, 49, 48], [55, 57, 57, 50, 54, 51, 57, 56, 55, 49, 48], [55, 57, 57, 50, 56, 51, 57, 56, 55, 49, 48], [55, 57, 57, 50, 57, 51, 57, 56, 55, 49, 48], [55, 57, 57, 50, 55, 48, 57, 56, 55, 49, 48], [55, 57, 57, 50, 55, 49, 57, 56, 55, 49, 48], [55, 57, 57, 50, 55, 50, 57, 56, 55, 49, 48], [55, 57, 57, 50, 55, 52, 57, 56, 55, 49, 48], [55, 57, 57, 50, 55, 53, 57, 56, 55, 49, 48], [55, 57, 57, 50, 55, 54, 57, 56, 55, 49, 48], [55, 57, 57, 50, 55, 55, 57, 56, 55, 49, 48], [55, 57, 57, 50, 55, 56, 57, 56, 55, 49, 48], [55, 57, 57, 50, 55, 57, 57, 56, 55, 49, 48], [55, 57, 57, 50, 55, 51, 48, 56, 55, 49, 48], [55, 57, 57, 50, 55, 51, 49, 56, 55, 49, 48], [55, 57, 57, 50, 55, 51, 50, 56, 55, 49, 48], [55, 57, 57, 50, 55, 51, 51, 56, 55, 49, 48], [55, 57, 57, 50, 55, 51, 52, 56, 55, 49, 48], [55, 57, 57, 50, 55, 51, 53, 56, 55, 49, 48], [55, 57, 57, 50, 55, 51, 54, 56, 55, 49, 48], [55, 57, 57, 50, 55, 51, 55, 56, 55, 49, 48], [55, 57, 57, 50, 55, 51, 56, 56, 55, 49, 48], [55, 57, 57, 50, 55, 51, 57, 48, 55, 49, 48], [55, 57, 57, 50, 55, 51, 57, 49, 55, 49, 48], [55, 57, 57, 50, 55, 51, 57, 50, 55, 49, 48], [55, 57, 57, 50, 55, 51, 57, 51, 55, 49, 48], [55, 57, 57, 50, 55, 51, 57, 52, 55, 49, 48], [55, 57, 57, 50, 55, 51, 57, 53, 55, 49, 48], [55, 57, 57, 50, 55, 51, 57, 54, 55, 49, 48], [55, 57, 57, 50, 55, 51, 57, 55, 55, 49, 48], [55, 57, 57, 50, 55, 51, 57, 57, 55, 49, 48], [55, 57, 57, 50, 55, 51, 57, 56, 48, 49, 48], [55, 57, 57, 50, 55, 51, 57, 56, 49, 49, 48], [55, 57, 57, 50, 55, 51, 57, 56, 50, 49, 48], [55, 57, 57, 50, 55, 51, 57, 56, 51, 49, 48], [55, 57, 57, 50, 55, 51, 57, 56, 52, 49, 48], [55, 57, 57, 50, 55, 51, 57, 56, 53, 49, 48], [55, 57, 57, 50, 55, 51, 57, 56, 54, 49, 48], [55, 57, 57, 50, 55, 51, 57, 56, 56, 49, 48], [55, 57, 57, 50, 55, 51, 57, 56, 57, 49, 48], [55, 57, 57, 50, 55, 51, 57, 56, 55, 48, 48], [55, 57, 57, 50, 55, 51, 57, 56, 55, 50, 48], [55, 57, 57, 50, 55, 51, 57, 56, 55, 51, 48], [55, 57, 57, 50, 55, 51, 57, 56, 55, 52, 48], [55, 57, 57, 50, 55, 51, 57, 56, 55, 53, 48], [55, 57, 57, 50, 55, 51, 57, 56, 55, 54, 48], [55, 57, 57, 50, 55, 51, 57, 56, 55, 55, 48], [55, 57, 57, 50, 55, 51, 57, 56, 55, 56, 48], [55, 57, 57, 50, 55, 51, 57, 56, 55, 57, 48], [55, 57, 57, 50, 55, 51, 57, 56, 55, 49, 49], [55, 57, 57, 50, 55, 51, 57, 56, 55, 49, 50], [55, 57, 57, 50, 55, 51, 57, 56, 55, 49, 51], [55, 57, 57, 50, 55, 51, 57, 56, 55, 49, 52], [55, 57, 57, 50, 55, 51, 57, 56, 55, 49, 53], [55, 57, 57, 50, 55, 51, 57, 56, 55, 49, 54], [55, 57, 57, 50, 55, 51, 57, 56, 55, 49, 55], [55, 57, 57, 50, 55, 51, 57, 56, 55, 49, 56], [55, 57, 57, 50, 55, 51, 57, 56, 55, 49, 57], [57, 55, 57, 50, 55, 51, 57, 56, 55, 49, 48], [55, 57, 50, 57, 55, 51, 57, 56, 55, 49, 48], [55, 57, 57, 55, 50, 51, 57, 56, 55, 49, 48], [55, 57, 57, 50, 51, 55, 57, 56, 55, 49, 48], [55, 57, 57, 50, 55, 57, 51, 56, 55, 49, 48], [55, 57, 57, 50, 55, 51, 56, 57, 55, 49, 48], [55, 57, 57, 50, 55, 51, 57, 55, 56, 49, 48], [55, 57, 57, 50, 55, 51, 57, 56, 49, 55, 48], [55, 57, 57, 50, 55, 51, 57, 56, 55, 48, 49]].filter (keepN (tx 11 mc)) = [[48, 57, 57, 50, 55, 51, 57, 56, 55, 49, 48], [55, 49, 57, 50, 55, 51, 57, 56, 55, 49, 48], [55, 57, 50, 50, 55, 51, 57, 56, 55, 49, 48], [55, 57, 57, 56, 55, 51, 57, 56, 55, 49, 48], [55, 57, 57, 50, 48, 51, 57, 56, 55, 49, 48], [55, 57, 57, 50, 55, 57, 57, 56, 55, 49, 48], [55, 57, 57, 50, 55, 51, 50, 56, 55, 49, 48], [55, 57, 57, 50, 55, 51, 57, 48, 55, 49, 48], [55, 57, 57, 50, 55, 51, 57, 56, 48, 49, 48], [55, 57, 57, 50, 55, 51, 57, 56, 55, 55, 48], [55, 57, 57, 50, 55, 51, 57, 56, 55, 49, 51]] := by kernel_rfl
theorem m_srt : KN 11 mc = [[48, 57, 57, 50, 55, 51, 57, 56, 55, 49, 48], [55, 49, 57, 50, 55, 51, 57, 56, 55, 49, 48], [55, 57, 50, 50, 55, 51, 57, 56, 55, 49, 48], [55, 57, 57, 50, 48, 51, 57, 56, 55, 49, 48], [55, 57, 57, 50, 55, 51, 50, 56, 55, 49, 48], [55, 57, 57, 50, 55, 51, 57, 48, 55, 49, 48], [55, 57, 57, 50, 55, 51, 57, 56, 48, 49, 48], [55, 57, 57, 50, 55, 51, 57, 56, 55, 49, 51], [55, 57, 57, 50, 55, 51, 57, 56, 55, 55, 48], [55, 57, 57, 50, 55, 57, 57, 56, 55, 49, 48], [55, 57, 57, 56, 55, 51, 57, 56, 55, 49, 48]] := by
  unfold KN
  rw [m_nr, m_keys, m_flt]
  kernel_rfl
theorem m_D : DD 11 mc := fun i hi => by
  have all : ∀ i ∈ List.range 11, isD (mc i) = true := by decide +kernel
  exact all i (List.mem_range.mpr hi)
theorem m_ok (s : Stt) : pureF f_mended_by_one [.str [55, 57, 57, 50, 55, 51, 57, 56, 55, 49, 48]] s = .ok (.tup ([[48, 57, 57, 50, 55, 51, 57, 56, 55, 49, 48], [55, 49, 57, 50, 55, 51, 57, 56, 55, 49, 48], [55, 57, 50, 50, 55, 51, 57, 56, 55, 49, 48], [55, 57, 57, 50, 48, 51, 57, 56, 55, 49, 48], [55, 57, 57, 50, 55, 51, 50, 56, 55, 49, 48], [55, 57, 57, 50, 55, 51, 57, 48, 55, 49, 48], [55, 57, 57, 50, 55, 51, 57, 56, 48, 49, 48], [55, 57, 57, 50, 55, 51, 57, 56, 55, 49, 51], [55, 57, 57, 50, 55, 51, 57, 56, 55, 55, 48], [55, 57, 57, 50, 55, 57, 57, 56, 55, 49, 48], [55, 57, 57, 56, 55, 51, 57, 56, 55, 49, 48]].map .str)) s := by
  have q := mend_ok (n := 11) (c := mc) (by omega) (by omega) m_D s
  rw [m_srt] at q
  exact q
def q0 : Sx := (sAsg (Ev.gN 0) (eTup (lCons (eTup (lCons (eC (.str [48])) (lCons (eTup (lCons (eTup (lCons (eC (.str [48, 48])) (lCons (eC (.str [49, 57])) lNil))) (lCons (eTup (lCons (eC (.str [50, 48, 48])) (lCons (eC (.str [54, 57, 57])) lNil))) lNil))) lNil))) lNil)))
def q1 : Sx := (sAsg (Ev.gN 1) (eLst (lCons (eCallF f_plain_number (lCons (eC (.str [48, 45, 51, 48, 54, 45, 52, 48, 54, 49, 53, 45, 50])) lNil)) (lCons (eCallF f_old_number (lCons (eC (.str [57, 55, 56, 48, 51, 48, 54, 52, 48, 54, 49, 53, 55])) lNil)) (lCons (eCallF f_is_same_number (lCons (eC (.str [48, 51, 48, 54, 52, 48, 54, 49, 53, 50])) (lCons (eC (.str [57, 55, 56, 45, 48, 45, 51, 48, 54, 45, 52, 48, 54, 49, 53, 45, 55])) lNil))) (lCons (eCallF f_check_of_ten (lCons (eC (.str [48, 56, 48, 52, 52, 50, 57, 53, 55])) lNil)) lNil))))))
def q2 : Sx := (sAsg (Ev.gN 1) (eOp oAdd (eV 1) (eLst (lCons (eCallF f_check_of_thirteen (lCons (eC (.str [57, 55, 56, 48, 51, 48, 54, 52, 48, 54, 49, 53])) lNil)) (lCons (eCallF f_parted_number (lCons (eC (.str [57, 55, 56, 48, 51, 48, 54, 52, 48, 54, 49, 53, 55])) (lCons (eV 0) lNil))) (lCons (eCallF f_sum_of_card (lCons (eC (.str [55, 57, 57, 50, 55, 51, 57, 56, 55, 49, 51])) lNil)) (lCons (eCallF f_made_card (lCons (eC (.int 42)) (lCons (eC (.int 5)) lNil))) (lCons (eCallF f_is_card (lCons (eC (.str [48, 48, 48, 52, 50, 50])) lNil)) lNil))))))))
def q3 : Sx := (sAsg (Ev.gN 1) (eOp oAdd (eV 1) (eLst (lCons (eCallF f_number_of_card (lCons (eC (.str [48, 48, 48, 52, 50, 50])) lNil)) (lCons (eCut (eCallF f_mended_by_one (lCons (eC (.str [55, 57, 57, 50, 55, 51, 57, 56, 55, 49, 48])) lNil)) none (some (eC (.int 3)))) (lCons (eCallF f_missing_figure (lCons (eC (.str [48, 51, 48, 54, 52, 63, 54, 49, 53, 50])) lNil)) (lCons (eCallF f_is_number_at_all (lCons (eC (.str [120])) lNil)) (lCons (eCallF f_is_number_at_all (lCons (eC (.str [88])) lNil)) lNil))))))))
def q4 : Sx := (sAsg (Ev.gN 1) (eOp oAdd (eV 1) (eLst (lCons (eCallF f_figures_of (lCons (eC (.str [49, 32, 50, 45, 88])) lNil)) (lCons (eCallF f_is_book_number (lCons (eC (.str [49, 50])) lNil)) (lCons (eCallF f_made_card (lCons (eC (.int 0)) (lCons (eC (.int 1)) lNil))) lNil))))))
def qr : Sx := (sBad0 2 (sSeq (sIf (tBadNe told_cs bad_law_plain) (sSeq (sRet (eC (.bl false))) sNop) sNop) (sSeq (sIf (tCp cNe (eTup (lCons (eC c_FIGURES) (lCons (eC c_MOST_FIGURES) lNil))) (eTup (lCons (eC (.str [48, 49, 50, 51, 52, 53, 54, 55, 56, 57])) (lCons (eC (.int 18)) lNil)))) (sSeq (sRet (eC (.bl false))) sNop) sNop) (sSeq (sAsg (Ev.gN 3) (eLst (lCons (eC (.str [57, 55, 56, 48, 51, 48, 54, 52, 48, 54, 49, 53, 55])) (lCons (eC (.str [48, 51, 48, 54, 52, 48, 54, 49, 53, 50])) (lCons (eC (.bl true)) (lCons (eC (.str [88])) (lCons (eC (.str [55])) (lCons (eC (.str [57, 55, 56, 45, 48, 45, 51, 48, 54, 45, 52, 48, 54, 49, 53, 45, 55])) (lCons (eC (.int 70)) (lCons (eC (.str [48, 48, 48, 52, 50, 50])) (lCons (eC (.bl true)) (lCons (eC (.int 42)) (lCons (eTup (lCons (eC (.str [48, 57, 57, 50, 55, 51, 57, 56, 55, 49, 48])) (lCons (eC (.str [55, 49, 57, 50, 55, 51, 57, 56, 55, 49, 48])) (lCons (eC (.str [55, 57, 50, 50, 55, 51, 57, 56, 55, 49, 48])) lNil)))) lNil))))))))))))) (sSeq (sAsg (Ev.gN 3) (eOp oAdd (eV 3) (eLst (lCons (eTup (lCons (eC (.str [48])) lNil)) (lCons (eC (.bl false)) (lCons (eC (.bl true)) (lCons (eC (.str [49, 50, 88])) (lCons (eC (.bl false)) (lCons (eC (.str [48, 48])) lNil))))))))) (sSeq (sRet (eCp cEq (eV 1) (eV 3))) sNop))))))
theorem q012 : blk [q0, q1, q2] sNop [none, none, none, none, none, none] ⟨[]⟩ = .nx [some (.tup [.tup [.str [48], .tup [.tup [.str [48, 48], .str [49, 57]], .tup [.str [50, 48, 48], .str [54, 57, 57]]]]]), some (.lst [.str [57, 55, 56, 48, 51, 48, 54, 52, 48, 54, 49, 53, 55], .str [48, 51, 48, 54, 52, 48, 54, 49, 53, 50], .bl true, .str [88], .str [55], .str [57, 55, 56, 45, 48, 45, 51, 48, 54, 45, 52, 48, 54, 49, 53, 45, 55], .int 70, .str [48, 48, 48, 52, 50, 50], .bl true]), none, none, none, none] ⟨[]⟩ := by kernel_rfl
theorem q3_ok : q3 [some (.tup [.tup [.str [48], .tup [.tup [.str [48, 48], .str [49, 57]], .tup [.str [50, 48, 48], .str [54, 57, 57]]]]]), some (.lst [.str [57, 55, 56, 48, 51, 48, 54, 52, 48, 54, 49, 53, 55], .str [48, 51, 48, 54, 52, 48, 54, 49, 53, 50], .bl true, .str [88], .str [55], .str [57, 55, 56, 45, 48, 45, 51, 48, 54, 45, 52, 48, 54, 49, 53, 45, 55], .int 70, .str [48, 48, 48, 52, 50, 50], .bl true]), none, none, none, none] ⟨[]⟩ = .nx [some (.tup [.tup [.str [48], .tup [.tup [.str [48, 48], .str [49, 57]], .tup [.str [50, 48, 48], .str [54, 57, 57]]]]]), some (.lst [.str [57, 55, 56, 48, 51, 48, 54, 52, 48, 54, 49, 53, 55], .str [48, 51, 48, 54, 52, 48, 54, 49, 53, 50], .bl true, .str [88], .str [55], .str [57, 55, 56, 45, 48, 45, 51, 48, 54, 45, 52, 48, 54, 49, 53, 45, 55], .int 70, .str [48, 48, 48, 52, 50, 50], .bl true, .int 42, .tup [.str [48, 57, 57, 50, 55, 51, 57, 56, 55, 49, 48], .str [55, 49, 57, 50, 55, 51, 57, 56, 55, 49, 48], .str [55, 57, 50, 50, 55, 51, 57, 56, 55, 49, 48]], .tup [.str [48]], .bl false, .bl true]), none, none, none, none] ⟨[]⟩ := by
  generalize hρ : ([some (.tup [.tup [.str [48], .tup [.tup [.str [48, 48], .str [49, 57]], .tup [.str [50, 48, 48], .str [54, 57, 57]]]]]), some (.lst [.str [57, 55, 56, 48, 51, 48, 54, 52, 48, 54, 49, 53, 55], .str [48, 51, 48, 54, 52, 48, 54, 49, 53, 50], .bl true, .str [88], .str [55], .str [57, 55, 56, 45, 48, 45, 51, 48, 54, 45, 52, 48, 54, 49, 53, 45, 55], .int 70, .str [48, 48, 48, 52, 50, 50], .bl true]), none, none, none, none] : Env) = ρ
  have h1 : ρ[1]? = some (some (.lst [.str [57, 55, 56, 48, 51, 48, 54, 52, 48, 54, 49, 53, 55], .str [48, 51, 48, 54, 52, 48, 54, 49, 53, 50], .bl true, .str [88], .str [55], .str [57, 55, 56, 45, 48, 45, 51, 48, 54, 45, 52, 48, 54, 49, 53, 45, 55], .int 70, .str [48, 48, 48, 52, 50, 50], .bl true])) := by rw [← hρ]; rfl
  have hA : (eCallF f_number_of_card (lCons (eC (.str [48, 48, 48, 52, 50, 50])) lNil)) ρ ⟨[]⟩ = .ok (.int 42) ⟨[]⟩ := by subst hρ; kernel_rfl
  have hB : (eCut (eCallF f_mended_by_one (lCons (eC (.str [55, 57, 57, 50, 55, 51, 57, 56, 55, 49, 48])) lNil)) none (some (eC (.int 3)))) ρ ⟨[]⟩ = .ok (.tup [.str [48, 57, 57, 50, 55, 51, 57, 56, 55, 49, 48], .str [55, 49, 57, 50, 55, 51, 57, 56, 55, 49, 48], .str [55, 57, 50, 50, 55, 51, 57, 56, 55, 49, 48]]) ⟨[]⟩ := by
    have m : eCallF f_mended_by_one (lCons (eC (.str [55, 57, 57, 50, 55, 51, 57, 56, 55, 49, 48])) lNil) ρ ⟨[]⟩ = .ok (.tup ([[48, 57, 57, 50, 55, 51, 57, 56, 55, 49, 48], [55, 49, 57, 50, 55, 51, 57, 56, 55, 49, 48], [55, 57, 50, 50, 55, 51, 57, 56, 55, 49, 48], [55, 57, 57, 50, 48, 51, 57, 56, 55, 49, 48], [55, 57, 57, 50, 55, 51, 50, 56, 55, 49, 48], [55, 57, 57, 50, 55, 51, 57, 48, 55, 49, 48], [55, 57, 57, 50, 55, 51, 57, 56, 48, 49, 48], [55, 57, 57, 50, 55, 51, 57, 56, 55, 49, 51], [55, 57, 57, 50, 55, 51, 57, 56, 55, 55, 48], [55, 57, 57, 50, 55, 57, 57, 56, 55, 49, 48], [55, 57, 57, 56, 55, 51, 57, 56, 55, 49, 48]].map .str)) ⟨[]⟩ := by
      rw [eCallF_s, lCons_s, eC_s, Res.bind_ok, lNil_s, Res.bind_ok, Res.bind_ok, m_ok]
    rw [eCut_s, m]
    rfl
  have hC : (eCallF f_missing_figure (lCons (eC (.str [48, 51, 48, 54, 52, 63, 54, 49, 53, 50])) lNil)) ρ ⟨[]⟩ = .ok (.tup [.str [48]]) ⟨[]⟩ := by subst hρ; kernel_rfl
  have hD : (eCallF f_is_number_at_all (lCons (eC (.str [120])) lNil)) ρ ⟨[]⟩ = .ok (.bl false) ⟨[]⟩ := by subst hρ; kernel_rfl
  have hE : (eCallF f_is_number_at_all (lCons (eC (.str [88])) lNil)) ρ ⟨[]⟩ = .ok (.bl true) ⟨[]⟩ := by subst hρ; kernel_rfl
  unfold q3
  rw [sAsg_s, eOp_s, eV_e h1, Res.bind_ok, eLst_s, lCons_s, hA, Res.bind_ok, lCons_s, hB, Res.bind_ok, lCons_s, hC, Res.bind_ok, lCons_s, hD, Res.bind_ok, lCons_s, hE]
  subst hρ
  rfl
theorem q4_ok : (sSeq q4 qr) [some (.tup [.tup [.str [48], .tup [.tup [.str [48, 48], .str [49, 57]], .tup [.str [50, 48, 48], .str [54, 57, 57]]]]]), some (.lst [.str [57, 55, 56, 48, 51, 48, 54, 52, 48, 54, 49, 53, 55], .str [48, 51, 48, 54, 52, 48, 54, 49, 53, 50], .bl true, .str [88], .str [55], .str [57, 55, 56, 45, 48, 45, 51, 48, 54, 45, 52, 48, 54, 49, 53, 45, 55], .int 70, .str [48, 48, 48, 52, 50, 50], .bl true, .int 42, .tup [.str [48, 57, 57, 50, 55, 51, 57, 56, 55, 49, 48], .str [55, 49, 57, 50, 55, 51, 57, 56, 55, 49, 48], .str [55, 57, 50, 50, 55, 51, 57, 56, 55, 49, 48]], .tup [.str [48]], .bl false, .bl true]), none, none, none, none] ⟨[]⟩ = .rt (.bl true) ⟨[]⟩ := by kernel_rfl
theorem b_plain_eq : b_law_plain = sSeq q0 (sSeq q1 (sSeq q2 (sSeq q3 (sSeq q4 qr)))) := rfl
theorem plain_ok (ρ : Env) (s : Stt) : eCallF f_law_plain lNil ρ s = .ok (.bl true) s := by
  have q : f_law_plain [] ⟨[]⟩ = .ok (.bl true) ⟨[]⟩ := by
    have run : ∀ s, f_law_plain [] s = (b_law_plain [none, none, none, none, none, none] s).fn := fun s => mkFn_e 6 0 b_law_plain _ _ rfl
    rw [run, b_plain_eq]
    have bq : ∀ s, sSeq q0 (sSeq q1 (sSeq q2 (sSeq q3 (sSeq q4 qr)))) [none, none, none, none, none, none] s = blk [q0, q1, q2] (sSeq q3 (sSeq q4 qr)) [none, none, none, none, none, none] s := fun s => rfl
    rw [bq]
    rw [blk_nx q012, sSeq_s, q3_ok, SRes.seq_nx, q4_ok]
    rfl
  rw [eCallF_s, lNil_s, Res.bind_ok]
  exact pureF_ok (F := f_law_plain) (ps := []) (v := .bl true) (s2 := ⟨[]⟩) s rfl q rfl
end K01
namespace K01
open Ev
theorem math : ∀ (ns : List Int) (s : Stt) (p : PV), ns.length ≤ 63 → (∀ z ∈ ns, PySem.Builtin.Int.intBits z ≤ 1048576) → s.lst? p = some (ns.map .int) → ∃ s', f_law [p] s = .ok (.bl true) s' := by
  intro ns s p _ _ hp
  obtain ⟨k, s1, e1, dz⟩ := rounds_ok hp
  have run : f_law [p] s = (b_law [some p, none, none, none, none, none, none, none, none, none, none, none, none, none, none, none, none, none, none, none, none, none, none, none, none, none, none, none, none, none] s).fn := mkFn_e 30 1 b_law _ _ rfl
  have eg : sGr [some p, none, none, none, none, none, none, none, none, none, none, none, none, none, none, none, none, none, none, none, none, none, none, none, none, none, none, none, none, none] s = .nx (some p :: some GRP :: none :: none :: none :: none :: none :: none :: none :: none :: none :: N19) s := rfl
  have er : eCall f_law_rounds (lCons (eV 0) (lCons (eC (.int 1)) lNil)) (some p :: some GRP :: none :: none :: none :: none :: none :: none :: none :: none :: none :: N19) s = .ok (.lst [.ref k]) s1 := e1
  obtain ⟨ρ2, s3, q⟩ := body_ok (p := p) dz
  have e : sFor (Ev.gN 2) (iE (eCall f_law_rounds (lCons (eV 0) (lCons (eC (.int 1)) lNil)))) body (some p :: some GRP :: none :: none :: none :: none :: none :: none :: none :: none :: none :: N19) s = .nx ρ2 s3 := by
    rw [sFor_L (l := [.ref k]) (iE_ok' er rfl) (fun _ => rfl), forL_cons (ρ1 := some p :: some GRP :: some (.ref k) :: none :: none :: none :: none :: none :: none :: none :: none :: N19) rfl, q]
    rfl
  refine ⟨s3, ?_⟩
  rw [run, b_law_eq, sSeq_s, eg, SRes.seq_nx, sSeq_s, e, SRes.seq_nx, sSeq_s, sRet_s, plain_ok]
  rfl
end K01
set_option maxHeartbeats 0
/-! the end of law_k01_numbers_that_check; printed by gen.py -/
namespace K01
open Ev PySem PySem.Spec PyProof.Rows L2
def fnL : List He.DefD := [dd "figures_of" s_figures_of, dd "check_of_ten" s_check_of_ten, dd "check_of_thirteen" s_check_of_thirteen, dd "is_book_number" s_is_book_number, dd "plain_number" s_plain_number, dd "old_number" s_old_number, dd "is_same_number" s_is_same_number, dd "parted_number" s_parted_number, dd "sum_of_card" s_sum_of_card, dd "made_card" s_made_card, dd "is_card" s_is_card, dd "number_of_card" s_number_of_card, dd "mended_by_one" s_mended_by_one, dd "is_number_at_all" s_is_number_at_all, dd "missing_figure" s_missing_figure, dd "_law_dice" s_law_dice, dd "_law_roll" s_law_roll, dd "_law_rounds" s_law_rounds, dd "_law_ten" s_law_ten, dd "_law_thirteen" s_law_thirteen, dd "_law_card" s_law_card, dd "_law_figures" s_law_figures, dd "_law_near" s_law_near, dd "_law_plain" s_law_plain, dd "law" s_law, dd "_law_told" s_law_told]
def faL : List He.Fa := [.glo "figures_of", .glo "check_of_ten", .glo "check_of_thirteen", .glo "is_book_number", .glo "plain_number", .glo "old_number", .glo "is_same_number", .glo "parted_number", .glo "sum_of_card", .glo "made_card", .glo "is_card", .glo "number_of_card", .glo "mended_by_one", .glo "is_number_at_all", .glo "missing_figure", .glo "_law_dice", .glo "_law_roll", .glo "_law_rounds", .glo "_law_ten", .glo "_law_thirteen", .glo "_law_card", .glo "_law_figures", .glo "_law_near", .glo "_law_plain", .glo "law", .glo "_law_told", .free "abs", .free "any", .free "dict", .free "enumerate", .free "int", .free "len", .free "list", .free "range", .free "sorted", .free "str", .free "sum", .free "tuple", .glo "CodeError", .exc "CodeError", .exm "LibraryFault" "CodeError" false, .exm "CodeError" "CodeError" true]
def glL : List (PySem.Str × PV) := [("FIGURES", c_FIGURES), ("MOST_FIGURES", c_MOST_FIGURES)]
def tqL : List (PySem.Str × Option PySem.Str) := [("figures_of", none), ("check_of_ten", none), ("check_of_thirteen", none), ("sum_of_card", none), ("mended_by_one", none), ("_law_plain", some "_law_plain.<locals>.<lambda>"), ("law", some "law.<locals>.<lambda>")]
def tsL : List PySem.Str := ["figures_of", "check_of_ten", "check_of_thirteen", "sum_of_card", "mended_by_one", "_law_plain", "law"]
def excL : List PySem.Str := ["LibraryFault", "CodeError"]
def WW (K : PySem.W.Frag) : Wd := { exc := fun n => He.ga K (excL.getD n "LibraryFault"), cls := fun _ => 0, fld := fun _ => PySem.Str.empty, tabs := tabsOf K tqL }
theorem facts {K : PySem.W.Frag} {h base : Heap} {mg : PySem.Str → Option Value} (c : SaysT faL glL fnL tsL h K) (X : K.In h) (G : h.Ns mainGlobals mg) (T : ∀ y ∈ tsL, LamX.TabB base mg (codeA K y) (tabA K y)) : Facts K mg base (WW K) where
  d_figures_of := c.defOk X G 0 0 rfl rfl
  d_check_of_ten := c.defOk X G 1 1 rfl rfl
  d_check_of_thirteen := c.defOk X G 2 2 rfl rfl
  d_is_book_number := c.defOk X G 3 3 rfl rfl
  d_plain_number := c.defOk X G 4 4 rfl rfl
  d_old_number := c.defOk X G 5 5 rfl rfl
  d_is_same_number := c.defOk X G 6 6 rfl rfl
  d_parted_number := c.defOk X G 7 7 rfl rfl
  d_sum_of_card := c.defOk X G 8 8 rfl rfl
  d_made_card := c.defOk X G 9 9 rfl rfl
  d_is_card := c.defOk X G 10 10 rfl rfl
  d_number_of_card := c.defOk X G 11 11 rfl rfl
  d_mended_by_one := c.defOk X G 12 12 rfl rfl
  d_is_number_at_all := c.defOk X G 13 13 rfl rfl
  d_missing_figure := c.defOk X G 14 14 rfl rfl
  d_law_dice := c.defOk X G 15 15 rfl rfl
  d_law_roll := c.defOk X G 16 16 rfl rfl
  d_law_rounds := c.defOk X G 17 17 rfl rfl
  d_law_ten := c.defOk X G 18 18 rfl rfl
  d_law_thirteen := c.defOk X G 19 19 rfl rfl
  d_law_card := c.defOk X G 20 20 rfl rfl
  d_law_figures := c.defOk X G 21 21 rfl rfl
  d_law_near := c.defOk X G 22 22 rfl rfl
  d_law_plain := c.defOk X G 23 23 rfl rfl
  d_law := c.defOk X G 24 24 rfl rfl
  n_abs := He.free_ok X G (c.fact 26 rfl)
  n_any := He.free_ok X G (c.fact 27 rfl)
  n_dict := He.free_ok X G (c.fact 28 rfl)
  n_enumerate := He.free_ok X G (c.fact 29 rfl)
  n_int := He.free_ok X G (c.fact 30 rfl)
  n_len := He.free_ok X G (c.fact 31 rfl)
  n_list := He.free_ok X G (c.fact 32 rfl)
  n_range := He.free_ok X G (c.fact 33 rfl)
  n_sorted := He.free_ok X G (c.fact 34 rfl)
  n_str := He.free_ok X G (c.fact 35 rfl)
  n_sum := He.free_ok X G (c.fact 36 rfl)
  n_tuple := He.free_ok X G (c.fact 37 rfl)
  g_FIGURES := c.glo X G 0 rfl
  g_MOST_FIGURES := c.glo X G 1 rfl
  x_CodeError := c.exc X G 39 38 rfl rfl rfl
  exm_CodeError := fun k => match k with | 0 => c.exm 40 rfl | 1 => c.exm 41 rfl | _ + 2 => c.exm 40 rfl
  t_figures_of := c.okG rfl rfl T (by decide +kernel)
  t_check_of_ten := c.okG rfl rfl T (by decide +kernel)
  t_check_of_thirteen := c.okG rfl rfl T (by decide +kernel)
  t_sum_of_card := c.okG rfl rfl T (by decide +kernel)
  t_mended_by_one := c.okG rfl rfl T (by decide +kernel)
  t_law_plain := c.okL rfl rfl T (by decide +kernel)
  t_law := c.okL rfl rfl T (by decide +kernel)
  told := told_of (c.defOk X G 25 25 rfl rfl) B_law_told sc_law_told (vis_of rfl) rfl rfl S38 rfl rfl (He.glo_ok X G (c.fact 38 rfl)) rfl (fun d hd => by
    simp only [told_cs, List.mem_cons, List.not_mem_nil, or_false] at hd
    rcases hd with rfl
    · exact c.exm 41 rfl)
def loose0 : List PySem.Str := ["LibraryFault", "CodeError", "FIGURES", "MOST_FIGURES", "figures_of", "check_of_ten", "check_of_thirteen", "is_book_number", "plain_number", "old_number", "is_same_number", "parted_number", "sum_of_card", "made_card", "is_card", "number_of_card", "mended_by_one", "missing_figure", "is_number_at_all", "_law_dice", "_law_roll", "_law_rounds", "_law_told", "_law_ten", "_law_thirteen", "_law_card", "_law_figures", "_law_near", "_law_plain"]
def looseL : List PySem.Str := loose0
abbrev R : PySem.W.OpenRow := PySem.W.OpenLaw.row PySem.Challenge.rw_librarystack_k01_numbers_that_check
abbrev hk : PySem.W.Hook := hookT 4 faL glL fnL tsL
def ob (s : PySem.W.SharedT) : AlT := obsT faL glL fnL tsL (HandSHeadRun.getT s) (frT (HandSHeadRun.getT s) 4 tsL)
theorem ob_eq (s : PySem.W.SharedT) : ob s = hk.obs s.abs := obsT_eq (HandSHeadRun.getT_eq s)
theorem run (w : World) : HandSHeadRun.RunEq R (PySem.W.view R.prog [32]) hk ob 4000 looseL w := by
  intro os
  kernel_rfl
theorem lawcall {K : PySem.W.Frag} {h : Heap} {mg : PySem.Str → Option Value} {a : Addr} {w : World} (c : SaysT faL glL fnL tsL h K) (G : h.Ns mainGlobals mg) (hm : mg "law" = some (.ref a)) :
    ∃ fd : FuncData, (∀ (s : Shared) (u : Value), BindsTo s fd ⟨[u], []⟩ [("script", u)]) ∧ ∀ base : Heap, K.In base → base.Ns mainGlobals mg → (∀ y ∈ tsL, LamX.TabB base mg (codeA K y) (tabA K y)) → FnE PP w K mg base (WW K) 23 a fd ["script"] f_law := by
  have D : DefOk K mg "law" s_law := c.defOk c.kin G 24 24 rfl rfl
  have e := hm.symm.trans D.mg
  cases e
  exact ⟨_, fun s u => FunD.bindsA (ps := ["script"]) D.fun_ (fun _ _ _ _ _ _ us hl => match us, hl with | [_], _ => rfl) s [u] rfl, fun base kb nb tb => ok_law (facts c c.kin G tb)⟩
end K01
open PySem PySem.W PySem.Calls PyProof.Rows
theorem PySem.Challenge.cw_librarystack_k01_numbers_that_check_holds : PySem.Challenge.rw_librarystack_k01_numbers_that_check.Holds := by
  w_on; o_law
  refine HandSHeadRun.head_any (r := OpenLaw.row PySem.Challenge.rw_librarystack_k01_numbers_that_check) (q := view (OpenLaw.row PySem.Challenge.rw_librarystack_k01_numbers_that_check).prog [32]) (H := K01.hk) (ob := K01.ob) (M := 4000) (loose := K01.looseL) (d := HandSHeadRun.topDef (OpenLaw.row PySem.Challenge.rw_librarystack_k01_numbers_that_check).prog 32) (kwd := []) K01.ob_eq
    (by kernel_rfl) (fun s => by kernel_rfl) K01.run (by kernel_rfl) (by kernel_rfl) (by kernel_rfl) (by rfl) (by first | assumption | decide +kernel) (by decide +kernel) ⟨rfl, rfl, rfl, rfl, rfl, by decide +kernel⟩ ?hw ?hc
  case hw => w_witness2
  case hc =>
    exact Ev.walk_endT (x := "script") (tq := K01.tqL) (WW := K01.WW) (F := K01.f_law) (k := 23) (n := 63) rfl (by decide) (by kernel_rfl) ⟨rfl, by decide, by decide⟩ rfl (fun _ => rfl)
      (fun w K mg a h c G hm => K01.lawcall c G (by
        have e : (HandSHeadRun.topDef (OpenLaw.row PySem.Challenge.rw_librarystack_k01_numbers_that_check).prog 32).name = ("law" : PySem.Str) := by kernel_rfl
        rw [← e]
        exact hm)) K01.math
