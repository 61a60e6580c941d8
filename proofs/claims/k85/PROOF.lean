import PyProof.Rows.All
import Wide.All
import OpenK.AllK
import Wide.FinOn
import HandS.ForMost
import HandS.Flow
import HandS.IsInst
import HandS.Wide
import HandS.Deep
import HandS.Zip
import HandS.TupAny
import PyProof.ReprRoads
import HandS.Evl
import HandS.RaiseMore
import KE.KTupSum
import KE.GoesNew
import PySem.Challenge.RW_seatsdue_k85_whole_drawn_and_made
section
set_option autoImplicit false
set_option Elab.async false
set_option linter.all false
set_option maxRecDepth 100000
/-! MA: the small language: data, syntax, evaluator. -/
namespace Mini
open PySem L2

abbrev D := PyData

/-- what a slot holds: data, or a box (an object under construction) by its number -/
inductive W where
  | d (x : D) | bx (n : Nat)
/-- a fresh object -/
inductive FO where
  | lst (ds : List D)
/-- what stands in a box: such an object, or a list that is only read -/
inductive SO where
  | fo (o : FO) | fz (ds : List D)
/-- what an expression gives: a slot's thing, or a fresh object -/
inductive R where
  | w (x : W) | fr (o : FO)
abbrev Rho := List (Option W)
abbrev Store := List (Option SO)

inductive B1 where
  | len | abs | int | sum | all | tuple | list | repr | bool
  deriving DecidableEq
inductive B2 where
  | max | min
  deriving DecidableEq

inductive Tn where
  | int | bool | str | tuple | list | dict
  deriving DecidableEq
def Tn.nm : Tn → String
  | .int => "int" | .bool => "bool" | .str => "str" | .tuple => "tuple" | .list => "list" | .dict => "dict"

inductive Tg where
  | nm (i : Nat) | tp (is : List Nat)

mutual
inductive E where
  | var (i : Nat) | cst (d : D) | glb (g : Nat)
  | bin (op : Operator) (a b : E) | neg (a : E) | not (a : E)
  | cmp (op : CmpOp) (a b : E) | chain (op op' : CmpOp) (a b c : E)
  | and (a b : E) | or (a b : E) | ife (t a b : E)
  | call (f : Nat) (as : Es) | b1 (n : B1) (a : E) | b2 (n : B2) (a b : E) | isi (a : E) (n : Tn)
  | ix (a i : E) | sl (a : E) (lo hi : Eo)
  | tup (as : Es) | lst (as : Es)
  | lc (own : List Nat) (tg : Tg) (it : Src) (cs : Eo) (elt : E)
inductive Es where
  | nil | cons (e : E) (es : Es)
inductive Eo where
  | no | so (e : E)
inductive Src where
  | sq (e : E) | r1 (a : E) | r2 (a b : E) | r3 (a b c : E) | zip (a b : E) | enu (a : E)
end

mutual
inductive S where
  | asg (t : Tg) (e : E) | par (i j : Nat) (fa fb : Bool) (a b : E)
  | bxa (i : Nat) (e : E) | app (i : Nat) (e : E) | set (i : Nat) (ix e : E) | aug (i : Nat) (op : Operator) (e : E)
  | ret (e : E) | retN | ife (t : E) (a b : Ss) | for_ (t : Tg) (it : Src) (b : Ss) | while_ (t : E) (b : Ss)
  | pass | brk | cont | raise | expr (e : E)
inductive Ss where
  | nil | cons (s : S) (ss : Ss) | frz (i : Nat) (ss : Ss)
end

structure Ge where
  fn : Nat → List W → Store → Option (R × Store)
  gl : Nat → Option D

/-! ### values -/
def FO.data : FO → D
  | .lst ds => .list ds
def SO.data : SO → D
  | .fo o => o.data
  | .fz ds => .list ds
def R.norm : R → W
  | .w x => x
  | .fr o => .d o.data
/-- what may be read -/
def peek (μ : Store) : W → Option D
  | .d x => some x
  | .bx n => match μ[n]? with
    | some (some o) => some o.data
    | _ => none

def sz (n : Nat) : Bool := decide (n ≤ 100000)
def strEq : D → D → Option Bool
  | .str x, .str y => some (x == y)
  | _, _ => none
def eqD (d e : D) : Option Bool := if SeqAt.shaped d && SeqAt.shaped e then some (PyData.eqv d e) else strEq d e
def truth : D → Option Bool
  | .none => some false
  | .bool b => some b
  | .int i => some (i != 0)
  | .str x => if sz x.length then some ((x.length : Int) != 0) else none
  | .list ds => some (!ds.isEmpty)
  | .tuple ds => some (!ds.isEmpty)
  | .dict _ => none

def rd (d : D) : R := .w (.d d)
def binV (op : Operator) (x y : D) : Option R :=
  match op, x, y with
  | .Add, .int i, .int j => some (rd (.int (i + j)))
  | .Sub, .int i, .int j => some (rd (.int (i - j)))
  | .Mult, .int i, .int j => if i.natAbs.log2 + j.natAbs.log2 < 1000000 then some (rd (.int (i * j))) else none
  | .FloorDiv, .int i, .int j => if 0 < j ∧ j.natAbs.log2 < 9000 then some (rd (.int (i / j))) else if j ≠ 0 ∧ j.natAbs < 1073741824 then some (rd (.int (i.fdiv j))) else none
  | .Mod, .int i, .int j => if j ≠ 0 then some (rd (.int (i.fmod j))) else none
  | .Pow, .int i, .int j => if 0 ≤ j ∧ j ≤ 1000000 ∧ i.natAbs < 2 ^ 64 then some (rd (.int (i ^ j.toNat))) else none
  | .Add, .str a, .str b => if sz a.length && sz b.length then some (rd (.str (a ++ b))) else none
  | .Add, .list a, .list b => if sz a.length && sz b.length then some (.fr (.lst (a ++ b))) else none
  | .Add, .tuple a, .tuple b => if sz a.length && sz b.length then some (rd (.tuple (a ++ b))) else none
  | .Mult, .list a, .int k => if sz a.length && decide (0 ≤ k) && sz (a.length * k.toNat) && decide (k < 1000000) then some (.fr (.lst (List.replicate k.toNat a).flatten)) else none
  | _, _, _ => none

def cmpV (op : CmpOp) (x y : D) : Option Bool :=
  match op with
  | .Eq => eqD x y
  | .NotEq => (eqD x y).map (!·)
  | .Lt => match x, y with | .int i, .int j => some (decide (i < j)) | _, _ => none
  | .LtE => match x, y with | .int i, .int j => some (decide (i ≤ j)) | _, _ => none
  | .Gt => match x, y with | .int i, .int j => some (decide (j < i)) | _, _ => none
  | .GtE => match x, y with | .int i, .int j => some (decide (j ≤ i)) | _, _ => none
  | .Is => match y with | .none => some (match x with | .none => true | _ => false) | _ => none
  | .IsNot => match y with | .none => some (match x with | .none => false | _ => true) | _ => none
  | .In => match y with
    | .list ds => if SeqAt.shaped x && SeqAt.shaped y then some (ds.any fun z => PyData.eqv z x) else none
    | _ => none
  | .NotIn => match y with
    | .list ds => if SeqAt.shaped x && SeqAt.shaped y then some (!ds.any fun z => PyData.eqv z x) else none
    | _ => none

def intsOf : List D → Option (List Int)
  | [] => some []
  | .int i :: r => (intsOf r).map (i :: ·)
  | _ :: _ => none
def boolsOf : List D → Option (List Bool)
  | [] => some []
  | .bool i :: r => (boolsOf r).map (i :: ·)
  | _ :: _ => none

def b1V (n : B1) (x : D) : Option R :=
  match n, x with
  | .len, .str z => if sz z.length then some (rd (.int z.length)) else none
  | .len, .list ds => some (rd (.int ds.length))
  | .len, .tuple ds => some (rd (.int ds.length))
  | .abs, .int i => some (rd (.int (if i < 0 then -i else i)))
  | .int, .int i => some (rd (.int i))
  | .int, .bool b => some (rd (.int (if b then 1 else 0)))
  | .sum, .list ds => (intsOf ds).map fun ns => rd (.int ns.sum)
  | .sum, .tuple ds => (intsOf ds).map fun ns => rd (.int ns.sum)
  | .all, .list ds => (boolsOf ds).map fun bs => rd (.bool (bs.all id))
  | .tuple, .list ds => some (rd (.tuple ds))
  | .tuple, .tuple ds => some (rd (.tuple ds))
  | .list, .list ds => some (.fr (.lst ds))
  | .list, .tuple ds => some (.fr (.lst ds))
  | .repr, .int i => if i.natAbs.log2 < 1920 then some (rd (.str (toString i))) else none
  | .repr, .list ds => if SeqAt.shaped (.list ds) && PyData.showable (.list ds) && sz (PyData.shown (.list ds)).length then some (rd (.str (PyData.shown (.list ds)))) else none
  | .repr, .tuple ds => if SeqAt.shaped (.tuple ds) && PyData.showable (.tuple ds) && sz (PyData.shown (.tuple ds)).length then some (rd (.str (PyData.shown (.tuple ds)))) else none
  | _, _ => none
def b2V (n : B2) (x y : D) : Option R :=
  match n, x, y with
  | .max, .int i, .int j => some (rd (.int (if j > i then j else i)))
  | .min, .int i, .int j => some (rd (.int (if j < i then j else i)))
  | _, _, _ => none
def tyName : D → String
  | .none => "NoneType"
  | .bool _ => "bool"
  | .int _ => "int"
  | .str _ => "str"
  | .list _ => "list"
  | .tuple _ => "tuple"
  | .dict _ => "dict"
def isIntD : D → Bool
  | .int _ => true | .bool _ => true | .none => false | .str _ => false | .list _ => false | .tuple _ => false | .dict _ => false
def isBoolD : D → Bool
  | .int _ => false | .bool _ => true | .none => false | .str _ => false | .list _ => false | .tuple _ => false | .dict _ => false
def isStrD : D → Bool
  | .int _ => false | .bool _ => false | .none => false | .str _ => true | .list _ => false | .tuple _ => false | .dict _ => false
def isTupD : D → Bool
  | .int _ => false | .bool _ => false | .none => false | .str _ => false | .list _ => false | .tuple _ => true | .dict _ => false
def isLstD : D → Bool
  | .int _ => false | .bool _ => false | .none => false | .str _ => false | .list _ => true | .tuple _ => false | .dict _ => false
def isDicD : D → Bool
  | .int _ => false | .bool _ => false | .none => false | .str _ => false | .list _ => false | .tuple _ => false | .dict _ => true
def isiV (x : D) : Tn → Bool
  | .int => isIntD x | .bool => isBoolD x | .str => isStrD x | .tuple => isTupD x | .list => isLstD x | .dict => isDicD x
def seqOf : D → Option (List D)
  | .list ds => some ds
  | .tuple ds => some ds
  | _ => none
def atD (ds : List D) (i : Int) : Option D := (ixN ds.length i).bind fun j => ds[j]?
def ixV (x i : D) : Option D :=
  match x, i with
  | .list ds, .int k => atD ds k
  | .tuple ds, .int k => atD ds k
  | _, _ => none
def cutD (ds : List D) (lo hi : Option Int) : List D := (ds.drop (HT.sIx ds.length 0 lo)).take (HT.sIx ds.length ds.length hi - HT.sIx ds.length 0 lo)
def slV (x : D) (lo hi : Option Int) : Option R :=
  match x with
  | .list ds => some (.fr (.lst (cutD ds lo hi)))
  | .tuple ds => some (rd (.tuple (cutD ds lo hi)))
  | _ => none
def optInt : Option D → Option (Option Int)
  | none => some none
  | some (.int i) => some (some i)
  | some _ => none
def big : Int := 4611686018427387904
def rangeD (lo hi : Int) : List D := (List.range (hi - lo).toNat).map fun (i : Nat) => .int (lo + (i : Int))

/-! ### the evaluator -/
def wipeE (ρ : Rho) : List Nat → Rho
  | [] => ρ
  | v :: vs => (wipeE ρ vs).set v none
def setAll (ρ : Rho) : List Nat → List D → Option Rho
  | [], [] => some ρ
  | i :: is, d :: ds => setAll (ρ.set i (some (.d d))) is ds
  | _, _ => none
def bind (t : Tg) (d : D) (ρ : Rho) : Option Rho :=
  match t with
  | .nm i => some (ρ.set i (some (.d d)))
  | .tp is => match d with
    | .tuple ds => setAll ρ is ds
    | _ => none
def lcLoop (own : List Nat) (t : Tg) (c : Rho → Store → Option (Bool × Store)) (e : Rho → Store → Option (D × Store)) (ρ : Rho) : List D → Store → Option (List D × Store)
  | [], μ => some ([], μ)
  | x :: xs, μ => do
    let ρ1 ← bind t x (wipeE ρ own)
    let (b, μ1) ← c ρ1 μ
    if b then do
      let (y, μ2) ← e ρ1 μ1
      let (ys, μ3) ← lcLoop own t c e ρ xs μ2
      pure (y :: ys, μ3)
    else lcLoop own t c e ρ xs μ1
def W.toD : W → Option D
  | .d x => some x
  | .bx _ => none

/-- as a slot's thing -/
def nW (o : Option (R × Store)) : Option (W × Store) := o.map fun (r, μ1) => (r.norm, μ1)
/-- as a test -/
def nB (o : Option (R × Store)) : Option (Bool × Store) := do
    let (wa, μ1) ← nW o
    let x ← peek μ1 wa
    let t ← truth x
    pure (t, μ1)
mutual
def evE (g : Ge) : E → Rho → Store → Option (R × Store)
  | .var i, ρ, μ => match ρ[i]? with
    | some (some w) => some (.w w, μ)
    | _ => none
  | .cst d, _, μ => some (rd d, μ)
  | .glb k, _, μ => (g.gl k).map fun d => (rd d, μ)
  | .bin op a b, ρ, μ => do
    let (wa, μ1) ← nW (evE g a ρ μ)
    let (wb, μ2) ← nW (evE g b ρ μ1)
    let x ← wa.toD
    let y ← wb.toD
    let r ← binV op x y
    pure (r, μ2)
  | .neg a, ρ, μ => do
    let (wa, μ1) ← nW (evE g a ρ μ)
    match wa with
    | .d (.int i) => pure (rd (.int (-i)), μ1)
    | _ => none
  | .not a, ρ, μ => do
    let (b, μ1) ← nB (evE g a ρ μ)
    pure (rd (.bool (!b)), μ1)
  | .cmp op a b, ρ, μ => do
    let (wa, μ1) ← nW (evE g a ρ μ)
    let (wb, μ2) ← nW (evE g b ρ μ1)
    let x ← peek μ2 wa
    let y ← peek μ2 wb
    let r ← cmpV op x y
    pure (rd (.bool r), μ2)
  | .chain op op' a b c, ρ, μ => do
    let (wa, μ1) ← nW (evE g a ρ μ)
    let (wb, μ2) ← nW (evE g b ρ μ1)
    let x ← peek μ2 wa
    let y ← peek μ2 wb
    let r ← cmpV op x y
    if r then do
      let (wc, μ3) ← nW (evE g c ρ μ2)
      let y' ← peek μ3 wb
      let z ← peek μ3 wc
      let r' ← cmpV op' y' z
      pure (rd (.bool r'), μ3)
    else pure (rd (.bool false), μ2)
  | .and a b, ρ, μ => do
    let (wa, μ1) ← nW (evE g a ρ μ)
    let x ← peek μ1 wa
    let t ← truth x
    if t then evE g b ρ μ1 else pure (.w wa, μ1)
  | .or a b, ρ, μ => do
    let (wa, μ1) ← nW (evE g a ρ μ)
    let x ← peek μ1 wa
    let t ← truth x
    if t then pure (.w wa, μ1) else evE g b ρ μ1
  | .ife t a b, ρ, μ => do
    let (k, μ1) ← nB (evE g t ρ μ)
    if k then evE g a ρ μ1 else evE g b ρ μ1
  | .call f as, ρ, μ => do
    let (ws, μ1) ← evEs g as ρ μ
    g.fn f ws μ1
  | .b1 n a, ρ, μ => do
    let (wa, μ1) ← nW (evE g a ρ μ)
    let x ← peek μ1 wa
    let r ← b1V n x
    pure (r, μ1)
  | .b2 n a b, ρ, μ => do
    let (wa, μ1) ← nW (evE g a ρ μ)
    let (wb, μ2) ← nW (evE g b ρ μ1)
    let x ← wa.toD
    let y ← wb.toD
    let r ← b2V n x y
    pure (r, μ2)
  | .isi a n, ρ, μ => do
    let (wa, μ1) ← nW (evE g a ρ μ)
    let x ← wa.toD
    pure (rd (.bool (isiV x n)), μ1)
  | .ix a i, ρ, μ => do
    let (wa, μ1) ← nW (evE g a ρ μ)
    let (wi, μ2) ← nW (evE g i ρ μ1)
    let x ← peek μ2 wa
    let y ← wi.toD
    let r ← ixV x y
    pure (rd r, μ2)
  | .sl a lo hi, ρ, μ => do
    let (wa, μ1) ← nW (evE g a ρ μ)
    let (l, μ2) ← evEo g lo ρ μ1
    let (h, μ3) ← evEo g hi ρ μ2
    let x ← peek μ3 wa
    let l ← optInt l
    let h ← optInt h
    let r ← slV x l h
    pure (r, μ3)
  | .tup as, ρ, μ => do
    let (ws, μ1) ← evEs g as ρ μ
    let ds ← ws.mapM W.toD
    if sz ds.length then pure (rd (.tuple ds), μ1) else none
  | .lst as, ρ, μ => do
    let (ws, μ1) ← evEs g as ρ μ
    let ds ← ws.mapM W.toD
    if sz ds.length then pure (.fr (.lst ds), μ1) else none
  | .lc own t it c e, ρ, μ => do
    let (xs, μ1) ← evIt g it ρ μ
    if sz xs.length then do
      let (ys, μ2) ← lcLoop own t (fun ρ μ => evC g c ρ μ) (fun ρ μ => do
        let (w, μ1) ← nW (evE g e ρ μ)
        let d ← w.toD
        pure (d, μ1)) ρ xs μ1
      pure (.fr (.lst ys), μ2)
    else none
def evEs (g : Ge) : Es → Rho → Store → Option (List W × Store)
  | .nil, _, μ => some ([], μ)
  | .cons e es, ρ, μ => do
    let (w, μ1) ← nW (evE g e ρ μ)
    let (ws, μ2) ← evEs g es ρ μ1
    pure (w :: ws, μ2)
def evEo (g : Ge) : Eo → Rho → Store → Option (Option D × Store)
  | .no, _, μ => some (none, μ)
  | .so e, ρ, μ => do
    let (w, μ1) ← nW (evE g e ρ μ)
    let d ← w.toD
    pure (some d, μ1)
def evC (g : Ge) : Eo → Rho → Store → Option (Bool × Store)
  | .no, _, μ => some (true, μ)
  | .so e, ρ, μ => nB (evE g e ρ μ)
def evIt (g : Ge) : Src → Rho → Store → Option (List D × Store)
  | .sq e, ρ, μ => do
    let (w, μ1) ← nW (evE g e ρ μ)
    let d ← w.toD
    let ds ← seqOf d
    pure (ds, μ1)
  | .r1 a, ρ, μ => do
    let (w, μ1) ← nW (evE g a ρ μ)
    match w with
    | .d (.int j) => if -big ≤ j ∧ j < big then pure (rangeD 0 j, μ1) else none
    | _ => none
  | .r2 a b, ρ, μ => do
    let (w, μ1) ← nW (evE g a ρ μ)
    let (w', μ2) ← nW (evE g b ρ μ1)
    match w, w' with
    | .d (.int i), .d (.int j) => if -big ≤ i ∧ i < big ∧ -big ≤ j ∧ j < big then pure (rangeD i j, μ2) else none
    | _, _ => none
  | .r3 _ _ _, _, _ => none
  | .zip a b, ρ, μ => do
    let (w, μ1) ← nW (evE g a ρ μ)
    let (w', μ2) ← nW (evE g b ρ μ1)
    let d ← w.toD
    let d' ← w'.toD
    let xs ← seqOf d
    let ys ← seqOf d'
    pure (List.zipWith (fun x y => .tuple [x, y]) xs ys, μ2)
  | .enu a, ρ, μ => do
    let (w, μ1) ← nW (evE g a ρ μ)
    let d ← w.toD
    match d with
    | .list xs => pure (xs.mapIdx fun i x => .tuple [.int i, x], μ1)
    | _ => none
end
end Mini
namespace Mini
end Mini
namespace Mini
open PySem L2
inductive Fl where
  | nx (ρ : Rho) (μ : Store) | rt (r : R) (μ : Store) | bk (ρ : Rho) (μ : Store) | ct (ρ : Rho) (μ : Store)
def forLoop (t : Tg) (b : Rho → Store → Option Fl) : List D → Rho → Store → Option Fl
  | [], ρ, μ => some (.nx ρ μ)
  | x :: xs, ρ, μ => do
    let ρ1 ← bind t x ρ
    match ← b ρ1 μ with
    | .nx ρ2 μ2 => forLoop t b xs ρ2 μ2
    | .ct ρ2 μ2 => forLoop t b xs ρ2 μ2
    | .bk ρ2 μ2 => some (.nx ρ2 μ2)
    | .rt r μ2 => some (.rt r μ2)
def whileLoop (t : Rho → Store → Option (Bool × Store)) (b : Rho → Store → Option Fl) : Nat → Rho → Store → Option Fl
  | 0, _, _ => none
  | n + 1, ρ, μ => do
    let (k, μ1) ← t ρ μ
    if k then
      match ← b ρ μ1 with
      | .nx ρ2 μ2 => whileLoop t b n ρ2 μ2
      | .ct ρ2 μ2 => whileLoop t b n ρ2 μ2
      | .bk ρ2 μ2 => some (.nx ρ2 μ2)
      | .rt r μ2 => some (.rt r μ2)
    else some (.nx ρ μ1)
/-- a fresh object put into a box, where a slot wants one -/
def mkW (f : Bool) : R × Store → Option (W × Store)
  | (r, μ) => match f, r with
    | false, r => some (r.norm, μ)
    | true, .fr o => some (.bx μ.length, μ ++ [some (.fo o)])
    | true, .w _ => none
def wfuel : Nat := 1000000
def boxAt (ρ : Rho) (i : Nat) : Option Nat := match ρ[i]? with
  | some (some (.bx n)) => some n
  | _ => none
def lstAt (μ : Store) (n : Nat) : Option (List D) := match μ[n]? with
  | some (some (.fo (.lst ds))) => some ds
  | _ => none
mutual
def evS (g : Ge) : S → Rho → Store → Option Fl
  | .asg t e, ρ, μ => do
    let (w, μ1) ← nW (evE g e ρ μ)
    match t with
    | .nm i => pure (.nx (ρ.set i (some w)) μ1)
    | .tp is => do
      let d ← w.toD
      let ρ1 ← bind (.tp is) d ρ
      pure (.nx ρ1 μ1)
  | .par i j fa fb a b, ρ, μ => do
    let ra ← evE g a ρ μ
    let (wa, μ1) ← mkW fa ra
    let rb ← evE g b ρ μ1
    let (wb, μ2) ← mkW fb rb
    pure (.nx ((ρ.set i (some wa)).set j (some wb)) μ2)
  | .bxa i e, ρ, μ => do
    let r ← evE g e ρ μ
    let (w, μ1) ← mkW true r
    pure (.nx (ρ.set i (some w)) μ1)
  | .app i e, ρ, μ => do
    let n ← boxAt ρ i
    let _ ← lstAt μ n
    let (w, μ1) ← nW (evE g e ρ μ)
    let d ← w.toD
    let ds ← lstAt μ1 n
    if sz ds.length then pure (.nx ρ (μ1.set n (some (.fo (.lst (ds ++ [d])))))) else none
  | .set i ix e, ρ, μ => do
    let n ← boxAt ρ i
    let (w, μ1) ← nW (evE g e ρ μ)
    let d ← w.toD
    let (wi, μ2) ← nW (evE g ix ρ μ1)
    match wi with
    | .d (.int k) => do
      let ds ← lstAt μ2 n
      let j ← ixN ds.length k
      pure (.nx ρ (μ2.set n (some (.fo (.lst (ds.set j d))))))
    | _ => none
  | .aug i op e, ρ, μ => do
    match ρ[i]? with
    | some (some (.d (.int a))) => do
      let (w, μ1) ← nW (evE g e ρ μ)
      match w, op with
      | .d (.int b), .Add => pure (.nx (ρ.set i (some (.d (.int (a + b))))) μ1)
      | .d (.int b), .Sub => pure (.nx (ρ.set i (some (.d (.int (a - b))))) μ1)
      | _, _ => none
    | _ => none
  | .ret e, ρ, μ => do
    let (r, μ1) ← evE g e ρ μ
    match r with
    | .w (.bx n) => match μ1[n]? with
      | some (some (.fo o)) => pure (.rt (.fr o) (μ1.set n none))
      | _ => none
    | r => pure (.rt r μ1)
  | .retN, _, μ => some (.rt (rd .none) μ)
  | .ife t a b, ρ, μ => do
    let (k, μ1) ← nB (evE g t ρ μ)
    if k then evSs g a ρ μ1 else evSs g b ρ μ1
  | .for_ t it b, ρ, μ => do
    let (xs, μ1) ← evIt g it ρ μ
    forLoop t (evSs g b) xs ρ μ1
  | .while_ t b, ρ, μ => whileLoop (fun ρ μ => nB (evE g t ρ μ)) (evSs g b) wfuel ρ μ
  | .pass, ρ, μ => some (.nx ρ μ)
  | .brk, ρ, μ => some (.bk ρ μ)
  | .cont, ρ, μ => some (.ct ρ μ)
  | .raise, _, _ => none
  | .expr e, ρ, μ => do
    let (_, μ1) ← nW (evE g e ρ μ)
    pure (.nx ρ μ1)
def evSs (g : Ge) : Ss → Rho → Store → Option Fl
  | .nil, ρ, μ => some (.nx ρ μ)
  | .cons s ss, ρ, μ => do
    match ← evS g s ρ μ with
    | .nx ρ1 μ1 => evSs g ss ρ1 μ1
    | f => pure f
  | .frz i ss, ρ, μ => do
    let n ← boxAt ρ i
    match μ[n]? with
    | some (some (.fo o)) => evSs g ss (ρ.set i (some (.d o.data))) (μ.set n none)
    | _ => none
end
/-- a def: its parameters' number, its slots' number, its body -/
structure Df where
  ar : Nat
  sl : Nat
  body : Ss
/-- what a run of a body gives back -/
def endOf (m : Nat) : Fl → Option (R × Store)
  | .rt r μ => match r with
    | .w (.bx _) => none
    | r => some (r, μ.take m)
  | .nx _ μ => some (rd .none, μ.take m)
  | _ => none
def callDf (g : Ge) (d : Df) (ws : List W) (μ : Store) : Option (R × Store) :=
  if ws.length = d.ar then (evSs g d.body (ws.map some ++ List.replicate (d.sl - ws.length) none) μ).bind (endOf μ.length) else none
def geOf (T : List Df) (gl : Nat → Option D) : Nat → Ge
  | 0 => ⟨fun _ _ _ => none, gl⟩
  | n + 1 => ⟨fun f ws μ => match T[f]? with
    | some d => callDf (geOf T gl n) d ws μ
    | none => none, gl⟩
end Mini
end
section
set_option autoImplicit false
set_option Elab.async false
set_option linter.all false
set_option maxRecDepth 100000
/-! MB: values over the abstract heap, what an evaluation's end must meet. -/
namespace Mini
open PySem L2 Evl

mutual
inductive Rep (K : PySem.W.Frag) (H : Hp) : V → D → Prop
  | non : Rep K H .non .none
  | bl (b : Bool) : Rep K H (.bl b) (.bool b)
  | int (i : Int) : Rep K H (.int i) (.int i)
  | str (x : Str) : Rep K H (.str x) (.str x)
  | lst {a : Addr} {xs : List V} {ds : List D} : H a = some (.lst xs) → RepAll K H xs ds → Rep K H (.ref a) (.list ds)
  | tup {a : Addr} {xs : List V} {ds : List D} : SqT K H a xs → RepAll K H xs ds → Rep K H (.ref a) (.tuple ds)
inductive RepAll (K : PySem.W.Frag) (H : Hp) : List V → List D → Prop
  | nil : RepAll K H [] []
  | cons {v : V} {vs : List V} {d : D} {ds : List D} : Rep K H v d → RepAll K H vs ds → RepAll K H (v :: vs) (d :: ds)
end

section
variable {K : PySem.W.Frag} {H H' G G' : Hp}
mutual
theorem Rep.mono (e : Ex H H') : ∀ {v : V} {d : D}, Rep K H v d → Rep K H' v d
  | _, _, .non => .non
  | _, _, .bl b => .bl b
  | _, _, .int i => .int i
  | _, _, .str x => .str x
  | _, _, .lst h r => .lst (e _ _ h) (RepAll.mono e r)
  | _, _, .tup h r => .tup (ex_t e h) (RepAll.mono e r)
theorem RepAll.mono (e : Ex H H') : ∀ {vs : List V} {ds : List D}, RepAll K H vs ds → RepAll K H' vs ds
  | _, _, .nil => .nil
  | _, _, .cons h r => .cons (Rep.mono e h) (RepAll.mono e r)
end
mutual
theorem Rep.dp : ∀ {v : V} {d : D}, Rep K H v d → Dp K H v d
  | _, _, .non => .non
  | _, _, .bl b => .bl b
  | _, _, .int i => .int i
  | _, _, .str x => .str x
  | _, _, .lst h r => .lst (.inl (.inl h)) (RepAll.dp r)
  | _, _, .tup h r => .tup h (RepAll.dp r)
theorem RepAll.dp : ∀ {vs : List V} {ds : List D}, RepAll K H vs ds → DpAll K H vs ds
  | _, _, .nil => .nil
  | _, _, .cons h r => .cons (Rep.dp h) (RepAll.dp r)
end
theorem RepAll.length : ∀ {vs : List V} {ds : List D}, RepAll K H vs ds → vs.length = ds.length
  | _, _, .nil => rfl
  | _, _, .cons _ r => congrArg (· + 1) (RepAll.length r)
theorem RepAll.get : ∀ {vs : List V} {ds : List D} {i : Nat} {d : D}, RepAll K H vs ds → ds[i]? = some d → ∃ v, vs[i]? = some v ∧ Rep K H v d
  | _, _, _, _, .nil, e => by simp at e
  | _, _, 0, _, .cons h _, e => by simp at e; subst e; exact ⟨_, rfl, h⟩
  | _, _, i + 1, _, .cons _ r, e => by
    obtain ⟨v, h1, h2⟩ := RepAll.get (i := i) r (by simpa using e)
    exact ⟨v, by simpa using h1, h2⟩
theorem RepAll.getV : ∀ {vs : List V} {ds : List D} {i : Nat} {v : V}, RepAll K H vs ds → vs[i]? = some v → ∃ d, ds[i]? = some d ∧ Rep K H v d
  | _, _, _, _, .nil, e => by simp at e
  | _, _, 0, _, .cons h _, e => by simp at e; subst e; exact ⟨_, rfl, h⟩
  | _, _, i + 1, _, .cons _ r, e => by
    obtain ⟨v, h1, h2⟩ := RepAll.getV (i := i) r (by simpa using e)
    exact ⟨v, by simpa using h1, h2⟩
theorem RepAll.append : ∀ {vs ws : List V} {ds es : List D}, RepAll K H vs ds → RepAll K H ws es → RepAll K H (vs ++ ws) (ds ++ es)
  | _, _, _, _, .nil, s => s
  | _, _, _, _, .cons h r, s => .cons h (RepAll.append r s)
theorem RepAll.take : ∀ {vs : List V} {ds : List D} (n : Nat), RepAll K H vs ds → RepAll K H (vs.take n) (ds.take n)
  | _, _, 0, _ => .nil
  | _, _, _ + 1, .nil => .nil
  | _, _, n + 1, .cons h r => .cons h (RepAll.take n r)
theorem RepAll.drop : ∀ {vs : List V} {ds : List D} (n : Nat), RepAll K H vs ds → RepAll K H (vs.drop n) (ds.drop n)
  | _, _, 0, r => r
  | _, _, _ + 1, .nil => .nil
  | _, _, n + 1, .cons _ r => RepAll.drop n r
theorem RepAll.set {v : V} {d : D} (h : Rep K H v d) : ∀ {vs : List V} {ds : List D} (n : Nat), RepAll K H vs ds → RepAll K H (vs.set n v) (ds.set n d)
  | _, _, _, .nil => .nil
  | _, _, 0, .cons _ r => .cons h r
  | _, _, n + 1, .cons h' r => .cons h' (RepAll.set h n r)
theorem RepAll.rep {vs : List V} {ds : List D} (r : RepAll K H vs ds) : ∀ n : Nat, RepAll K H (List.replicate n vs).flatten (List.replicate n ds).flatten
  | 0 => .nil
  | n + 1 => by
    rw [List.replicate_succ, List.replicate_succ, List.flatten_cons, List.flatten_cons]
    exact r.append (RepAll.rep r n)

/-- a fresh object at p -/
def FOk (K : PySem.W.Frag) (G H : Hp) (p : Addr) : FO → Prop
  | .lst ds => ∃ xs, H p = some (.lst xs) ∧ RepAll K G xs ds
/-- a list that is only read: the machine knows it, or the text holds it -/
def SqF (K : PySem.W.Frag) (H : Hp) (p : Addr) (xs : List V) : Prop := (∃ ob, H p = some (.frz ob (.lst xs))) ∨
    ∃ (o : Obj) (its : Array Value) (n : Nat), K.lookup p = some o ∧ o.cls = .type "list" ∧ o.dict = none ∧ o.data = .seq its n ∧ its.size ≤ sizeLine ∧ Vals xs its.toList
theorem SqF.ex {p : Addr} {xs : List V} (e : Ex H H') (h : SqF K H p xs) : SqF K H' p xs := by
  rcases h with ⟨ob, h⟩ | h
  · exact .inl ⟨ob, e _ _ h⟩
  · exact .inr h
theorem SqF.upd {p q : Addr} {u u' : HO} {xs : List V} (h : SqF K H p xs) (hq : H q = some u) (hu : ∀ ob v, u ≠ .frz ob v) : SqF K (L2.upd H q u') p xs := by
  rcases h with ⟨ob, h⟩ | h
  · refine .inl ⟨ob, ?_⟩
    have : p ≠ q := fun z => by
      rw [z, hq] at h
      exact hu ob _ (Option.some.inj h)
    rw [upd_ne this]; exact h
  · exact .inr h
theorem SqF.seq {p : Addr} {xs : List V} (h : SqF K H p xs) : SqL K H p xs := by
  rcases h with ⟨ob, h⟩ | h
  · exact .inl (.inr ⟨ob, h⟩)
  · exact .inr h
theorem FOk.mono {p : Addr} {o : FO} (e : Ex G G') (h : FOk K G H p o) : FOk K G' H p o := by
  cases o with
  | lst ds => obtain ⟨xs, h1, h2⟩ := h; exact ⟨xs, h1, h2.mono e⟩
theorem FOk.at {p : Addr} {o : FO} (e : H p = H' p) (h : FOk K G H p o) : FOk K G H' p o := by
  cases o with
  | lst ds => obtain ⟨xs, h1, h2⟩ := h; exact ⟨xs, by rw [← e]; exact h1, h2⟩
theorem FOk.some {p : Addr} {o : FO} (h : FOk K G H p o) : ∃ u, H p = Option.some u := by
  cases o with
  | lst ds => obtain ⟨xs, h1, h2⟩ := h; exact ⟨_, h1⟩
/-- the heap: what is data stands still in G, the boxes stand beside it -/
structure Hpx (K : PySem.W.Frag) (Φ : Hp) (π : List Addr) (μ : Store) (G H : Hp) : Prop where
  ex : Ex G H
  len : μ.length = π.length
  bx : ∀ (n : Nat) (o : FO), μ[n]? = some (some (.fo o)) → ∃ p, π[n]? = some p ∧ G p = none ∧ FOk K G H p o
  fz : ∀ (n : Nat) (ds : List D), μ[n]? = some (some (.fz ds)) → ∃ p xs, π[n]? = some p ∧ SqF K H p xs ∧ RepAll K G xs ds
  ph : Ex Φ H
  pg : ∀ p u, Φ p = some u → G p = none
  pb : ∀ (n : Nat) (o : FO) (p : Addr), μ[n]? = some (some (.fo o)) → π[n]? = some p → Φ p = none
  inj : ∀ (n m : Nat) (o o' : FO) (p : Addr), μ[n]? = some (some (.fo o)) → μ[m]? = some (some (.fo o')) → π[n]? = some p → π[m]? = some p → n = m
def RelW (K : PySem.W.Frag) (π : List Addr) (G : Hp) (v : V) : W → Prop
  | .d x => Rep K G v x
  | .bx n => ∃ p, π[n]? = some p ∧ v = .ref p
theorem RelW.mono {π : List Addr} {v : V} {w : W} (e : Ex G G') (h : RelW K π G v w) : RelW K π G' v w := by
  cases w with
  | d x => exact Rep.mono e h
  | bx n => exact h
theorem RelW.more {π π' : List Addr} {v : V} {w : W} (e : π <+: π') (h : RelW K π G v w) : RelW K π' G v w := by
  cases w with
  | d x => exact h
  | bx n =>
    obtain ⟨p, h1, h2⟩ := h
    obtain ⟨t, rfl⟩ := e
    exact ⟨p, by rw [List.getElem?_append_left (List.getElem?_eq_some_iff.mp h1).1]; exact h1, h2⟩
abbrev RelWs (K : PySem.W.Frag) (π : List Addr) (G : Hp) : List V → List W → Prop := Paired (RelW K π G)
structure SlotOk (K : PySem.W.Frag) (π : List Addr) (G : Hp) (ρ : Rho) (σ : L2.St) : Prop where
  len : ρ.length = σ.length
  at_ : ∀ (i : Nat) (w : W), ρ[i]? = some (some w) → ∃ v, σ[i]? = some (some v) ∧ RelW K π G v w
theorem SlotOk.mono {π : List Addr} {ρ : Rho} {σ : L2.St} (e : Ex G G') (h : SlotOk K π G ρ σ) : SlotOk K π G' ρ σ :=
  ⟨h.len, fun i w q => let ⟨v, h1, h2⟩ := h.at_ i w q; ⟨v, h1, h2.mono e⟩⟩
theorem SlotOk.more {π π' : List Addr} {ρ : Rho} {σ : L2.St} (e : π <+: π') (h : SlotOk K π G ρ σ) : SlotOk K π' G ρ σ :=
  ⟨h.len, fun i w q => let ⟨v, h1, h2⟩ := h.at_ i w q; ⟨v, h1, h2.more e⟩⟩
theorem SlotOk.set {π : List Addr} {ρ : Rho} {σ : L2.St} (h : SlotOk K π G ρ σ) (i : Nat) {v : V} {w : W} (r : RelW K π G v w) : SlotOk K π G (ρ.set i (some w)) (σ.set i (some v)) :=
  ⟨by rw [List.length_set, List.length_set]; exact h.len, fun j w' q => by
    by_cases e : i = j
    · subst e
      have hi : i < ρ.length := by
        have := (List.getElem?_eq_some_iff.mp q).1
        rwa [List.length_set] at this
      rw [List.getElem?_set_self hi] at q
      cases q
      exact ⟨v, List.getElem?_set_self (by rw [← h.len]; exact hi), r⟩
    · rw [List.getElem?_set_ne e] at q
      rw [List.getElem?_set_ne e]
      exact h.at_ j w' q⟩
theorem SlotOk.none {π : List Addr} {ρ : Rho} {σ : L2.St} (h : SlotOk K π G ρ σ) (i : Nat) : SlotOk K π G (ρ.set i Option.none) (σ.set i Option.none) :=
  ⟨by rw [List.length_set, List.length_set]; exact h.len, fun j w' q => by
    by_cases e : i = j
    · subst e
      have hi : i < ρ.length := by
        have := (List.getElem?_eq_some_iff.mp q).1
        rwa [List.length_set] at this
      rw [List.getElem?_set_self hi] at q
      cases q
    · rw [List.getElem?_set_ne e] at q
      rw [List.getElem?_set_ne e]
      exact h.at_ j w' q⟩
theorem SlotOk.wipe {π : List Addr} {ρ : Rho} {σ : L2.St} (h : SlotOk K π G ρ σ) : ∀ is : List Nat, SlotOk K π G (wipeE ρ is) (L2.wipe σ is)
  | [] => h
  | i :: is => (SlotOk.wipe h is).none i

/-- nothing of ours stands at p -/
structure Clear (Φ : Hp) (π : List Addr) (μ : Store) (G : Hp) (p : Addr) : Prop where
  g : G p = none
  b : ∀ (n : Nat) (o : FO), μ[n]? = some (some (.fo o)) → π[n]? ≠ some p
  f : Φ p = none
/-- data laid into G: a fresh thing is data from then on -/
theorem Hpx.lay {Φ : Hp} {π : List Addr} {μ : Store} {p : Addr} {u : HO} (h : Hpx K Φ π μ G H) (hp : Clear Φ π μ G p) (hu : H p = some u) : Hpx K Φ π μ (upd G p u) H where
  ex := fun a o e => by
    by_cases q : a = p
    · subst q; rw [upd_same] at e; cases e; exact hu
    · rw [upd_ne q] at e; exact h.ex a o e
  len := h.len
  bx := fun n o e => by
    obtain ⟨q, h1, h2, h3⟩ := h.bx n o e
    refine ⟨q, h1, ?_, h3.mono (Ex.new hp.g)⟩
    have : q ≠ p := fun z => hp.b n o e (z ▸ h1)
    rw [upd_ne this]; exact h2
  fz := fun n ds e => by
    obtain ⟨q, xs, h1, h2, h3⟩ := h.fz n ds e
    exact ⟨q, xs, h1, h2, h3.mono (Ex.new hp.g)⟩
  ph := h.ph
  pg := fun q v e => by
    have : q ≠ p := fun z => by
      rw [z, hp.f] at e; cases e
    rw [upd_ne this]; exact h.pg q v e
  pb := h.pb
  inj := h.inj
/-- a new object in H alone -/
theorem Hpx.grow {Φ : Hp} {π : List Addr} {μ : Store} (h : Hpx K Φ π μ G H) (e : Ex H H') : Hpx K Φ π μ G H' where
  ex := h.ex.trans e
  len := h.len
  bx := fun n o q => by
    obtain ⟨p, h1, h2, h3⟩ := h.bx n o q
    obtain ⟨u, hu⟩ := h3.some
    exact ⟨p, h1, h2, h3.at (by rw [hu, e p u hu])⟩
  fz := fun n ds q => by
    obtain ⟨p, xs, h1, h2, h3⟩ := h.fz n ds q
    exact ⟨p, xs, h1, h2.ex e, h3⟩
  ph := h.ph.trans e
  pg := h.pg
  pb := h.pb
  inj := h.inj
theorem Hpx.clear {Φ : Hp} {π : List Addr} {μ : Store} {p : Addr} (h : Hpx K Φ π μ G H) (hp : H p = none) : Clear Φ π μ G p where
  g := by
    cases e : G p with
    | none => rfl
    | some u => rw [h.ex p u e] at hp; cases hp
  b := fun n o e z => by
    obtain ⟨q, h1, h2, h3⟩ := h.bx n o e
    rw [z] at h1; cases h1
    obtain ⟨u, hu⟩ := h3.some
    rw [hp] at hu; cases hu
  f := by
    cases e : Φ p with
    | none => rfl
    | some u => rw [h.ph p u e] at hp; cases hp

/-! ### ends -/
def PostW (K : PySem.W.Frag) (Φ : Hp) (π : List Addr) (G : Hp) (w : W) (μ' : Store) (Q : VK) : Prop := ∀ v G' H', Ex G G' → Hpx K Φ π μ' G' H' → RelW K π G' v w → Q v H'
def PostF (K : PySem.W.Frag) (Φ : Hp) (π : List Addr) (G : Hp) (o : FO) (μ' : Store) (Q : VK) : Prop :=
  ∀ p G' H', Ex G G' → Hpx K Φ π μ' G' H' → Clear Φ π μ' G' p → FOk K G' H' p o → Q (.ref p) H'
def PostR (K : PySem.W.Frag) (Φ : Hp) (π : List Addr) (G : Hp) (r : R) (μ' : Store) (Q : VK) : Prop := match r with
  | .w w => PostW K Φ π G w μ' Q
  | .fr o => PostF K Φ π G o μ' Q
def PostB (K : PySem.W.Frag) (Φ : Hp) (π : List Addr) (G : Hp) (b : Bool) (μ' : Store) (Q : Bool → Hp → Prop) : Prop := ∀ G' H', Ex G G' → Hpx K Φ π μ' G' H' → Q b H'
def PostA (K : PySem.W.Frag) (Φ : Hp) (π : List Addr) (G : Hp) (ws : List W) (μ' : Store) (Q : List V → Hp → Prop) : Prop := ∀ vs G' H', Ex G G' → Hpx K Φ π μ' G' H' → RelWs K π G' vs ws → Q vs H'
theorem PostR.of {Φ : Hp} {π : List Addr} {r : R} {μ' : Store} {Q : VK} (h : PostW K Φ π G r.norm μ' Q) : PostR K Φ π G r μ' Q := by
  cases r with
  | w x => exact h
  | fr o =>
    cases o with
    | lst ds =>
      intro p G' H' e hx hp hs
      obtain ⟨xs, h1, h2⟩ := hs
      have e2 : Ex G' (upd G' p (.lst xs)) := Ex.new hp.g
      exact h (.ref p) _ H' (e.trans e2) (hx.lay hp h1) (Rep.lst upd_same (h2.mono e2))
/-- a new list in H -/
theorem PostF.new {Φ : Hp} {π : List Addr} {ds : List D} {μ' : Store} {Q : VK} (h : PostF K Φ π G (.lst ds) μ' Q) {G1 H1 : Hp} (e : Ex G G1) (hx : Hpx K Φ π μ' G1 H1) {p : Addr} (hp : H1 p = none) {xs : List V} (r : RepAll K G1 xs ds) : Q (.ref p) (upd H1 p (.lst xs)) :=
  h p G1 _ e (hx.grow (Ex.new hp)) (hx.clear hp) ⟨xs, upd_same, r⟩
/-- a new tuple in H -/
theorem PostW.newT {Φ : Hp} {π : List Addr} {ds : List D} {μ' : Store} {Q : VK} (h : PostW K Φ π G (.d (.tuple ds)) μ' Q) {G1 H1 : Hp} (e : Ex G G1) (hx : Hpx K Φ π μ' G1 H1) {p : Addr} (hp : H1 p = none) {xs : List V} (r : RepAll K G1 xs ds) : Q (.ref p) (upd H1 p (.tup xs)) := by
  have e2 : Ex G1 (upd G1 p (.tup xs)) := Ex.new (hx.clear hp).g
  refine h (.ref p) (upd G1 p (.tup xs)) _ (e.trans e2) ?_ (Rep.tup (.inl (.inl upd_same)) (r.mono e2))
  exact (hx.grow (Ex.new hp)).lay (hx.clear hp) upd_same
/-- what a thing shows -/
def PkRep (K : PySem.W.Frag) (G H : Hp) (v : V) (d : D) : Prop := Rep K G v d ∨ ∃ a xs ds, v = .ref a ∧ d = .list ds ∧ SqL K H a xs ∧ RepAll K G xs ds
theorem peek_rel {Φ : Hp} {π : List Addr} {μ : Store} {w : W} {d : D} {v : V} (hx : Hpx K Φ π μ G H) (r : RelW K π G v w) (e : peek μ w = some d) : PkRep K G H v d := by
  cases w with
  | d x =>
    have : x = d := Option.some.inj e
    subst this
    exact .inl r
  | bx n =>
    obtain ⟨p, h1, h2⟩ := r
    simp only [peek] at e
    split at e
    · rename_i o q
      cases e
      cases o with
      | fo o =>
        obtain ⟨p', h3, h4, h5⟩ := hx.bx n o q
        rw [h1] at h3; cases h3
        cases o with
        | lst ds =>
          obtain ⟨xs, h6, h7⟩ := h5
          exact .inr ⟨p, xs, ds, h2, rfl, .inl (.inl h6), h7⟩
      | fz ds =>
        obtain ⟨p', xs, h3, h6, h7⟩ := hx.fz n ds q
        rw [h1] at h3; cases h3
        exact .inr ⟨p, xs, ds, h2, rfl, h6.seq, h7⟩
    · cases e
theorem PkRep.dp {v : V} {d : D} (e : Ex G H) (h : PkRep K G H v d) : Dp K H v d := by
  rcases h with h | ⟨a, xs, ds, rfl, rfl, h1, h2⟩
  · exact (h.mono e).dp
  · exact .lst h1 (h2.mono e).dp
theorem PkRep.list {v : V} {ds : List D} (e : Ex G H) (h : PkRep K G H v (.list ds)) : ∃ a xs, v = .ref a ∧ SqL K H a xs ∧ RepAll K G xs ds := by
  rcases h with h | ⟨a, xs, ds', rfl, e', h1, h2⟩
  · cases h with
    | lst h1 h2 => exact ⟨_, _, rfl, .inl (.inl (e _ _ h1)), h2⟩
  · cases e'
    exact ⟨a, xs, rfl, h1, h2⟩
theorem PkRep.tuple {v : V} {ds : List D} (e : Ex G H) (h : PkRep K G H v (.tuple ds)) : ∃ a xs, v = .ref a ∧ SqT K H a xs ∧ RepAll K G xs ds := by
  rcases h with h | ⟨a, xs, ds', rfl, e', h1, h2⟩
  · cases h with
    | tup h1 h2 => exact ⟨_, _, rfl, ex_t e h1, h2⟩
  · cases e'
theorem PkRep.int {v : V} {i : Int} (h : PkRep K G H v (.int i)) : v = .int i := by
  rcases h with h | ⟨a, xs, ds', rfl, e', h1, h2⟩
  · cases h; rfl
  · cases e'
theorem PkRep.bool {v : V} {i : Bool} (h : PkRep K G H v (.bool i)) : v = .bl i := by
  rcases h with h | ⟨a, xs, ds', rfl, e', h1, h2⟩
  · cases h; rfl
  · cases e'
theorem PkRep.str {v : V} {i : Str} (h : PkRep K G H v (.str i)) : v = .str i := by
  rcases h with h | ⟨a, xs, ds', rfl, e', h1, h2⟩
  · cases h; rfl
  · cases e'
theorem PkRep.none {v : V} (h : PkRep K G H v .none) : v = .non := by
  rcases h with h | ⟨a, xs, ds', rfl, e', h1, h2⟩
  · cases h; rfl
  · cases e'
theorem toD_rel {π : List Addr} {w : W} {d : D} {v : V} (r : RelW K π G v w) (e : w.toD = some d) : Rep K G v d := by
  cases w with
  | d x => cases e; exact r
  | bx n => cases e
end
end Mini
end
section
set_option autoImplicit false
set_option Elab.async false
set_option linter.all false
set_option maxRecDepth 100000
set_option maxHeartbeats 2000000
/-! MC: what a small text is of a written one; the weakest readings; the operators by values. -/
namespace Mini
open PySem PySem.Spec PyProof.Rows L2 Evl

/-! ### the look -/
structure Ct where
  N : List Str
  sc : Scope
  fn : Str → Bool
structure Gc where
  fns : List Str
  gls : List Str
  bls : List Str
def visB (sc : Scope) (x : Str) : Bool := match sc.names.lookup x with
  | some .local => true | some .cell => true | some .free => true | _ => false
def locB (sc : Scope) (x : Str) : Bool := match sc.names.lookup x with
  | some .local => true | some .cell => true | _ => false
def glB (sc : Scope) (x : Str) : Bool := decide (sc.names.lookup x = some .globalImplicit)
def okN (x : Str) : Bool := !(x == ("__debug__" : Str)) && !(x == ("__classdict__" : Str)) && decide (x ≠ ("__name__" : Str))
theorem visB_iff {sc : Scope} {x : Str} (h : visB sc x = true) : Vis sc x := by
  unfold visB at h
  split at h
  · exact .inl (by assumption)
  · exact .inr (.inl (by assumption))
  · exact .inr (.inr (by assumption))
  · cases h
theorem locB_iff {sc : Scope} {x : Str} (h : locB sc x = true) : Loc sc x := by
  unfold locB at h
  split at h
  · exact .inl (by assumption)
  · exact .inr (by assumption)
  · cases h
def cstB : Const → D → Bool
  | .int i, .int j => decide (i = j)
  | .bool b, .bool c => b == c
  | .none, .none => true
  | .str x, .str y => decide (x = y)
  | _, _ => false
def stB (ct : Ct) (x : Str) : Bool := locB ct.sc x && (ct.fn x || decide (ct.sc.names.lookup x = some .local))
def chkNames (ct : Ct) : List Nat → List Expr → Bool
  | [], [] => true
  | i :: is, .Name x _ :: es => decide (ct.N[i]? = some x) && stB ct x && chkNames ct is es
  | _, _ => false
def chkTg (ct : Ct) : Tg → Expr → Bool
  | .nm i, .Name x _ => decide (ct.N[i]? = some x) && stB ct x
  | .tp is, .Tuple es _ _ => chkNames ct is es
  | _, _ => false
def Tg.ix : Tg → List Nat
  | .nm i => [i]
  | .tp is => is
def b1N : B1 → Str
  | .len => "len" | .abs => "abs" | .int => "int" | .sum => "sum" | .all => "all" | .tuple => "tuple" | .list => "list" | .repr => "repr" | .bool => "bool"
def b2N : B2 → Str
  | .max => "max" | .min => "min"
def ownOf (N : List Str) (scope : Scope) : List (Str × Nat) := scope.names.filterMap fun (n, k) => match k with
  | .local => (N.findIdx? (· == n)).map fun i => (n, i)
  | .cell => (N.findIdx? (· == n)).map fun i => (n, i)
  | _ => none
def Ct.blk (ct : Ct) (scope : Scope) : Ct := ⟨ct.N, relS scope ct.sc, fun x => scope.names.lookup x == some .cell⟩
def isTup : Expr → Bool
  | .Tuple _ _ _ => true
  | _ => false

mutual
def chkE (gc : Gc) : E → Ct → Expr → Bool
  | .var i, ct, e => match e with
    | .Name x _ => decide (ct.N[i]? = some x) && visB ct.sc x && okN x
    | _ => false
  | .cst d, _, e => match e with
    | .Constant c _ _ => cstB c d
    | _ => false
  | .glb k, ct, e => match e with
    | .Name x _ => decide (gc.gls[k]? = some x) && glB ct.sc x && okN x
    | _ => false
  | .bin op a b, ct, e => match e with
    | .BinOp x op' y _ => decide (op = op') && chkE gc a ct x && chkE gc b ct y
    | _ => false
  | .neg a, ct, e => match e with
    | .UnaryOp .USub x _ => chkE gc a ct x
    | _ => false
  | .not a, ct, e => match e with
    | .UnaryOp .Not x _ => chkE gc a ct x
    | _ => false
  | .cmp op a b, ct, e => match e with
    | .Compare x [op'] [y] _ => decide (op = op') && chkE gc a ct x && chkE gc b ct y
    | _ => false
  | .chain op1 op2 a b c, ct, e => match e with
    | .Compare x [o1, o2] [y, z] _ => decide (op1 = o1) && decide (op2 = o2) && chkE gc a ct x && chkE gc b ct y && chkE gc c ct z
    | _ => false
  | .and a b, ct, e => match e with
    | .BoolOp .And (x :: y :: rest) pos => chkE gc a ct x && (match rest with
      | [] => chkE gc b ct y
      | _ :: _ => chkE gc b ct (.BoolOp .And (y :: rest) pos))
    | _ => false
  | .or a b, ct, e => match e with
    | .BoolOp .Or (x :: y :: rest) pos => chkE gc a ct x && (match rest with
      | [] => chkE gc b ct y
      | _ :: _ => chkE gc b ct (.BoolOp .Or (y :: rest) pos))
    | _ => false
  | .ife t a b, ct, e => match e with
    | .IfExp t' a' b' _ => chkE gc t ct t' && chkE gc a ct a' && chkE gc b ct b'
    | _ => false
  | .call f as, ct, e => match e with
    | .Call (.Name x _) (y :: es) [] _ => decide (gc.fns[f]? = some x) && glB ct.sc x && okN x && chkEs gc as ct (y :: es)
    | _ => false
  | .b1 n a, ct, e => match e with
    | .Call (.Name x _) [y] [] _ => decide (x = b1N n) && decide (x ∈ gc.bls) && glB ct.sc x && okN x && chkE gc a ct y
    | _ => false
  | .b2 n a b, ct, e => match e with
    | .Call (.Name x _) [y, z] [] _ => decide (x = b2N n) && decide (x ∈ gc.bls) && glB ct.sc x && okN x && chkE gc a ct y && chkE gc b ct z
    | _ => false
  | .isi a n, ct, e => match e with
    | .Call (.Name x _) [y, .Name t _] [] _ => decide (x = ("isinstance" : Str)) && decide (x ∈ gc.bls) && glB ct.sc x && okN x && chkE gc a ct y && decide (t = Str.ofString n.nm) && decide (t ∈ gc.bls) && glB ct.sc t && okN t
    | _ => false
  | .ix a i, ct, e => match e with
    | .Subscript x y _ => chkE gc a ct x && chkE gc i ct y
    | _ => false
  | .sl a lo hi, ct, e => match e with
    | .Subscript x (.Slice l h none _) _ => chkE gc a ct x && chkEo gc lo ct l && chkEo gc hi ct h
    | _ => false
  | .tup as, ct, e => match e with
    | .Tuple es _ _ => chkEs gc as ct es
    | _ => false
  | .lst as, ct, e => match e with
    | .List es _ => chkEs gc as ct es
    | _ => false
  | .lc own t it c el, ct, e => match e with
    | .ListComp elt [⟨tg, iter, ifs, 0⟩] scope _ => blkC ct.N ct.sc scope (ownOf ct.N scope) && decide (own = (ownOf ct.N scope).map (·.2)) && chkIt gc it ct tg iter
        && chkTg (ct.blk scope) t tg && decide (∀ i ∈ t.ix, i ∈ own) && (match ifs with
          | [] => (match c with | .no => true | _ => false)
          | [x] => chkEo gc c (ct.blk scope) (some x)
          | _ => false) && chkE gc el (ct.blk scope) elt
    | _ => false
def chkEs (gc : Gc) : Es → Ct → List Expr → Bool
  | .nil, _, es => match es with
    | [] => true
    | _ => false
  | .cons a as, ct, es => match es with
    | x :: xs => chkE gc a ct x && chkEs gc as ct xs
    | [] => false
def chkEo (gc : Gc) : Eo → Ct → Option Expr → Bool
  | .no, _, e => match e with
    | none => true
    | _ => false
  | .so a, ct, e => match e with
    | some x => chkE gc a ct x
    | none => false
def chkIt (gc : Gc) : Src → Ct → Expr → Expr → Bool
  | .sq a, ct, _, e => chkE gc a ct e
  | .r1 a, ct, _, e => match e with
    | .Call (.Name x _) [y] [] _ => decide (x = ("range" : Str)) && decide (x ∈ gc.bls) && glB ct.sc x && okN x && chkE gc a ct y
    | _ => false
  | .r2 a b, ct, _, e => match e with
    | .Call (.Name x _) [y, z] [] _ => decide (x = ("range" : Str)) && decide (x ∈ gc.bls) && glB ct.sc x && okN x && chkE gc a ct y && chkE gc b ct z
    | _ => false
  | .r3 _ _ _, _, _, _ => false
  | .zip a b, ct, tg, e => match e with
    | .Call (.Name x _) [y, z] [] _ => decide (x = ("zip" : Str)) && decide (x ∈ gc.bls) && glB ct.sc x && okN x && isTup tg && chkE gc a ct y && chkE gc b ct z
    | _ => false
  | .enu a, ct, tg, e => match e with
    | .Call (.Name x _) [y] [] _ => decide (x = ("enumerate" : Str)) && decide (x ∈ gc.bls) && glB ct.sc x && okN x && isTup tg && chkE gc a ct y
    | _ => false
end

/-! ### the weakest readings -/
section
variable (X : Cx)
def semE (e : Expr) : TE := fun σ H Q => ∀ (pins : List (Addr × Obj)) (s : Shared), Inv X pins σ H s → wpAny (model X.prog X.w) X.A (eval e X.env) (EP X pins σ Q) X.xe s
def semT (e : Expr) : TT := fun σ H Q => ∀ (pins : List (Addr × Obj)) (s : Shared), Inv X pins σ H s → wpAny (model X.prog X.w) X.A (isTrue e X.env (eval e X.env)) (TP X pins σ Q) X.xe s
def semA (es : List Expr) : TA := fun σ H Q => ∀ (pos : Pos) (pins : List (Addr × Obj)) (s : Shared), Inv X pins σ H s → wpAny (model X.prog X.w) X.A (spliced (backTo pos (starEach es X.env))) (AP X pins σ Q) X.xe s
def semO (e : Option Expr) : TO := fun σ H Q => ∀ (pins : List (Addr × Obj)) (s : Shared), Inv X pins σ H s → wpAny (model X.prog X.w) X.A (evalPart e X.env) (fun u s' => ∃ o H', Inv X pins σ H' s' ∧ IsPart u o ∧ Q o H') X.xe s
def semI (tg iter : Expr) : TI := fun σ H R => ∀ (pins : List (Addr × Obj)) (s : Shared), Inv X pins σ H s →
    wpAny (model X.prog X.w) X.A (eval iter X.env) (fun v s1 => wpAny (model X.prog X.w) X.A (pyIter v) (PIE X pins σ tg R) X.xe s1) X.xe s
def semG (tg : Expr) : TG := fun v σ H Q => ∀ (pins : List (Addr × Obj)) (s : Shared) (u : Value), Inv X pins σ H s → RelV v u →
    wpAny (model X.prog X.w) X.A (assign tg X.env u) (fun _ s' => ∃ σ' H', Inv X pins σ' H' s' ∧ Q σ' H') X.xe s
def semS (st : Stmt) : TS := fun D σ H => ∀ (pins : List (Addr × Obj)) (s : Shared), Inv X pins σ H s → wpAny (model X.prog X.w) X.A (exec st X.env) (SP X pins D) X.xe s
def semSs (st : List Stmt) : TS := fun D σ H => ∀ (pins : List (Addr × Obj)) (s : Shared), Inv X pins σ H s → wpAny (model X.prog X.w) X.A (execs st X.env) (SP X pins D) X.xe s
def sem2 (f : Value → Value → Sem Value) : R2 := fun x y H Q => ∀ (pins : List (Addr × Obj)) (s : Shared) (σ : L2.St) (v u : Value), Inv X pins σ H s → RelV x v → RelV y u → wpAny (model X.prog X.w) X.A (f v u) (EP X pins σ Q) X.xe s
end
section
variable {X : Cx} {e : Expr} {es : List Expr} {σ : L2.St} {H : Hp}
theorem pe_sem : PE X e (semE X e) := ⟨fun pins s σ H Q I h => h pins s I⟩
theorem pt_sem : PT X e (semT X e) := ⟨fun pins s σ H Q I h => h pins s I⟩
theorem pa_sem : PA X es (semA X es) := ⟨fun pos pins s σ H Q I h => h pos pins s I⟩
theorem po_sem {e : Option Expr} : PO X e (semO X e) := ⟨fun pins s σ H Q I h => h pins s I⟩
theorem pi_sem {tg iter : Expr} : PI X tg iter (semI X tg iter) := ⟨fun pins s σ H Q I h => h pins s I⟩
theorem pg_sem {tg : Expr} : PG X tg (semG X tg) := ⟨fun pins s σ H v u Q I r h => h pins s u I r⟩
theorem ps_sem {st : Stmt} : PS X st (semS X st) := ⟨fun pins s σ H Q I h => h pins s I⟩
theorem pss_sem {st : List Stmt} : PSs X st (semSs X st) := ⟨fun pins s σ H Q I h => h pins s I⟩
theorem op_sem {f : Value → Value → Sem Value} : OpR X f (sem2 X f) := fun pins s σ H x y v u Q I r1 r2 h => h pins s σ v u I r1 r2
theorem e_of {t : TE} {Q : VK} (h : PE X e t) (q : t σ H Q) : semE X e σ H Q := fun pins s I => h.run pins s σ H Q I q
theorem t_of {t : TT} {Q : Bool → Hp → Prop} (h : PT X e t) (q : t σ H Q) : semT X e σ H Q := fun pins s I => h.run pins s σ H Q I q
theorem a_of {t : TA} {Q : List V → Hp → Prop} (h : PA X es t) (q : t σ H Q) : semA X es σ H Q := fun pos pins s I => h.run pos pins s σ H Q I q
theorem o_of {e : Option Expr} {t : TO} {Q : Option Int → Hp → Prop} (h : PO X e t) (q : t σ H Q) : semO X e σ H Q := fun pins s I => h.run pins s σ H Q I q
theorem i_of {tg iter : Expr} {t : TI} {Q : It → Hp → Prop} (h : PI X tg iter t) (q : t σ H Q) : semI X tg iter σ H Q := fun pins s I => h.run pins s σ H Q I q
theorem s_of {st : Stmt} {t : TS} {D : Ends} (h : PS X st t) (q : t D σ H) : semS X st D σ H := fun pins s I => h.run pins s σ H D I q
theorem ss_of {st : List Stmt} {t : TS} {D : Ends} (h : PSs X st t) (q : t D σ H) : semSs X st D σ H := fun pins s I => h.run pins s σ H D I q
theorem r_of {f : Value → Value → Sem Value} {r : R2} {x y : V} {Q : VK} (h : OpR X f r) (q : r x y H Q) : sem2 X f x y H Q := fun pins s σ v u I r1 r2 => h pins s σ H x y v u Q I r1 r2 q
end

/-! ### defs, with the room for repr -/
abbrev SpF := List V → Hp → VK → Prop
structure FnG (P : Program) (w : World) (K : PySem.W.Frag) (mg : Str → Option Value) (base : Heap) (k : Nat) (f : Addr) (fd : FuncData) (ps : List Str) (sp : SpF) : Prop where
  run : ∀ (A : Around) (outer : List Env) (s : Shared) (H : Hp) (args : Args) (us : List Value) (vs : List V) (Q : VK), Room k A → A.guards = some [] → Env0 P w K mg base A outer s H → BindsTo s fd args (ps.zip us) → Vals vs us →
    vs.length = ps.length → sp vs H Q → codeAny (model P w) A (.call (.ref f) args) (CR CX0 outer P w H s Q E0) s
def spOf (K : PySem.W.Frag) (g : Ge) (f : Nat) : SpF := fun vs H Q => ∃ (Φ : Hp) (π : List Addr) (μ : Store) (G : Hp) (ws : List W) (r : R) (μ' : Store), Hpx K Φ π μ G H ∧ RelWs K π G vs ws ∧ g.fn f ws μ = some (r, μ') ∧ PostR K Φ π G r μ' Q
structure Gs (gc : Gc) (g : Ge) (k : Nat) (X : Cx) : Prop where
  room : Room k X.A
  gu : X.A.guards = some []
  nox : X.xe = fun _ _ => False
  bl : ∀ x ∈ gc.bls, X.mg x = none
  gl : ∀ (i : Nat) (x : Str) (d : D), gc.gls[i]? = some x → g.gl i = some d → ∃ v u, X.mg x = some u ∧ RelV v u ∧ Rep X.K (fun _ => none) v d
  fn : ∀ (f : Nat) (x : Str), gc.fns[f]? = some x → ∃ fa fd ps, X.mg x = some (.ref fa) ∧ PySem.W.keepIn X.K (.ref fa) = true ∧ Binds X.K fd ps [] ∧ FnG X.prog X.w X.K X.mg X.base k fa fd ps (spOf X.K g f) ∧
    ∀ ws μ r, g.fn f ws μ = some r → ws.length = ps.length
structure Fits (gc : Gc) (g : Ge) (k : Nat) (ct : Ct) (X : Cx) : Prop extends Gs gc g k X where
  N : X.N = ct.N
  sc : X.env.scope = ct.sc
  fnq : X.fn = ct.fn
  nd : ct.N.Nodup
  calm : X.calm = true
section
variable {gc : Gc} {g : Ge} {k : Nat} {ct : Ct} {X : Cx}
theorem Fits.never (F : Fits gc g k ct X) : PassesOwn (model X.prog X.w) X.A X.env X.xe := by
  rw [F.nox]; exact PassesOwn.never
theorem Fits.gl_ (F : Fits gc g k ct X) {x : Str} (h : glB ct.sc x = true) : Gl X x := by
  show X.env.scope.names.lookup x = _
  rw [F.sc]; exact of_decide_eq_true h
theorem Fits.blk (F : Fits gc g k ct X) (s : Shared) (H : Hp) (scope : Scope) (C : Addr) (cl : List (Str × Addr)) (fp : List Addr) : Fits gc g k (ct.blk scope) (X.blk s H scope (compEnvC scope cl C X.env) fp) where
  room := F.room
  gu := F.gu
  nox := rfl
  bl := F.bl
  gl := F.gl
  fn := F.fn
  N := F.N
  sc := by show relS scope X.env.scope = relS scope ct.sc; rw [F.sc]
  fnq := rfl
  nd := F.nd
  calm := F.calm
end
theorem okN_d {x : Str} (h : okN x = true) : (x == ("__debug__" : Str)) = false ∧ (x == ("__classdict__" : Str)) = false ∧ x ≠ ("__name__" : Str) := by
  unfold okN at h
  simp only [Bool.and_eq_true, Bool.not_eq_true', decide_eq_true_eq] at h
  exact ⟨h.1.1, h.1.2, h.2⟩
end Mini
end
section
set_option autoImplicit false
set_option Elab.async false
set_option linter.all false
set_option maxRecDepth 100000
set_option maxHeartbeats 2000000
/-! MD: the operators and built-ins by values. -/
namespace Mini
open PySem PySem.Spec PyProof.Rows L2 Evl

theorem sz_of {n : Nat} (h : sz n = true) : n ≤ sizeLine := Nat.le_trans (of_decide_eq_true h) (by decide)
theorem sz_lt {n : Nat} (h : sz n = true) : n < sizeLine := Nat.lt_of_le_of_lt (of_decide_eq_true h) (by decide)
section
variable {gc : Gc} {g : Ge} {k : Nat} {X : Cx} {Φ : Hp} {π : List Addr} {μ μ' : Store} {G H : Hp} {v v' : V} {Q : VK}
theorem PostW.same {w : W} (h : PostW X.K Φ π G w μ Q) (hx : Hpx X.K Φ π μ G H) (r : RelW X.K π G v w) : Q v H := h v G H (Ex.refl G) hx r
theorem PostR.flat {d : D} (h : PostR X.K Φ π G (rd d) μ Q) (hx : Hpx X.K Φ π μ G H) (r : Rep X.K G v d) : Q v H := PostW.same h hx r

theorem sz2 {a b : Nat} (h : (sz a && sz b) = true) : a + b ≤ sizeLine := by
  rw [Bool.and_eq_true] at h
  have h1 : a ≤ 100000 := of_decide_eq_true h.1
  have h2 : b ≤ 100000 := of_decide_eq_true h.2
  exact Nat.le_trans (Nat.add_le_add h1 h2) (by decide)

theorem binV_ok {op : Operator} {x y : D} {r : R} (e : binV op x y = some r) (rx : Rep X.K G v x) (ry : Rep X.K G v' y) (hx : Hpx X.K Φ π μ G H) (q : PostR X.K Φ π G r μ Q) : sem2 X (binaryOp op) v v' H Q := by
  unfold binV at e
  split at e
  · cases e; cases rx; cases ry
    exact r_of op_add ⟨_, _, rfl, rfl, q.flat hx (.int _)⟩
  · cases e; cases rx; cases ry
    exact r_of op_sub ⟨_, _, rfl, rfl, q.flat hx (.int _)⟩
  · split at e
    · rename_i hb
      cases e; cases rx; cases ry
      exact r_of op_mulW ⟨_, _, rfl, rfl, hb, q.flat hx (.int _)⟩
    · cases e
  · split at e
    · rename_i hb
      cases e; cases rx; cases ry
      exact r_of op_fdivW ⟨_, _, rfl, rfl, hb, q.flat hx (.int _)⟩
    · split at e
      · rename_i hb
        cases e; cases rx; cases ry
        exact r_of op_fdivN ⟨_, _, rfl, rfl, hb, q.flat hx (.int _)⟩
      · cases e
  · split at e
    · rename_i hb
      cases e; cases rx; cases ry
      exact r_of op_modN ⟨_, _, rfl, rfl, hb, q.flat hx (.int _)⟩
    · cases e
  · split at e
    · rename_i hb
      cases e; cases rx; cases ry
      exact r_of op_pow ⟨_, _, rfl, rfl, hb, q.flat hx (.int _)⟩
    · cases e
  · split at e
    · rename_i hb
      cases e; cases rx; cases ry
      exact r_of op_add_str ⟨_, _, rfl, rfl, sz2 hb, q.flat hx (.str _)⟩
    · cases e
  · split at e
    · rename_i hb
      cases e
      cases rx with
      | lst h1 r1 =>
        cases ry with
        | lst h2 r2 =>
          refine r_of op_cat ⟨_, _, _, _, rfl, rfl, hx.ex _ _ h1, hx.ex _ _ h2, ?_, fun p hp => ?_⟩
          · rw [r1.length, r2.length]; exact sz2 hb
          · exact PostF.new (K := X.K) q (Ex.refl G) hx hp (r1.append r2)
    · cases e
  · split at e
    · rename_i hb
      cases e
      cases rx with
      | tup h1 r1 =>
        cases ry with
        | @tup b ys es h2 r2 =>
          refine r_of op_catA ⟨_, _, _, _, rfl, rfl, ex_t hx.ex h1, ex_t hx.ex h2, ?_, fun z => ?_, fun z1 z2 => ?_, fun z1 z2 p hp => ?_⟩
          · rw [r1.length, r2.length]; exact sz2 hb
          · subst z
            cases r1
            exact q.flat hx (.tup h2 r2)
          · subst z2
            cases r2
            refine q.flat hx ?_
            rw [List.append_nil]
            exact .tup h1 r1
          · exact PostW.newT (K := X.K) q (Ex.refl G) hx hp (r1.append r2)
    · cases e
  · split at e
    · rename_i hb
      cases e
      simp only [Bool.and_eq_true, decide_eq_true_eq] at hb
      obtain ⟨⟨⟨_, h0⟩, hz⟩, hk⟩ := hb
      cases rx with
      | lst h1 r1 =>
        cases ry
        refine r_of op_rep ⟨_, _, _, rfl, rfl, hx.ex _ _ h1, by omega, by omega, ?_, fun p hp => ?_⟩
        · rw [r1.length]; exact sz_of hz
        · exact PostF.new (K := X.K) q (Ex.refl G) hx hp (r1.rep _)
    · cases e
  · cases e

theorem eqD_ok {x y : D} {b : Bool} (hu : X.A.units + 64 < cLine) (e : eqD x y = some b) (rx : Dp X.K H v x) (ry : Dp X.K H v' y) (q : Q (.bl b) H) : sem2 X (compareOp .Eq) v v' H Q := by
  unfold eqD at e
  split at e
  · rename_i h
    rw [Bool.and_eq_true] at h
    cases e
    exact r_of (op_eqD hu) ⟨x, y, rx, ry, h.1, h.2, q⟩
  · unfold strEq at e
    split at e
    · cases e
      cases rx
      cases ry
      exact r_of op_eq ⟨rfl, by rw [dec_str]; exact q⟩
    · cases e
theorem neD_ok {x y : D} {b : Bool} (hu : X.A.units + 64 < cLine) (e : eqD x y = some b) (rx : Dp X.K H v x) (ry : Dp X.K H v' y) (q : Q (.bl (!b)) H) : sem2 X (compareOp .NotEq) v v' H Q := by
  unfold eqD at e
  split at e
  · rename_i h
    rw [Bool.and_eq_true] at h
    cases e
    exact r_of (op_neD hu) ⟨x, y, rx, ry, h.1, h.2, q⟩
  · unfold strEq at e
    split at e
    · cases e
      cases rx
      cases ry
      exact r_of op_ne ⟨rfl, by rw [dec_str]; exact q⟩
    · cases e
theorem PkRep.non_iff {x : D} (r : PkRep X.K G H v x) : (v = .non ↔ x = .none) := by
  rcases r with r | ⟨a, xs, ds, rfl, rfl, _, _⟩
  · cases r <;> simp
  · simp
theorem cmpV_ok {op : CmpOp} {x y : D} {b : Bool} (hr : Room k X.A) (e : cmpV op x y = some b) (ex : Ex G H) (rx : PkRep X.K G H v x) (ry : PkRep X.K G H v' y) (q : Q (.bl b) H) : sem2 X (compareOp op) v v' H Q := by
  unfold cmpV at e
  split at e
  · exact eqD_ok hr.units e (rx.dp ex) (ry.dp ex) q
  · cases h : eqD x y with
    | none => rw [h] at e; cases e
    | some c =>
      rw [h] at e
      cases e
      exact neD_ok hr.units h (rx.dp ex) (ry.dp ex) q
  · split at e
    · cases e; cases rx.int; cases ry.int
      exact r_of op_lt ⟨_, _, rfl, rfl, q⟩
    · cases e
  · split at e
    · cases e; cases rx.int; cases ry.int
      exact r_of op_le ⟨_, _, rfl, rfl, q⟩
    · cases e
  · split at e
    · cases e; cases rx.int; cases ry.int
      exact r_of op_gt ⟨_, _, rfl, rfl, q⟩
    · cases e
  · split at e
    · cases e; cases rx.int; cases ry.int
      exact r_of op_ge ⟨_, _, rfl, rfl, q⟩
    · cases e
  · split at e
    · cases e
      cases ry.none
      refine r_of op_isN ⟨rfl, ?_⟩
      have := rx.non_iff
      by_cases h : v = .non
      · rw [decide_eq_true h]; rw [this.mp h] at q; exact q
      · rw [decide_eq_false h]
        have h2 : x ≠ .none := fun z => h (this.mpr z)
        cases x <;> first | exact absurd rfl h2 | exact q
    · cases e
  · split at e
    · cases e
      cases ry.none
      refine r_of op_notN ⟨rfl, ?_⟩
      have := rx.non_iff
      by_cases h : v = .non
      · rw [decide_eq_true h]; rw [this.mp h] at q; exact q
      · rw [decide_eq_false h]
        have h2 : x ≠ .none := fun z => h (this.mpr z)
        cases x <;> first | exact absurd rfl h2 | exact q
    · cases e
  · split at e
    · split at e
      · rename_i h
        rw [Bool.and_eq_true] at h
        cases e
        exact r_of (op_inD (by have := hr.un; omega)) ⟨_, _, rx.dp ex, ry.dp ex, h.1, h.2, q⟩
      · cases e
    · cases e
  · split at e
    · split at e
      · rename_i h
        rw [Bool.and_eq_true] at h
        cases e
        exact r_of (op_notInD (by have := hr.un; omega)) ⟨_, _, rx.dp ex, ry.dp ex, h.1, h.2, q⟩
      · cases e
    · cases e

theorem intsOf_rep : ∀ {ds : List D} {xs : List V} {ns : List Int}, intsOf ds = some ns → RepAll X.K G xs ds → xs = ns.map V.int
  | [], _, _, e, .nil => by cases e; rfl
  | .int i :: r, _, ns, e, .cons h t => by
    cases q : intsOf r with
    | none => rw [intsOf, q] at e; cases e
    | some ms =>
      rw [intsOf, q] at e
      cases e
      cases h
      rw [intsOf_rep q t]; rfl
theorem boolsOf_rep : ∀ {ds : List D} {xs : List V} {ns : List Bool}, boolsOf ds = some ns → RepAll X.K G xs ds → xs = ns.map V.bl
  | [], _, _, e, .nil => by cases e; rfl
  | .bool i :: r, _, ns, e, .cons h t => by
    cases q : boolsOf r with
    | none => rw [boolsOf, q] at e; cases e
    | some ms =>
      rw [boolsOf, q] at e
      cases e
      cases h
      rw [boolsOf_rep q t]; rfl
/-- a call of a built-in, by values -/
def semC (X : Cx) (f : Value) : List V → Hp → VK → Prop := fun xs H Q => ∀ (pins : List (Addr × Obj)) (s : Shared) (σ : L2.St) (us : List Value), Inv X pins σ H s → Vals xs us → wpAny (model X.prog X.w) X.A (call f us) (EP X pins σ Q) X.xe s
theorem call_sem {f : Value} : CallR X f (semC X f) := fun pins s σ H xs us Q I r h => h pins s σ us I r
theorem c_of {f : Value} {r : List V → Hp → VK → Prop} {xs : List V} (h : CallR X f r) (q : r xs H Q) : semC X f xs H Q := fun pins s σ us I rv => h pins s σ H xs us Q I rv q
def b1F : B1 → Value
  | .len => .builtin "len" | .abs => .builtin "abs" | .int => .type "int" | .sum => .builtin "sum" | .all => .builtin "all" | .tuple => .type "tuple" | .list => .type "list" | .repr => .builtin "repr" | .bool => .type "bool"
theorem sum_tup (hc : X.calm = true) {a : Addr} {ns : List Int} (h : SqT X.K H a (ns.map V.int)) (q : Q (.int ns.sum) H) : semC X (.builtin "sum") [.ref a] H Q := by
  intro pins s σ us I r
  obtain ⟨its, rv, ht, hz⟩ := I.tuple h
  rw [Vals.ref1 r]
  have hi := rv.ints
  obtain ⟨xs, e⟩ := hi.allInts.items
  have hn : numsOf (intItems xs).toList = ns := by rw [← e]; exact hi.numsOf
  rw [nums_intItems] at hn
  have ht' : s.heap.IsTuple a its.toArray := ht
  rw [e] at ht'
  refine PySem.W.ktm_sumG (I.ok.hd hc) ht' fun h' tk t' hk => ?_
  rw [preSum_eq, List.take_of_length_le (by simp), hn]
  exact ⟨.int _, H, I.kept hk, ⟨_, rfl⟩, q⟩
theorem repr_ok (hr : Room k X.A) (hg : X.A.guards = some []) {d : D} {a : Addr} (r : Dp X.K H (.ref a) d) (h1 : SeqAt.shaped d = true) (h2 : PyData.showable d = true) (h3 : d.shown.length ≤ sizeLine) (q : Q (.str d.shown) H) : semC X (.builtin "repr") [.ref a] H Q := by
  intro pins s σ us I rv
  obtain ⟨u, rfl, ru⟩ := vals1 rv
  obtain ⟨as, rr⟩ := Dp.reads I d _ u r ru
  have eu : u = Value.ref a := ru
  subst eu
  have hd := SeqAt.depth_of_shaped h1
  have hun := hr.un
  refine repr_of_reads' rr h2 (PyData.noDict_hsm (PyData.hasDict_of_canLay _ (SeqAt.canLay_of_shaped h1))) hg (by omega) (fun _ _ e => e) (fun h' u tk hk => ?_) h3
  exact ⟨.str _, H, I.kept hk, ⟨u, rfl⟩, q⟩
theorem b1V_ok {n : B1} {x : D} {r : R} (hc : X.calm = true) (hr : Room k X.A) (hg : X.A.guards = some []) (e : b1V n x = some r) (hx : Hpx X.K Φ π μ G H) (rx : PkRep X.K G H v x) (q : PostR X.K Φ π G r μ Q) : semC X (b1F n) [v] H Q := by
  unfold b1V at e
  split at e
  · split at e
    · rename_i hz
      cases e; cases rx.str
      exact c_of call_len ⟨_, _, rfl, ⟨sz_of hz, rfl⟩, q.flat hx (.int _)⟩
    · cases e
  · cases e
    obtain ⟨a, xs, rfl, h1, h2⟩ := rx.list hx.ex
    refine c_of call_len_seq ⟨a, xs, rfl, .inl h1, ?_⟩
    rw [h2.length]; exact q.flat hx (.int _)
  · cases e
    obtain ⟨a, xs, rfl, h1, h2⟩ := rx.tuple hx.ex
    refine c_of call_len_seq ⟨a, xs, rfl, .inr h1, ?_⟩
    rw [h2.length]; exact q.flat hx (.int _)
  · cases e; cases rx.int
    exact c_of call_abs ⟨_, rfl, q.flat hx (.int _)⟩
  · cases e; cases rx.int
    exact c_of call_int1 (.inl ⟨_, rfl, q.flat hx (.int _)⟩)
  · cases e; cases rx.bool
    exact c_of call_int1 (.inr ⟨_, rfl, q.flat hx (.int _)⟩)
  · rename_i ds
    cases hn : intsOf ds with
    | none => rw [hn] at e; cases e
    | some ns =>
      rw [hn] at e; cases e
      obtain ⟨a, xs, rfl, h1, h2⟩ := rx.list hx.ex
      have := intsOf_rep hn h2
      subst this
      exact c_of (cr_sum hc) ⟨a, ns, rfl, h1, q.flat hx (.int _)⟩
  · rename_i ds
    cases hn : intsOf ds with
    | none => rw [hn] at e; cases e
    | some ns =>
      rw [hn] at e; cases e
      obtain ⟨a, xs, rfl, h1, h2⟩ := rx.tuple hx.ex
      have := intsOf_rep hn h2
      subst this
      exact sum_tup hc h1 (q.flat hx (.int _))
  · rename_i ds
    cases hn : boolsOf ds with
    | none => rw [hn] at e; cases e
    | some ns =>
      rw [hn] at e; cases e
      obtain ⟨a, xs, rfl, h1, h2⟩ := rx.list hx.ex
      have := boolsOf_rep hn h2
      subst this
      exact c_of (cr_all hc) ⟨a, ns, rfl, h1, q.flat hx (.bl _)⟩
  · cases e
    obtain ⟨a, xs, rfl, h1, h2⟩ := rx.list hx.ex
    exact c_of call_tuple_of ⟨a, xs, rfl, .inl ⟨h1, fun p hp => PostW.newT (K := X.K) q (Ex.refl G) hx hp h2⟩⟩
  · cases e
    rcases rx with rx | ⟨_, _, _, _, e', _⟩
    · cases rx with
      | tup h1 h2 => exact c_of call_tuple_of ⟨_, _, rfl, .inr ⟨ex_t hx.ex h1, q.flat hx (.tup h1 h2)⟩⟩
    · cases e'
  · cases e
    obtain ⟨a, xs, rfl, h1, h2⟩ := rx.list hx.ex
    exact c_of call_list_of ⟨a, xs, rfl, .inl h1, fun p hp => PostF.new (K := X.K) q (Ex.refl G) hx hp h2⟩
  · cases e
    obtain ⟨a, xs, rfl, h1, h2⟩ := rx.tuple hx.ex
    exact c_of call_list_of ⟨a, xs, rfl, .inr h1, fun p hp => PostF.new (K := X.K) q (Ex.refl G) hx hp h2⟩
  · split at e
    · rename_i hz
      cases e; cases rx.int
      exact c_of SkE.call_repr_int ⟨_, rfl, hz, q.flat hx (.str _)⟩
    · cases e
  · split at e
    · rename_i hz
      cases e
      simp only [Bool.and_eq_true] at hz
      obtain ⟨a, xs, rfl, _, _⟩ := rx.list hx.ex
      exact repr_ok hr hg (rx.dp hx.ex) hz.1.1 hz.1.2 (sz_of hz.2) (q.flat hx (.str _))
    · cases e
  · split at e
    · rename_i hz
      cases e
      simp only [Bool.and_eq_true] at hz
      obtain ⟨a, xs, rfl, _, _⟩ := rx.tuple hx.ex
      exact repr_ok hr hg (rx.dp hx.ex) hz.1.1 hz.1.2 (sz_of hz.2) (q.flat hx (.str _))
    · cases e
  · cases e
def b2F : B2 → Value
  | .max => .builtin "max" | .min => .builtin "min"
theorem b2V_ok {n : B2} {x y : D} {r : R} (hc : X.calm = true) (e : b2V n x y = some r) (hx : Hpx X.K Φ π μ G H) (rx : Rep X.K G v x) (ry : Rep X.K G v' y) (q : PostR X.K Φ π G r μ Q) : semC X (b2F n) [v, v'] H Q := by
  unfold b2V at e
  split at e
  · cases e; cases rx; cases ry
    exact c_of (call_max2 hc) ⟨_, _, rfl, q.flat hx (.int _)⟩
  · cases e; cases rx; cases ry
    exact c_of (call_min2 hc) ⟨_, _, rfl, q.flat hx (.int _)⟩
  · cases e
theorem tyX_of {x : D} (hx : Ex G H) (r : Rep X.K G v x) : TyX X.K H v (.type (tyName x)) := by
  cases r with
  | non => exact .base .non
  | bl b => exact .base (.bl b)
  | int i => exact .base (.int i)
  | str x => exact .base (.str x)
  | lst h _ => exact .base (.lst (hx _ _ h))
  | tup h _ =>
    rcases h with (h | ⟨o, h⟩) | ⟨o, its, n, h, c, _⟩
    · exact .base (.tup (hx _ _ h))
    · exact .fTuple (hx _ _ h)
    · exact .kTuple h c
theorem kit_all (x : D) (n : Tn) : kitB (tyName x) n.nm = some (isiV x n) := by
  cases n <;> cases x <;> simp only [tyName, Tn.nm, isiV, isIntD, isBoolD, isStrD, isTupD, isLstD, isDicD] <;> decide +kernel
theorem isiV_ok {x : D} {n : Tn} (hx : Ex G H) (r : Rep X.K G v x) (q : Q (.bl (isiV x n)) H) : semC X (.builtin "isinstance") [v, .ty n.nm] H Q :=
  c_of call_isi ⟨v, .ty n.nm, _, .type n.nm, _, rfl, .ty _, tyX_of hx r, kit_ty (kit_all x n), q⟩
/-- an item by its place, by values -/
def semX (X : Cx) (slice : Expr) : R2 := fun x y H Q => ∀ (value : Expr) (pins : List (Addr × Obj)) (s : Shared) (σ : L2.St) (v u : Value), Inv X pins σ H s → RelV x v → RelV y u →
    subscripted slice false v u = operate [v, u] (getItem v u) → wpAny (model X.prog X.w) X.A (subscriptTail value slice v u) (EP X pins σ Q) X.xe s
theorem RepAll.atI {xs : List V} {ds : List D} {i : Int} {d : D} (r : RepAll X.K G xs ds) (e : atD ds i = some d) : ∃ v, atI xs i = some v ∧ Rep X.K G v d := by
  unfold atD at e
  cases q : ixN ds.length i with
  | none => rw [q] at e; cases e
  | some j =>
    rw [q] at e
    obtain ⟨v, h1, h2⟩ := r.get (i := j) e
    refine ⟨v, ?_, h2⟩
    unfold L2.atI
    rw [r.length, q]
    exact h1
theorem cut_rep {xs : List V} {ds : List D} {lo hi : Option Int} (r : RepAll X.K G xs ds) : RepAll X.K G (cutV xs lo hi) (cutD ds lo hi) := by
  unfold cutV cutD
  rw [r.length]
  exact (r.drop _).take _
end
end Mini
end
section
set_option autoImplicit false
set_option Elab.async false
set_option linter.all false
set_option maxRecDepth 100000
set_option maxHeartbeats 2000000
/-! ME: what the evaluator tells of an expression, the model does. -/
namespace Mini
open PySem PySem.Spec PyProof.Rows L2 Evl

section
variable {K : PySem.W.Frag} {Φ : Hp} {π : List Addr} {G G1 : Hp} {μ' : Store}
theorem PostW.up {w : W} {Q : VK} (e : Ex G G1) (h : PostW K Φ π G w μ' Q) : PostW K Φ π G1 w μ' Q := fun v G' H' e' => h v G' H' (e.trans e')
theorem PostF.up {o : FO} {Q : VK} (e : Ex G G1) (h : PostF K Φ π G o μ' Q) : PostF K Φ π G1 o μ' Q := fun p G' H' e' => h p G' H' (e.trans e')
theorem PostR.up {r : R} {Q : VK} (e : Ex G G1) (h : PostR K Φ π G r μ' Q) : PostR K Φ π G1 r μ' Q := by
  cases r with
  | w x => exact PostW.up e h
  | fr o => exact PostF.up e h
theorem PostB.up {b : Bool} {Q : Bool → Hp → Prop} (e : Ex G G1) (h : PostB K Φ π G b μ' Q) : PostB K Φ π G1 b μ' Q := fun G' H' e' => h G' H' (e.trans e')
theorem PostA.up {ws : List W} {Q : List V → Hp → Prop} (e : Ex G G1) (h : PostA K Φ π G ws μ' Q) : PostA K Φ π G1 ws μ' Q := fun v G' H' e' => h v G' H' (e.trans e')
theorem RelWs.mono {vs : List V} {ws : List W} (e : Ex G G1) (h : RelWs K π G vs ws) : RelWs K π G1 vs ws := Paired.mapP h fun _ _ r => r.mono e
end

/-- what comes of a walk: items one by one, a heap that may grow -/
def ItOk (K : PySem.W.Frag) (J : It) (G : Hp) (ds : List D) : Prop := ∀ (i : Nat) (Φ : Hp) (π : List Addr) (μ : Store) (G1 H : Hp), Ex G G1 → Hpx K Φ π μ G1 H →
  (∀ d, ds[i]? = some d → J.go i H ∧ ∀ x H', J.yld i H x H' → ∃ G2, Ex G1 G2 ∧ Hpx K Φ π μ G2 H' ∧ Rep K G2 x d) ∧ (ds.length = i → J.stop i H)
def PostI (K : PySem.W.Frag) (Φ : Hp) (π : List Addr) (G : Hp) (ds : List D) (μ' : Store) (R : It → Hp → Prop) : Prop := ∀ J G' H', Ex G G' → Hpx K Φ π μ' G' H' → ItOk K J G' ds → R J H'

section
variable (gc : Gc) (g : Ge) (k : Nat)
def SndE (a : E) : Prop := ∀ (ct : Ct) (e : Expr) (X : Cx), chkE gc a ct e = true → Fits gc g k ct X → ∀ (ρ : Rho) (μ : Store) (r : R) (μ' : Store), evE g a ρ μ = some (r, μ') →
  ∀ (Φ : Hp) (π : List Addr) (G : Hp) (σ : L2.St) (H : Hp), SlotOk X.K π G ρ σ → Hpx X.K Φ π μ G H → ∀ Q, PostR X.K Φ π G r μ' Q → semE X e σ H Q
def SndB (a : E) : Prop := ∀ (ct : Ct) (e : Expr) (X : Cx), chkE gc a ct e = true → Fits gc g k ct X → ∀ (ρ : Rho) (μ : Store) (r : Bool) (μ' : Store), nB (evE g a ρ μ) = some (r, μ') →
  ∀ (Φ : Hp) (π : List Addr) (G : Hp) (σ : L2.St) (H : Hp), SlotOk X.K π G ρ σ → Hpx X.K Φ π μ G H → ∀ Q, PostB X.K Φ π G r μ' Q → semT X e σ H Q
def SndEs (a : Es) : Prop := ∀ (ct : Ct) (e : List Expr) (X : Cx), chkEs gc a ct e = true → Fits gc g k ct X → ∀ (ρ : Rho) (μ : Store) (r : List W) (μ' : Store), evEs g a ρ μ = some (r, μ') →
  ∀ (Φ : Hp) (π : List Addr) (G : Hp) (σ : L2.St) (H : Hp), SlotOk X.K π G ρ σ → Hpx X.K Φ π μ G H → ∀ Q, PostA X.K Φ π G r μ' Q → semA X e σ H Q
def SndEo (a : Eo) : Prop := ∀ (ct : Ct) (e : Option Expr) (X : Cx), chkEo gc a ct e = true → Fits gc g k ct X → ∀ (ρ : Rho) (μ : Store) (o : Option D) (i : Option Int) (μ' : Store), evEo g a ρ μ = some (o, μ') → optInt o = some i →
  ∀ (Φ : Hp) (π : List Addr) (G : Hp) (σ : L2.St) (H : Hp), SlotOk X.K π G ρ σ → Hpx X.K Φ π μ G H → ∀ (Q : Option Int → Hp → Prop), (∀ G' H', Ex G G' → Hpx X.K Φ π μ' G' H' → Q i H') → semO X e σ H Q
def SndC (a : Eo) : Prop := ∀ b, a = .so b → SndB gc g k b
def SndI (a : Src) : Prop := ∀ (ct : Ct) (tg e : Expr) (X : Cx), chkIt gc a ct tg e = true → Fits gc g k ct X → ∀ (ρ : Rho) (μ : Store) (r : List D) (μ' : Store), evIt g a ρ μ = some (r, μ') →
  ∀ (Φ : Hp) (π : List Addr) (G : Hp) (σ : L2.St) (H : Hp), SlotOk X.K π G ρ σ → Hpx X.K Φ π μ G H → ∀ R, PostI X.K Φ π G r μ' R → semI X tg e σ H R
end
section
variable {gc : Gc} {g : Ge} {k : Nat} {ct : Ct} {X : Cx} {ρ : Rho} {μ μ' : Store} {Φ : Hp} {π : List Addr} {G : Hp} {σ : L2.St} {H : Hp}
theorem SndE.w {a : E} {e : Expr} {w : W} {Q : VK} (h : SndE gc g k a) (hc : chkE gc a ct e = true) (F : Fits gc g k ct X) (he : nW (evE g a ρ μ) = some (w, μ')) (so : SlotOk X.K π G ρ σ) (hx : Hpx X.K Φ π μ G H)
    (q : PostW X.K Φ π G w μ' Q) : semE X e σ H Q := by
  obtain ⟨⟨r, μ1⟩, h1, h2⟩ := Option.map_eq_some_iff.mp he
  cases h2
  exact h ct e X hc F ρ μ r _ h1 Φ π G σ H so hx Q (.of q)
theorem truth_ok {v : V} {x : D} {b : Bool} (e : truth x = some b) (hx : Ex G H) (r : PkRep X.K G H v x) : TruV X.K v H b := by
  cases x with
  | none => cases e; cases r.none; exact rfl
  | bool c => cases e; cases r.bool; exact rfl
  | int i => cases e; cases r.int; exact rfl
  | str z =>
    cases r.str
    have e' : (if sz z.length then some ((z.length : Int) != 0) else none) = some b := e
    by_cases hz : sz z.length = true
    · rw [if_pos hz] at e'
      cases e'
      exact ⟨sz_of hz, rfl⟩
    · rw [if_neg hz] at e'
      cases e'
  | list ds =>
    cases e
    obtain ⟨a, xs, rfl, h1, h2⟩ := r.list hx
    refine .inl ⟨xs, h1, ?_⟩
    cases h2 <;> rfl
  | tuple ds =>
    cases e
    obtain ⟨a, xs, rfl, h1, h2⟩ := r.tuple hx
    refine .inr (.inl ⟨xs, h1, ?_⟩)
    cases h2 <;> rfl
  | dict _ => cases e
/-- the truth of an expression, by its value -/
theorem SndE.truth {a : E} {e : Expr} {b : Bool} {Q : Bool → Hp → Prop} (h : SndE gc g k a) (hc : chkE gc a ct e = true) (F : Fits gc g k ct X) (he : nB (evE g a ρ μ) = some (b, μ')) (so : SlotOk X.K π G ρ σ) (hx : Hpx X.K Φ π μ G H)
    (q : PostB X.K Φ π G b μ' Q) : semE X e σ H fun x H' => ∃ k, TruV X.K x H' k ∧ Q k H' := by
  unfold nB at he
  obtain ⟨⟨w, μ1⟩, h1, he⟩ := Option.bind_eq_some_iff.mp he
  obtain ⟨x, h2, he⟩ := Option.bind_eq_some_iff.mp he
  obtain ⟨t, h3, he⟩ := Option.bind_eq_some_iff.mp he
  cases he
  refine h.w hc F h1 so hx fun v G' H' e1 p1 r1 => ⟨b, truth_ok h3 p1.ex (peek_rel p1 r1 h2), q G' H' e1 p1⟩
/-- a test that is its value's truth -/
theorem SndB.plain {a : E} (h : SndE gc g k a) (hp : ∀ ct e, chkE gc a ct e = true → ∀ (env : PySem.Env) (whole : Sem Value), isTrue e env whole = (do let v ← whole; standAt e.pos; holding [v] (truthy v))) : SndB gc g k a := by
  intro ct e X hc F ρ μ r μ' he Φ π G σ H so hx Q q
  exact t_of (pt_truth pe_sem (hp ct e hc X.env)) (h.truth hc F he so hx q)

/-! ### the leaves -/
theorem snd_var (i : Nat) : SndE gc g k (.var i) := by
  intro ct e X hc F ρ μ r μ' he Φ π G σ H so hx Q q
  unfold chkE at hc
  split at hc
  · rename_i x pos
    simp only [Bool.and_eq_true, decide_eq_true_eq] at hc
    obtain ⟨⟨h1, h2⟩, h3⟩ := hc
    obtain ⟨d1, d2, d3⟩ := okN_d h3
    unfold evE at he
    split at he
    · rename_i w hw
      cases he
      obtain ⟨v, hv, rv⟩ := so.at_ i w hw
      refine e_of (pe_var (i := i) (by rw [F.N]; exact h1) (by have := visB_iff h2; rw [← F.sc] at this; exact this) d1 d2) ⟨v, hv, ?_⟩
      exact PostW.same q hx rv
    · cases he
  · cases hc
theorem snd_cst (d : D) : SndE gc g k (.cst d) := by
  intro ct e X hc F ρ μ r μ' he Φ π G σ H so hx Q q
  unfold chkE at hc
  split at hc
  · rename_i c kk pos
    unfold evE at he
    cases he
    unfold cstB at hc
    split at hc
    · have := of_decide_eq_true hc; subst this
      exact e_of pe_int (q.flat hx (.int _))
    · have := eq_of_beq hc; subst this
      exact e_of pe_bl (q.flat hx (.bl _))
    · exact e_of pe_non (q.flat hx .non)
    · have := of_decide_eq_true hc; subst this
      exact e_of pe_str (q.flat hx (.str _))
    · cases hc
  · cases hc
theorem ex_none : Ex (fun _ => none) G := fun _ _ h => by cases h
theorem snd_glb (i : Nat) : SndE gc g k (.glb i) := by
  intro ct e X hc F ρ μ r μ' he Φ π G σ H so hx Q q
  unfold chkE at hc
  split at hc
  · rename_i x pos
    simp only [Bool.and_eq_true, decide_eq_true_eq] at hc
    obtain ⟨⟨h1, h2⟩, h3⟩ := hc
    obtain ⟨d1, d2, d3⟩ := okN_d h3
    unfold evE at he
    obtain ⟨d, hd, he⟩ := Option.map_eq_some_iff.mp he
    cases he
    obtain ⟨v, u, hm, ru, rv⟩ := F.gl i x d h1 hd
    exact e_of (pe_glob (F.gl_ h2) hm ru d1) (q.flat hx (rv.mono ex_none))
  · cases hc
end
end Mini
end
section
set_option autoImplicit false
set_option Elab.async false
set_option linter.all false
set_option maxRecDepth 100000
set_option maxHeartbeats 2000000
namespace Mini
open PySem PySem.Spec PyProof.Rows L2 Evl
section
variable {gc : Gc} {g : Ge} {k : Nat}

/-! ### operators -/
theorem snd_bin {op : Operator} {a b : E} (ia : SndE gc g k a) (ib : SndE gc g k b) : SndE gc g k (.bin op a b) := by
  intro ct e X hc F ρ μ r μ' he Φ π G σ H so hx Q q
  unfold chkE at hc
  split at hc
  · rename_i x op' y pos
    simp only [Bool.and_eq_true, decide_eq_true_eq] at hc
    obtain ⟨⟨rfl, c1⟩, c2⟩ := hc
    unfold evE at he
    obtain ⟨⟨wa, μ1⟩, h1, he⟩ := Option.bind_eq_some_iff.mp he
    obtain ⟨⟨wb, μ2⟩, h2, he⟩ := Option.bind_eq_some_iff.mp he
    obtain ⟨dx, h3, he⟩ := Option.bind_eq_some_iff.mp he
    obtain ⟨dy, h4, he⟩ := Option.bind_eq_some_iff.mp he
    obtain ⟨r', h5, he⟩ := Option.bind_eq_some_iff.mp he
    cases he
    refine e_of (pe_op op_sem pe_sem pe_sem) ?_
    refine ia.w c1 F h1 so hx fun v1 G1 H1 e1 p1 r1 => ?_
    refine ib.w c2 F h2 (so.mono e1) p1 fun v2 G2 H2 e2 p2 r2 => ?_
    exact binV_ok h5 ((toD_rel r1 h3).mono e2) (toD_rel r2 h4) p2 (q.up (e1.trans e2))
  · cases hc
theorem snd_neg {a : E} (ia : SndE gc g k a) : SndE gc g k (.neg a) := by
  intro ct e X hc F ρ μ r μ' he Φ π G σ H so hx Q q
  unfold chkE at hc
  split at hc
  · rename_i x pos
    unfold evE at he
    obtain ⟨⟨wa, μ1⟩, h1, he⟩ := Option.bind_eq_some_iff.mp he
    dsimp only at he
    split at he
    · cases he
      refine e_of (pe_un un_neg pe_sem) ?_
      refine ia.w hc F h1 so hx fun v1 G1 H1 e1 p1 r1 => ?_
      cases r1
      exact ⟨_, rfl, (q.up e1).flat p1 (.int _)⟩
    · cases he
  · cases hc
theorem snd_not {a : E} (ia : SndE gc g k a) : SndE gc g k (.not a) := by
  intro ct e X hc F ρ μ r μ' he Φ π G σ H so hx Q q
  unfold chkE at hc
  split at hc
  · rename_i x pos
    unfold evE at he
    obtain ⟨⟨b, μ1⟩, h1, he⟩ := Option.bind_eq_some_iff.mp he
    cases he
    refine e_of (pe_notT pe_sem) ?_
    have q' : PostB X.K Φ π G b μ' (fun c H' => Q (.bl (!c)) H') := fun G' H' e' p' => (q.up e').flat p' (.bl _)
    exact ia.truth hc F h1 so hx q'
  · cases hc
theorem snd_cmp {op : CmpOp} {a b : E} (ia : SndE gc g k a) (ib : SndE gc g k b) (hm : ∀ ct y, chkE gc b ct y = true → behindInMarks op y = false) : SndE gc g k (.cmp op a b) := by
  intro ct e X hc F ρ μ r μ' he Φ π G σ H so hx Q q
  unfold chkE at hc
  split at hc
  · rename_i x op' y pos
    simp only [Bool.and_eq_true, decide_eq_true_eq] at hc
    obtain ⟨⟨rfl, c1⟩, c2⟩ := hc
    unfold evE at he
    obtain ⟨⟨wa, μ1⟩, h1, he⟩ := Option.bind_eq_some_iff.mp he
    obtain ⟨⟨wb, μ2⟩, h2, he⟩ := Option.bind_eq_some_iff.mp he
    obtain ⟨dx, h3, he⟩ := Option.bind_eq_some_iff.mp he
    obtain ⟨dy, h4, he⟩ := Option.bind_eq_some_iff.mp he
    obtain ⟨r', h5, he⟩ := Option.bind_eq_some_iff.mp he
    cases he
    refine e_of (pe_cmpR op_sem pe_sem pe_sem (hm ct y c2)) ?_
    refine ia.w c1 F h1 so hx fun v1 G1 H1 e1 p1 r1 => ?_
    refine ib.w c2 F h2 (so.mono e1) p1 fun v2 G2 H2 e2 p2 r2 => ?_
    exact cmpV_ok F.room h5 p2.ex (peek_rel p2 (r1.mono e2) h3) (peek_rel p2 r2 h4) ((q.up (e1.trans e2)).flat p2 (.bl _))
  · cases hc
/-- a comparison gives a bool -/
theorem nB_bool {o : Option (R × Store)} {b : Bool} {μ' : Store} (h : nB o = some (b, μ')) : ∃ w x, nW o = some (w, μ') ∧ peek μ' w = some x ∧ truth x = some b := by
  unfold nB at h
  obtain ⟨⟨w, μ1⟩, h1, he⟩ := Option.bind_eq_some_iff.mp h
  obtain ⟨x, h2, he⟩ := Option.bind_eq_some_iff.mp he
  obtain ⟨t, h3, he⟩ := Option.bind_eq_some_iff.mp he
  cases he
  exact ⟨w, x, h1, h2, h3⟩
theorem sndB_cmp {op : CmpOp} {a b : E} (ia : SndE gc g k a) (ib : SndE gc g k b) (hm : ∀ ct y, chkE gc b ct y = true → behindInMarks op y = false) : SndB gc g k (.cmp op a b) := by
  intro ct e X hc F ρ μ r μ' he Φ π G σ H so hx Q q
  obtain ⟨w, xx, hw, hpk, htr⟩ := nB_bool he
  obtain ⟨⟨rr, μ0⟩, he, hn⟩ := Option.map_eq_some_iff.mp hw
  unfold chkE at hc
  split at hc
  · rename_i x op' y pos
    simp only [Bool.and_eq_true, decide_eq_true_eq] at hc
    obtain ⟨⟨rfl, c1⟩, c2⟩ := hc
    unfold evE at he
    obtain ⟨⟨wa, μ1⟩, h1, he⟩ := Option.bind_eq_some_iff.mp he
    obtain ⟨⟨wb, μ2⟩, h2, he⟩ := Option.bind_eq_some_iff.mp he
    obtain ⟨dx, h3, he⟩ := Option.bind_eq_some_iff.mp he
    obtain ⟨dy, h4, he⟩ := Option.bind_eq_some_iff.mp he
    obtain ⟨r', h5, he⟩ := Option.bind_eq_some_iff.mp he
    cases he
    cases hn
    cases hpk
    cases htr
    refine t_of (pt_cmpR op_sem pe_sem pe_sem (hm ct y c2)) ?_
    refine ia.w c1 F h1 so hx fun v1 G1 H1 e1 p1 r1 => ?_
    refine ib.w c2 F h2 (so.mono e1) p1 fun v2 G2 H2 e2 p2 r2 => ?_
    exact cmpV_ok F.room h5 p2.ex (peek_rel p2 (r1.mono e2) h3) (peek_rel p2 r2 h4) ⟨_, rfl, q G2 H2 (e1.trans e2) p2⟩
  · cases hc
theorem snd_chain {op op' : CmpOp} {a b c : E} (ia : SndE gc g k a) (ib : SndE gc g k b) (ic : SndE gc g k c) (hm : ∀ ct y, chkE gc c ct y = true → behindInMarks op' y = false) : SndE gc g k (.chain op op' a b c) := by
  intro ct e X hc F ρ μ r μ' he Φ π G σ H so hx Q q
  unfold chkE at hc
  split at hc
  · rename_i x o1 o2 y z pos
    simp only [Bool.and_eq_true, decide_eq_true_eq] at hc
    obtain ⟨⟨⟨⟨rfl, rfl⟩, c1⟩, c2⟩, c3⟩ := hc
    unfold evE at he
    obtain ⟨⟨wa, μ1⟩, h1, he⟩ := Option.bind_eq_some_iff.mp he
    obtain ⟨⟨wb, μ2⟩, h2, he⟩ := Option.bind_eq_some_iff.mp he
    obtain ⟨dx, h3, he⟩ := Option.bind_eq_some_iff.mp he
    obtain ⟨dy, h4, he⟩ := Option.bind_eq_some_iff.mp he
    obtain ⟨r', h5, he⟩ := Option.bind_eq_some_iff.mp he
    refine e_of (pe_chain op_sem op_sem pe_sem pe_sem pe_sem (hm ct z c3)) ?_
    refine ia.w c1 F h1 so hx fun v1 G1 H1 e1 p1 r1 => ?_
    refine ib.w c2 F h2 (so.mono e1) p1 fun v2 G2 H2 e2 p2 r2 => ?_
    refine cmpV_ok F.room h5 p2.ex (peek_rel p2 (r1.mono e2) h3) (peek_rel p2 r2 h4) ⟨_, rfl, ?_⟩
    cases r' with
    | false =>
      cases he
      exact (q.up (e1.trans e2)).flat p2 (.bl _)
    | true =>
      obtain ⟨⟨wc, μ3⟩, h6, he⟩ := Option.bind_eq_some_iff.mp he
      obtain ⟨dy', h7, he⟩ := Option.bind_eq_some_iff.mp he
      obtain ⟨dz, h8, he⟩ := Option.bind_eq_some_iff.mp he
      obtain ⟨r', h9, he⟩ := Option.bind_eq_some_iff.mp he
      cases he
      show semE X z σ H2 _
      refine ic.w c3 F h6 (so.mono (e1.trans e2)) p2 fun v3 G3 H3 e3 p3 r3 => ?_
      exact cmpV_ok F.room h9 p3.ex (peek_rel p3 (r2.mono e3) h7) (peek_rel p3 r3 h8) ((q.up ((e1.trans e2).trans e3)).flat p3 (.bl _))
  · cases hc
theorem sndB_chain {op op' : CmpOp} {a b c : E} (ia : SndE gc g k a) (ib : SndE gc g k b) (ic : SndE gc g k c) (hm : ∀ ct y, chkE gc c ct y = true → behindInMarks op' y = false) : SndB gc g k (.chain op op' a b c) := by
  intro ct e X hc F ρ μ r μ' he Φ π G σ H so hx Q q
  obtain ⟨w, xx, hw, hpk, htr⟩ := nB_bool he
  obtain ⟨⟨rr, μ0⟩, he, hn⟩ := Option.map_eq_some_iff.mp hw
  unfold chkE at hc
  split at hc
  · rename_i x o1 o2 y z pos
    simp only [Bool.and_eq_true, decide_eq_true_eq] at hc
    obtain ⟨⟨⟨⟨rfl, rfl⟩, c1⟩, c2⟩, c3⟩ := hc
    unfold evE at he
    obtain ⟨⟨wa, μ1⟩, h1, he⟩ := Option.bind_eq_some_iff.mp he
    obtain ⟨⟨wb, μ2⟩, h2, he⟩ := Option.bind_eq_some_iff.mp he
    obtain ⟨dx, h3, he⟩ := Option.bind_eq_some_iff.mp he
    obtain ⟨dy, h4, he⟩ := Option.bind_eq_some_iff.mp he
    obtain ⟨r', h5, he⟩ := Option.bind_eq_some_iff.mp he
    refine t_of (pt_chain op_sem op_sem pe_sem pe_sem pe_sem (hm ct z c3)) ?_
    refine ia.w c1 F h1 so hx fun v1 G1 H1 e1 p1 r1 => ?_
    refine ib.w c2 F h2 (so.mono e1) p1 fun v2 G2 H2 e2 p2 r2 => ?_
    refine cmpV_ok F.room h5 p2.ex (peek_rel p2 (r1.mono e2) h3) (peek_rel p2 r2 h4) ⟨_, rfl, ?_⟩
    cases r' with
    | false =>
      cases he
      cases hn
      cases hpk
      cases htr
      exact ⟨_, rfl, q G2 H2 (e1.trans e2) p2⟩
    | true =>
      obtain ⟨⟨wc, μ3⟩, h6, he⟩ := Option.bind_eq_some_iff.mp he
      obtain ⟨dy', h7, he⟩ := Option.bind_eq_some_iff.mp he
      obtain ⟨dz, h8, he⟩ := Option.bind_eq_some_iff.mp he
      obtain ⟨r', h9, he⟩ := Option.bind_eq_some_iff.mp he
      cases he
      cases hn
      cases hpk
      cases htr
      show semE X z σ H2 _
      refine ic.w c3 F h6 (so.mono (e1.trans e2)) p2 fun v3 G3 H3 e3 p3 r3 => ?_
      exact cmpV_ok F.room h9 p3.ex (peek_rel p3 (r2.mono e3) h7) (peek_rel p3 r3 h8) ⟨_, rfl, q G3 H3 ((e1.trans e2).trans e3) p3⟩
  · cases hc

/-! ### and, or, if -/
theorem tail_pe {op : BoolOp} {X : Cx} {y : Expr} {rest : List Expr} {pos : Pos} : ∃ t : TE, PE X (.BoolOp op (y :: rest) pos) t ∧ ∀ σ H Q, (match rest with | [] => semE X y σ H Q | _ :: _ => semE X (.BoolOp op (y :: rest) pos) σ H Q) → t σ H Q := by
  cases rest with
  | nil => exact ⟨_, pe_one pe_sem, fun _ _ _ h => h⟩
  | cons z r => exact ⟨_, pe_sem, fun _ _ _ h => h⟩
theorem pw_of {op : BoolOp} {X : Cx} {es : List Expr} {pos : Pos} : PW X (.BoolOp op es pos) (semT X (.BoolOp op es pos)) := ⟨fun whole pins s σ H Q I h => by
  have h1 : wpAny (model X.prog X.w) X.A (allTrue op es X.env) (TP X pins σ Q) X.xe s := h pins s I
  exact h1⟩
theorem snd_and {a b : E} (ia : SndE gc g k a) (ib : SndE gc g k b) : SndE gc g k (.and a b) := by
  intro ct e X hc F ρ μ r μ' he Φ π G σ H so hx Q q
  unfold chkE at hc
  split at hc
  · rename_i x y rest pos
    simp only [Bool.and_eq_true] at hc
    obtain ⟨c1, c2⟩ := hc
    unfold evE at he
    obtain ⟨⟨wa, μ1⟩, h1, he⟩ := Option.bind_eq_some_iff.mp he
    obtain ⟨dx, h3, he⟩ := Option.bind_eq_some_iff.mp he
    obtain ⟨t, h4, he⟩ := Option.bind_eq_some_iff.mp he
    obtain ⟨tt, ht, hq⟩ := tail_pe (op := .And) (X := X) (y := y) (rest := rest) (pos := pos)
    refine e_of (pe_andT pe_sem ht) ?_
    refine ia.w c1 F h1 so hx fun v1 G1 H1 e1 p1 r1 => ⟨t, truth_ok h4 p1.ex (peek_rel p1 r1 h3), ?_⟩
    cases t with
    | false =>
      cases he
      exact PostW.same (PostW.up e1 q) p1 r1
    | true =>
      refine hq σ H1 Q ?_
      cases rest with
      | nil => exact ib ct y X c2 F ρ μ1 r μ' he Φ π G1 σ H1 (so.mono e1) p1 Q (q.up e1)
      | cons z rs => exact ib ct _ X c2 F ρ μ1 r μ' he Φ π G1 σ H1 (so.mono e1) p1 Q (q.up e1)
  · cases hc
theorem snd_or {a b : E} (ia : SndE gc g k a) (ib : SndE gc g k b) : SndE gc g k (.or a b) := by
  intro ct e X hc F ρ μ r μ' he Φ π G σ H so hx Q q
  unfold chkE at hc
  split at hc
  · rename_i x y rest pos
    simp only [Bool.and_eq_true] at hc
    obtain ⟨c1, c2⟩ := hc
    unfold evE at he
    obtain ⟨⟨wa, μ1⟩, h1, he⟩ := Option.bind_eq_some_iff.mp he
    obtain ⟨dx, h3, he⟩ := Option.bind_eq_some_iff.mp he
    obtain ⟨t, h4, he⟩ := Option.bind_eq_some_iff.mp he
    obtain ⟨tt, ht, hq⟩ := tail_pe (op := .Or) (X := X) (y := y) (rest := rest) (pos := pos)
    refine e_of (pe_orT pe_sem ht) ?_
    refine ia.w c1 F h1 so hx fun v1 G1 H1 e1 p1 r1 => ⟨t, truth_ok h4 p1.ex (peek_rel p1 r1 h3), ?_⟩
    cases t with
    | true =>
      cases he
      exact PostW.same (PostW.up e1 q) p1 r1
    | false =>
      refine hq σ H1 Q ?_
      cases rest with
      | nil => exact ib ct y X c2 F ρ μ1 r μ' he Φ π G1 σ H1 (so.mono e1) p1 Q (q.up e1)
      | cons z rs => exact ib ct _ X c2 F ρ μ1 r μ' he Φ π G1 σ H1 (so.mono e1) p1 Q (q.up e1)
  · cases hc
theorem nB_of {a : E} {ρ : Rho} {μ μ' : Store} {w : W} {x : D} {t : Bool} (h1 : nW (evE g a ρ μ) = some (w, μ')) (h2 : peek μ' w = some x) (h3 : truth x = some t) : nB (evE g a ρ μ) = some (t, μ') := by
  unfold nB
  rw [h1]
  show (peek μ' w).bind _ = _
  rw [h2]
  show (truth x).bind _ = _
  rw [h3]
  rfl
theorem nB_w {w : W} {μ' : Store} {x : D} {t b : Bool} {μ2 : Store} (h2 : peek μ' w = some x) (h3 : truth x = some t) (h : nB (some (R.w w, μ')) = some (b, μ2)) : b = t ∧ μ2 = μ' := by
  have : nB (some (R.w w, μ')) = some (t, μ') := by
    show (peek μ' w).bind _ = _
    rw [h2]
    show (truth x).bind _ = _
    rw [h3]
    rfl
  rw [this] at h
  cases h
  exact ⟨rfl, rfl⟩
theorem sndB_and {a b : E} (ia : SndB gc g k a) (ib : SndB gc g k b) : SndB gc g k (.and a b) := by
  intro ct e X hc F ρ μ r μ' he Φ π G σ H so hx Q q
  unfold chkE at hc
  split at hc
  · rename_i x y rest pos
    simp only [Bool.and_eq_true] at hc
    obtain ⟨c1, c2⟩ := hc
    have he2 := he
    obtain ⟨w, xx, hw, hpk, htr⟩ := nB_bool he
    obtain ⟨⟨rr, μ0⟩, he, hn⟩ := Option.map_eq_some_iff.mp hw
    rw [he] at he2
    unfold evE at he
    obtain ⟨⟨wa, μ1⟩, h1, he⟩ := Option.bind_eq_some_iff.mp he
    obtain ⟨dx, h3, he⟩ := Option.bind_eq_some_iff.mp he
    obtain ⟨t, h4, he⟩ := Option.bind_eq_some_iff.mp he
    have fin : (t = true → semT X (match rest with | [] => y | z :: rs => .BoolOp .And (y :: z :: rs) pos) σ = semT X (match rest with | [] => y | z :: rs => .BoolOp .And (y :: z :: rs) pos) σ) := fun _ => rfl
    have tail : ∃ t' : TT, PW X (.BoolOp .And (y :: rest) pos) t' ∧ ∀ σ H Q, (match rest with | [] => semT X y σ H Q | _ :: _ => semT X (.BoolOp .And (y :: rest) pos) σ H Q) → t' σ H Q := by
      cases rest with
      | nil => exact ⟨_, pw_and1 pt_sem, fun _ _ _ h => h⟩
      | cons z r => exact ⟨_, pw_of, fun _ _ _ h => h⟩
    obtain ⟨tt, ht, hq⟩ := tail
    refine t_of (pw_and pt_sem ht).pt ?_
    refine ia ct x X c1 F ρ μ t μ1 (nB_of h1 h3 h4) Φ π G σ H so hx _ fun G1 H1 e1 p1 => ?_
    cases t with
    | false =>
      cases he
      obtain ⟨rfl, rfl⟩ := nB_w h3 h4 he2
      exact q G1 H1 e1 p1
    | true =>
      refine hq σ H1 Q ?_
      have hb : nB (evE g b ρ μ1) = some (r, μ') := by
        have he' : evE g b ρ μ1 = some (rr, μ0) := he
        rw [he']; exact he2
      cases rest with
      | nil => exact ib ct y X c2 F ρ μ1 r μ' hb Φ π G1 σ H1 (so.mono e1) p1 Q (q.up e1)
      | cons z rs => exact ib ct _ X c2 F ρ μ1 r μ' hb Φ π G1 σ H1 (so.mono e1) p1 Q (q.up e1)
  · cases hc
theorem sndB_or {a b : E} (ia : SndB gc g k a) (ib : SndB gc g k b) : SndB gc g k (.or a b) := by
  intro ct e X hc F ρ μ r μ' he Φ π G σ H so hx Q q
  unfold chkE at hc
  split at hc
  · rename_i x y rest pos
    simp only [Bool.and_eq_true] at hc
    obtain ⟨c1, c2⟩ := hc
    have he2 := he
    obtain ⟨w, xx, hw, hpk, htr⟩ := nB_bool he
    obtain ⟨⟨rr, μ0⟩, he, hn⟩ := Option.map_eq_some_iff.mp hw
    rw [he] at he2
    unfold evE at he
    obtain ⟨⟨wa, μ1⟩, h1, he⟩ := Option.bind_eq_some_iff.mp he
    obtain ⟨dx, h3, he⟩ := Option.bind_eq_some_iff.mp he
    obtain ⟨t, h4, he⟩ := Option.bind_eq_some_iff.mp he
    have tail : ∃ t' : TT, PW X (.BoolOp .Or (y :: rest) pos) t' ∧ ∀ σ H Q, (match rest with | [] => semT X y σ H Q | _ :: _ => semT X (.BoolOp .Or (y :: rest) pos) σ H Q) → t' σ H Q := by
      cases rest with
      | nil => exact ⟨_, pw_or1 pt_sem, fun _ _ _ h => h⟩
      | cons z r => exact ⟨_, pw_of, fun _ _ _ h => h⟩
    obtain ⟨tt, ht, hq⟩ := tail
    refine t_of (pw_or pt_sem ht).pt ?_
    refine ia ct x X c1 F ρ μ t μ1 (nB_of h1 h3 h4) Φ π G σ H so hx _ fun G1 H1 e1 p1 => ?_
    cases t with
    | true =>
      cases he
      obtain ⟨rfl, rfl⟩ := nB_w h3 h4 he2
      exact q G1 H1 e1 p1
    | false =>
      refine hq σ H1 Q ?_
      have hb : nB (evE g b ρ μ1) = some (r, μ') := by
        have he' : evE g b ρ μ1 = some (rr, μ0) := he
        rw [he']; exact he2
      cases rest with
      | nil => exact ib ct y X c2 F ρ μ1 r μ' hb Φ π G1 σ H1 (so.mono e1) p1 Q (q.up e1)
      | cons z rs => exact ib ct _ X c2 F ρ μ1 r μ' hb Φ π G1 σ H1 (so.mono e1) p1 Q (q.up e1)
  · cases hc
theorem sndB_not {a : E} (ia : SndB gc g k a) : SndB gc g k (.not a) := by
  intro ct e X hc F ρ μ r μ' he Φ π G σ H so hx Q q
  obtain ⟨w, xx, hw, hpk, htr⟩ := nB_bool he
  obtain ⟨⟨rr, μ0⟩, he, hn⟩ := Option.map_eq_some_iff.mp hw
  unfold chkE at hc
  split at hc
  · rename_i x pos
    unfold evE at he
    obtain ⟨⟨b, μ1⟩, h1, he⟩ := Option.bind_eq_some_iff.mp he
    cases he
    cases hn
    cases hpk
    cases htr
    refine t_of (pt_not pt_sem) ?_
    exact ia ct x X hc F ρ μ b _ h1 Φ π G σ H so hx (fun c H1 => Q (!c) H1) q
  · cases hc
theorem snd_ife {t a b : E} (it : SndB gc g k t) (ia : SndE gc g k a) (ib : SndE gc g k b) : SndE gc g k (.ife t a b) := by
  intro ct e X hc F ρ μ r μ' he Φ π G σ H so hx Q q
  unfold chkE at hc
  split at hc
  · rename_i x y z pos
    simp only [Bool.and_eq_true] at hc
    obtain ⟨⟨c1, c2⟩, c3⟩ := hc
    unfold evE at he
    obtain ⟨⟨b', μ1⟩, h1, he⟩ := Option.bind_eq_some_iff.mp he
    refine e_of (pe_ifExp pt_sem pe_sem pe_sem) ?_
    refine it ct x X c1 F ρ μ b' μ1 h1 Φ π G σ H so hx _ fun G1 H1 e1 p1 => ?_
    cases b' with
    | true => exact ia ct y X c2 F ρ μ1 r μ' he Φ π G1 σ H1 (so.mono e1) p1 Q (q.up e1)
    | false => exact ib ct z X c3 F ρ μ1 r μ' he Φ π G1 σ H1 (so.mono e1) p1 Q (q.up e1)
  · cases hc
theorem pt_ifExp {X : Cx} {c a b : Expr} {pos : Pos} {tc ta tb : TT} (hc : PT X c tc) (ha : PT X a ta) (hb : PT X b tb) : PT X (.IfExp c a b pos) (fun σ H Q => tc σ H fun k H1 => if k = true then ta σ H1 Q else tb σ H1 Q) := ⟨fun pins s σ H Q I h => by
  refine isTrue_IfExp (thn (hc.run pins s σ H _ I h) fun d s1 ⟨H1, I1, q1⟩ => ?_)
  cases d with
  | true => exact ha.run pins s1 σ H1 Q I1 q1
  | false => exact hb.run pins s1 σ H1 Q I1 q1⟩
theorem sndB_ife {t a b : E} (it : SndB gc g k t) (ia : SndB gc g k a) (ib : SndB gc g k b) : SndB gc g k (.ife t a b) := by
  intro ct e X hc F ρ μ r μ' he Φ π G σ H so hx Q q
  have he2 := he
  obtain ⟨w, xx, hw, hpk, htr⟩ := nB_bool he
  obtain ⟨⟨rr, μ0⟩, he, hn⟩ := Option.map_eq_some_iff.mp hw
  rw [he] at he2
  unfold chkE at hc
  split at hc
  · rename_i x y z pos
    simp only [Bool.and_eq_true] at hc
    obtain ⟨⟨c1, c2⟩, c3⟩ := hc
    unfold evE at he
    obtain ⟨⟨b', μ1⟩, h1, he⟩ := Option.bind_eq_some_iff.mp he
    refine t_of (pt_ifExp pt_sem pt_sem pt_sem) ?_
    refine it ct x X c1 F ρ μ b' μ1 h1 Φ π G σ H so hx _ fun G1 H1 e1 p1 => ?_
    cases b' with
    | true =>
      have he' : evE g a ρ μ1 = some (rr, μ0) := he
      exact ia ct y X c2 F ρ μ1 r μ' (by rw [he']; exact he2) Φ π G1 σ H1 (so.mono e1) p1 Q (q.up e1)
    | false =>
      have he' : evE g b ρ μ1 = some (rr, μ0) := he
      exact ib ct z X c3 F ρ μ1 r μ' (by rw [he']; exact he2) Φ π G1 σ H1 (so.mono e1) p1 Q (q.up e1)
  · cases hc
end
end Mini
end
section
set_option autoImplicit false
set_option Elab.async false
set_option linter.all false
set_option maxRecDepth 100000
set_option maxHeartbeats 2000000
namespace Mini
open PySem PySem.Spec PyProof.Rows L2 Evl
section
variable {gc : Gc} {g : Ge} {k : Nat}

/-! ### what is no star -/
def notStar : Expr → Bool
  | .Starred _ _ => false
  | _ => true
theorem chk_star {a : E} {ct : Ct} {e : Expr} (h : chkE gc a ct e = true) : notStar e = true := by
  cases e <;> first | rfl | (cases a <;> simp [chkE] at h)
theorem star_cons {e : Expr} {es : List Expr} {env : PySem.Env} (h : notStar e = true) : starEach (e :: es) env = (false, eval e env) :: starEach es env := by
  cases e <;> first | rfl | cases h
theorem chk_stars : ∀ {as : Es} {ct : Ct} {es : List Expr} {pos : Pos} {env : PySem.Env}, chkEs gc as ct es = true → (backTo pos (starEach es env)).any (·.1) = false
  | .nil, _, es, _, _, h => by
    cases es with
    | nil => rfl
    | cons _ _ => simp [chkEs] at h
  | .cons a as, ct, es, pos, env, h => by
    cases es with
    | nil => simp [chkEs] at h
    | cons e es =>
      simp only [chkEs, Bool.and_eq_true] at h
      rw [star_cons (chk_star h.1)]
      have ih := chk_stars (pos := pos) (env := env) h.2
      show (false || (backTo pos (starEach es env)).any (·.1)) = false
      rw [ih]; rfl
theorem star1 {e : Expr} {pos : Pos} {env : PySem.Env} (h : notStar e = true) : (backTo pos (starEach [e] env)).any (·.1) = false := by
  rw [star_cons h]; rfl
theorem snd_es_nil : SndEs gc g k .nil := by
  intro ct e X hc F ρ μ r μ' he Φ π G σ H so hx Q q
  cases e with
  | nil =>
    cases he
    exact a_of pa_nil (q [] G H (Ex.refl G) hx .nil)
  | cons _ _ => simp [chkEs] at hc
theorem snd_es_cons {a : E} {as : Es} (ia : SndE gc g k a) (ias : SndEs gc g k as) : SndEs gc g k (.cons a as) := by
  intro ct e X hc F ρ μ r μ' he Φ π G σ H so hx Q q
  cases e with
  | nil => simp [chkEs] at hc
  | cons x xs =>
    simp only [chkEs, Bool.and_eq_true] at hc
    unfold evEs at he
    obtain ⟨⟨w, μ1⟩, h1, he⟩ := Option.bind_eq_some_iff.mp he
    obtain ⟨⟨ws, μ2⟩, h2, he⟩ := Option.bind_eq_some_iff.mp he
    cases he
    refine a_of (pa_cons pe_sem pa_sem (star_cons (chk_star hc.1))) ?_
    refine ia.w hc.1 F h1 so hx fun v1 G1 H1 e1 p1 r1 => ?_
    refine ias ct xs X hc.2 F ρ μ1 ws _ h2 Φ π G1 σ H1 (so.mono e1) p1 _ fun vs G2 H2 e2 p2 r2 => ?_
    exact q (v1 :: vs) G2 H2 (e1.trans e2) p2 (.cons (r1.mono e2) r2)
theorem toDs {K : PySem.W.Frag} {π : List Addr} {G : Hp} : ∀ {vs : List V} {ws : List W} {ds : List D}, RelWs K π G vs ws → ws.mapM W.toD = some ds → RepAll K G vs ds
  | _, _, ds, .nil, e => by cases e; exact .nil
  | _, _, ds, .cons (b := w) (l₂ := ws) r rs, e => by
    rw [List.mapM_cons] at e
    obtain ⟨d, h1, e⟩ := Option.bind_eq_some_iff.mp e
    obtain ⟨ds', h2, e⟩ := Option.bind_eq_some_iff.mp e
    cases e
    exact .cons (toD_rel r h1) (toDs rs h2)
theorem snd_tup {as : Es} (ia : SndEs gc g k as) : SndE gc g k (.tup as) := by
  intro ct e X hc F ρ μ r μ' he Φ π G σ H so hx Q q
  unfold chkE at hc
  split at hc
  · rename_i es kk pos
    unfold evE at he
    obtain ⟨⟨ws, μ1⟩, h1, he⟩ := Option.bind_eq_some_iff.mp he
    obtain ⟨ds, h2, he⟩ := Option.bind_eq_some_iff.mp he
    split at he
    · rename_i hz
      cases he
      refine e_of (pe_tup pa_sem) ?_
      refine ia ct es X hc F ρ μ ws _ h1 Φ π G σ H so hx _ fun vs G1 H1 e1 p1 r1 => ?_
      have rr := toDs r1 h2
      exact ⟨by rw [rr.length]; exact sz_of hz, fun p hp => PostW.newT (K := X.K) q e1 p1 hp rr⟩
    · cases he
  · cases hc
theorem snd_lst {as : Es} (ia : SndEs gc g k as) : SndE gc g k (.lst as) := by
  intro ct e X hc F ρ μ r μ' he Φ π G σ H so hx Q q
  unfold chkE at hc
  split at hc
  · rename_i es pos
    unfold evE at he
    obtain ⟨⟨ws, μ1⟩, h1, he⟩ := Option.bind_eq_some_iff.mp he
    obtain ⟨ds, h2, he⟩ := Option.bind_eq_some_iff.mp he
    split at he
    · rename_i hz
      cases he
      refine e_of (pe_lst pa_sem) ?_
      refine ia ct es X hc F ρ μ ws _ h1 Φ π G σ H so hx _ fun vs G1 H1 e1 p1 r1 => ?_
      have rr := toDs r1 h2
      exact ⟨by rw [rr.length]; exact sz_of hz, fun p hp => PostF.new (K := X.K) q e1 p1 hp rr⟩
    · cases he
  · cases hc

/-! ### calls -/
theorem pe_callG {X : Cx} {f : Addr} {fd : FuncData} {ps : List Str} {sp : SpF} {x : Str} {p pos : Pos} {e : Expr} {es : List Expr} {t : TA} (F : FnG X.prog X.w X.K X.mg X.base k f fd ps sp) (hr : Room k X.A) (gu : X.A.guards = some []) (hg : Gl X x) (hm : X.mg x = some (.ref f))
    (hk : PySem.W.keepIn X.K (.ref f) = true) (hb : Binds X.K fd ps []) (nox : X.xe = fun _ _ => False) (ha : PA X (e :: es) t) (hdb : (x == ("__debug__" : Str)) = false) (he : starEach (e :: es) X.env = (false, eval e X.env) :: starEach es X.env)
    (hpl : (backTo pos (starEach es X.env)).any (·.1) = false) : PE X (.Call (.Name x p) (e :: es) [] pos) (fun σ H Q => t σ H fun vs H1 => vs.length = ps.length ∧ sp vs H1 Q) := by
  refine ⟨fun pins s σ H Q I h => wpAny_Call_Name_kw (ld_glob I hg hm ?_ hdb)⟩
  refine PySem.W.callWith_K (h₀ := X.base) I.ok.mod.kin hk (thn (ha.run pos pins s σ H _ I h) fun us s1 ⟨vs, H1, I1, rv, hl, q⟩ => ⟨I1.kIn, ?_⟩) he hpl
  have hlu : (us ++ []).length = ps.length := by rw [List.append_nil, ← rv.length]; exact hl
  have hbd := hb s1 us I1.kIn hlu
  rw [List.append_nil] at hbd
  refine wpAny_call (codeAny_mono (F.run X.A X.stack s1 H1 _ us vs Q hr gu I1.env0 hbd rv hl q) fun r s' hq => ?_)
  match r, hq with
  | .error _, hq => exact False.elim hq
  | .ok (.ret u), hq => exact I1.after hq
  | .ok .next, hq => exact False.elim hq
  | .ok .brk, hq => exact False.elim hq
  | .ok .cont, hq => exact False.elim hq
theorem snd_call {f : Nat} {as : Es} (ia : SndEs gc g k as) : SndE gc g k (.call f as) := by
  intro ct e X hc F ρ μ r μ' he Φ π G σ H so hx Q q
  unfold chkE at hc
  split at hc
  · rename_i x p y es pos
    simp only [Bool.and_eq_true, decide_eq_true_eq] at hc
    obtain ⟨⟨⟨h1, h2⟩, h3⟩, h4⟩ := hc
    obtain ⟨d1, d2, d3⟩ := okN_d h3
    unfold evE at he
    obtain ⟨⟨ws, μ1⟩, h5, he⟩ := Option.bind_eq_some_iff.mp he
    obtain ⟨fa, fd, ps, hm, hk, hb, FN, har⟩ := F.fn f x h1
    have hst : notStar y = true ∧ ∀ pos, (backTo pos (starEach es X.env)).any (·.1) = false := by
      cases as with
      | nil => simp [chkEs] at h4
      | cons a as =>
        simp only [chkEs, Bool.and_eq_true] at h4
        exact ⟨chk_star h4.1, fun pos => chk_stars h4.2⟩
    refine e_of (pe_callG FN F.room F.gu (F.gl_ h2) hm hk hb F.nox pa_sem d1 (star_cons hst.1) (hst.2 _)) ?_
    refine ia ct _ X h4 F ρ μ ws _ h5 Φ π G σ H so hx _ fun vs G1 H1 e1 p1 r1 => ⟨?_, ?_⟩
    · rw [Paired.length r1]; exact har ws μ1 _ he
    · exact ⟨Φ, π, μ1, G1, ws, r, μ', p1, r1, he, q.up e1⟩
  · cases hc
theorem boot_b1 (n : B1) : bootBuiltins (b1N n) = some (b1F n) := by
  cases n <;> decide +kernel
theorem boot_b2 (n : B2) : bootBuiltins (b2N n) = some (b2F n) := by
  cases n <;> decide +kernel
/-- a built-in called, whatever it is -/
theorem pe_bltG {X : Cx} {f : Value} {x : Str} {p pos : Pos} {e : Expr} {es : List Expr} {t : TA} (hf : (∃ id, f = .builtin id) ∨ ∃ T, f = .type T) (hg : Gl X x) (hm : X.mg x = none) (hv : bootBuiltins x = some f) (ha : PA X (e :: es) t) (hn : x ≠ "__name__") (hdb : (x == ("__debug__" : Str)) = false)
    (he : starEach (e :: es) X.env = (false, eval e X.env) :: starEach es X.env) (hpl : (backTo pos (starEach es X.env)).any (·.1) = false) : PE X (.Call (.Name x p) (e :: es) [] pos) (tCB (semC X f) t) := by
  rcases hf with ⟨id, rfl⟩ | ⟨T, rfl⟩
  · exact pe_callB call_sem hg hm hv ha hn hdb he hpl
  · exact pe_callTy call_sem hg hm hv ha hn hdb he hpl
theorem b1F_kind (n : B1) : (∃ id, b1F n = .builtin id) ∨ ∃ T, b1F n = .type T := by
  cases n <;> first | exact .inl ⟨_, rfl⟩ | exact .inr ⟨_, rfl⟩
theorem b2F_kind (n : B2) : (∃ id, b2F n = .builtin id) ∨ ∃ T, b2F n = .type T := by
  cases n <;> first | exact .inl ⟨_, rfl⟩ | exact .inr ⟨_, rfl⟩
theorem snd_b1 {n : B1} {a : E} (ia : SndE gc g k a) : SndE gc g k (.b1 n a) := by
  intro ct e X hc F ρ μ r μ' he Φ π G σ H so hx Q q
  unfold chkE at hc
  split at hc
  · rename_i x p y pos
    simp only [Bool.and_eq_true, decide_eq_true_eq] at hc
    obtain ⟨⟨⟨⟨rfl, h2⟩, h3⟩, h4⟩, h5⟩ := hc
    obtain ⟨d1, d2, d3⟩ := okN_d h4
    unfold evE at he
    obtain ⟨⟨w, μ1⟩, h6, he⟩ := Option.bind_eq_some_iff.mp he
    obtain ⟨d, h7, he⟩ := Option.bind_eq_some_iff.mp he
    obtain ⟨r', h8, he⟩ := Option.bind_eq_some_iff.mp he
    cases he
    refine e_of (pe_bltG (b1F_kind n) (F.gl_ h3) (F.bl _ h2) (boot_b1 n) (pa_cons pe_sem pa_nil (star_cons (chk_star h5))) d3 d1 (star_cons (chk_star h5)) rfl) ?_
    refine ia.w h5 F h6 so hx fun v1 G1 H1 e1 p1 r1 => ?_
    exact b1V_ok F.calm F.room F.gu h8 p1 (peek_rel p1 r1 h7) (q.up e1)
  · cases hc
theorem snd_b2 {n : B2} {a b : E} (ia : SndE gc g k a) (ib : SndE gc g k b) : SndE gc g k (.b2 n a b) := by
  intro ct e X hc F ρ μ r μ' he Φ π G σ H so hx Q q
  unfold chkE at hc
  split at hc
  · rename_i x p y z pos
    simp only [Bool.and_eq_true, decide_eq_true_eq] at hc
    obtain ⟨⟨⟨⟨⟨rfl, h2⟩, h3⟩, h4⟩, h5⟩, h5'⟩ := hc
    obtain ⟨d1, d2, d3⟩ := okN_d h4
    unfold evE at he
    obtain ⟨⟨w, μ1⟩, h6, he⟩ := Option.bind_eq_some_iff.mp he
    obtain ⟨⟨w', μ2⟩, h6', he⟩ := Option.bind_eq_some_iff.mp he
    obtain ⟨d, h7, he⟩ := Option.bind_eq_some_iff.mp he
    obtain ⟨d', h7', he⟩ := Option.bind_eq_some_iff.mp he
    obtain ⟨r', h8, he⟩ := Option.bind_eq_some_iff.mp he
    cases he
    refine e_of (pe_bltG (b2F_kind n) (F.gl_ h3) (F.bl _ h2) (boot_b2 n) (pa_cons pe_sem (pa_cons pe_sem pa_nil (star_cons (chk_star h5'))) (star_cons (chk_star h5))) d3 d1 (star_cons (chk_star h5)) (star1 (chk_star h5'))) ?_
    refine ia.w h5 F h6 so hx fun v1 G1 H1 e1 p1 r1 => ?_
    refine ib.w h5' F h6' (so.mono e1) p1 fun v2 G2 H2 e2 p2 r2 => ?_
    exact b2V_ok F.calm h8 p2 ((toD_rel r1 h7).mono e2) (toD_rel r2 h7') (q.up (e1.trans e2))
  · cases hc
theorem boot_tn (n : Tn) : bootBuiltins (Str.ofString n.nm) = some (.type n.nm) := by
  cases n <;> decide +kernel
theorem snd_isi {n : Tn} {a : E} (ia : SndE gc g k a) : SndE gc g k (.isi a n) := by
  intro ct e X hc F ρ μ r μ' he Φ π G σ H so hx Q q
  unfold chkE at hc
  split at hc
  · rename_i x p y t p2 pos
    simp only [Bool.and_eq_true, decide_eq_true_eq] at hc
    obtain ⟨⟨⟨⟨⟨⟨⟨⟨rfl, h2⟩, h3⟩, h4⟩, h5⟩, rfl⟩, h6⟩, h7⟩, h8⟩ := hc
    obtain ⟨d1, d2, d3⟩ := okN_d h4
    obtain ⟨f1, f2, f3⟩ := okN_d h8
    unfold evE at he
    obtain ⟨⟨w, μ1⟩, h9, he⟩ := Option.bind_eq_some_iff.mp he
    obtain ⟨d, h10, he⟩ := Option.bind_eq_some_iff.mp he
    cases he
    have pt : PE X (.Name (Str.ofString n.nm) p2) (tC (.ty n.nm)) := pe_bltn (F.gl_ h7) (F.bl _ h6) (boot_tn n) rfl f3 f1
    refine e_of (pe_bltG (f := .builtin "isinstance") (.inl ⟨_, rfl⟩) (F.gl_ h3) (F.bl _ h2) (by decide +kernel) (pa_cons pe_sem (pa_cons pt pa_nil (star_cons rfl)) (star_cons (chk_star h5))) d3 d1 (star_cons (chk_star h5)) (star1 rfl)) ?_
    refine ia.w h5 F h9 so hx fun v1 G1 H1 e1 p1 r1 => ?_
    exact isiV_ok p1.ex (toD_rel r1 h10) ((q.up e1).flat p1 (.bl _))
  · cases hc

/-! ### places, slices -/
def notSlice : Expr → Bool
  | .Slice _ _ _ _ => false
  | _ => true
theorem chk_slice {a : E} {ct : Ct} {e : Expr} (h : chkE gc a ct e = true) : notSlice e = true := by
  cases e <;> first | rfl | (cases a <;> simp [chkE] at h)
theorem plain_ix {e : Expr} (h : notSlice e = true) : PlainIx e := by
  cases e <;> first | (intro _ _; rfl) | cases h
theorem ix_sem {X : Cx} : IxR X (fun x y H Q => ∀ slice, semX X slice x y H Q) := fun value slice pins s σ H x y v u Q I r1 r2 h hs => h slice value pins s σ v u I r1 r2 hs
theorem x_of {X : Cx} {r : R2} {x y : V} {H : Hp} {Q : VK} (h : IxR X r) (q : r x y H Q) : ∀ slice, semX X slice x y H Q := fun slice value pins s σ v u I r1 r2 hs => h value slice pins s σ H x y v u Q I r1 r2 q hs
theorem ixV_ok {X : Cx} {x i d : D} {v v' : V} {G H : Hp} {Q : VK} (e : ixV x i = some d) (ex : Ex G H) (rx : PkRep X.K G H v x) (ri : Rep X.K G v' i) (q : ∀ w, Rep X.K G w d → Q w H) : ∀ slice, semX X slice v v' H Q := by
  unfold ixV at e
  split at e
  · cases ri
    obtain ⟨a, xs, rfl, h1, h2⟩ := rx.list ex
    obtain ⟨w, h3, h4⟩ := RepAll.atI (X := X) h2 e
    exact x_of ix_list ⟨a, xs, _, w, rfl, rfl, h1, h3, q w h4⟩
  · cases ri
    obtain ⟨a, xs, rfl, h1, h2⟩ := rx.tuple ex
    obtain ⟨w, h3, h4⟩ := RepAll.atI (X := X) h2 e
    exact x_of ix_tup ⟨a, xs, _, w, rfl, rfl, h1, h3, q w h4⟩
  · cases e
theorem snd_ix {a i : E} (ia : SndE gc g k a) (ii : SndE gc g k i) : SndE gc g k (.ix a i) := by
  intro ct e X hc F ρ μ r μ' he Φ π G σ H so hx Q q
  unfold chkE at hc
  split at hc
  · rename_i x y pos
    simp only [Bool.and_eq_true] at hc
    unfold evE at he
    obtain ⟨⟨wa, μ1⟩, h1, he⟩ := Option.bind_eq_some_iff.mp he
    obtain ⟨⟨wb, μ2⟩, h2, he⟩ := Option.bind_eq_some_iff.mp he
    obtain ⟨dx, h3, he⟩ := Option.bind_eq_some_iff.mp he
    obtain ⟨dy, h4, he⟩ := Option.bind_eq_some_iff.mp he
    obtain ⟨r', h5, he⟩ := Option.bind_eq_some_iff.mp he
    cases he
    refine e_of (pe_ix ix_sem pe_sem pe_sem (plain_ix (chk_slice hc.2))) ?_
    refine ia.w hc.1 F h1 so hx fun v1 G1 H1 e1 p1 r1 => ?_
    refine ii.w hc.2 F h2 (so.mono e1) p1 fun v2 G2 H2 e2 p2 r2 => ?_
    exact ixV_ok h5 p2.ex (peek_rel p2 (r1.mono e2) h3) (toD_rel r2 h4) fun w hw => (q.up (e1.trans e2)).flat p2 hw
  · cases hc
def semL (X : Cx) : V → Option Int → Option Int → Hp → VK → Prop := fun x lo hi H Q => ∀ (pins : List (Addr × Obj)) (s : Shared) (σ : L2.St) (v vl vu : Value) (sl : Addr), Inv X pins σ H s → RelV x v → s.heap.IsSliceOf sl vl vu .none → IsPart vl lo → IsPart vu hi →
    ∃ T id, typeLookup (.type T) "__getitem__" = pure (some (.builtin id)) ∧ s.TypeIs v T ∧ wpAny (model X.prog X.w) X.A (getItem v (.ref sl)) (EP X pins σ Q) X.xe s
theorem sl_sem {X : Cx} : SlR X (semL X) := fun pins s σ H x v vl vu lo hi sl Q I r1 h1 h2 h3 h => h pins s σ v vl vu sl I r1 h1 h2 h3
theorem l_of {X : Cx} {r : V → Option Int → Option Int → Hp → VK → Prop} {x : V} {lo hi : Option Int} {H : Hp} {Q : VK} (h : SlR X r) (q : r x lo hi H Q) : semL X x lo hi H Q := fun pins s σ v vl vu sl I r1 h1 h2 h3 => h pins s σ H x v vl vu lo hi sl Q I r1 h1 h2 h3 q
theorem cut_all {ds : List D} {lo hi : Option Int} (h : HT.sIx ds.length 0 lo = 0 ∧ HT.sIx ds.length ds.length hi = ds.length) : cutD ds lo hi = ds := by
  unfold cutD
  rw [h.1, h.2]
  simp
theorem slV_ok {X : Cx} {x : D} {lo hi : Option Int} {r : R} {v : V} {Φ : Hp} {π : List Addr} {μ : Store} {G H : Hp} {Q : VK} (e : slV x lo hi = some r) (hx : Hpx X.K Φ π μ G H) (rx : PkRep X.K G H v x) (q : PostR X.K Φ π G r μ Q) : semL X v lo hi H Q := by
  unfold slV at e
  split at e
  · cases e
    obtain ⟨a, xs, rfl, h1, h2⟩ := rx.list hx.ex
    exact l_of sl_list ⟨a, xs, rfl, h1, fun p hp => PostF.new (K := X.K) q (Ex.refl G) hx hp (cut_rep h2)⟩
  · cases e
    rcases rx with rx | ⟨_, _, _, _, e', _⟩
    · cases rx with
      | @tup a xs ds h1 h2 =>
        refine l_of sl_tupA ⟨a, xs, rfl, ex_t hx.ex h1, fun hw => ?_, fun hw p hp => PostW.newT (K := X.K) q (Ex.refl G) hx hp (cut_rep h2)⟩
        rw [h2.length] at hw
        refine q.flat hx ?_
        rw [cut_all hw]
        exact .tup h1 h2
    · cases e'
  · cases e
theorem snd_no : SndEo gc g k .no := by
  intro ct e X hc F ρ μ o i μ' he hi Φ π G σ H so hx Q q
  cases e with
  | none =>
    cases he
    cases hi
    exact o_of po_none (q G H (Ex.refl G) hx)
  | some _ => simp [chkEo] at hc
theorem snd_so {a : E} (ia : SndE gc g k a) : SndEo gc g k (.so a) := by
  intro ct e X hc F ρ μ o i μ' he hi Φ π G σ H so hx Q q
  cases e with
  | none => simp [chkEo] at hc
  | some x =>
    have hc : chkE gc a ct x = true := hc
    unfold evEo at he
    obtain ⟨⟨w, μ1⟩, h1, he⟩ := Option.bind_eq_some_iff.mp he
    obtain ⟨d, h2, he⟩ := Option.bind_eq_some_iff.mp he
    cases he
    refine o_of (po_some pe_sem) ?_
    refine ia.w hc F h1 so hx fun v1 G1 H1 e1 p1 r1 => ?_
    unfold optInt at hi
    split at hi
    · rename_i z; cases z
    · rename_i j z
      cases z
      cases hi
      cases toD_rel r1 h2
      exact ⟨_, rfl, q G1 H1 e1 p1⟩
    · cases hi
theorem snd_sl {a : E} {lo hi : Eo} (ia : SndE gc g k a) (il : SndEo gc g k lo) (ih : SndEo gc g k hi) : SndE gc g k (.sl a lo hi) := by
  intro ct e X hc F ρ μ r μ' he Φ π G σ H so hx Q q
  unfold chkE at hc
  split at hc
  · rename_i x l h p2 pos
    simp only [Bool.and_eq_true] at hc
    obtain ⟨⟨c1, c2⟩, c3⟩ := hc
    unfold evE at he
    obtain ⟨⟨wa, μ1⟩, h1, he⟩ := Option.bind_eq_some_iff.mp he
    obtain ⟨⟨ol, μ2⟩, h2, he⟩ := Option.bind_eq_some_iff.mp he
    obtain ⟨⟨oh, μ3⟩, h3, he⟩ := Option.bind_eq_some_iff.mp he
    obtain ⟨dx, h4, he⟩ := Option.bind_eq_some_iff.mp he
    obtain ⟨l', h5, he⟩ := Option.bind_eq_some_iff.mp he
    obtain ⟨h', h6, he⟩ := Option.bind_eq_some_iff.mp he
    obtain ⟨r', h7, he⟩ := Option.bind_eq_some_iff.mp he
    cases he
    refine e_of (pe_slice sl_sem pe_sem po_sem po_sem) ?_
    refine ia.w c1 F h1 so hx fun v1 G1 H1 e1 p1 r1 => ?_
    refine il ct l X c2 F ρ μ1 ol l' μ2 h2 h5 Φ π G1 σ H1 (so.mono e1) p1 _ fun G2 H2 e2 p2 => ?_
    refine ih ct h X c3 F ρ μ2 oh h' _ h3 h6 Φ π G2 σ H2 (so.mono (e1.trans e2)) p2 _ fun G3 H3 e3 p3 => ?_
    exact slV_ok h7 p3 (peek_rel p3 (r1.mono (e2.trans e3)) h4) (q.up ((e1.trans e2).trans e3))
  · cases hc
end
end Mini
end
section
set_option autoImplicit false
set_option Elab.async false
set_option linter.all false
set_option maxRecDepth 100000
set_option maxHeartbeats 2000000
/-! MH: what is walked. -/
namespace Mini
open PySem PySem.Spec PyProof.Rows L2 Evl

/-- a list (false) or a tuple (true) that is read -/
def Sq (fl : Bool) (K : PySem.W.Frag) (H : Hp) (a : Addr) (xs : List V) : Prop := match fl with
  | true => SqT K H a xs
  | false => SqL K H a xs
def ItAt (fl : Bool) (h : Heap) (it a : Addr) (i : Nat) : Prop := match fl with
  | true => h.IsTupleIter it a i
  | false => h.IsListIter it a i
def SqAt (fl : Bool) (h : Heap) (a : Addr) (vs : Array Value) : Prop := match fl with
  | true => h.IsTuple a vs
  | false => h.IsList a vs
def itO (fl : Bool) (a : Addr) : Obj := match fl with
  | true => { cls := .type "tuple_iterator", data := .fields #[.ref a, .int 0 0] }
  | false => { cls := .type "list_iterator", data := .fields #[.ref a, .int 0 0] }
section
variable {fl : Bool} {K : PySem.W.Frag} {H H' : Hp} {a it : Addr} {xs ys : List V} {h h' : Heap} {i : Nat}
theorem Sq.ex (e : Ex H H') (s : Sq fl K H a xs) : Sq fl K H' a xs := by
  cases fl
  · exact ex_l e s
  · exact ex_t e s
theorem Sq.read {X : Cx} {pins : List (Addr × Obj)} {σ : L2.St} {s : Shared} (I : Inv X pins σ H s) (q : Sq fl X.K H a xs) : ∃ its : List Value, Vals xs its ∧ SqAt fl s.heap a its.toArray ∧ xs.length ≤ sizeLine ∧ a < s.heap.objs.size := by
  cases fl
  · obtain ⟨its, r, p, z⟩ := I.list q
    have pl := p.isList
    obtain ⟨o, e, _⟩ := id pl
    exact ⟨its, r, pl, z, Heap.lt_size e⟩
  · obtain ⟨its, r, p, z⟩ := I.tuple q
    obtain ⟨o, e, _⟩ := id p
    exact ⟨its, r, p, z, Heap.lt_size e⟩
theorem Sq.inj {X : Cx} {pins : List (Addr × Obj)} {σ : L2.St} {s : Shared} (I : Inv X pins σ H s) (q : Sq fl X.K H a xs) (q' : Sq fl X.K H a ys) : xs = ys := by
  cases fl
  · exact I.list_inj q q'
  · exact I.tuple_inj q q'
theorem ItAt.keep (s : ItAt fl h it a i) (k : ∀ o, h.get? it = some o → h'.get? it = some o) : ItAt fl h' it a i := by
  cases fl
  · exact Heap.IsListIter.at s k
  · exact Heap.IsTupleIter.at s k
theorem ItAt.there (s : ItAt fl h it a i) : ∃ o, h.get? it = some o ∧ ∀ v, o.data ≠ .cell v := by
  cases fl
  · obtain ⟨o, e, c, d⟩ := s
    exact ⟨o, e, fun v z => by rw [d] at z; cases z⟩
  · obtain ⟨o, e, c, d⟩ := s
    exact ⟨o, e, fun v z => by rw [d] at z; cases z⟩
theorem ItAt.new (e : h.get? it = some (itO fl a)) : ItAt fl h it a 0 := by
  cases fl
  · exact ⟨_, e, rfl, rfl⟩
  · exact ⟨_, e, rfl, rfl⟩
theorem drawsF (fl : Bool) {prog : Program} {w : World} {A : Around} (hh : A.handled = none) (it a : Addr) (hne : a ≠ it) (items : Array Value) :
    Draws prog w A it [it, a] items.size (fun i v => items[i]? = some v) (fun i h => ItAt fl h it a i ∧ SqAt fl h a items) := by
  cases fl
  · exact Draws.list hh it a hne items
  · exact Draws.tuple hh it a hne items
theorem beginsF (fl : Bool) (a : Addr) (items : Array Value) : Begins (.ref a) (itO fl a) fun h => SqAt fl h a items := by
  cases fl
  · exact begins_list a items
  · exact begins_tuple a items
end

def ItzF (f1 f2 : Bool) (K : PySem.W.Frag) (a b : Addr) : It :=
  ⟨fun i H => ∃ (xs ys : List V) (x y : V), Sq f1 K H a xs ∧ Sq f2 K H b ys ∧ xs[i]? = some x ∧ ys[i]? = some y,
    fun i H v H' => ∃ T x y, v = .ref T ∧ H T = none ∧ H' = upd H T (.tup [x, y]) ∧ (∀ xs, Sq f1 K H a xs → xs[i]? = some x) ∧ ∀ ys, Sq f2 K H b ys → ys[i]? = some y,
    fun i H => ∃ xs ys : List V, Sq f1 K H a xs ∧ Sq f2 K H b ys ∧ i = min xs.length ys.length⟩
theorem mem5 {z TI TO i1 i2 c : Addr} (h : c ∈ [z, TI, TO, i1, i2]) : c = z ∨ c = TI ∨ c = TO ∨ c = i1 ∨ c = i2 := by simpa using h
theorem turn_zipF {f1 f2 : Bool} {P : Program} {w : World} {K : PySem.W.Frag} {elts : List Expr} {kk : Nat} {tpos : Pos} {a b z TI TO i1 i2 : Addr} (D : ZipSep2 z TI TO i1 i2 [i1, a] [i2, b]) (na : a ≠ i1) (nb : b ≠ i2) :
    Turn P w K (.Tuple elts kk tpos) (ItzF f1 f2 K a b) [z, TI, TO, i1, i2] z (fun i h => IsZip h z TI TO .none ∧ IsTupOf2 h TI (.ref i1) (.ref i2) ∧ (∃ a1 a2, IsTupOf2 h TO a1 a2) ∧ ItAt f1 h i1 a i ∧ ItAt f2 h i2 b i) where
  mem := by simp
  obj := fun i h st c hc => by
    obtain ⟨hz, hTI, ⟨x, y, hTO⟩, h1, h2⟩ := st
    rcases mem5 hc with q | q | q | q | q
    · rw [q]; exact ⟨_, hz, fun v q => nomatch q⟩
    · rw [q]; exact ⟨_, hTI, fun v q => nomatch q⟩
    · rw [q]; exact ⟨_, hTO, fun v q => nomatch q⟩
    · rw [q]; exact h1.there
    · rw [q]; exact h2.there
  keep := fun i h h' st k => by
    obtain ⟨hz, hTI, ⟨x, y, hTO⟩, h1, h2⟩ := st
    exact ⟨k z (by simp) _ hz, k TI (by simp) _ hTI, ⟨x, y, k TO (by simp) _ hTO⟩, h1.keep fun o q => k i1 (by simp) o q, h2.keep fun o q => k i2 (by simp) o q⟩
  item := by
    intro X hP hw hK hc i pins s σ H E I hf st hg
    subst hP hw hK
    obtain ⟨hz, hTI, ⟨x0, y0, hTO⟩, h1, h2⟩ := st
    obtain ⟨xs, ys, x, y, hqx, hqy, hx, hy⟩ := hg
    obtain ⟨its, rv, p, _, la⟩ := hqx.read I
    obtain ⟨its2, rv2, p2, _, lb⟩ := hqy.read I
    obtain ⟨u, hu, ru⟩ := rv.get hx
    obtain ⟨u2, hu2, ru2⟩ := rv2.get hy
    have W := GoesN.zip2 (prog := X.prog) (w := X.w) (A := X.A) (elts := elts) (x1 := kk) (pos := tpos) D (drawsF f1 (A := X.A.in1) (I.ok.hd hc) i1 a na its.toArray) (drawsF f2 (A := X.A.in1) (I.ok.hd hc) i2 b nb its2.toArray)
    have hi : i < min its.toArray.size its2.toArray.size := by
      have q1 := (List.getElem?_eq_some_iff.mp hu).1
      have q2 := (List.getElem?_eq_some_iff.mp hu2).1
      simp only [List.size_toArray]
      omega
    refine W.goes i s _ E hi ⟨hz, hTI, ⟨x0, y0, hTO⟩, ⟨h1, p⟩, ⟨h2, p2⟩⟩ fun v h' tk hY st' hk htk => ?_
    obtain ⟨T, u', u2', rfl, hT, hpx, hpy, hTup⟩ := hY
    have eu : u' = u := by
      have e : its[i]? = some u' := by simpa using hpx
      rw [hu] at e; exact (Option.some.inj e).symm
    have eu2 : u2' = u2 := by
      have e : its2[i]? = some u2' := by simpa using hpy
      rw [hu2] at e; exact (Option.some.inj e).symm
    subst eu eu2
    have new : ObjOk X.prog X.w (upd H T (.tup [x, y])) h' T (.tup [x, y]) := ⟨by show 2 ≤ sizeLine; decide, [u', u2'], .cons ru (.cons ru2 .nil), hTup⟩
    have hf' : ∀ c ∈ [z, TO, i1, i2], FpOk X pins H c := fun c hc => hf c (by
      have : c = z ∨ c = TO ∨ c = i1 ∨ c = i2 := by simpa using hc
      rcases this with q | q | q | q <;> simp [q])
    have I1 : Inv X pins σ (upd H T (.tup [x, y])) { s with heap := h', toks := tk } := I.turnedNew (t' := tk) (ch := [z, TO, i1, i2]) hk hf' hT new
    obtain ⟨z1, z2, z3, z4, z5⟩ := st'
    refine ⟨.ref T, _, I1, rfl, ⟨T, x, y, rfl, I.hok.fresh hT, rfl, fun l hl => by rw [hl.inj I hqx]; exact hx, fun l hl => by rw [hl.inj I hqy]; exact hy⟩, ⟨z1, z2, z3, z4.1, z5.1⟩, fun c hcm => ?_⟩
    have hlt : c < s.heap.objs.size := by
      rcases mem5 hcm with q | q | q | q | q
      · rw [q]; exact Heap.lt_size hz
      · rw [q]; exact Heap.lt_size hTI
      · rw [q]; exact Heap.lt_size hTO
      · rw [q]; obtain ⟨_, e1, _⟩ := h1.there; exact Heap.lt_size e1
      · rw [q]; obtain ⟨_, e2, _⟩ := h2.there; exact Heap.lt_size e2
    rw [upd_ne (Nat.ne_of_lt (Nat.lt_of_lt_of_le hlt hT))]
    exact (hf c hcm).1
  done := by
    intro X hP hw hK hc i pins s σ H E I hf st hg
    subst hP hw hK
    obtain ⟨hz, hTI, ⟨x0, y0, hTO⟩, h1, h2⟩ := st
    obtain ⟨xs, ys, hqx, hqy, hend⟩ := hg
    obtain ⟨its, rv, p, _, la⟩ := hqx.read I
    obtain ⟨its2, rv2, p2, _, lb⟩ := hqy.read I
    have W := GoesN.zip2 (prog := X.prog) (w := X.w) (A := X.A) (elts := elts) (x1 := kk) (pos := tpos) D (drawsF f1 (A := X.A.in1) (I.ok.hd hc) i1 a na its.toArray) (drawsF f2 (A := X.A.in1) (I.ok.hd hc) i2 b nb its2.toArray)
    have hn : min its.toArray.size its2.toArray.size = i := by
      have q1 := rv.length
      have q2 := rv2.length
      simp only [List.size_toArray]
      omega
    have hf' : ∀ c ∈ [z, TO, i1, i2], FpOk X pins H c := fun c hc => hf c (by
      have : c = z ∨ c = TO ∨ c = i1 ∨ c = i2 := by simpa using hc
      rcases this with q | q | q | q <;> simp [q])
    refine W.stops s _ E (by rw [hn]; exact ⟨hz, hTI, ⟨x0, y0, hTO⟩, ⟨h1, p⟩, ⟨h2, p2⟩⟩) fun h' tk hk htk => ?_
    exact I.turnedL (t' := tk) (ch := [z, TO, i1, i2]) hk hf'
  self := fun A i s Q E st h => wpAny_pyIter_zip st.1 h
theorem lt1 {a n : Addr} (h : a < n) : ∀ c ∈ [a], c < n := fun c hc => by
  have e : c = a := by simpa using hc
  rw [e]; exact h
def iZipF (K : PySem.W.Frag) (ta : TA) : TI := fun σ H R => ta σ H fun vs H1 => ∃ f1 f2 a b xs ys, vs = [.ref a, .ref b] ∧ Sq f1 K H1 a xs ∧ Sq f2 K H1 b ys ∧ R (ItzF f1 f2 K a b) H1
theorem pi_zipF {X : Cx} {e e2 : Expr} {ta : TA} {p pos tpos : Pos} {elts : List Expr} {kk : Nat} (hg : Gl X "zip") (hm : X.mg "zip" = none) (ha : PA X [e, e2] ta)
    (hs : starEach [e, e2] X.env = (false, eval e X.env) :: starEach [e2] X.env) (hpl : (backTo pos (starEach [e2] X.env)).any (·.1) = false) :
    PI X (.Tuple elts kk tpos) (.Call (.Name "zip" p) [e, e2] [] pos) (iZipF X.K ta) := by
  refine ⟨fun pins s σ H R I h => Call_ (ld_blt I hg hm PyProof.Rows.boot_zip (PyProof.Rows.callWith_type1 (thn (ha.run pos pins s σ H _ I h) fun us s1 ⟨vs, H1, I1, r1, q1⟩ => ?_) hs hpl))⟩
  obtain ⟨f1, f2, a, b, xs, ys, rfl, hqx, hqy, q⟩ := q1
  obtain ⟨u1, u2, rfl, ru1, ru2⟩ := vals2 r1
  obtain rfl : u1 = Value.ref a := ru1
  obtain rfl : u2 = Value.ref b := ru2
  obtain ⟨its, rv, pp, _, la⟩ := hqx.read I1
  obtain ⟨its2, rv2, pp2, _, lb⟩ := hqy.read I1
  refine zip_begins2 (beginsF f1 a its.toArray) (beginsF f2 b its2.toArray) pp pp2 fun h' hz hTI hTO g1 g2 hsz hk => wpAny_pyIter_zip hz ?_
  have I2 : Inv X pins σ H1 { s1 with heap := h' } := I1.kept (t' := s1.toks) hk
  refine ⟨_, [s1.heap.objs.size + 4, s1.heap.objs.size + 2, s1.heap.objs.size + 3, s1.heap.objs.size, s1.heap.objs.size + 1], _, _, H1, rfl, I2, turn_zipF (zip_sep2 (lt1 la) (lt1 lb)) (Nat.ne_of_lt la) (Nat.ne_of_lt (Nat.lt_succ_of_lt lb)), ⟨hz, hTI, ⟨_, _, hTO⟩, .new g1, .new g2⟩, fun c hcm => ?_, q⟩
  have hle : s1.heap.objs.size ≤ c := by
    rcases mem5 hcm with q | q | q | q | q
    · rw [q]; exact Nat.le_add_right _ _
    · rw [q]; exact Nat.le_add_right _ _
    · rw [q]; exact Nat.le_add_right _ _
    · rw [q]; exact Nat.le_refl _
    · rw [q]; exact Nat.le_add_right _ _
  exact I1.fpOk hle (I1.hok.fresh hle)

/-! ### the items of a walk -/
section
variable {K : PySem.W.Frag} {G : Hp} {a b : Addr} {xs ys : List V} {ds es : List D}
theorem itOk_list (h : G a = some (.lst xs)) (r : RepAll K G xs ds) : ItOk K (Itl K a) G ds := by
  intro i Φ π μ G1 H e p
  have hq : SqL K H a xs := .inl (.inl (p.ex _ _ (e _ _ h)))
  refine ⟨fun d hd => ?_, fun hn => ⟨xs, hq, by rw [r.length]; exact Nat.le_of_eq hn⟩⟩
  obtain ⟨v, hv, rv⟩ := r.get hd
  refine ⟨⟨xs, v, hq, hv⟩, fun x H' y => ?_⟩
  obtain ⟨rfl, y⟩ := y
  have e2 := y xs hq
  rw [hv] at e2
  cases e2
  exact ⟨G1, Ex.refl _, p, rv.mono e⟩
theorem itOk_tup (h : SqT K G a xs) (r : RepAll K G xs ds) : ItOk K (Itt K a) G ds := by
  intro i Φ π μ G1 H e p
  have hq : SqT K H a xs := ex_t (e.trans p.ex) h
  refine ⟨fun d hd => ?_, fun hn => ⟨xs, hq, by rw [r.length]; exact Nat.le_of_eq hn⟩⟩
  obtain ⟨v, hv, rv⟩ := r.get hd
  refine ⟨⟨xs, v, hq, hv⟩, fun x H' y => ?_⟩
  obtain ⟨rfl, y⟩ := y
  have e2 := y xs hq
  rw [hv] at e2
  cases e2
  exact ⟨G1, Ex.refl _, p, rv.mono e⟩
theorem itOk_rng (lo hi : Int) : ItOk K (Itr lo (hi - lo).toNat) G (rangeD lo hi) := by
  intro i Φ π μ G1 H e p
  refine ⟨fun d hd => ?_, fun hn => ?_⟩
  · unfold rangeD at hd
    rw [List.getElem?_map] at hd
    by_cases hi' : i < (hi - lo).toNat
    · rw [List.getElem?_range hi'] at hd
      cases hd
      refine ⟨hi', fun x H' y => ?_⟩
      obtain ⟨rfl, rfl⟩ := y
      exact ⟨G1, Ex.refl _, p, .int _⟩
    · rw [List.getElem?_eq_none (by simpa using hi')] at hd
      cases hd
  · unfold rangeD at hn
    rw [List.length_map, List.length_range] at hn
    exact Nat.le_of_eq hn
theorem itOk_zip {f1 f2 : Bool} (h1 : Sq f1 K G a xs) (r1 : RepAll K G xs ds) (h2 : Sq f2 K G b ys) (r2 : RepAll K G ys es) : ItOk K (ItzF f1 f2 K a b) G (List.zipWith (fun x y => .tuple [x, y]) ds es) := by
  intro i Φ π μ G1 H e p
  have hq1 := h1.ex (e.trans p.ex)
  have hq2 := h2.ex (e.trans p.ex)
  refine ⟨fun d hd => ?_, fun hn => ⟨xs, ys, hq1, hq2, ?_⟩⟩
  · rw [List.getElem?_zipWith] at hd
    cases q1 : ds[i]? with
    | none => rw [q1] at hd; cases hd
    | some d1 =>
      cases q2 : es[i]? with
      | none => rw [q1, q2] at hd; cases hd
      | some d2 =>
        rw [q1, q2] at hd
        cases hd
        obtain ⟨v1, hv1, rv1⟩ := r1.get q1
        obtain ⟨v2, hv2, rv2⟩ := r2.get q2
        refine ⟨⟨xs, ys, v1, v2, hq1, hq2, hv1, hv2⟩, fun x H' y => ?_⟩
        obtain ⟨T, x1, x2, rfl, hT, rfl, y1, y2⟩ := y
        have e1 := y1 xs hq1
        rw [hv1] at e1; cases e1
        have e2 := y2 ys hq2
        rw [hv2] at e2; cases e2
        have en : Ex G1 (upd G1 T (.tup [v1, v2])) := Ex.new (p.clear hT).g
        exact ⟨upd G1 T (.tup [v1, v2]), en, (p.grow (Ex.new hT)).lay (p.clear hT) upd_same, .tup (.inl (.inl upd_same)) ((RepAll.cons rv1 (.cons rv2 .nil)).mono (e.trans en))⟩
  · rw [List.length_zipWith] at hn
    rw [r1.length, r2.length]
    exact hn.symm
end
section
variable {gc : Gc} {g : Ge} {k : Nat}
theorem snd_sq {a : E} (ia : SndE gc g k a) : SndI gc g k (.sq a) := by
  intro ct tg e X hc F ρ μ r μ' he Φ π G σ H so hx R q
  have hc : chkE gc a ct e = true := hc
  unfold evIt at he
  obtain ⟨⟨w, μ1⟩, h1, he⟩ := Option.bind_eq_some_iff.mp he
  obtain ⟨d, h2, he⟩ := Option.bind_eq_some_iff.mp he
  obtain ⟨ds, h3, he⟩ := Option.bind_eq_some_iff.mp he
  cases he
  unfold seqOf at h3
  split at h3
  · cases h3
    refine i_of (pi_list pe_sem) ?_
    refine ia.w hc F h1 so hx fun v1 G1 H1 e1 p1 r1 => ?_
    cases toD_rel r1 h2 with
    | lst h4 r4 => exact ⟨_, rfl, ⟨_, .inl (.inl (p1.ex _ _ h4))⟩, q _ G1 H1 e1 p1 (itOk_list h4 r4)⟩
  · cases h3
    refine i_of (pi_tup pe_sem) ?_
    refine ia.w hc F h1 so hx fun v1 G1 H1 e1 p1 r1 => ?_
    cases toD_rel r1 h2 with
    | tup h4 r4 => exact ⟨_, rfl, ⟨_, ex_t p1.ex h4⟩, q _ G1 H1 e1 p1 (itOk_tup h4 r4)⟩
  · cases h3
theorem snd_r1 {a : E} (ia : SndE gc g k a) : SndI gc g k (.r1 a) := by
  intro ct tg e X hc F ρ μ r μ' he Φ π G σ H so hx R q
  unfold chkIt at hc
  split at hc
  · rename_i x p y pos
    simp only [Bool.and_eq_true, decide_eq_true_eq] at hc
    obtain ⟨⟨⟨⟨rfl, h2⟩, h3⟩, h4⟩, h5⟩ := hc
    unfold evIt at he
    obtain ⟨⟨w, μ1⟩, h1, he⟩ := Option.bind_eq_some_iff.mp he
    dsimp only at he
    split at he
    · split at he
      · rename_i j hb
        cases he
        refine i_of (pi_range1 (F.gl_ h3) (F.bl _ h2) (pa_cons pe_sem pa_nil (star_cons (chk_star h5))) (star_cons (chk_star h5))) ?_
        refine ia.w h5 F h1 so hx fun v1 G1 H1 e1 p1 r1 => ?_
        cases r1
        refine ⟨_, rfl, ?_, ?_, ?_⟩
        · have := hb.1; unfold big at this; omega
        · have := hb.2; unfold big at this; omega
        · have := q _ G1 H1 e1 p1 (itOk_rng 0 j)
          rw [Int.sub_zero] at this
          exact this
      · cases he
    · cases he
  · cases hc
theorem snd_r2 {a b : E} (ia : SndE gc g k a) (ib : SndE gc g k b) : SndI gc g k (.r2 a b) := by
  intro ct tg e X hc F ρ μ r μ' he Φ π G σ H so hx R q
  unfold chkIt at hc
  split at hc
  · rename_i x p y z pos
    simp only [Bool.and_eq_true, decide_eq_true_eq] at hc
    obtain ⟨⟨⟨⟨⟨rfl, h2⟩, h3⟩, h4⟩, h5⟩, h6⟩ := hc
    unfold evIt at he
    obtain ⟨⟨w, μ1⟩, h1, he⟩ := Option.bind_eq_some_iff.mp he
    obtain ⟨⟨w', μ2⟩, h1', he⟩ := Option.bind_eq_some_iff.mp he
    dsimp only at he
    split at he
    · split at he
      · rename_i hb
        cases he
        refine i_of (pi_range2 (F.gl_ h3) (F.bl _ h2) (pa_cons pe_sem (pa_cons pe_sem pa_nil (star_cons (chk_star h6))) (star_cons (chk_star h5))) (by rw [star_cons (chk_star h5), star_cons (chk_star h6)]; rfl) (star_cons (chk_star h6))) ?_
        refine ia.w h5 F h1 so hx fun v1 G1 H1 e1 p1 r1 => ?_
        refine ib.w h6 F h1' (so.mono e1) p1 fun v2 G2 H2 e2 p2 r2 => ?_
        cases r1
        cases r2
        unfold big at hb
        exact ⟨_, _, rfl, ⟨by omega, by omega, by omega, by omega⟩, q _ G2 H2 (e1.trans e2) p2 (itOk_rng _ _)⟩
      · cases he
    · cases he
  · cases hc
theorem snd_r3 {a b c : E} : SndI gc g k (.r3 a b c) := by
  intro ct tg e X hc F ρ μ r μ' he
  cases he
theorem sq_of_rep {K : PySem.W.Frag} {G : Hp} {v : V} {d : D} {ds : List D} (r : Rep K G v d) (h : seqOf d = some ds) : ∃ f a xs, v = .ref a ∧ Sq f K G a xs ∧ RepAll K G xs ds := by
  unfold seqOf at h
  split at h
  · cases h
    cases r with
    | lst h1 h2 => exact ⟨false, _, _, rfl, .inl (.inl h1), h2⟩
  · cases h
    cases r with
    | tup h1 h2 => exact ⟨true, _, _, rfl, h1, h2⟩
  · cases h
theorem snd_zip {a b : E} (ia : SndE gc g k a) (ib : SndE gc g k b) : SndI gc g k (.zip a b) := by
  intro ct tg e X hc F ρ μ r μ' he Φ π G σ H so hx R q
  unfold chkIt at hc
  split at hc
  · rename_i x p y z pos
    simp only [Bool.and_eq_true, decide_eq_true_eq] at hc
    obtain ⟨⟨⟨⟨⟨⟨rfl, h2⟩, h3⟩, h4⟩, ht⟩, h5⟩, h6⟩ := hc
    unfold evIt at he
    obtain ⟨⟨w, μ1⟩, h1, he⟩ := Option.bind_eq_some_iff.mp he
    obtain ⟨⟨w', μ2⟩, h1', he⟩ := Option.bind_eq_some_iff.mp he
    obtain ⟨d, h7, he⟩ := Option.bind_eq_some_iff.mp he
    obtain ⟨d', h7', he⟩ := Option.bind_eq_some_iff.mp he
    obtain ⟨xs, h8, he⟩ := Option.bind_eq_some_iff.mp he
    obtain ⟨ys, h8', he⟩ := Option.bind_eq_some_iff.mp he
    cases he
    unfold isTup at ht
    split at ht
    · refine i_of (pi_zipF (F.gl_ h3) (F.bl _ h2) (pa_cons pe_sem (pa_cons pe_sem pa_nil (star_cons (chk_star h6))) (star_cons (chk_star h5))) (star_cons (chk_star h5)) (star1 (chk_star h6))) ?_
      refine ia.w h5 F h1 so hx fun v1 G1 H1 e1 p1 r1 => ?_
      refine ib.w h6 F h1' (so.mono e1) p1 fun v2 G2 H2 e2 p2 r2 => ?_
      obtain ⟨f1, a1, vs1, rfl, s1, q1⟩ := sq_of_rep (toD_rel r1 h7) h8
      obtain ⟨f2, a2, vs2, rfl, s2, q2⟩ := sq_of_rep (toD_rel r2 h7') h8'
      exact ⟨f1, f2, a1, a2, vs1, vs2, rfl, s1.ex (e2.trans p2.ex), s2.ex p2.ex, q _ G2 H2 (e1.trans e2) p2 (itOk_zip (s1.ex e2) (q1.mono e2) s2 q2)⟩
    · cases ht
  · cases hc
theorem itOk_enu {K : PySem.W.Frag} {G : Hp} {a : Addr} {xs : List V} {ds : List D} (h : G a = some (.lst xs)) (r : RepAll K G xs ds) : ItOk K (Ite K a) G (ds.mapIdx fun i x => .tuple [.int i, x]) := by
  intro i Φ π μ G1 H e p
  have hq : SqL K H a xs := .inl (.inl (p.ex _ _ (e _ _ h)))
  refine ⟨fun d hd => ?_, fun hn => ⟨xs, hq, ?_⟩⟩
  · rw [List.getElem?_mapIdx] at hd
    cases q1 : ds[i]? with
    | none => rw [q1] at hd; cases hd
    | some d1 =>
      rw [q1] at hd
      cases hd
      obtain ⟨v1, hv1, rv1⟩ := r.get q1
      refine ⟨⟨xs, v1, hq, hv1⟩, fun x H' y => ?_⟩
      obtain ⟨T, x1, rfl, hT, rfl, y1⟩ := y
      have e1 := y1 xs hq
      rw [hv1] at e1; cases e1
      have en : Ex G1 (upd G1 T (.tup [.int (i : Nat), v1])) := Ex.new (p.clear hT).g
      exact ⟨_, en, (p.grow (Ex.new hT)).lay (p.clear hT) upd_same, .tup (.inl (.inl upd_same)) ((RepAll.cons (.int _) (.cons (rv1.mono e) .nil)).mono en)⟩
  · rw [List.length_mapIdx] at hn
    rw [r.length]
    exact Nat.le_of_eq hn
theorem snd_enu {a : E} (ia : SndE gc g k a) : SndI gc g k (.enu a) := by
  intro ct tg e X hc F ρ μ r μ' he Φ π G σ H so hx R q
  unfold chkIt at hc
  split at hc
  · rename_i x p y pos
    simp only [Bool.and_eq_true, decide_eq_true_eq] at hc
    obtain ⟨⟨⟨⟨⟨rfl, h2⟩, h3⟩, h4⟩, ht⟩, h5⟩ := hc
    unfold evIt at he
    obtain ⟨⟨w, μ1⟩, h1, he⟩ := Option.bind_eq_some_iff.mp he
    obtain ⟨d, h7, he⟩ := Option.bind_eq_some_iff.mp he
    split at he
    · cases he
      unfold isTup at ht
      split at ht
      · refine i_of (pi_enum (F.gl_ h3) (F.bl _ h2) (pa_cons pe_sem pa_nil (star_cons (chk_star h5))) (star_cons (chk_star h5))) ?_
        refine ia.w h5 F h1 so hx fun v1 G1 H1 e1 p1 r1 => ?_
        cases toD_rel r1 h7 with
        | lst h4 r4 => exact ⟨_, _, rfl, .inl (.inl (p1.ex _ _ h4)), q _ G1 H1 e1 p1 (itOk_enu h4 r4)⟩
      · cases ht
    · cases he
  · cases hc
end
end Mini
end
section
set_option autoImplicit false
set_option Elab.async false
set_option linter.all false
set_option maxRecDepth 100000
set_option maxHeartbeats 2000000
/-! MI: targets, list comprehensions, all expressions. -/
namespace Mini
open PySem PySem.Spec PyProof.Rows L2 Evl

/-! ### targets -/
def gNames : List Nat → TGs
  | [] => gNil
  | i :: is => gCons (gName i) (gNames is)
def setV (σ : L2.St) : List Nat → List V → L2.St
  | i :: is, v :: vs => setV (σ.set i (some v)) is vs
  | _, _ => σ
def gTg (K : PySem.W.Frag) : Tg → TG
  | .nm i => gName i
  | .tp is => gTup K is.length (gNames is)
theorem wipe_in {σ : L2.St} {j : Nat} : ∀ {vs : List Nat}, j ∈ vs → j < σ.length → (L2.wipe σ vs)[j]? = some none
  | [], h, _ => by cases h
  | v :: vs, h, hj => by
    unfold L2.wipe
    by_cases e : v = j
    · subst e
      rw [List.getElem?_set_self (by rw [wipe_length]; exact hj)]
    · rw [List.getElem?_set_ne e]
      exact wipe_in ((List.mem_cons.mp h).resolve_left fun z => e z.symm) hj
theorem wipe_eq {σ σ' : L2.St} {own : List Nat} (hl : σ'.length = σ.length) (h : ∀ j, j ∉ own → σ'[j]? = σ[j]?) : L2.wipe σ' own = L2.wipe σ own := by
  apply List.ext_getElem?
  intro j
  by_cases hj : j ∈ own
  · by_cases hlt : j < σ.length
    · rw [wipe_in hj hlt, wipe_in hj (by rw [hl]; exact hlt)]
    · rw [List.getElem?_eq_none (by rw [wipe_length, hl]; omega), List.getElem?_eq_none (by rw [wipe_length]; omega)]
  · rw [wipe_out hj, wipe_out hj]
    exact h j hj
theorem setV_length : ∀ {σ : L2.St} {is : List Nat} {vs : List V}, (setV σ is vs).length = σ.length
  | _, [], [] => rfl
  | _, [], _ :: _ => rfl
  | _, _ :: _, [] => rfl
  | σ, i :: is, v :: vs => by
    show (setV (σ.set i (some v)) is vs).length = _
    rw [setV_length, List.length_set]
theorem setV_out : ∀ {σ : L2.St} {is : List Nat} {vs : List V} {j : Nat}, j ∉ is → (setV σ is vs)[j]? = σ[j]?
  | _, [], [], _, _ => rfl
  | _, [], _ :: _, _, _ => rfl
  | _, _ :: _, [], _, _ => rfl
  | σ, i :: is, v :: vs, j, h => by
    show (setV (σ.set i (some v)) is vs)[j]? = _
    rw [setV_out fun z => h (List.mem_cons_of_mem _ z), List.getElem?_set_ne fun z => h (by rw [z]; exact List.mem_cons_self ..)]
theorem gNames_ok {H : Hp} {Q : L2.St → Hp → Prop} : ∀ {is : List Nat} {vs : List V} {σ : L2.St}, vs.length = is.length → Q (setV σ is vs) H → gNames is vs σ H Q
  | [], [], _, _, q => ⟨rfl, q⟩
  | [], _ :: _, _, h, _ => by cases h
  | _ :: _, [], _, h, _ => by cases h
  | i :: is, v :: vs, σ, h, q => ⟨v, vs, rfl, gNames_ok (is := is) (by simpa using h) q⟩
theorem SlotOk.setAll {K : PySem.W.Frag} {π : List Addr} {G : Hp} : ∀ {is : List Nat} {ds : List D} {vs : List V} {ρ ρ' : Rho} {σ : L2.St}, Mini.setAll ρ is ds = some ρ' → RepAll K G vs ds → SlotOk K π G ρ σ → SlotOk K π G ρ' (setV σ is vs) ∧ vs.length = is.length
  | [], [], _, _, _, _, h, .nil, so => by cases h; exact ⟨so, rfl⟩
  | _ :: _, [], _, _, _, _, h, .nil, _ => by cases h
  | [], _ :: _, _, _, _, _, h, .cons _ _, _ => by cases h
  | i :: is, d :: ds, v :: vs, ρ, ρ', σ, h, .cons r rs, so => by
    have h : Mini.setAll (ρ.set i (some (.d d))) is ds = some ρ' := h
    obtain ⟨h1, h2⟩ := SlotOk.setAll h rs (so.set i (v := v) (w := .d d) r)
    exact ⟨h1, congrArg (· + 1) h2⟩
theorem tg_ok {K : PySem.W.Frag} {π : List Addr} {G H : Hp} {t : Tg} {d : D} {v : V} {ρ ρ' : Rho} {σ : L2.St} {Q : L2.St → Hp → Prop} (hb : Mini.bind t d ρ = some ρ') (r : Rep K G v d) (ex : Ex G H) (so : SlotOk K π G ρ σ)
    (q : ∀ σ', SlotOk K π G ρ' σ' → (∀ own : List Nat, (∀ i ∈ t.ix, i ∈ own) → L2.wipe σ' own = L2.wipe σ own) → Q σ' H) : gTg K t v σ H Q := by
  cases t with
  | nm i =>
    cases hb
    refine q _ (so.set i (w := .d d) r) fun own ho => wipe_eq (by rw [List.length_set]) fun j hj => List.getElem?_set_ne fun z => hj (by rw [← z]; exact ho i (List.mem_singleton.mpr rfl))
  | tp is =>
    unfold Mini.bind at hb
    dsimp only at hb
    split at hb
    · cases r with
      | tup h1 h2 =>
        obtain ⟨s1, s2⟩ := SlotOk.setAll hb h2 so
        exact ⟨_, _, rfl, ex_t ex h1, s2, gNames_ok s2 (q _ s1 fun own ho => wipe_eq setV_length fun j hj => setV_out fun z => hj (ho j z))⟩
    · cases hb
section
variable {gc : Gc} {g : Ge} {k : Nat}
theorem st_ok {ct : Ct} {X : Cx} {x : Str} (F : Fits gc g k ct X) (h : stB ct x = true) : Loc X.env.scope x ∧ (X.fn x = true ∨ X.env.scope.names.lookup x = some .local) := by
  unfold stB at h
  simp only [Bool.and_eq_true, Bool.or_eq_true, decide_eq_true_eq] at h
  rw [F.sc, F.fnq]
  exact ⟨locB_iff h.1, h.2⟩
theorem pgs_names {ct : Ct} {X : Cx} (F : Fits gc g k ct X) : ∀ {is : List Nat} {es : List Expr}, chkNames ct is es = true → PGs X es (gNames is) ∧ (assignEach es X.env).length = is.length ∧ (assignEach es X.env).findIdx? (·.1) = none
  | [], [], _ => ⟨pgs_nil, rfl, rfl⟩
  | [], _ :: _, h => by simp [chkNames] at h
  | _ :: _, [], h => by simp [chkNames] at h
  | i :: is, e :: es, h => by
    cases e with
    | Name x pos =>
      simp only [chkNames, Bool.and_eq_true, decide_eq_true_eq] at h
      obtain ⟨⟨h1, h2⟩, h3⟩ := h
      obtain ⟨ih, il, iF⟩ := pgs_names F h3
      obtain ⟨s1, s2⟩ := st_ok F h2
      refine ⟨pgs_cons (pg_name (by rw [F.N]; exact F.nd) (by rw [F.N]; exact h1) s1 s2) ih, ?_, ?_⟩
      · show (assignEach es X.env).length + 1 = is.length + 1
        rw [il]
      · show List.findIdx? (·.1) ((false, _) :: assignEach es X.env) = none
        rw [List.findIdx?_cons, iF]
        rfl
    | _ => simp [chkNames] at h
theorem pg_tg {ct : Ct} {X : Cx} {t : Tg} {tg : Expr} (F : Fits gc g k ct X) (h : chkTg ct t tg = true) : PG X tg (gTg X.K t) := by
  unfold chkTg at h
  split at h
  · simp only [Bool.and_eq_true, decide_eq_true_eq] at h
    obtain ⟨s1, s2⟩ := st_ok F h.2
    exact pg_name (by rw [F.N]; exact F.nd) (by rw [F.N]; exact h.1) s1 s2
  · obtain ⟨h1, h2, h3⟩ := pgs_names F h
    exact pg_tup F.calm h1 h2 h3
  · cases h
end

/-! ### a thing of the machine's own, kept beside -/
section
variable {K : PySem.W.Frag} {Φ : Hp} {π : List Addr} {μ : Store} {G H : Hp} {p : Addr} {u u' : HO}
theorem Hpx.pin (h : Hpx K Φ π μ G H) (c : Clear Φ π μ G p) (hu : H p = some u) : Hpx K (upd Φ p u) π μ G H where
  ex := h.ex
  len := h.len
  bx := h.bx
  fz := h.fz
  ph := fun a o e => by
    by_cases q : a = p
    · subst q; rw [upd_same] at e; cases e; exact hu
    · rw [upd_ne q] at e; exact h.ph a o e
  pg := fun a o e => by
    by_cases q : a = p
    · subst q; exact c.g
    · rw [upd_ne q] at e; exact h.pg a o e
  pb := fun n o a e z => by
    have q : a ≠ p := fun q => c.b n o e (q ▸ z)
    rw [upd_ne q]; exact h.pb n o a e z
  inj := h.inj
theorem Hpx.unpin (h : Hpx K (upd Φ p u) π μ G H) (c : Φ p = none) (hu : ∀ ob v, u ≠ .frz ob v) : H p = some u ∧ Clear Φ π μ G p ∧ Hpx K Φ π μ G (upd H p u') := by
  have nb : ∀ (n : Nat) (o : FO), μ[n]? = some (some (.fo o)) → π[n]? ≠ some p := fun n o e z => by
    have := h.pb n o p e z
    rw [upd_same] at this; cases this
  have ng : G p = none := h.pg p u upd_same
  refine ⟨h.ph p u upd_same, ⟨ng, nb, c⟩, ⟨fun a o e => ?_, h.len, fun n o e => ?_, fun n ds e => ?_, fun a o e => ?_, fun a o e => ?_, fun n o a e z => ?_, h.inj⟩⟩
  · have q : a ≠ p := fun q => by rw [q, ng] at e; cases e
    rw [upd_ne q]; exact h.ex a o e
  · obtain ⟨q, h1, h2, h3⟩ := h.bx n o e
    have hq : q ≠ p := fun z => nb n o e (z ▸ h1)
    exact ⟨q, h1, h2, h3.at (by rw [upd_ne hq])⟩
  · obtain ⟨q, xs, h1, h2, h3⟩ := h.fz n ds e
    exact ⟨q, xs, h1, h2.upd (h.ph p u upd_same) hu, h3⟩
  · have q : a ≠ p := fun q => by rw [q, c] at e; cases e
    rw [upd_ne q]
    exact h.ph a o (by rw [upd_ne q]; exact e)
  · have q : a ≠ p := fun q => by rw [q, c] at e; cases e
    exact h.pg a o (by rw [upd_ne q]; exact e)
  · have q : a ≠ p := fun q => nb n o e (q ▸ z)
    have := h.pb n o a e z
    rw [upd_ne q] at this; exact this
end

/-! ### list comprehensions -/
def semTB (X : Cx) (scope : Scope) (x : Expr) : TT := fun σ H Q => ∀ (s : Shared) (H0 : Hp) (C : Addr) (cl : List (Str × Addr)) (fp : List Addr), semT (X.blk s H0 scope (compEnvC scope cl C X.env) fp) x σ H Q
def semEB (X : Cx) (scope : Scope) (x : Expr) : TE := fun σ H Q => ∀ (s : Shared) (H0 : Hp) (C : Addr) (cl : List (Str × Addr)) (fp : List Addr), semE (X.blk s H0 scope (compEnvC scope cl C X.env) fp) x σ H Q
def ttOf (X : Cx) (scope : Scope) : List Expr → TT
  | [x] => semTB X scope x
  | _ => tYes
def lcB (gc : Gc) (ct : Ct) (c : Eo) : List Expr → Bool
  | [] => (match c with | .no => true | _ => false)
  | [x] => chkEo gc c ct (some x)
  | _ => false
section
variable {gc : Gc} {g : Ge} {k : Nat}
theorem pts_tt {ct : Ct} {X : Cx} {c : Eo} {scope : Scope} {ifs : List Expr} (h : lcB gc ct c ifs = true) (s : Shared) (H : Hp) (C : Addr) (cl : List (Str × Addr)) (fp : List Addr) : PTs (X.blk s H scope (compEnvC scope cl C X.env) fp) ifs (ttOf X scope ifs) := by
  match ifs, h with
  | [], _ => exact pts_nil
  | [x], _ => exact pts_one ⟨fun pins s1 σ H1 Q I h => h s H C cl fp pins s1 I⟩
def elF (g : Ge) (el : E) : Rho → Store → Option (D × Store) := fun ρ μ => do
  let (w, μ1) ← nW (evE g el ρ μ)
  let d ← w.toD
  pure (d, μ1)
theorem lc_read {own : List Nat} {t : Tg} {it : Src} {c : Eo} {el : E} (iit : SndI gc g k it) (ic : SndC gc g k c) (iel : SndE gc g k el) {ct : Ct} {X : Cx} {scope : Scope} {tg iter elt : Expr} {ifs : List Expr}
    (c2 : chkIt gc it ct tg iter = true) (c4 : ∀ i ∈ t.ix, i ∈ own) (c5 : lcB gc (ct.blk scope) c ifs = true) (c6 : chkE gc el (ct.blk scope) elt = true)
    (F : Fits gc g k ct X) {ρ : Rho} {μ μ' : Store} {r : R} (he : evE g (.lc own t it c el) ρ μ = some (r, μ')) {Φ : Hp} {π : List Addr} {G : Hp} {σ : L2.St} {H : Hp} (so : SlotOk X.K π G ρ σ) (hx : Hpx X.K Φ π μ G H) {Q : VK} (q : PostR X.K Φ π G r μ' Q) :
    tLc (semI X tg iter) (gTg X.K t) (ttOf X scope ifs) (semEB X scope elt) own σ H Q := by
  unfold evE at he
  obtain ⟨⟨xs, μ1⟩, h1, he⟩ := Option.bind_eq_some_iff.mp he
  dsimp only at he
  split at he
  · rename_i hz
    obtain ⟨⟨ys, μe⟩, h2, he⟩ := Option.bind_eq_some_iff.mp he
    cases he
    refine iit ct tg iter X c2 F ρ μ xs μ1 h1 Φ π G σ H so hx _ fun J G1 H1 e1 p1 hJ => ?_
    intro Dl hD
    have cD := p1.clear hD
    refine ⟨fun i m H2 => m = xs.length - i ∧ i ≤ xs.length ∧ ∃ (G2 : Hp) (μ2 : Store) (acc : List V) (done rest : List D), Ex G1 G2 ∧ Hpx X.K Φ π μ2 G2 H2 ∧ Clear Φ π μ2 G2 Dl ∧ H2 Dl = some (.lst acc) ∧ RepAll X.K G2 acc done ∧ acc.length ≤ i ∧
      lcLoop own t (fun ρ μ => evC g c ρ μ) (elF g el) ρ (xs.drop i) μ2 = some (rest, μe) ∧ done ++ rest = ys, ⟨xs.length, by simp, Nat.zero_le _, G1, μ1, [], [], ys, Ex.refl _, p1.grow (Ex.new hD), ?_, upd_same, .nil, Nat.zero_le _, h2, rfl⟩, ?_⟩
    · exact cD
    rintro i m H2 ⟨rfl, hi, G2, μ2, acc, done, rest, e2, p2, k2, hacc, racc, hl, hloop, hys⟩
    by_cases hlt : i < xs.length
    · have hdrop : xs.drop i = xs[i] :: xs.drop (i + 1) := List.drop_eq_getElem_cons hlt
      rw [hdrop] at hloop
      unfold lcLoop at hloop
      obtain ⟨ρ1, hb, hloop⟩ := Option.bind_eq_some_iff.mp hloop
      obtain ⟨⟨b, μ3⟩, hc, hloop⟩ := Option.bind_eq_some_iff.mp hloop
      have pin := p2.pin k2 hacc
      have hgo := (hJ i _ π μ2 G2 H2 e2 pin).1 xs[i] (List.getElem?_eq_getElem hlt)
      refine .inr ⟨hgo.1, fun H' => ∃ (G2 : Hp) (μ2 : Store) (acc : List V) (done rest : List D), Ex G1 G2 ∧ Hpx X.K Φ π μ2 G2 H' ∧ Clear Φ π μ2 G2 Dl ∧ H' Dl = some (.lst acc) ∧ RepAll X.K G2 acc done ∧ acc.length ≤ i + 1 ∧
        lcLoop own t (fun ρ μ => evC g c ρ μ) (elF g el) ρ (xs.drop (i + 1)) μ2 = some (rest, μe) ∧ done ++ rest = ys, fun H' h' => ⟨xs.length - (i + 1), by omega, rfl, hlt, h'⟩, fun x H' hy => ?_⟩
      obtain ⟨G3, e3, p3, rx⟩ := hgo.2 x H' hy
      have so3 : SlotOk X.K π G3 (wipeE ρ own) (L2.wipe σ own) := (so.wipe own).mono ((e1.trans e2).trans e3)
      refine tg_ok hb rx p3.ex so3 fun σ2 so4 hw => ⟨?_, ?_⟩
      · rw [hw own c4]
        exact wipe_eq (wipe_length _ _) fun j hj => wipe_out hj
      -- the test
      have test : ∀ (Q' : Bool → Hp → Prop), (∀ G4 H4, Ex G3 G4 → Hpx X.K (upd Φ Dl (.lst acc)) π μ3 G4 H4 → Q' b H4) → ttOf X scope ifs σ2 H' Q' := by
        intro Q' hQ
        match ifs, c5 with
        | [], c5 =>
          have : c = .no := by
            unfold lcB at c5
            dsimp only at c5
            split at c5
            · rfl
            · cases c5
          subst this
          have hc : some (true, μ2) = some (b, μ3) := hc
          cases hc
          exact hQ G3 H' (Ex.refl _) p3
        | [x], c5 =>
          cases c with
          | no => simp [lcB, chkEo] at c5
          | so cb =>
            have c5 : chkE gc cb (ct.blk scope) x = true := c5
            exact fun s0 H0 C cl fp => ic cb rfl (ct.blk scope) x _ c5 (F.blk s0 H0 scope C cl fp) ρ1 μ2 b μ3 hc _ π G3 σ2 H' so4 p3 Q' hQ
      refine test _ fun G4 H4 e4 p4 => ?_
      cases b with
      | false =>
        obtain ⟨z1, z2, z3⟩ := p4.unpin (u' := .lst acc) k2.f fun _ _ z => nomatch z
        have : upd H4 Dl (.lst acc) = H4 := by
          funext a
          by_cases ha : a = Dl
          · rw [ha, upd_same, z1]
          · rw [upd_ne ha]
        rw [this] at z3
        exact ⟨G4, μ3, acc, done, rest, ((e2.trans e3).trans e4), z3, z2, z1, racc.mono (e3.trans e4), Nat.le_succ_of_le hl, hloop, hys⟩
      | true =>
        obtain ⟨⟨y, μ4⟩, hel, hloop⟩ := Option.bind_eq_some_iff.mp hloop
        obtain ⟨⟨ys', μ5⟩, hrest, hloop⟩ := Option.bind_eq_some_iff.mp hloop
        cases hloop
        obtain ⟨⟨w, μ6⟩, hw1, hel⟩ := Option.bind_eq_some_iff.mp hel
        obtain ⟨dd, hw2, hel⟩ := Option.bind_eq_some_iff.mp hel
        cases hel
        show semEB X scope elt σ2 H4 _
        intro s0 H0 C cl fp
        refine iel.w c6 (F.blk s0 H0 scope C cl fp) hw1 (so4.mono e4) p4 fun yv G5 H5 e5 p5 r5 => ?_
        obtain ⟨z1, z2, z3⟩ := p5.unpin (u' := .lst (acc ++ [yv])) k2.f fun _ _ z => nomatch z
        refine ⟨acc, z1, ?_, G5, _, acc ++ [yv], done ++ [y], ys', ((e2.trans e3).trans e4).trans e5, z3, z2, upd_same, (racc.mono ((e3.trans e4).trans e5)).append (.cons (toD_rel r5 hw2) .nil), ?_, hrest, ?_⟩
        · have h3 : xs.length ≤ 100000 := of_decide_eq_true hz
          exact Nat.lt_of_lt_of_le (show acc.length < 100000 by omega) (by decide)
        · rw [List.length_append]; exact Nat.succ_le_succ hl
        · rw [List.append_assoc]; exact hys
    · have hi' : xs.length = i := by omega
      rw [List.drop_of_length_le (by omega)] at hloop
      cases hloop
      rw [List.append_nil] at hys
      subst hys
      exact .inl ⟨(hJ i Φ π μe G2 H2 e2 p2).2 hi', q Dl G2 H2 (e1.trans e2) p2 k2 ⟨acc, hacc, racc⟩⟩
  · cases he
end
end Mini
end
section
set_option autoImplicit false
set_option Elab.async false
set_option linter.all false
set_option maxRecDepth 100000
set_option maxHeartbeats 4000000
/-! MJ: all expressions. -/
namespace Mini
open PySem PySem.Spec PyProof.Rows L2 Evl
section
variable {gc : Gc} {g : Ge} {k : Nat}
theorem lc_parts {own : List Nat} {t : Tg} {it : Src} {c : Eo} {el : E} {ct : Ct} {e : Expr} (h : chkE gc (.lc own t it c el) ct e = true) : ∃ elt tg iter ifs scope pos, e = .ListComp elt [⟨tg, iter, ifs, 0⟩] scope pos ∧
    BlkOk ct.N ct.sc scope (ownOf ct.N scope) ∧ own = (ownOf ct.N scope).map (·.2) ∧ chkIt gc it ct tg iter = true ∧ chkTg (ct.blk scope) t tg = true ∧ (∀ i ∈ t.ix, i ∈ own) ∧ lcB gc (ct.blk scope) c ifs = true ∧ chkE gc el (ct.blk scope) elt = true := by
  unfold chkE at h
  split at h
  · rename_i elt tg iter ifs scope pos
    simp only [Bool.and_eq_true, decide_eq_true_eq] at h
    obtain ⟨⟨⟨⟨⟨⟨h1, h2⟩, h3⟩, h4⟩, h5⟩, h6⟩, h7⟩ := h
    refine ⟨elt, tg, iter, ifs, scope, pos, rfl, blkOk_by h1, h2, h3, h4, h5, ?_, h7⟩
    unfold lcB
    exact h6
  · cases h
theorem fold_iter {a : Src} {ct : Ct} {tg e : Expr} {env : PySem.Env} (h : chkIt gc a ct tg e = true) : ∀ x, foldedSetIterable e env x = pure x := by
  intro x
  cases e <;> first | rfl | (cases a <;> first | (simp [chkIt] at h; done) | (unfold chkIt at h; rename_i b; cases b <;> simp [chkE] at h))
theorem snd_lc {own : List Nat} {t : Tg} {it : Src} {c : Eo} {el : E} (iit : SndI gc g k it) (ic : SndC gc g k c) (iel : SndE gc g k el) : SndE gc g k (.lc own t it c el) := by
  intro ct e X hc F ρ μ r μ' he Φ π G σ H so hx Q q
  obtain ⟨elt, tg, iter, ifs, scope, pos, rfl, c1, c1', c2, c3, c4, c5, c6⟩ := lc_parts hc
  have c1 : BlkOk X.N X.env.scope scope (ownOf ct.N scope) := by rw [F.N, F.sc]; exact c1
  refine e_of (pe_lc (own := ownOf ct.N scope) (g := gTg X.K t) (tt := ttOf X scope ifs) (te := semEB X scope elt) F.calm (by rw [F.N]; exact F.nd) pi_sem c1 (fun s H C cl fp => pg_tg (F.blk s H scope C cl fp) c3) (fun s H C cl fp => pts_tt c5 s H C cl fp)
    (fun s H C cl fp => ⟨fun pins s1 σ H1 Q I h => h s H C cl fp pins s1 I⟩) (fold_iter c2)) ?_
  have := lc_read iit ic iel c2 c4 c5 c6 F he so hx q
  rw [← c1']
  exact this
def plainT : Expr → Bool
  | .BoolOp _ _ _ => false
  | .IfExp _ _ _ _ => false
  | .Compare _ _ _ _ => false
  | .UnaryOp .Not _ _ => false
  | _ => true
theorem plainT_ok {e : Expr} (h : plainT e = true) (env : PySem.Env) (whole : Sem Value) : PySem.isTrue e env whole = (do let v ← whole; standAt e.pos; holding [v] (truthy v)) := by
  cases e with
  | UnaryOp op _ _ => cases op <;> first | rfl | cases h
  | _ => first | rfl | cases h
theorem SndB.of {a : E} (h : SndE gc g k a) (hp : ∀ (ct : Ct) (e : Expr), chkE gc a ct e = true → plainT e = true) : SndB gc g k a := .plain h fun ct e hc env whole => plainT_ok (hp ct e hc) env whole
theorem chk_marks {a : E} {ct : Ct} {op : CmpOp} {e : Expr} (h : chkE gc a ct e = true) : behindInMarks op e = false := by
  cases e <;> first | rfl | (cases a <;> simp [chkE] at h)
theorem pl_var (i : Nat) (ct : Ct) (e : Expr) (h : chkE gc (.var i) ct e = true) : plainT e = true := by
  cases e <;> first | rfl | (simp [chkE] at h)
theorem pl_cst (i : D) (ct : Ct) (e : Expr) (h : chkE gc (.cst i) ct e = true) : plainT e = true := by
  cases e <;> first | rfl | (simp [chkE] at h)
theorem pl_glb (i : Nat) (ct : Ct) (e : Expr) (h : chkE gc (.glb i) ct e = true) : plainT e = true := by
  cases e <;> first | rfl | (simp [chkE] at h)
theorem pl_bin (op : Operator) (a b : E) (ct : Ct) (e : Expr) (h : chkE gc (.bin op a b) ct e = true) : plainT e = true := by
  cases e <;> first | rfl | (simp [chkE] at h)
theorem pl_neg (a : E) (ct : Ct) (e : Expr) (h : chkE gc (.neg a) ct e = true) : plainT e = true := by
  cases e with
  | UnaryOp op _ _ => cases op <;> first | rfl | (simp [chkE] at h)
  | _ => first | rfl | (simp [chkE] at h)
theorem pl_call (i : Nat) (a : Es) (ct : Ct) (e : Expr) (h : chkE gc (.call i a) ct e = true) : plainT e = true := by
  cases e <;> first | rfl | (simp [chkE] at h)
theorem pl_b1 (n : B1) (a : E) (ct : Ct) (e : Expr) (h : chkE gc (.b1 n a) ct e = true) : plainT e = true := by
  cases e <;> first | rfl | (simp [chkE] at h)
theorem pl_b2 (n : B2) (a b : E) (ct : Ct) (e : Expr) (h : chkE gc (.b2 n a b) ct e = true) : plainT e = true := by
  cases e <;> first | rfl | (simp [chkE] at h)
theorem pl_isi (n : Tn) (a : E) (ct : Ct) (e : Expr) (h : chkE gc (.isi a n) ct e = true) : plainT e = true := by
  cases e <;> first | rfl | (simp [chkE] at h)
theorem pl_ix (a b : E) (ct : Ct) (e : Expr) (h : chkE gc (.ix a b) ct e = true) : plainT e = true := by
  cases e <;> first | rfl | (simp [chkE] at h)
theorem pl_sl (a : E) (b c : Eo) (ct : Ct) (e : Expr) (h : chkE gc (.sl a b c) ct e = true) : plainT e = true := by
  cases e <;> first | rfl | (simp [chkE] at h)
theorem pl_tup (a : Es) (ct : Ct) (e : Expr) (h : chkE gc (.tup a) ct e = true) : plainT e = true := by
  cases e <;> first | rfl | (simp [chkE] at h)
theorem pl_lst (a : Es) (ct : Ct) (e : Expr) (h : chkE gc (.lst a) ct e = true) : plainT e = true := by
  cases e <;> first | rfl | (simp [chkE] at h)
theorem pl_lc (own : List Nat) (t : Tg) (it : Src) (c : Eo) (el : E) (ct : Ct) (e : Expr) (h : chkE gc (.lc own t it c el) ct e = true) : plainT e = true := by
  cases e <;> first | rfl | (simp [chkE] at h)

mutual
theorem soundE : ∀ a : E, SndE gc g k a ∧ SndB gc g k a
  | .var i => ⟨snd_var i, .of (snd_var i) (pl_var i)⟩
  | .cst d => ⟨snd_cst d, .of (snd_cst d) (pl_cst d)⟩
  | .glb i => ⟨snd_glb i, .of (snd_glb i) (pl_glb i)⟩
  | .bin op a b => have h := snd_bin (op := op) (soundE a).1 (soundE b).1; ⟨h, .of h (pl_bin op a b)⟩
  | .neg a => have h := snd_neg (soundE a).1; ⟨h, .of h (pl_neg a)⟩
  | .not a => ⟨snd_not (soundE a).1, sndB_not (soundE a).2⟩
  | .cmp op a b => ⟨snd_cmp (soundE a).1 (soundE b).1 fun ct y h => chk_marks h, sndB_cmp (soundE a).1 (soundE b).1 fun ct y h => chk_marks h⟩
  | .chain op op' a b c => ⟨snd_chain (soundE a).1 (soundE b).1 (soundE c).1 fun ct y h => chk_marks h, sndB_chain (soundE a).1 (soundE b).1 (soundE c).1 fun ct y h => chk_marks h⟩
  | .and a b => ⟨snd_and (soundE a).1 (soundE b).1, sndB_and (soundE a).2 (soundE b).2⟩
  | .or a b => ⟨snd_or (soundE a).1 (soundE b).1, sndB_or (soundE a).2 (soundE b).2⟩
  | .ife t a b => ⟨snd_ife (soundE t).2 (soundE a).1 (soundE b).1, sndB_ife (soundE t).2 (soundE a).2 (soundE b).2⟩
  | .call f as => have h := snd_call (f := f) (soundEs as); ⟨h, .of h (pl_call f as)⟩
  | .b1 n a => have h := snd_b1 (n := n) (soundE a).1; ⟨h, .of h (pl_b1 n a)⟩
  | .b2 n a b => have h := snd_b2 (n := n) (soundE a).1 (soundE b).1; ⟨h, .of h (pl_b2 n a b)⟩
  | .isi a n => have h := snd_isi (n := n) (soundE a).1; ⟨h, .of h (pl_isi n a)⟩
  | .ix a i => have h := snd_ix (soundE a).1 (soundE i).1; ⟨h, .of h (pl_ix a i)⟩
  | .sl a lo hi => have h := snd_sl (soundE a).1 (soundEo lo).1 (soundEo hi).1; ⟨h, .of h (pl_sl a lo hi)⟩
  | .tup as => have h := snd_tup (soundEs as); ⟨h, .of h (pl_tup as)⟩
  | .lst as => have h := snd_lst (soundEs as); ⟨h, .of h (pl_lst as)⟩
  | .lc own t it c el => have h := snd_lc (own := own) (t := t) (soundI it) (soundEo c).2 (soundE el).1; ⟨h, .of h (pl_lc own t it c el)⟩
theorem soundEs : ∀ a : Es, SndEs gc g k a
  | .nil => snd_es_nil
  | .cons e es => snd_es_cons (soundE e).1 (soundEs es)
theorem soundEo : ∀ a : Eo, SndEo gc g k a ∧ SndC gc g k a
  | .no => ⟨snd_no, fun b h => by cases h⟩
  | .so e => ⟨snd_so (soundE e).1, fun b h => by cases h; exact (soundE e).2⟩
theorem soundI : ∀ a : Src, SndI gc g k a
  | .sq e => snd_sq (soundE e).1
  | .r1 a => snd_r1 (soundE a).1
  | .r2 a b => snd_r2 (soundE a).1 (soundE b).1
  | .r3 a b c => snd_r3
  | .zip a b => snd_zip (soundE a).1 (soundE b).1
  | .enu a => snd_enu (soundE a).1
end
end
end Mini
end
section
set_option autoImplicit false
set_option Elab.async false
set_option linter.all false
set_option maxRecDepth 100000
set_option maxHeartbeats 4000000
/-! MK: statements. -/
namespace Mini
open PySem PySem.Spec PyProof.Rows L2 Evl

/-! ### the look at statements -/
def swE (ct : Ct) (x : Str) (px : Pos) (v : Expr) : Bool := match v with
  | .ListComp _ _ scope pos => decide (ct.sc.names.lookup x = some .local) && (px.line == pos.line) && !(scope.names.any fun (n, k) => n == x && (k == .local || k == .cell))
  | _ => false
def compE : Expr → Bool
  | .ListComp _ _ _ _ => true | .SetComp _ _ _ _ => true | .DictComp _ _ _ _ _ => true | _ => false
def parC (ct : Ct) (x y : Str) (px py : Pos) (a b : Expr) : Bool := decide (ct.sc.names.lookup x = some .local) && decide (ct.sc.names.lookup y = some .local) && (py.line == px.line) && decide (x ≠ y) && !([a, b].all (foldedForSure 8)) && !([a, b].all (constantsAlone 8))
def isStarE : Expr → Bool
  | .Starred .. => true | _ => false
def nmOne (ct : Ct) (ts : List Expr) : Expr → Option Str
  | .Name id pos => if ct.sc.names.lookup id == some .local && pos.line == (ts.head?.map (·.pos.line)).getD 0 then some id else none
  | _ => none
def swB (ct : Ct) (tg v : Expr) : Bool := match tg, v with
  | .Tuple ts _ _, .Tuple vs _ _ =>
    let names := ts.filterMap (nmOne ct ts)
    !(ts.length == 2 || ts.length == 3) || vs.length != ts.length || vs.any isStarE || names.length != ts.length || names.eraseDups.length != names.length || vs.all (foldedForSure 8)
  | _, _ => true
mutual
def chkS (gc : Gc) : S → Ct → Stmt → Bool
  | .asg t e, ct, st => match st with
    | .Assign [tg] v pos => chkTg ct t tg && chkE gc e ct v && (match t with
      | .nm _ => true
      | .tp _ => !(isTup v) || swB ct tg v)
    | _ => false
  | .par i j _ _ a b, ct, st => match st with
    | .Assign [.Tuple [.Name x px, .Name y py] _ _] (.Tuple [va, vb] _ _) _ => decide (ct.N[i]? = some x) && decide (ct.N[j]? = some y) && decide (i ≠ j) && parC ct x y px py va vb && chkE gc a ct va && chkE gc b ct vb
    | _ => false
  | .bxa i e, ct, st => match st with
    | .Assign [.Name x _] v _ => decide (ct.N[i]? = some x) && stB ct x && chkE gc e ct v
    | _ => false
  | .app i e, ct, st => match st with
    | .Expr (.Call (.Attribute (.Name x _) nm apos) [v] [] cpos) _ => decide (nm = ("append" : Str)) && decide (ct.N[i]? = some x) && visB ct.sc x && okN x && (apos.endLine == cpos.line) && chkE gc e ct v
    | _ => false
  | .set i ix e, ct, st => match st with
    | .Assign [.Subscript (.Name x _) y _] v _ => decide (ct.N[i]? = some x) && visB ct.sc x && okN x && chkE gc ix ct y && chkE gc e ct v
    | _ => false
  | .aug i op e, ct, st => match st with
    | .AugAssign (.Name x _) op' v _ => decide (op = op') && decide (ct.N[i]? = some x) && stB ct x && chkE gc e ct v
    | _ => false
  | .ret e, ct, st => match st with
    | .Return (some v) _ => chkE gc e ct v
    | _ => false
  | .retN, _, st => match st with
    | .Return none _ => true
    | _ => false
  | .ife t a b, ct, st => match st with
    | .If c x y _ => chkE gc t ct c && chkSs gc a ct x && chkSs gc b ct y
    | _ => false
  | .for_ t it b, ct, st => match st with
    | .For tg iter body [] _ => chkTg ct t tg && chkIt gc it ct tg iter && chkSs gc b ct body
    | _ => false
  | .while_ t b, ct, st => match st with
    | .While c body [] _ => chkE gc t ct c && chkSs gc b ct body
    | _ => false
  | .pass, _, st => match st with
    | .Pass _ => true
    | _ => false
  | .brk, _, st => match st with
    | .Break _ => true
    | _ => false
  | .cont, _, st => match st with
    | .Continue _ => true
    | _ => false
  | .raise, _, _ => true
  | .expr e, ct, st => match st with
    | .Expr v _ => !(compE v) && chkE gc e ct v
    | _ => false
def chkSs (gc : Gc) : Ss → Ct → List Stmt → Bool
  | .nil, _, sts => match sts with
    | [] => true
    | _ => false
  | .cons s ss, ct, sts => match sts with
    | st :: r => chkS gc s ct st && chkSs gc ss ct r
    | [] => false
  | .frz _ ss, ct, sts => chkSs gc ss ct sts
end

/-! ### ends -/
def PostFl (K : PySem.W.Frag) (Φ : Hp) (π : List Addr) (G : Hp) (f : Fl) (D : Ends) : Prop := match f with
  | .nx ρ μ => ∀ (π' : List Addr) (G' : Hp) (σ' : L2.St) (H' : Hp), π <+: π' → Ex G G' → SlotOk K π' G' ρ σ' → Hpx K Φ π' μ G' H' → D.nx σ' H'
  | .bk ρ μ => ∀ (π' : List Addr) (G' : Hp) (σ' : L2.St) (H' : Hp), π <+: π' → Ex G G' → SlotOk K π' G' ρ σ' → Hpx K Φ π' μ G' H' → D.bk σ' H'
  | .ct ρ μ => ∀ (π' : List Addr) (G' : Hp) (σ' : L2.St) (H' : Hp), π <+: π' → Ex G G' → SlotOk K π' G' ρ σ' → Hpx K Φ π' μ G' H' → D.ct σ' H'
  | .rt r μ => ∀ (π' : List Addr), π <+: π' → PostR K Φ π' G r μ D.rt
section
variable {K : PySem.W.Frag} {Φ : Hp} {π π1 : List Addr} {μ : Store} {G G1 H : Hp}
theorem PostFl.up {f : Fl} {D : Ends} (e : Ex G G1) (p : π <+: π1) (h : PostFl K Φ π G f D) : PostFl K Φ π1 G1 f D := by
  cases f with
  | nx ρ μ => exact fun π' G' σ' H' p' e' => h π' G' σ' H' (p.trans p') (e.trans e')
  | bk ρ μ => exact fun π' G' σ' H' p' e' => h π' G' σ' H' (p.trans p') (e.trans e')
  | ct ρ μ => exact fun π' G' σ' H' p' e' => h π' G' σ' H' (p.trans p') (e.trans e')
  | rt r μ => exact fun π' p' => PostR.up e (h π' (p.trans p'))
/-! ### boxes -/
theorem Hpx.alloc {p : Addr} {o : FO} (h : Hpx K Φ π μ G H) (c : Clear Φ π μ G p) (f : FOk K G H p o) : Hpx K Φ (π ++ [p]) (μ ++ [some (.fo o)]) G H where
  ex := h.ex
  len := by rw [List.length_append, List.length_append, h.len]; rfl
  bx := fun n o' e => by
    by_cases hn : n < μ.length
    · rw [List.getElem?_append_left hn] at e
      obtain ⟨q, h1, h2, h3⟩ := h.bx n o' e
      exact ⟨q, by rw [List.getElem?_append_left (by rw [← h.len]; exact hn)]; exact h1, h2, h3⟩
    · rw [List.getElem?_append_right (by omega)] at e
      have : n - μ.length = 0 := by
        by_cases z : n - μ.length = 0
        · exact z
        · rw [List.getElem?_eq_none (by simp; omega)] at e; cases e
      rw [this] at e
      cases e
      have hn' : n = π.length := by have := h.len; omega
      exact ⟨p, by rw [hn', List.getElem?_append_right (Nat.le_refl _), Nat.sub_self]; rfl, c.g, f⟩
  fz := fun n ds e => by
    by_cases hn : n < μ.length
    · rw [List.getElem?_append_left hn] at e
      obtain ⟨q, xs, h1, h2, h3⟩ := h.fz n ds e
      exact ⟨q, xs, by rw [List.getElem?_append_left (by rw [← h.len]; exact hn)]; exact h1, h2, h3⟩
    · rw [List.getElem?_append_right (by omega)] at e
      by_cases z : n - μ.length = 0
      · rw [z] at e; cases e
      · rw [List.getElem?_eq_none (by simp; omega)] at e; cases e
  ph := h.ph
  pg := h.pg
  pb := fun n o' a e z => by
    by_cases hn : n < μ.length
    · rw [List.getElem?_append_left hn] at e
      rw [List.getElem?_append_left (by rw [← h.len]; exact hn)] at z
      exact h.pb n o' a e z
    · have hn' : n = π.length := by
        have e' := e
        rw [List.getElem?_append_right (by omega)] at e'
        have hl := h.len
        by_cases z2 : n - μ.length = 0
        · omega
        · rw [List.getElem?_eq_none (by simp; omega)] at e'; cases e'
      rw [hn', List.getElem?_append_right (Nat.le_refl _), Nat.sub_self] at z
      cases z
      exact c.f
  inj := fun n m o1 o2 a e1 e2 z1 z2 => by
    have hl := h.len
    have lim : ∀ j o', (μ ++ [some (.fo o)])[j]? = some (some (.fo o')) → j ≤ μ.length := fun j o' e => by
      have := (List.getElem?_eq_some_iff.mp e).1
      rw [List.length_append] at this
      simp at this
      omega
    have b1 := lim n o1 e1
    have b2 := lim m o2 e2
    by_cases hn : n < μ.length
    · by_cases hm : m < μ.length
      · rw [List.getElem?_append_left hn] at e1
        rw [List.getElem?_append_left hm] at e2
        rw [List.getElem?_append_left (by omega)] at z1
        rw [List.getElem?_append_left (by omega)] at z2
        exact h.inj n m o1 o2 a e1 e2 z1 z2
      · rw [List.getElem?_append_left hn] at e1
        rw [List.getElem?_append_left (by omega)] at z1
        have hm' : m = π.length := by omega
        rw [hm', List.getElem?_append_right (Nat.le_refl _), Nat.sub_self] at z2
        cases z2
        exact absurd z1 (c.b n o1 e1)
    · by_cases hm : m < μ.length
      · rw [List.getElem?_append_left hm] at e2
        rw [List.getElem?_append_left (by omega)] at z2
        have hn' : n = π.length := by omega
        rw [hn', List.getElem?_append_right (Nat.le_refl _), Nat.sub_self] at z1
        cases z1
        exact absurd z2 (c.b m o2 e2)
      · omega
/-- a box taken out of the store -/
theorem Hpx.take {n : Nat} {o : FO} (h : Hpx K Φ π μ G H) (e : μ[n]? = some (some (.fo o))) : ∃ p, π[n]? = some p ∧ Hpx K Φ π (μ.set n none) G H ∧ Clear Φ π (μ.set n none) G p ∧ FOk K G H p o := by
  obtain ⟨p, h1, h2, h3⟩ := h.bx n _ e
  have back : ∀ (m : Nat) (o' : SO), (μ.set n Option.none)[m]? = some (some o') → μ[m]? = some (some o') ∧ m ≠ n := fun m o' z => by
    by_cases q : n = m
    · subst q
      rw [List.getElem?_set_self (List.getElem?_eq_some_iff.mp e).1] at z
      cases z
    · rw [List.getElem?_set_ne q] at z
      exact ⟨z, fun w => q w.symm⟩
  refine ⟨p, h1, ⟨h.ex, by rw [List.length_set]; exact h.len, fun m o' z => h.bx m o' (back m _ z).1, fun m ds z => h.fz m ds (back m _ z).1, h.ph, h.pg, fun m o' a z => h.pb m o' a (back m _ z).1, fun m m' o1 o2 a z1 z2 => h.inj m m' o1 o2 a (back m _ z1).1 (back m' _ z2).1⟩, ⟨h2, fun m o' z w => ?_, h.pb n _ p e h1⟩, h3⟩
  exact (back m _ z).2 (h.inj m n o' _ p (back m _ z).1 e w h1)
theorem Hpx.freeze {n : Nat} {o : FO} (h : Hpx K Φ π μ G H) (e : μ[n]? = some (some (.fo o))) : ∃ p G', π[n]? = some p ∧ Ex G G' ∧ Hpx K Φ π (μ.set n none) G' H ∧ Rep K G' (.ref p) o.data := by
  obtain ⟨p, h1, h2, h3, h4⟩ := h.take e
  cases o with
  | lst ds =>
    obtain ⟨xs, h5, h6⟩ := h4
    have e2 : Ex G (upd G p (.lst xs)) := Ex.new h3.g
    exact ⟨p, _, h1, e2, h2.lay h3 h5, .lst upd_same (h6.mono e2)⟩
theorem Hpx.write {n : Nat} {p : Addr} {xs : List V} {ds ds' : List D} (h : Hpx K Φ π μ G H) (e : μ[n]? = some (some (.fo (.lst ds)))) (hp : π[n]? = some p) (r : RepAll K G xs ds') : Hpx K Φ π (μ.set n (some (.fo (.lst ds')))) G (upd H p (.lst xs)) := by
  obtain ⟨p', h1, h2, xs0, h3, _⟩ := h.bx n _ e
  rw [hp] at h1; cases h1
  have hlt := (List.getElem?_eq_some_iff.mp e).1
  have back : ∀ (m : Nat) (o' : SO), (μ.set n (some (.fo (.lst ds'))))[m]? = some (some o') → (m = n ∧ o' = .fo (.lst ds')) ∨ (m ≠ n ∧ μ[m]? = some (some o')) := fun m o' z => by
    by_cases q : n = m
    · subst q
      rw [List.getElem?_set_self hlt] at z
      cases z
      exact .inl ⟨rfl, rfl⟩
    · rw [List.getElem?_set_ne q] at z
      exact .inr ⟨fun w => q w.symm, z⟩
  have live : ∀ (m : Nat) (o' : FO), (μ.set n (some (.fo (.lst ds'))))[m]? = some (some (.fo o')) → ∃ o2, μ[m]? = some (some (.fo o2)) := fun m o' z => by
    rcases back m _ z with ⟨rfl, _⟩ | ⟨_, z'⟩
    · exact ⟨_, e⟩
    · exact ⟨_, z'⟩
  refine ⟨fun a u z => ?_, by rw [List.length_set]; exact h.len, fun m o' z => ?_, fun m es z => ?_, fun a u z => ?_, h.pg, fun m o' a z w => ?_, fun m m' o1 o2 a z1 z2 => ?_⟩
  · have : a ≠ p := fun q => by rw [q, h2] at z; cases z
    rw [upd_ne this]; exact h.ex a u z
  · rcases back m _ z with ⟨rfl, eo⟩ | ⟨hm, z'⟩
    · cases eo
      exact ⟨p, hp, h2, xs, upd_same, r⟩
    · obtain ⟨q, q1, q2, q3⟩ := h.bx m o' z'
      have : q ≠ p := fun w => hm (h.inj m n o' _ p z' e (w ▸ q1) hp)
      exact ⟨q, q1, q2, q3.at (by rw [upd_ne this])⟩
  · rcases back m _ z with ⟨rfl, eo⟩ | ⟨hm, z'⟩
    · cases eo
    · obtain ⟨q, ys, q1, q2, q3⟩ := h.fz m es z'
      exact ⟨q, ys, q1, q2.upd h3 (fun _ _ z => nomatch z), q3⟩
  · have : a ≠ p := fun q => by
      have := h.pb n _ p e hp
      rw [q, this] at z; cases z
    rw [upd_ne this]; exact h.ph a u z
  · obtain ⟨o2, z'⟩ := live m o' z
    exact h.pb m o2 a z' w
  · obtain ⟨q1, w1⟩ := live m o1 z1
    obtain ⟨q2, w2⟩ := live m' o2 z2
    exact h.inj m m' q1 q2 a w1 w2
end
section
variable (gc : Gc) (g : Ge) (k : Nat)
def SndS (a : S) : Prop := ∀ (ct : Ct) (st : Stmt) (X : Cx), chkS gc a ct st = true → Fits gc g k ct X → ∀ (ρ : Rho) (μ : Store) (f : Fl), evS g a ρ μ = some f →
  ∀ (Φ : Hp) (π : List Addr) (G : Hp) (σ : L2.St) (H : Hp), SlotOk X.K π G ρ σ → Hpx X.K Φ π μ G H → ∀ D, PostFl X.K Φ π G f D → semS X st D σ H
def SndSs (a : Ss) : Prop := ∀ (ct : Ct) (st : List Stmt) (X : Cx), chkSs gc a ct st = true → Fits gc g k ct X → ∀ (ρ : Rho) (μ : Store) (f : Fl), evSs g a ρ μ = some f →
  ∀ (Φ : Hp) (π : List Addr) (G : Hp) (σ : L2.St) (H : Hp), SlotOk X.K π G ρ σ → Hpx X.K Φ π μ G H → ∀ D, PostFl X.K Φ π G f D → semSs X st D σ H
end
section
variable {gc : Gc} {g : Ge} {k : Nat}
theorem pre_app (π : List Addr) (p : Addr) : π <+: π ++ [p] := ⟨[p], rfl⟩
/-- an expression that is put into a slot: a thing, or a new box -/
theorem sndW_mk {a : E} (ia : SndE gc g k a) {fl : Bool} {ct : Ct} {e : Expr} {X : Cx} (hc : chkE gc a ct e = true) (F : Fits gc g k ct X) {ρ : Rho} {μ μ' : Store} {r : R × Store} {w : W} (he : evE g a ρ μ = some r) (hm : mkW fl r = some (w, μ'))
    {Φ : Hp} {π : List Addr} {G : Hp} {σ : L2.St} {H : Hp} (so : SlotOk X.K π G ρ σ) (hx : Hpx X.K Φ π μ G H) {Q : VK}
    (q : ∀ v π' G' H', π <+: π' → Ex G G' → Hpx X.K Φ π' μ' G' H' → RelW X.K π' G' v w → Q v H') : semE X e σ H Q := by
  obtain ⟨r, μ1⟩ := r
  cases fl with
  | false =>
    cases hm
    exact ia ct e X hc F ρ μ r _ he Φ π G σ H so hx Q (.of fun v G' H' e' p' r' => q v π G' H' (List.prefix_refl _) e' p' r')
  | true =>
    cases r with
    | w x => cases hm
    | fr o =>
      cases hm
      refine ia ct e X hc F ρ μ _ _ he Φ π G σ H so hx Q ?_
      intro p G' H' e' p' c' f'
      refine q (.ref p) (π ++ [p]) G' H' (pre_app π p) e' (p'.alloc c' f') ⟨p, ?_, rfl⟩
      rw [p'.len, List.getElem?_append_right (Nat.le_refl _), Nat.sub_self]; rfl

theorem sw_false {v : Expr} {t : Option Expr} {l : Nat} {env : PySem.Env} (h : compE v = false) : swapsWith v t l env = pure false := by
  cases v <;> first | rfl | cases h
theorem sw_name {X : Cx} {ct : Ct} (F : Fits gc g k ct X) (I : ∃ pins σ H s, L2.Inv X pins σ H s) {x : Str} {px : Pos} {v : Expr} {l : Nat} (h : swE ct x px v = false) (h2 : ∀ a b c d, v ≠ .SetComp a b c d) (h3 : ∀ a b c d e, v ≠ .DictComp a b c d e) : swapsWith v (some (.Name x px)) l X.env = pure false := by
  cases v <;> first | rfl | (exact absurd rfl (h2 _ _ _ _)) | (exact absurd rfl (h3 _ _ _ _ _)) | skip
  rename_i el gens scope pos
  obtain ⟨pins, σ, H, s, I⟩ := I
  have hk : X.env.kindOf x = ct.sc.names.lookup x := by show X.env.scope.names.lookup x = _; rw [F.sc]
  show (pure (X.env.blockKind == .function && X.env.kindOf x == some .local && px.line == pos.line && !(scope.names.any fun (n, k) => n == x && (k == .local || k == .cell))) : Sem Bool) = pure false
  congr 1
  rw [hk]
  unfold swE at h
  dsimp only at h
  cases hb : (X.env.blockKind == ScopeKind.function) with
  | false => rfl
  | true =>
    rw [Bool.true_and]
    rw [← h]
    congr 2
    by_cases z : ct.sc.names.lookup x = some .local
    · rw [z]; rfl
    · rw [decide_eq_false z]
      exact beq_eq_false_iff_ne.mpr z
end
end Mini
end
section
set_option autoImplicit false
set_option Elab.async false
set_option linter.all false
set_option maxRecDepth 100000
set_option maxHeartbeats 4000000
/-! ML: statements, the cases. -/
namespace Mini
open PySem PySem.Spec PyProof.Rows L2 Evl
section
variable {gc : Gc} {g : Ge} {k : Nat}
theorem mk_post {K : PySem.W.Frag} {fl : Bool} {r : R} {μ1 μ' : Store} {w : W} {Φ : Hp} {π : List Addr} {G : Hp} {Q : VK} (hm : mkW fl (r, μ1) = some (w, μ'))
    (q : ∀ v π' G' H', π <+: π' → Ex G G' → Hpx K Φ π' μ' G' H' → RelW K π' G' v w → Q v H') : PostR K Φ π G r μ1 Q := by
  cases fl with
  | false =>
    cases hm
    exact .of fun v G' H' e' p' r' => q v π G' H' (List.prefix_refl _) e' p' r'
  | true =>
    cases r with
    | w x => cases hm
    | fr o =>
      cases hm
      intro p G' H' e' p' c' f'
      refine q (.ref p) (π ++ [p]) G' H' (pre_app π p) e' (p'.alloc c' f') ⟨p, ?_, rfl⟩
      rw [p'.len, List.getElem?_append_right (Nat.le_refl _), Nat.sub_self]; rfl
theorem chk_noset {a : E} {ct : Ct} {p q : Expr} {gs : List Comprehension} {sc : Scope} {pos : Pos} : chkE gc a ct (.SetComp p gs sc pos) = true → False := by
  intro h
  cases a <;> simp [chkE] at h
theorem chk_nodic {a : E} {ct : Ct} {p q : Expr} {gs : List Comprehension} {sc : Scope} {pos : Pos} : chkE gc a ct (.DictComp p q gs sc pos) = true → False := by
  intro h
  cases a <;> simp [chkE] at h
/-- name = e -/
theorem set_name {a : E} {fl : Bool} {ct : Ct} {X : Cx} {x : Str} {px pos : Pos} {v : Expr} {i : Nat} (hN : ct.N[i]? = some x) (hst : stB ct x = true) (hc : chkE gc a ct v = true) (F : Fits gc g k ct X) {ρ : Rho} {μ μ' : Store} {r : R × Store} {w : W}
    (he : evE g a ρ μ = some r) (hm : mkW fl r = some (w, μ')) {Φ : Hp} {π : List Addr} {G : Hp} {σ : L2.St} {H : Hp} (so : SlotOk X.K π G ρ σ) (hx : Hpx X.K Φ π μ G H) {D : Ends}
    (q : ∀ y π' G' H', π <+: π' → Ex G G' → Hpx X.K Φ π' μ' G' H' → RelW X.K π' G' y w → D.nx (σ.set i (some y)) H') : semS X (.Assign [.Name x px] v pos) D σ H := by
  obtain ⟨r, μ1⟩ := r
  obtain ⟨s1, s2⟩ := st_ok F hst
  have nd : X.N.Nodup := by rw [F.N]; exact F.nd
  have hi : X.N[i]? = some x := by rw [F.N]; exact hN
  have post : PostR X.K Φ π G r μ1 (fun y H1 => D.nx (σ.set i (some y)) H1) := mk_post hm q
  intro pins s I
  by_cases hsw : swE ct x px v = true
  · cases v with
    | ListComp elt gens scope vpos =>
      cases a with
      | lc own t it c el =>
        obtain ⟨elt', tg, iter, ifs, scope', pos', e', c1, c1', c2, c3, c4, c5, c6⟩ := lc_parts hc
        cases e'
        have c1 : BlkOk X.N X.env.scope scope (ownOf ct.N scope) := by rw [F.N, F.sc]; exact c1
        unfold swE at hsw
        simp only [Bool.and_eq_true, decide_eq_true_eq, Bool.not_eq_true'] at hsw
        obtain ⟨⟨w1, w2⟩, w3⟩ := hsw
        have w1' : X.env.scope.names.lookup x = some .local := by rw [F.sc]; exact w1
        have rd := lc_read (soundI it) (soundEo c).2 (soundE el).1 c2 c4 c5 c6 F he so hx post
        rw [c1'] at rd
        exact (ps_setLc (own := ownOf ct.N scope) (g := gTg X.K t) (tt := ttOf X scope ifs) (te := semEB X scope elt) F.calm nd hi w1' (sw_true I.ok.kind w1' w2 w3) pi_sem c1 (fun s H C cl fp => pg_tg (F.blk s H scope C cl fp) c3) (fun s H C cl fp => pts_tt c5 s H C cl fp)
          (fun s H C cl fp => ⟨fun pins s1 σ H1 Q I h => h s H C cl fp pins s1 I⟩) (fold_iter c2)).run pins s σ H D I rd
      | _ => simp [chkE] at hc
    | _ => simp [swE] at hsw
  · have hsw : swE ct x px v = false := by simpa using hsw
    have hs : swapsWith v (some (.Name x px)) pos.line X.env = pure false := sw_name F ⟨pins, σ, H, s, I⟩ hsw (fun a' b c d e => by subst e; exact chk_noset (q := .Name x px) hc) (fun a' b c d e' e => by subst e; exact chk_nodic hc)
    exact (ps_set nd hi s1 pe_sem hs s2).run pins s σ H D I ((soundE a).1 ct v X hc F ρ μ r μ1 he Φ π G σ H so hx _ post)
theorem sw_none {ct : Ct} {X : Cx} (F : Fits gc g k ct X) {ts vs : List Expr} {k1 k2 : Nat} {p1 p2 : Pos} (h : swB ct (.Tuple ts k1 p1) (.Tuple vs k2 p2) = true) : swappedStores [.Tuple ts k1 p1] (.Tuple vs k2 p2) X.env = pure none := by
  have e : ∀ x, X.env.kindOf x = ct.sc.names.lookup x := fun x => by show X.env.scope.names.lookup x = _; rw [F.sc]
  have st : (fun (x : Expr) => match x with | .Starred .. => true | _ => false) = isStarE := by
    funext x; cases x <;> rfl
  unfold swB at h
  unfold swappedStores
  simp only [e]
  dsimp only at h
  split
  · rfl
  · rename_i h1
    split
    · rfl
    · rename_i h2'
      have fm : (ts.filterMap fun
        | .Name id pos => if ct.sc.names.lookup id == some .local && pos.line == (ts.head?.map (·.pos.line)).getD 0 then some id else none
        | _ => none) = ts.filterMap (nmOne ct ts) := by
        congr 1
      have h2 : ¬ vs.any isStarE = true := by rw [← st]; exact h2'
      clear h2'
      split
      · rfl
      · rename_i h3'
        have h3 : ¬ ((ts.filterMap (nmOne ct ts)).length != ts.length || (ts.filterMap (nmOne ct ts)).eraseDups.length != (ts.filterMap (nmOne ct ts)).length) = true := by rw [← fm]; exact h3'
        clear h3'
        split
        · rfl
        · rename_i h4
          exfalso
          simp only [Bool.or_eq_true, not_or, Bool.not_eq_true] at h h1 h2 h3 h4
          rw [h1.1.1, h1.1.2, h2, h3.1, h3.2, h4] at h
          simp at h
theorem snd_expr {e : E} : SndS gc g k (.expr e) := by
  intro ct st X hc F ρ μ f he Φ π G σ H so hx D q
  unfold chkS at hc
  split at hc
  · rename_i v pos
    simp only [Bool.and_eq_true, Bool.not_eq_true'] at hc
    unfold evS at he
    obtain ⟨⟨w, μ1⟩, h1, he⟩ := Option.bind_eq_some_iff.mp he
    cases he
    refine s_of (ps_expr pe_sem (sw_false hc.1)) ?_
    refine (soundE e).1.w hc.2 F h1 so hx fun v1 G1 H1 e1 p1 r1 => ?_
    exact q π G1 σ H1 (List.prefix_refl _) e1 (so.mono e1) p1
  · cases hc
theorem snd_asg {t : Tg} {e : E} : SndS gc g k (.asg t e) := by
  intro ct st X hc F ρ μ f he Φ π G σ H so hx D q
  unfold chkS at hc
  split at hc
  · rename_i tg v pos
    simp only [Bool.and_eq_true] at hc
    obtain ⟨⟨c1, c2⟩, c3⟩ := hc
    unfold evS at he
    obtain ⟨⟨w, μ1⟩, h1, he⟩ := Option.bind_eq_some_iff.mp he
    cases t with
    | nm i =>
      cases he
      cases tg with
      | Name x px =>
        simp only [chkTg, Bool.and_eq_true, decide_eq_true_eq] at c1
        obtain ⟨r, hr, hn⟩ := Option.map_eq_some_iff.mp h1
        refine set_name (fl := false) c1.1 c1.2 c2 F hr (w := w) (μ' := μ1) ?_ so hx fun y π' G' H' p' e' x' r' => ?_
        · obtain ⟨r, m⟩ := r
          cases hn
          rfl
        · exact q π' G' _ H' p' e' (((so.mono e').more p').set i r') x'
      | _ => simp [chkTg] at c1
    | tp is =>
      obtain ⟨d, h2, he⟩ := Option.bind_eq_some_iff.mp he
      obtain ⟨ρ1, h3, he⟩ := Option.bind_eq_some_iff.mp he
      cases he
      have c1' := c1
      unfold chkTg at c1
      split at c1
      · rename_i z; cases z
      · rename_i is' es kk tpos z
        have hs : swapsWithSole [.Tuple es kk tpos] v pos.line X.env = pure false := by cases v <;> rfl
        have hw : swappedStores [.Tuple es kk tpos] v X.env = pure none := by cases v <;> first | rfl | exact sw_none F (by simpa [isTup] using c3)
        refine s_of (ps_asg pe_sem (pg_tg F c1') hs hw rfl) ?_
        refine (soundE e).1.w c2 F h1 so hx fun v1 G1 H1 e1 p1 r1 => ?_
        exact tg_ok h3 (toD_rel r1 h2) p1.ex (so.mono e1) fun σ' so' _ => q π G1 σ' H1 (List.prefix_refl _) e1 so' p1
      · cases c1
  · cases hc
theorem snd_bxa {i : Nat} {e : E} : SndS gc g k (.bxa i e) := by
  intro ct st X hc F ρ μ f he Φ π G σ H so hx D q
  unfold chkS at hc
  split at hc
  · rename_i x px v pos
    simp only [Bool.and_eq_true, decide_eq_true_eq] at hc
    obtain ⟨⟨c1, c2⟩, c3⟩ := hc
    unfold evS at he
    obtain ⟨r, h1, he⟩ := Option.bind_eq_some_iff.mp he
    obtain ⟨⟨w, μ1⟩, h2, he⟩ := Option.bind_eq_some_iff.mp he
    cases he
    exact set_name c1 c2 c3 F h1 h2 so hx fun y π' G' H' p' e' x' r' => q π' G' _ H' p' e' (((so.mono e').more p').set i r') x'
  · cases hc
theorem par_sw {ct : Ct} {X : Cx} (F : Fits gc g k ct X) {x y : Str} {px py tp tp2 : Pos} {kk k2 : Nat} {va vb : Expr} (hk : X.env.scope.kind = .function) (h : parC ct x y px py va vb = true) (na : notStar va = true) (nb : notStar vb = true) :
    swappedStores [.Tuple [.Name x px, .Name y py] kk tp] (.Tuple [va, vb] k2 tp2) X.env = pure (some [x, y]) := by
  unfold parC at h
  simp only [Bool.and_eq_true, decide_eq_true_eq, Bool.not_eq_true'] at h
  obtain ⟨⟨⟨⟨⟨h1, h2⟩, h3⟩, h4⟩, h5⟩, h6⟩ := h
  have l1 : X.env.kindOf x = some .local := by show X.env.scope.names.lookup x = _; rw [F.sc]; exact h1
  have l2 : X.env.kindOf y = some .local := by show X.env.scope.names.lookup y = _; rw [F.sc]; exact h2
  have bk : X.env.blockKind = .function := by unfold PySem.Env.blockKind; rw [hk]; rfl
  have st : ([va, vb].any fun | .Starred .. => true | _ => false) = false := by
    cases va <;> first | (cases na; done) | (cases vb <;> first | (cases nb; done) | rfl)
  have ne : (y == x) = false := by
    rw [beq_eq_false_iff_ne]; exact fun z => h4 z.symm
  have h3' : py.line = px.line := eq_of_beq h3
  unfold swappedStores
  simp only [bk, st, l1, l2, h5, h6, h3', List.length_cons, List.length_nil, List.head?_cons, Option.map_some, Option.getD_some, List.filterMap_cons, List.filterMap_nil, Expr.pos, beq_self_eq_true, Bool.and_self, if_true]
  have e1 : ([x, y].eraseDups).length = 2 := by
    rw [List.eraseDups_cons]
    simp [ne, List.eraseDups_cons]
  simp [e1]
  intro h
  rcases h with h | h
  · cases va <;> first | (cases na; done) | cases h
  · cases vb <;> first | (cases nb; done) | cases h
theorem snd_par {i j : Nat} {fa fb : Bool} {a b : E} : SndS gc g k (.par i j fa fb a b) := by
  intro ct st X hc F ρ μ f he Φ π G σ H so hx D q
  unfold chkS at hc
  split at hc
  · rename_i x px y py kk tp va vb k2 tp2 pos
    simp only [Bool.and_eq_true, decide_eq_true_eq] at hc
    obtain ⟨⟨⟨⟨⟨c1, c2⟩, c3⟩, c4⟩, c5⟩, c6⟩ := hc
    unfold evS at he
    obtain ⟨ra, h1, he⟩ := Option.bind_eq_some_iff.mp he
    obtain ⟨⟨wa, μ1⟩, h2, he⟩ := Option.bind_eq_some_iff.mp he
    obtain ⟨rb, h3, he⟩ := Option.bind_eq_some_iff.mp he
    obtain ⟨⟨wb, μ2⟩, h4, he⟩ := Option.bind_eq_some_iff.mp he
    cases he
    have cc := c4
    unfold parC at cc
    simp only [Bool.and_eq_true, decide_eq_true_eq] at cc
    have l1 : X.env.scope.names.lookup x = some .local := by rw [F.sc]; exact cc.1.1.1.1.1
    have l2 : X.env.scope.names.lookup y = some .local := by rw [F.sc]; exact cc.1.1.1.1.2
    intro pins s I
    refine (ps_par F.calm (by rw [F.N]; exact F.nd) (by rw [F.N]; exact c1) (by rw [F.N]; exact c2) c3 l1 l2 (pa_cons pe_sem (pa_cons pe_sem pa_nil (star_cons (chk_star c6))) (star_cons (chk_star c5))) (par_sw F I.ok.kind c4 (chk_star c5) (chk_star c6)) rfl).run pins s σ H D I ?_
    refine sndW_mk (soundE a).1 c5 F h1 h2 so hx fun v1 π1 G1 H1 pr1 e1 p1 r1 => ?_
    refine sndW_mk (soundE b).1 c6 F h3 h4 ((so.mono e1).more pr1) p1 fun v2 π2 G2 H2 pr2 e2 p2 r2 => ?_
    exact ⟨v1, v2, rfl, q π2 G2 _ H2 (pr1.trans pr2) (e1.trans e2) (((((so.mono e1).more pr1).mono e2).more pr2 |>.set i ((r1.mono e2).more pr2)).set j r2) p2⟩
  · cases hc
theorem box_slot {K : PySem.W.Frag} {π : List Addr} {G : Hp} {ρ : Rho} {σ : L2.St} {i n : Nat} (so : SlotOk K π G ρ σ) (h : boxAt ρ i = some n) : ∃ p, π[n]? = some p ∧ σ[i]? = some (some (.ref p)) := by
  unfold boxAt at h
  split at h
  · rename_i m hm
    cases h
    obtain ⟨v, h1, p, h2, rfl⟩ := so.at_ i _ hm
    exact ⟨p, h2, h1⟩
  · cases h
theorem lst_at {K : PySem.W.Frag} {Φ : Hp} {π : List Addr} {μ : Store} {G H : Hp} {n : Nat} {p : Addr} {ds : List D} (hx : Hpx K Φ π μ G H) (hp : π[n]? = some p) (h : lstAt μ n = some ds) : μ[n]? = some (some (.fo (.lst ds))) ∧ ∃ xs, H p = some (.lst xs) ∧ RepAll K G xs ds := by
  unfold lstAt at h
  split at h
  · rename_i ds' hm
    cases h
    obtain ⟨q, h1, h2, h3⟩ := hx.bx n _ hm
    rw [hp] at h1; cases h1
    exact ⟨hm, h3⟩
  · cases h
theorem snd_app {i : Nat} {e : E} : SndS gc g k (.app i e) := by
  intro ct st X hc F ρ μ f he Φ π G σ H so hx D q
  unfold chkS at hc
  split at hc
  · rename_i x p0 nm apos v cpos pos
    simp only [Bool.and_eq_true, decide_eq_true_eq] at hc
    obtain ⟨⟨⟨⟨⟨rfl, c1⟩, c2⟩, c3⟩, c4⟩, c5⟩ := hc
    obtain ⟨d1, d2, d3⟩ := okN_d c3
    unfold evS at he
    obtain ⟨n, h1, he⟩ := Option.bind_eq_some_iff.mp he
    obtain ⟨ds0, h0, he⟩ := Option.bind_eq_some_iff.mp he
    obtain ⟨⟨w, μ1⟩, h2, he⟩ := Option.bind_eq_some_iff.mp he
    obtain ⟨d, h3, he⟩ := Option.bind_eq_some_iff.mp he
    obtain ⟨ds, h4, he⟩ := Option.bind_eq_some_iff.mp he
    split at he
    · rename_i hz
      cases he
      obtain ⟨p, hp, hs⟩ := box_slot so h1
      have vis : Vis X.env.scope x := by have := visB_iff c2; rw [← F.sc] at this; exact this
      have pv : PE X (.Name x p0) (tVar i) := pe_var (by rw [F.N]; exact c1) vis d1 d2
      have bm := pe_bm (X := X) (o := .Name x p0) (apos := apos) (cpos := cpos) (e := v) (es := []) (t := tCons (semE X v) tNil) PySem.F.plainAttrs_list PySem.F.slot_list_append PySem.F.type_list_append mt_append pv (pa_cons pe_sem pa_nil (star_cons (chk_star c5)))
        (by rfl) (by rw [star_cons (chk_star c5)]; rfl) c4 (star_cons (chk_star c5)) rfl
      refine s_of (ps_expr bm rfl) ?_
      obtain ⟨_, xs0, hx0, _⟩ := lst_at hx hp h0
      refine ⟨.ref p, hs, .inl ⟨rfl, xs0, .inl (.inl hx0)⟩, ?_⟩
      refine (soundE e).1.w c5 F h2 so hx fun v1 G1 H1 e1 p1 r1 => ?_
      obtain ⟨hb, xs, hxs, rxs⟩ := lst_at p1 hp h4
      refine ⟨p, xs, v1, rfl, rfl, hxs, by rw [rxs.length]; exact sz_lt hz, ?_⟩
      exact q π G1 σ _ (List.prefix_refl _) e1 (so.mono e1) (p1.write hb hp (rxs.append (.cons (toD_rel r1 h3) .nil)))
    · cases he
  · cases hc
theorem RepAll.setN {K : PySem.W.Frag} {G : Hp} {xs : List V} {ds : List D} {v : V} {d : D} (r : RepAll K G xs ds) (h : Rep K G v d) (n : Nat) : RepAll K G (xs.set n v) (ds.set n d) := RepAll.set h n r
theorem snd_set {i : Nat} {ix e : E} : SndS gc g k (.set i ix e) := by
  intro ct st X hc F ρ μ f he Φ π G σ H so hx D q
  unfold chkS at hc
  split at hc
  · rename_i x p0 y spos v pos
    simp only [Bool.and_eq_true, decide_eq_true_eq] at hc
    obtain ⟨⟨⟨⟨c1, c2⟩, c3⟩, c4⟩, c5⟩ := hc
    obtain ⟨d1, d2, d3⟩ := okN_d c3
    unfold evS at he
    obtain ⟨n, h1, he⟩ := Option.bind_eq_some_iff.mp he
    obtain ⟨⟨w, μ1⟩, h2, he⟩ := Option.bind_eq_some_iff.mp he
    obtain ⟨d, h3, he⟩ := Option.bind_eq_some_iff.mp he
    obtain ⟨⟨wi, μ2⟩, h4, he⟩ := Option.bind_eq_some_iff.mp he
    dsimp only at he
    split at he
    · obtain ⟨ds, h5, he⟩ := Option.bind_eq_some_iff.mp he
      obtain ⟨j, h6, he⟩ := Option.bind_eq_some_iff.mp he
      cases he
      obtain ⟨p, hp, hs⟩ := box_slot so h1
      have vis : Vis X.env.scope x := by have := visB_iff c2; rw [← F.sc] at this; exact this
      have pv : PE X (.Name x p0) (tVar i) := pe_var (by rw [F.N]; exact c1) vis d1 d2
      have sub : PG X (.Subscript (.Name x p0) y spos) (gSub (tVar i) (semE X y) rSetL) := pg_sub pv pe_sem set_list (by
        have := chk_slice c4
        cases y <;> first | (intro _; rfl) | cases this)
      refine s_of (ps_asg pe_sem sub (by cases v <;> rfl) (by cases v <;> rfl) rfl) ?_
      refine (soundE e).1.w c5 F h2 so hx fun v1 G1 H1 e1 p1 r1 => ?_
      refine ⟨.ref p, hs, ?_⟩
      refine (soundE ix).1.w c4 F h4 (so.mono e1) p1 fun v2 G2 H2 e2 p2 r2 => ?_
      cases r2
      obtain ⟨hb, xs, hxs, rxs⟩ := lst_at p2 hp h5
      refine ⟨p, xs, _, j, rfl, rfl, hxs, by rw [rxs.length]; exact h6, ?_⟩
      exact q π G2 σ _ (List.prefix_refl _) (e1.trans e2) (so.mono (e1.trans e2)) (p2.write hb hp (rxs.setN ((toD_rel r1 h3).mono e2) j))
    · cases he
  · cases hc
theorem snd_aug {i : Nat} {op : Operator} {e : E} : SndS gc g k (.aug i op e) := by
  intro ct st X hc F ρ μ f he Φ π G σ H so hx D q
  unfold chkS at hc
  split at hc
  · rename_i x p0 op' v pos
    simp only [Bool.and_eq_true, decide_eq_true_eq] at hc
    obtain ⟨⟨⟨rfl, c1⟩, c2⟩, c3⟩ := hc
    obtain ⟨s1, s2⟩ := st_ok F c2
    unfold evS at he
    split at he
    · rename_i a hs
      obtain ⟨⟨w, μ1⟩, h2, he⟩ := Option.bind_eq_some_iff.mp he
      obtain ⟨va, hva, ra⟩ := so.at_ i _ hs
      cases ra
      dsimp only at he
      split at he
      · cases he
        refine s_of (ps_aug (by rw [F.N]; exact F.nd) (by rw [F.N]; exact c1) s1 pe_sem ip_add s2) ⟨_, hva, ?_⟩
        refine (soundE e).1.w c3 F h2 so hx fun v1 G1 H1 e1 p1 r1 => ?_
        cases r1
        exact ⟨_, _, rfl, rfl, q π G1 _ H1 (List.prefix_refl _) e1 ((so.mono e1).set i (w := .d (.int _)) (Rep.int _)) p1⟩
      · cases he
        refine s_of (ps_aug (by rw [F.N]; exact F.nd) (by rw [F.N]; exact c1) s1 pe_sem ip_sub s2) ⟨_, hva, ?_⟩
        refine (soundE e).1.w c3 F h2 so hx fun v1 G1 H1 e1 p1 r1 => ?_
        cases r1
        exact ⟨_, _, rfl, rfl, q π G1 _ H1 (List.prefix_refl _) e1 ((so.mono e1).set i (w := .d (.int _)) (Rep.int _)) p1⟩
      · cases he
    · cases he
  · cases hc
theorem snd_ret {e : E} : SndS gc g k (.ret e) := by
  intro ct st X hc F ρ μ f he Φ π G σ H so hx D q
  unfold chkS at hc
  split at hc
  · rename_i v pos
    unfold evS at he
    obtain ⟨⟨r, μ1⟩, h1, he⟩ := Option.bind_eq_some_iff.mp he
    refine s_of (ps_ret pe_sem) ?_
    refine (soundE e).1 ct v X hc F ρ μ r μ1 h1 Φ π G σ H so hx D.rt ?_
    dsimp only at he
    split at he
    · rename_i n
      split at he
      · rename_i o hn
        cases he
        intro v1 G1 H1 e1 p1 r1
        obtain ⟨p, hp, rfl⟩ := r1
        obtain ⟨p', hp', x', c', f'⟩ := p1.take hn
        rw [hp] at hp'; cases hp'
        exact (q π (List.prefix_refl _)) p G1 H1 e1 x' c' f'
      · cases he
    · cases he
      exact q π (List.prefix_refl _)
  · cases hc
theorem snd_retN : SndS gc g k .retN := by
  intro ct st X hc F ρ μ f he Φ π G σ H so hx D q
  unfold chkS at hc
  split at hc
  · cases he
    exact s_of ps_retN ((q π (List.prefix_refl _)) .non G H (Ex.refl _) hx .non)
  · cases hc
theorem snd_pass : SndS gc g k .pass := by
  intro ct st X hc F ρ μ f he Φ π G σ H so hx D q
  unfold chkS at hc
  split at hc
  · cases he
    exact s_of ps_pass (q π G σ H (List.prefix_refl _) (Ex.refl _) so hx)
  · cases hc
theorem snd_brk : SndS gc g k .brk := by
  intro ct st X hc F ρ μ f he Φ π G σ H so hx D q
  unfold chkS at hc
  split at hc
  · cases he
    exact s_of ps_break (q π G σ H (List.prefix_refl _) (Ex.refl _) so hx)
  · cases hc
theorem snd_cont : SndS gc g k .cont := by
  intro ct st X hc F ρ μ f he Φ π G σ H so hx D q
  unfold chkS at hc
  split at hc
  · cases he
    exact s_of ps_continue (q π G σ H (List.prefix_refl _) (Ex.refl _) so hx)
  · cases hc
theorem snd_ifS {t : E} {a b : Ss} (ia : SndSs gc g k a) (ib : SndSs gc g k b) : SndS gc g k (.ife t a b) := by
  intro ct st X hc F ρ μ f he Φ π G σ H so hx D q
  unfold chkS at hc
  split at hc
  · rename_i c x y pos
    simp only [Bool.and_eq_true] at hc
    obtain ⟨⟨c1, c2⟩, c3⟩ := hc
    unfold evS at he
    obtain ⟨⟨b', μ1⟩, h1, he⟩ := Option.bind_eq_some_iff.mp he
    refine s_of (ps_if pt_sem pss_sem pss_sem) ?_
    refine (soundE t).2 ct c X c1 F ρ μ b' μ1 h1 Φ π G σ H so hx _ fun G1 H1 e1 p1 => ?_
    cases b' with
    | true => exact ia ct x X c2 F ρ μ1 f he Φ π G1 σ H1 (so.mono e1) p1 D (q.up e1 (List.prefix_refl _))
    | false => exact ib ct y X c3 F ρ μ1 f he Φ π G1 σ H1 (so.mono e1) p1 D (q.up e1 (List.prefix_refl _))
  · cases hc
theorem snd_for {t : Tg} {it : Src} {b : Ss} (ib : SndSs gc g k b) : SndS gc g k (.for_ t it b) := by
  intro ct st X hc F ρ μ f he Φ π G σ H so hx D q
  unfold chkS at hc
  split at hc
  · rename_i tg iter body pos
    simp only [Bool.and_eq_true] at hc
    obtain ⟨⟨c1, c2⟩, c3⟩ := hc
    unfold evS at he
    obtain ⟨⟨xs, μ1⟩, h1, he⟩ := Option.bind_eq_some_iff.mp he
    refine s_of (ps_for F.never F.calm pi_sem (pg_tg F c1) pss_sem (fold_iter c2)) ?_
    refine soundI it ct tg iter X c2 F ρ μ xs μ1 h1 Φ π G σ H so hx _ fun J G1 H1 e1 p1 hJ => ?_
    have he : forLoop t (evSs g b) xs ρ μ1 = some f := he
    refine ⟨fun i m σ2 H2 => m = xs.length - i ∧ i ≤ xs.length ∧ ∃ (π2 : List Addr) (G2 : Hp) (ρ2 : Rho) (μ2 : Store), π <+: π2 ∧ Ex G1 G2 ∧ SlotOk X.K π2 G2 ρ2 σ2 ∧ Hpx X.K Φ π2 μ2 G2 H2 ∧ forLoop t (evSs g b) (xs.drop i) ρ2 μ2 = some f,
      ⟨xs.length, by simp, Nat.zero_le _, π, G1, ρ, μ1, List.prefix_refl _, Ex.refl _, so.mono e1, p1, he⟩, ?_⟩
    rintro i m σ2 H2 ⟨rfl, hi, π2, G2, ρ2, μ2, pr2, e2, so2, p2, hloop⟩
    by_cases hlt : i < xs.length
    · have hdrop : xs.drop i = xs[i] :: xs.drop (i + 1) := List.drop_eq_getElem_cons hlt
      rw [hdrop] at hloop
      unfold forLoop at hloop
      obtain ⟨ρ3, hb, hloop⟩ := Option.bind_eq_some_iff.mp hloop
      obtain ⟨fb, hbody, hloop⟩ := Option.bind_eq_some_iff.mp hloop
      have hgo := (hJ i Φ π2 μ2 G2 H2 e2 p2).1 xs[i] (List.getElem?_eq_getElem hlt)
      refine .inr ⟨hgo.1, fun σ' H' => ∃ (π2 : List Addr) (G2 : Hp) (ρ2 : Rho) (μ2 : Store), π <+: π2 ∧ Ex G1 G2 ∧ SlotOk X.K π2 G2 ρ2 σ' ∧ Hpx X.K Φ π2 μ2 G2 H' ∧ forLoop t (evSs g b) (xs.drop (i + 1)) ρ2 μ2 = some f,
        fun σ' H' h' => ⟨xs.length - (i + 1), by omega, rfl, hlt, h'⟩, fun x H' hy => ?_⟩
      obtain ⟨G3, e3, p3, rx⟩ := hgo.2 x H' hy
      refine tg_ok hb rx p3.ex (so2.mono e3) fun σ3 so3 _ => ?_
      refine ib ct body X c3 F ρ3 μ2 fb hbody Φ π2 G3 σ3 H' so3 p3 _ ?_
      cases fb with
      | nx ρ4 μ4 => exact fun π4 G4 σ4 H4 pr4 e4 so4 p4 => ⟨π4, G4, ρ4, μ4, pr2.trans pr4, (e2.trans e3).trans e4, so4, p4, hloop⟩
      | ct ρ4 μ4 => exact fun π4 G4 σ4 H4 pr4 e4 so4 p4 => ⟨π4, G4, ρ4, μ4, pr2.trans pr4, (e2.trans e3).trans e4, so4, p4, hloop⟩
      | bk ρ4 μ4 =>
        cases hloop
        exact fun π4 G4 σ4 H4 pr4 e4 so4 p4 => q π4 G4 σ4 H4 (pr2.trans pr4) (((e1.trans e2).trans e3).trans e4) so4 p4
      | rt r μ4 =>
        cases hloop
        exact fun π4 pr4 => PostR.up ((e1.trans e2).trans e3) (q π4 (pr2.trans pr4))
    · have hi' : xs.length = i := by omega
      rw [List.drop_of_length_le (by omega)] at hloop
      cases hloop
      exact .inl ⟨(hJ i Φ π2 μ2 G2 H2 e2 p2).2 hi', q π2 G2 σ2 H2 pr2 (e1.trans e2) so2 p2⟩
  · cases hc
theorem snd_while {t : E} {b : Ss} (ib : SndSs gc g k b) : SndS gc g k (.while_ t b) := by
  intro ct st X hc F ρ μ f he Φ π G σ H so hx D q
  unfold chkS at hc
  split at hc
  · rename_i c body pos
    simp only [Bool.and_eq_true] at hc
    obtain ⟨c1, c2⟩ := hc
    have he : whileLoop (fun ρ μ => nB (evE g t ρ μ)) (evSs g b) wfuel ρ μ = some f := he
    generalize wfuel = n at he
    refine s_of (ps_while F.never pt_sem pss_sem) ?_
    refine ⟨fun m σ2 H2 => ∃ (π2 : List Addr) (G2 : Hp) (ρ2 : Rho) (μ2 : Store), π <+: π2 ∧ Ex G G2 ∧ SlotOk X.K π2 G2 ρ2 σ2 ∧ Hpx X.K Φ π2 μ2 G2 H2 ∧ whileLoop (fun ρ μ => nB (evE g t ρ μ)) (evSs g b) m ρ2 μ2 = some f,
      ⟨n, π, G, ρ, μ, List.prefix_refl _, Ex.refl _, so, hx, he⟩, ?_⟩
    rintro m σ2 H2 ⟨π2, G2, ρ2, μ2, pr2, e2, so2, p2, hloop⟩
    cases m with
    | zero => cases hloop
    | succ m =>
      unfold whileLoop at hloop
      obtain ⟨⟨kb, μ3⟩, ht, hloop⟩ := Option.bind_eq_some_iff.mp hloop
      refine (soundE t).2 ct c X c1 F ρ2 μ2 kb μ3 ht Φ π2 G2 σ2 H2 so2 p2 _ fun G3 H3 e3 p3 => ?_
      cases kb with
      | false =>
        cases hloop
        exact q π2 G3 σ2 H3 pr2 (e2.trans e3) (so2.mono e3) p3
      | true =>
        obtain ⟨fb, hbody, hloop⟩ := Option.bind_eq_some_iff.mp hloop
        refine ⟨fun σ' H' => ∃ (π2 : List Addr) (G2 : Hp) (ρ2 : Rho) (μ2 : Store), π <+: π2 ∧ Ex G G2 ∧ SlotOk X.K π2 G2 ρ2 σ' ∧ Hpx X.K Φ π2 μ2 G2 H' ∧ whileLoop (fun ρ μ => nB (evE g t ρ μ)) (evSs g b) m ρ2 μ2 = some f, fun σ' H' h' => ⟨m, Nat.lt_succ_self _, h'⟩, ?_⟩
        refine ib ct body X c2 F ρ2 μ3 fb hbody Φ π2 G3 σ2 H3 (so2.mono e3) p3 _ ?_
        cases fb with
        | nx ρ4 μ4 => exact fun π4 G4 σ4 H4 pr4 e4 so4 p4 => ⟨π4, G4, ρ4, μ4, pr2.trans pr4, (e2.trans e3).trans e4, so4, p4, hloop⟩
        | ct ρ4 μ4 => exact fun π4 G4 σ4 H4 pr4 e4 so4 p4 => ⟨π4, G4, ρ4, μ4, pr2.trans pr4, (e2.trans e3).trans e4, so4, p4, hloop⟩
        | bk ρ4 μ4 =>
          cases hloop
          exact fun π4 G4 σ4 H4 pr4 e4 so4 p4 => q π4 G4 σ4 H4 (pr2.trans pr4) ((e2.trans e3).trans e4) so4 p4
        | rt r μ4 =>
          cases hloop
          exact fun π4 pr4 => PostR.up (e2.trans e3) (q π4 (pr2.trans pr4))
  · cases hc
theorem snd_raise : SndS gc g k .raise := by
  intro ct st X hc F ρ μ f he
  cases he
theorem snd_nil : SndSs gc g k .nil := by
  intro ct st X hc F ρ μ f he Φ π G σ H so hx D q
  cases st with
  | nil =>
    cases he
    exact ss_of pss_nil (q π G σ H (List.prefix_refl _) (Ex.refl _) so hx)
  | cons _ _ => simp [chkSs] at hc
theorem snd_cons {s : S} {ss : Ss} (is : SndS gc g k s) (iss : SndSs gc g k ss) : SndSs gc g k (.cons s ss) := by
  intro ct st X hc F ρ μ f he Φ π G σ H so hx D q
  cases st with
  | nil => simp [chkSs] at hc
  | cons st sts =>
    simp only [chkSs, Bool.and_eq_true] at hc
    unfold evSs at he
    obtain ⟨fs, h1, he⟩ := Option.bind_eq_some_iff.mp he
    refine ss_of (pss_cons ps_sem pss_sem) ?_
    refine is ct st X hc.1 F ρ μ fs h1 Φ π G σ H so hx _ ?_
    cases fs with
    | nx ρ1 μ1 => exact fun π1 G1 σ1 H1 pr1 e1 so1 p1 => iss ct sts X hc.2 F ρ1 μ1 f he Φ π1 G1 σ1 H1 so1 p1 D (q.up e1 pr1)
    | bk ρ1 μ1 => cases he; exact q
    | ct ρ1 μ1 => cases he; exact q
    | rt r μ1 => cases he; exact q
theorem snd_frz {i : Nat} {ss : Ss} (iss : SndSs gc g k ss) : SndSs gc g k (.frz i ss) := by
  intro ct st X hc F ρ μ f he Φ π G σ H so hx D q
  have hc : chkSs gc ss ct st = true := hc
  unfold evSs at he
  obtain ⟨n, h1, he⟩ := Option.bind_eq_some_iff.mp he
  split at he
  · rename_i o hn
    obtain ⟨p, hp, hs⟩ := box_slot so h1
    obtain ⟨p', G', hp', e', x', r'⟩ := hx.freeze hn
    rw [hp] at hp'; cases hp'
    have so' : SlotOk X.K π G' (ρ.set i (some (.d o.data))) σ := by
      have := (so.mono e').set i (v := .ref p) (w := .d o.data) r'
      rw [show σ.set i (some (.ref p)) = σ by
        apply List.ext_getElem?
        intro j
        by_cases hj : i = j
        · subst hj
          rw [List.getElem?_set_self (List.getElem?_eq_some_iff.mp hs).1, hs]
        · rw [List.getElem?_set_ne hj]] at this
      exact this
    exact iss ct st X hc F _ _ f he Φ π G' σ H so' x' D (q.up e' (List.prefix_refl _))
  · cases he
mutual
theorem soundS : ∀ a : S, SndS gc g k a
  | .asg t e => snd_asg
  | .par i j fa fb a b => snd_par
  | .bxa i e => snd_bxa
  | .app i e => snd_app
  | .set i ix e => snd_set
  | .aug i op e => snd_aug
  | .ret e => snd_ret
  | .retN => snd_retN
  | .ife t a b => snd_ifS (soundSs a) (soundSs b)
  | .for_ t it b => snd_for (soundSs b)
  | .while_ t b => snd_while (soundSs b)
  | .pass => snd_pass
  | .brk => snd_brk
  | .cont => snd_cont
  | .raise => snd_raise
  | .expr e => snd_expr
theorem soundSs : ∀ a : Ss, SndSs gc g k a
  | .nil => snd_nil
  | .cons s ss => snd_cons (soundS s) (soundSs ss)
  | .frz i ss => snd_frz (soundSs ss)
end
end
end Mini
end
section
set_option autoImplicit false
set_option Elab.async false
set_option linter.all false
set_option maxRecDepth 100000
set_option maxHeartbeats 4000000
/-! MM: defs, the table of defs, the end of a law. -/
namespace Mini
open PySem PySem.Spec PyProof.Rows L2 Evl

/-- what an element of the table tells of a def of the text -/
structure Entry (K : PySem.W.Frag) (mg : Str → Option Value) (gc : Gc) (x : Str) (d : Df) : Prop where
  ex : ∃ (st : Stmt) (fa : Addr) (fd : FuncData) (N ps : List Str), mg x = some (.ref fa) ∧ Fun K x x st fa fd ∧ Binds K fd ps [] ∧ FnScope N ps (defScope st) ∧ N.length = d.sl ∧ ps.length = d.ar ∧
    chkSs gc d.body ⟨N, defScope st, fun _ => true⟩ (defBody st) = true
structure Tab (K : PySem.W.Frag) (mg : Str → Option Value) (gc : Gc) (T : List Df) (gl : Nat → Option D) : Prop where
  fns : ∀ (f : Nat) (x : Str), gc.fns[f]? = some x → ∃ d, T[f]? = some d ∧ Entry K mg gc x d
  gls : ∀ (i : Nat) (x : Str) (d : D), gc.gls[i]? = some x → gl i = some d → ∃ v u, mg x = some u ∧ RelV v u ∧ Rep K (fun _ => none) v d
  bls : ∀ x ∈ gc.bls, mg x = none

section
variable {P : Program} {w : World} {K : PySem.W.Frag} {mg : Str → Option Value} {base : Heap} {gc : Gc} {T : List Df} {gl : Nat → Option D}

theorem fn_run {k : Nat} {x : Str} {st : Stmt} {fa : Addr} {fd : FuncData} {N ps : List Str} {sp : SpF} (Fn : Fun K x x st fa fd) (S : FnScope N ps (defScope st))
    (body : ∀ (cdv : Value) (A : Around) (outer : List Env) (s : Shared) (H : Hp) (vs : List V) (Q : VK), Room k (A.deeper (envOfC x (defScope st) s.heap.objs.size fa cdv)) → A.guards = some [] → vs.length = ps.length → sp vs H Q →
      semSs (cxOf CX0 P w K mg base N x (defScope st) fa cdv A outer s H E0).nox (defBody st) { nx := fun _ H' => Q .non H', rt := Q } (L2.start N vs) H) : FnG P w K mg base (k + 1) fa fd ps sp := by
  obtain ⟨oc, od, kV, doc, pm, an, cdv, ct, osl, rfl, lk, hcd⟩ := Fn.ex
  constructor
  intro A outer s H args us vs Q room gu e0 bnd rv hl hsp
  have kin : K.In s.heap := e0.mod.kin.keeps fun b o e => (e0.bs b o e).1
  have lim : s.heap.NoLimit := e0.mod.nolimit.keeps fun b o e => (e0.bs b o e).1
  have kinds : ∀ y ∈ ps.zip us, (defScope st).names.lookup y.1 = some .local ∨ ((defScope st).names.lookup y.1 = some .cell ∧ ((cellsFrom (s.heap.objs.size + 1) (defScope st).names []).lookup y.1).isSome = true) := by
    rintro ⟨n, v⟩ hy
    exact (S.par n (List.of_mem_zip hy).1).imp id fun q => ⟨q, PySem.W.cellsFrom_some _ _ _ (.inl q)⟩
  refine codeAny_call_function room.depth (kin _ _ lk) rfl S.co S.gen rfl (PySem.W.codeRec_of kin hcd) (bnd _ _ _ _ (wpAny_newFunctionEnv_cells S.kind kinds ?_))
  rintro env rfl s1 x1
  refine ⟨lim.keeps x1.toInCall.keep, codeAny_func ?_⟩
  have I := inv_start (CX := CX0) (P := P) (w := w) (mg := mg) (E := E0) S room.hd e0 hl rv x1
  have run := body cdv A outer s H vs Q (room.deeper _) gu hl hsp [] s1 (I.wish _)
  refine wpAny_mono run (fun fl s' hs => ?_) fun e s' hs => False.elim hs
  have hs := SP.unwish hs
  have fin : ∀ {σ' : L2.St} {H' : Hp} {v : V} {u : Value}, L2.Inv (cxOf CX0 P w K mg base N x (defScope st) fa cdv A outer s H E0) [] σ' H' s' → RelV v u → Q v H' → CE outer P w H s Q u s' :=
    fun J r q => ⟨_, _, J.os, J.bare, J.base, J.hok, r, q⟩
  match fl, hs with
  | .ret u, ⟨v, σ', H', J, r, q⟩ => exact fin J r q
  | .next, ⟨σ', H', J, q⟩ => exact fin (v := V.non) (u := Value.none) J rfl q
  | .brk, ⟨_, _, _, q⟩ => exact False.elim q
  | .cont, ⟨_, _, _, q⟩ => exact False.elim q

theorem start_ok {π : List Addr} {G : Hp} {vs : List V} {ws : List W} {N : List Str} {sl : Nat} (r : RelWs K π G vs ws) (hN : N.length = sl) : SlotOk K π G (ws.map some ++ List.replicate (sl - ws.length) none) (L2.start N vs) := by
  have hl : vs.length = ws.length := Paired.length r
  constructor
  · unfold L2.start
    simp only [List.length_append, List.length_map, List.length_replicate]
    omega
  · intro i w' h
    by_cases hi : i < ws.length
    · rw [List.getElem?_append_left (by simpa using hi), List.getElem?_map] at h
      cases hw : ws[i]? with
      | none => rw [hw] at h; cases h
      | some w0 =>
        rw [hw] at h
        cases h
        have get : ∀ {vs : List V} {ws : List W} {i : Nat}, RelWs K π G vs ws → ws[i]? = some w' → ∃ v, vs[i]? = some v ∧ RelW K π G v w' := by
          intro vs ws i r
          induction r generalizing i with
          | nil => intro e; simp at e
          | cons a b ih =>
            cases i with
            | zero => intro e; simp at e; subst e; exact ⟨_, rfl, a⟩
            | succ i => intro e; exact ih (i := i) (by simpa using e)
        obtain ⟨v, h1, h2⟩ := get r hw
        refine ⟨v, ?_, h2⟩
        unfold L2.start
        rw [List.getElem?_append_left (by rw [List.length_map, hl]; exact hi), List.getElem?_map, h1]
        rfl
    · rw [List.getElem?_append_right (by simpa using hi), List.getElem?_replicate] at h
      split at h <;> cases h
theorem Hpx.cut {Φ : Hp} {π π' : List Addr} {μ : Store} {G H : Hp} (h : Hpx K Φ π' μ G H) (p : π <+: π') : Hpx K Φ π (μ.take π.length) G H := by
  obtain ⟨t, rfl⟩ := p
  have hlen := h.len
  rw [List.length_append] at hlen
  have at_ : ∀ (n : Nat) (o : SO), (μ.take π.length)[n]? = some (some o) → μ[n]? = some (some o) ∧ n < π.length := fun n o e => by
    have hn := (List.getElem?_eq_some_iff.mp e).1
    rw [List.length_take] at hn
    rw [List.getElem?_take_of_lt (by omega)] at e
    exact ⟨e, by omega⟩
  have pi_ : ∀ (n : Nat), n < π.length → (π ++ t)[n]? = π[n]? := fun n hn => List.getElem?_append_left hn
  refine ⟨h.ex, by rw [List.length_take]; omega, fun n o e => ?_, fun n ds e => ?_, h.ph, h.pg, fun n o p e z => ?_, fun n m o o' p e1 e2 z1 z2 => ?_⟩
  · obtain ⟨e', hn⟩ := at_ n _ e
    obtain ⟨p, h1, h2⟩ := h.bx n o e'
    exact ⟨p, by rw [← pi_ n hn]; exact h1, h2⟩
  · obtain ⟨e', hn⟩ := at_ n _ e
    obtain ⟨p, xs, h1, h2⟩ := h.fz n ds e'
    exact ⟨p, xs, by rw [← pi_ n hn]; exact h1, h2⟩
  · obtain ⟨e', hn⟩ := at_ n _ e
    exact h.pb n o p e' (by rw [pi_ n hn]; exact z)
  · obtain ⟨e1', hn⟩ := at_ n _ e1
    obtain ⟨e2', hm⟩ := at_ m _ e2
    exact h.inj n m o o' p e1' e2' (by rw [pi_ n hn]; exact z1) (by rw [pi_ m hm]; exact z2)
theorem Clear.cut {Φ : Hp} {π π' : List Addr} {μ : Store} {G : Hp} {p : Addr} (h : Clear Φ π' μ G p) (q : π <+: π') : Clear Φ π (μ.take π.length) G p := by
  obtain ⟨t, rfl⟩ := q
  refine ⟨h.g, fun n o e z => ?_, h.f⟩
  have hn := (List.getElem?_eq_some_iff.mp z).1
  rw [List.getElem?_take_of_lt hn] at e
  exact h.b n o e (by rw [List.getElem?_append_left hn]; exact z)
/-- a def's body gives back what callDf tells -/
theorem end_ok {Φ : Hp} {π : List Addr} {G : Hp} {m : Nat} {f : Fl} {r : R} {μ' : Store} {Q : VK} (hm : m = π.length) (he : endOf m f = some (r, μ')) (q : PostR K Φ π G r μ' Q) : PostFl K Φ π G f { nx := fun _ H' => Q .non H', rt := Q } := by
  subst hm
  cases f with
  | nx ρ μ =>
    cases he
    exact fun π' G' σ' H' p' e' _ x' => q .non G' H' e' (x'.cut p') .non
  | rt r0 μ =>
    intro π' p'
    cases r0 with
    | w x =>
      cases x with
      | bx n => cases he
      | d x =>
        cases he
        exact fun v G' H' e' x' r' => q v G' H' e' (x'.cut p') r'
    | fr o =>
      cases he
      exact fun p G' H' e' x' c' f' => q p G' H' e' (x'.cut p') (c'.cut p') f'
  | bk ρ μ => cases he
  | ct ρ μ => cases he

theorem geOf_gl (T : List Df) (gl : Nat → Option D) (n : Nat) : (geOf T gl n).gl = gl := by
  cases n <;> rfl
/-- THE TABLE: each def does what its small text tells -/
theorem all_fns (TB : Tab K mg gc T gl) : ∀ (n : Nat) (f : Nat) (x : Str), gc.fns[f]? = some x → ∃ fa fd ps, mg x = some (.ref fa) ∧ PySem.W.keepIn K (.ref fa) = true ∧ Binds K fd ps [] ∧ (∀ base : Heap, FnG P w K mg base n fa fd ps (spOf K (geOf T gl n) f)) ∧
    ∀ ws μ r, (geOf T gl n).fn f ws μ = some r → ws.length = ps.length
  | 0, f, x, h => by
    obtain ⟨d, hd, E⟩ := TB.fns f x h
    obtain ⟨st, fa, fd, N, ps, hm, Fn, hb, S, h1, h2, h3⟩ := E.ex
    refine ⟨fa, fd, ps, hm, Fn.kp, hb, fun base => ⟨?_⟩, fun ws μ r e => by cases e⟩
    rintro A outer s H args us vs Q room gu e0 bnd rv hl ⟨Φ, π, μ, G, ws, r, μ', _, _, e, _⟩
    cases e
  | n + 1, f, x, h => by
    obtain ⟨d, hd, E⟩ := TB.fns f x h
    obtain ⟨st, fa, fd, N, ps, hm, Fn, hb, S, h1, h2, h3⟩ := E.ex
    have run : ∀ ws μ, (geOf T gl (n + 1)).fn f ws μ = callDf (geOf T gl n) d ws μ := fun ws μ => by
      show (match T[f]? with | some d => callDf (geOf T gl n) d ws μ | none => none) = _
      rw [hd]
    refine ⟨fa, fd, ps, hm, Fn.kp, hb, ?_, fun ws μ r e => ?_⟩
    · intro base
      refine fn_run Fn S fun cdv A outer s H vs Q room gu hl hsp => ?_
      obtain ⟨Φ, π, μ, G, ws, r, μ', hx, rw', e, q⟩ := hsp
      rw [run] at e
      unfold callDf at e
      split at e
      · obtain ⟨fl, e1, e2⟩ := Option.bind_eq_some_iff.mp e
        refine soundSs (gc := gc) (g := geOf T gl n) (k := n) d.body ⟨N, defScope st, fun _ => true⟩ (defBody st) _ h3 ?_ _ μ fl e1 Φ π G (L2.start N vs) H ?_ hx _ (end_ok hx.len e2 q)
        · exact { room := room, gu := gu, nox := rfl, bl := TB.bls, gl := by rw [geOf_gl]; exact TB.gls, fn := fun f x h => (by
            obtain ⟨fa, fd, ps, a1, a2, a3, a4, a5⟩ := all_fns TB n f x h
            exact ⟨fa, fd, ps, a1, a2, a3, a4 base, a5⟩), N := rfl, sc := rfl, fnq := rfl, nd := S.nd, calm := rfl }
        · exact start_ok rw' h1
      · cases e
    · rw [run] at e
      unfold callDf at e
      split at e
      · rename_i hw
        rw [h2]; exact hw
      · cases e

/-! ### the end of a law -/
theorem law_end {mb : Str → Option Value} {k : Nat} {fa a : Addr} {fd : FuncData} {ps : List Str} {sp : SpF} {s1 : Shared} {vs : List Value} {ns : List Int}
    (kin : K.In s1.heap) (hns : s1.heap.Ns mainGlobals mg) (hb : s1.heap.Ns builtinsNs mb) (hbb : ∀ x : Str, x ≠ "__name__" → mb x = bootBuiltins x) (hlim : s1.heap.NoLimit) (hg : s1.gens = #[])
    (ha : s1.heap.get? a = some { cls := .type "list", data := .seq vs.toArray }) (hi : IntsAre vs ns) (hl : ns.length ≤ sizeLine) (hr : Room k callerA)
    (Fn : ∀ base : Heap, FnG P w K mg base k fa fd ps sp) (hps : ps.length = 1) (hbind : Binds K fd ps [])
    (hsp : ∀ H : Hp, SqF K H a (ns.map V.int) → sp [.ref a] H (fun v _ => v = .bl true)) :
    codeAny (model P w) callerA (.call (.ref fa) ⟨[.ref a], []⟩) (fun r s' => r = .ok (.ret (.bool true)) ∧ OldK s1.heap s'.heap ∧ s'.os = s1.os ∧ AllBare s'.gens) s1 := by
  have rv := vals_ints hi
  have lv : vs.length = ns.length := hi.length
  -- what stands in the abstract heap: the script, unless the text holds it
  obtain ⟨H, hH, hS, hlk⟩ : ∃ H : Hp, (∀ b u, H b = some u → b = a ∧ u = .frz { cls := .type "list", data := .seq vs.toArray } (.lst (ns.map V.int))) ∧ SqF K H a (ns.map V.int) ∧ (∀ u, H a = some u → K.lookup a = none) := by
    cases hk : K.lookup a with
    | some o =>
      have e := kin a o hk
      rw [ha] at e
      cases e
      exact ⟨fun _ => none, fun _ _ z => (nomatch z), .inr ⟨_, vs.toArray, _, hk, rfl, rfl, rfl, by rw [List.size_toArray, lv]; exact hl, by simpa using rv⟩, fun _ z => nomatch z⟩
    | none =>
      refine ⟨fun b => if b = a then some (.frz { cls := .type "list", data := .seq vs.toArray } (.lst (ns.map V.int))) else none, fun b u z => ?_, .inl ⟨_, if_pos rfl⟩, fun _ _ => rfl⟩
      have z : (if b = a then some (HO.frz { cls := .type "list", data := .seq vs.toArray } (.lst (ns.map V.int))) else none) = some u := z
      by_cases q : b = a
      · rw [if_pos q] at z; cases z; exact ⟨q, rfl⟩
      · rw [if_neg q] at z; cases z
  have hok : HOk P w H s1.heap := fun b u z => by
    obtain ⟨rfl, rfl⟩ := hH b u z
    exact ⟨ha, by rw [List.length_map]; exact hl, vs, _, rv, ha⟩
  have keepK : ∀ {b : Addr} {o : Obj}, K.lookup b = some o → H b = none := fun {b o} z => by
    cases q : H b with
    | none => rfl
    | some u =>
      obtain ⟨rfl, _⟩ := hH b u q
      rw [hlk u q] at z; cases z
  have dictN : ∀ {b : Addr} {o : Obj} {es : Array DictEntry} {ep : Nat}, s1.heap.get? b = some o → o.data = .dict es ep → H b = none := fun {b o es ep} e d => by
    cases q : H b with
    | none => rfl
    | some u =>
      obtain ⟨rfl, _⟩ := hH b u q
      rw [ha] at e
      cases e
      exact nomatch d
  have ns' : ∀ {b : Addr} {m : Str → Option Value}, s1.heap.Ns b m → (hidT s1.heap H).Ns b m := fun {b m} z => by
    obtain ⟨o, es, ep, e, d, r⟩ := z
    exact ⟨o, es, ep, hidT_get e (dictN e d), d, r⟩
  have kin' : K.In (hidT s1.heap H) := fun b o e => hidT_get (kin b o e) (keepK e)
  have md : Mod K mg (hidT s1.heap H) := ⟨kin', ns' hns, ⟨mb, ns' hb, hbb⟩, let ⟨mc, h1, h2⟩ := hlim; ⟨mc, ns' h1, h2⟩⟩
  have e0 : Env0 P w K mg (hidT s1.heap H) callerA [] s1 H := ⟨rfl, md, fun b o e => of_hidT e, Nat.le_of_eq (hidT_size _ _), trivial, fun b z => absurd (show b ∈ ([] : List Addr) from z) (by simp), hok, .of_eq hg⟩
  refine codeAny_mono ((Fn _).run callerA [] s1 H _ [.ref a] [.ref a] _ hr rfl e0 (hbind s1 [.ref a] kin (by rw [hps]; rfl)) (.cons rfl .nil) (by rw [hps]; rfl) (hsp H hS)) fun r s' h => ?_
  match r, h with
  | .error e, h => exact False.elim h
  | .ok .next, h => exact False.elim h
  | .ok .brk, h => exact False.elim h
  | .ok .cont, h => exact False.elim h
  | .ok (.ret u), ⟨v, H', os, bare, un, hok', r', q⟩ =>
    have q' : v = .bl true := q
    subst q'
    obtain rfl : u = Value.bool true := r'
    refine ⟨rfl, OldK.of_keep fun b o e => ?_, os, bare⟩
    cases z : H b with
    | none => exact un.keep b o e z (fun y => absurd (show b ∈ ([] : List Addr) from y) (by simp)) (by simp)
    | some u =>
      obtain ⟨rfl, rfl⟩ := hH b u z
      have z2 := un.frzs b _ _ z
      obtain ⟨e2, _⟩ := hok' b _ z2
      rw [ha] at e
      cases e
      exact e2
end
/-- a law by the table of its defs -/
theorem walk_tab {l : PySem.W.OpenLaw} {n k : Nat} {q : Program} {loose : List Str} {XP : (Str → Option Value) → Heap → Prop} {YP : World → Heap → Prop} {d : DefRec} {K : Params → PySem.W.Frag} {gc : Gc} {T : List Df} {gl : Nat → Option D} {li : Nat}
    (hn : l.most = some n) (hn2 : n ≤ sizeLine) (hdf : d.params.defaults = []) (hr : Room k callerA) (hY : ∀ (w : World) (h : Heap), YP w h → (K w.params).In h) (hli : gc.fns[li]? = some d.name)
    (hT : ∀ (w : World) (mg : Str → Option Value) (h : Heap), (K w.params).In h → h.Ns mainGlobals mg → XP mg h → Tab (K w.params) mg gc T gl)
    (run : ∀ ns : List Int, ns.length ≤ n → ∃ μ', (geOf T gl k).fn li [.bx 0] [some (.fz (ns.map .int))] = some (rd (.bool true), μ')) :
    PySem.W.WalkO q loose XP YP l.row.toRowW d [] (fun f vs => PySem.call f vs) := by
  refine Att.attach_call hn hdf fun w s0 s1 mg mb fa o pm cd doc a vs ns G Y ho hd hcd hmg hobj hints hlen hg => ?_
  have kin := hY w _ Y
  have TB := hT w mg _ kin G.T.g G.X
  obtain ⟨fa', fd, ps, hm, _, hb, Fn, hps⟩ := all_fns (P := l.prog) (w := w) TB k li d.name hli
  rw [hmg] at hm
  cases hm
  obtain ⟨μ', hrun⟩ := run ns hlen
  have h1 : ps.length = 1 := (hps _ _ _ hrun).symm
  refine law_end (ps := ps) (fd := fd) (k := k) (sp := spOf (K w.params) (geOf T gl k) li) kin G.T.g G.T.b G.T.builtins G.T.nolimit hg hobj hints (Nat.le_trans hlen hn2) hr Fn h1 hb fun H hS => ?_
  · refine ⟨fun _ => none, [a], [some (.fz (ns.map .int))], fun _ => none, [.bx 0], _, μ', ⟨(fun _ _ z => nomatch z), rfl, fun n o e => ?_, fun n ds e => ?_, (fun _ _ z => nomatch z), (fun _ _ z => nomatch z), fun n o p e => ?_, fun n m o o' p e => ?_⟩, .cons ⟨a, rfl, rfl⟩ .nil, hrun, fun v G' H' _ _ r => ?_⟩
    · cases n <;> simp at e
    · cases n with
      | zero =>
        simp at e
        subst e
        refine ⟨a, _, rfl, hS, ?_⟩
        clear hints hobj hrun hlen hS hps
        induction ns with
        | nil => exact .nil
        | cons i is ih => exact .cons (.int i) ih
      | succ n => simp at e
    · cases n <;> simp at e
    · cases n <;> simp at e
    · cases r
      rfl
end Mini
end
section
set_option autoImplicit false
set_option Elab.async false
set_option linter.all false
set_option maxRecDepth 100000
set_option maxHeartbeats 4000000
/-! MN: the table of a law, put together. -/
namespace Mini
open PySem PySem.Spec PyProof.Rows L2 Evl
inductive Ents (K : PySem.W.Frag) (mg : Str → Option Value) (gc : Gc) : List Str → List Df → Prop
  | nil : Ents K mg gc [] []
  | cons {x : Str} {d : Df} {xs : List Str} {ds : List Df} : Entry K mg gc x d → Ents K mg gc xs ds → Ents K mg gc (x :: xs) (d :: ds)
def GlobOk (K : PySem.W.Frag) (mg : Str → Option Value) (x : Str) (d : D) : Prop := ∃ v u, mg x = some u ∧ RelV v u ∧ Rep K (fun _ => none) v d
inductive Gls (K : PySem.W.Frag) (mg : Str → Option Value) : List Str → List D → Prop
  | nil : Gls K mg [] []
  | cons {x : Str} {d : D} {xs : List Str} {ds : List D} : GlobOk K mg x d → Gls K mg xs ds → Gls K mg (x :: xs) (d :: ds)
inductive Bls (mg : Str → Option Value) : List Str → Prop
  | nil : Bls mg []
  | cons {x : Str} {xs : List Str} : mg x = none → Bls mg xs → Bls mg (x :: xs)
section
variable {K : PySem.W.Frag} {mg : Str → Option Value} {gc : Gc} {T : List Df} {h : Heap}
theorem Ents.at_ : ∀ {xs : List Str} {ds : List Df}, Ents K mg gc xs ds → ∀ (f : Nat) (x : Str), xs[f]? = some x → ∃ d, ds[f]? = some d ∧ Entry K mg gc x d
  | _, _, .nil, f, x, e => by simp at e
  | _, _, .cons (d := d) a r, 0, x, e => by
    simp at e
    subst e
    exact ⟨d, rfl, a⟩
  | _, _, .cons a r, f + 1, x, e => by simpa using r.at_ f x (by simpa using e)
theorem Gls.at_ : ∀ {xs : List Str} {ds : List D}, Gls K mg xs ds → ∀ (i : Nat) (x : Str) (d : D), xs[i]? = some x → ds[i]? = some d → GlobOk K mg x d
  | _, _, .nil, f, x, d, e, _ => by simp at e
  | _, _, .cons a r, 0, x, d, e, e2 => by
    simp at e e2
    subst e; subst e2
    exact a
  | _, _, .cons a r, f + 1, x, d, e, e2 => by exact r.at_ f x d (by simpa using e) (by simpa using e2)
theorem Bls.at_ : ∀ {xs : List Str}, Bls mg xs → ∀ x ∈ xs, mg x = none
  | _, .nil, x, e => by cases e
  | _, .cons a r, x, e => by
    cases e with
    | head => exact a
    | tail _ e => exact r.at_ x e
theorem tab_of {gv : List D} (a : Ents K mg gc gc.fns T) (b : Gls K mg gc.gls gv) (c : Bls mg gc.bls) : Tab K mg gc T (fun i => gv[i]?) :=
  ⟨a.at_, b.at_, c.at_⟩
mutual
inductive VRep (K : PySem.W.Frag) : Value → D → Prop
  | non : VRep K .none .none
  | bl (b : Bool) : VRep K (.bool b) (.bool b)
  | int (i : Int) (t : _) : VRep K (.int i t) (.int i)
  | str (x : Str) (t : _) : VRep K (.str x t) (.str x)
  | tup {a : Addr} {od : Option Addr} {its : Array Value} {n : Nat} {sl : Array (Option Value)} {l : List Value} {ds : List D} : K.lookup a = some ⟨.type "tuple", od, .seq its n, sl⟩ → its.size ≤ sizeLine → its.toList = l → VRepAll K l ds → VRep K (.ref a) (.tuple ds)
inductive VRepAll (K : PySem.W.Frag) : List Value → List D → Prop
  | nil : VRepAll K [] []
  | cons {v : Value} {vs : List Value} {d : D} {ds : List D} : VRep K v d → VRepAll K vs ds → VRepAll K (v :: vs) (d :: ds)
end
mutual
theorem VRep.rep {H : Hp} : ∀ {u : Value} {d : D}, VRep K u d → ∃ v, RelV v u ∧ Rep K H v d
  | _, _, .non => ⟨.non, rfl, .non⟩
  | _, _, .bl b => ⟨.bl b, rfl, .bl b⟩
  | _, _, .int i t => ⟨.int i, ⟨t, rfl⟩, .int i⟩
  | _, _, .str i t => ⟨.str i, ⟨t, rfl⟩, .str i⟩
  | _, _, .tup h s e r => by
    obtain ⟨vs, h1, h2⟩ := r.rep (H := H)
    exact ⟨.ref _, rfl, .tup (.inr ⟨_, _, _, h, rfl, rfl, s, by rw [e]; exact h1⟩) h2⟩
theorem VRepAll.rep {H : Hp} : ∀ {us : List Value} {ds : List D}, VRepAll K us ds → ∃ vs, Vals vs us ∧ RepAll K H vs ds
  | _, _, .nil => ⟨[], .nil, .nil⟩
  | _, _, .cons a r => by
    obtain ⟨v, h1, h2⟩ := a.rep (H := H)
    obtain ⟨vs, h3, h4⟩ := r.rep (H := H)
    exact ⟨v :: vs, .cons h1 h3, .cons h2 h4⟩
end
theorem glob_of {x : Str} {u : Value} {d : D} (X : K.In h) (G : h.Ns mainGlobals mg) (e : PySem.W.nsIn K mainGlobals x = some (some u)) (r : VRep K u d) : GlobOk K mg x d := by
  obtain ⟨v, h1, h2⟩ := r.rep (H := fun _ => none)
  exact ⟨v, u, PySem.W.mg_of X G e, h1, h2⟩
theorem glob_loose {P : Program} {lv : List (Str × PySem.W.WData)} {x : Str} {i : Int} (X : PySem.W.XL P lv mg h) (e : lv.lookup x = some (.int i)) : GlobOk K mg x (.int i) := by
  obtain ⟨v, h1, h2⟩ := X.2.val _ (PySem.W.mem_lookup e)
  obtain ⟨t, rfl, _⟩ := PySem.W.readsW_int_inv h2
  exact ⟨.int i, _, h1, ⟨t, rfl⟩, .int i⟩
theorem bl_of {x : Str} (X : K.In h) (G : h.Ns mainGlobals mg) (e : PySem.W.nsIn K mainGlobals x = some none) : mg x = none := PySem.W.mg_none_of X G e
end
end Mini
end
section
set_option autoImplicit false
set_option Elab.async false
set_option linter.all false
set_option maxRecDepth 100000
set_option maxHeartbeats 4000000
/-! MW: what a run comes to, step by step. -/
namespace Mini
open PySem L2
inductive Tag {α : Type} (x : α) : Type
  | mk
/-- the run ends, with such a thing (the tag keeps simp out of what follows) -/
def Run {α : Type} (o : Option α) (Q : α → Prop) (_ : Tag Q := .mk) : Prop := ∃ a, o = some a ∧ Q a
/-- one of two ways -/
def RunIf (b : Bool) (P P' : Prop) (_ : Tag P := .mk) (_ : Tag P' := .mk) : Prop := (b = true → P) ∧ (b = false → P')
section
variable {α β : Type} {g : Ge} {ρ : Rho} {μ : Store}
theorem Run.some {a : α} {Q : α → Prop} : Run (Option.some a) Q = Q a := propext ⟨fun ⟨_, h, q⟩ => by cases h; exact q, fun h => ⟨a, rfl, h⟩⟩
theorem Run.none {Q : α → Prop} : Run (Option.none : Option α) Q = False := propext ⟨fun ⟨_, h, _⟩ => (nomatch h), fun h => False.elim h⟩
theorem Run.bind {o : Option α} {f : α → Option β} {Q : β → Prop} : Run (o.bind f) Q = Run o fun a => Run (f a) Q :=
  propext ⟨fun ⟨b, h, q⟩ => by
    obtain ⟨a, h1, h2⟩ := Option.bind_eq_some_iff.mp h
    exact ⟨a, h1, b, h2, q⟩, fun ⟨a, h1, b, h2, q⟩ => ⟨b, Option.bind_eq_some_iff.mpr ⟨a, h1, h2⟩, q⟩⟩
theorem Run.map {o : Option α} {f : α → β} {Q : β → Prop} : Run (o.map f) Q = Run o fun a => Q (f a) :=
  propext ⟨fun ⟨b, h, q⟩ => by
    obtain ⟨a, h1, rfl⟩ := Option.map_eq_some_iff.mp h
    exact ⟨a, h1, q⟩, fun ⟨a, h1, q⟩ => ⟨f a, Option.map_eq_some_iff.mpr ⟨a, h1, rfl⟩, q⟩⟩
theorem Run.ifn {c : Prop} [Decidable c] {o : Option α} {Q : α → Prop} : Run (if c then o else Option.none) Q = (c ∧ Run o Q) := by
  split
  · rename_i h; simp only [h, true_and]
  · rename_i h; simp only [h, false_and]; exact Run.none
theorem Run.mono {o : Option α} {Q Q' : α → Prop} (h : Run o Q) (k : ∀ a, Q a → Q' a) : Run o Q' := let ⟨a, h1, h2⟩ := h; ⟨a, h1, k a h2⟩
theorem Run.eq {o : Option α} {a : α} (h : Run o fun x => x = a) : o = Option.some a := by obtain ⟨x, h1, rfl⟩ := h; exact h1
theorem Run.of_eq {o : Option α} {a : α} {Q : α → Prop} (h : o = Option.some a) (q : Q a) : Run o Q := ⟨a, h, q⟩
theorem run_congr {o : Option α} {Q Q' : α → Prop} (h : ∀ a, Q a = Q' a) : Run o Q = Run o Q' := by
  have : Q = Q' := funext h
  rw [this]
theorem RunIf.tt {P P' : Prop} : RunIf Bool.true P P' = P := propext ⟨fun h => h.1 rfl, fun h => ⟨fun _ => h, fun e => nomatch e⟩⟩
theorem RunIf.ff {P P' : Prop} : RunIf Bool.false P P' = P' := propext ⟨fun h => h.2 rfl, fun h => ⟨fun e => (nomatch e), fun _ => h⟩⟩
theorem RunIf.not_ {b : Bool} {P P' : Prop} : RunIf (!b) P P' = RunIf b P' P := by
  cases b
  · exact RunIf.tt.trans RunIf.ff.symm
  · exact RunIf.ff.trans RunIf.tt.symm
theorem RunIf.dec {c : Prop} [Decidable c] {P P' : Prop} (h1 : c → P) (h2 : ¬ c → P') : RunIf (decide c) P P' := ⟨fun h => h1 (of_decide_eq_true h), fun h => h2 (of_decide_eq_false h)⟩
theorem RunIf.pos {c : Prop} [Decidable c] {P P' : Prop} (h : c) (k : P) : RunIf (decide c) P P' := .dec (fun _ => k) fun n => absurd h n
theorem RunIf.neg {c : Prop} [Decidable c] {P P' : Prop} (h : ¬ c) (k : P') : RunIf (decide c) P P' := .dec (fun n => absurd n h) fun _ => k

/-! the parts of the evaluator -/
theorem R.norm_d {x : D} : (rd x).norm = .d x := rfl
theorem R.norm_w {x : W} : (R.w x).norm = x := rfl
theorem R.norm_l {x : List D} : (R.fr (.lst x)).norm = .d (.list x) := rfl
theorem nW_eq {o : Option (R × Store)} {Q : W × Store → Prop} : Run (nW o) Q = Run o fun p => Q (p.1.norm, p.2) := by
  unfold nW
  rw [Run.map]
theorem peek_d {x : D} : peek μ (.d x) = some x := rfl
theorem toD_d {x : D} : (W.d x).toD = some x := rfl

/-- as a test, further on -/
def tst (w : W) (μ : Store) : Option Bool := (peek μ w).bind truth
theorem nB_eq {o : Option (R × Store)} {Q : Bool × Store → Prop} : Run (nB o) Q = Run o fun p => Run (tst p.1.norm p.2) fun b => Q (b, p.2) := by
  unfold nB tst
  exact Run.bind.trans (nW_eq.trans (run_congr fun p => Eq.trans Run.bind (Eq.trans (run_congr fun x => Eq.trans Run.bind (run_congr fun t => Run.some)) Run.bind.symm)))
theorem tst_b {b : Bool} : tst (.d (.bool b)) μ = some b := rfl
theorem tst_i {i : Int} : tst (.d (.int i)) μ = some (i != 0) := rfl
theorem tst_l {x : List D} : tst (.d (.list x)) μ = some (!x.isEmpty) := rfl
theorem tst_t {x : List D} : tst (.d (.tuple x)) μ = some (!x.isEmpty) := rfl
theorem tst_n : tst (.d .none) μ = some false := rfl

/-! expressions -/
/-- a slot -/
def slot (ρ : Rho) (i : Nat) : Option W := match ρ[i]? with
  | some (some w) => some w
  | _ => none
theorem slot_0 {w : W} {r : Rho} : slot (some w :: r) 0 = some w := rfl
theorem slot_s {w : Option W} {r : Rho} {n : Nat} : slot (w :: r) (n + 1) = slot r n := rfl
theorem rE_var {i : Nat} {Q : R × Store → Prop} : Run (evE g (.var i) ρ μ) Q = Run (slot ρ i) fun w => Q (.w w, μ) := by
  rw [evE]; unfold slot
  rcases ρ[i]? with _ | _ | w
  · exact Run.none.trans Run.none.symm
  · exact Run.none.trans Run.none.symm
  · refine Eq.trans Run.some ?_
    dsimp only
    rw [Run.some]
theorem rE_cst {d : D} {Q : R × Store → Prop} : Run (evE g (.cst d) ρ μ) Q = Q (rd d, μ) := Run.some
theorem rE_glb {k : Nat} {Q : R × Store → Prop} : Run (evE g (.glb k) ρ μ) Q = Run (g.gl k) fun d => Q (rd d, μ) := Run.map
section
variable {a b c : E} {Q : R × Store → Prop}
/-- both sides, as data -/
def two (o : Option R) (μ : Store) (Q : R × Store → Prop) : Prop := Run o fun r => Q (r, μ)
theorem rE_bin {op : Operator} : Run (evE g (.bin op a b) ρ μ) Q = Run (evE g a ρ μ) fun p => Run (evE g b ρ p.2) fun q => Run p.1.norm.toD fun x => Run q.1.norm.toD fun y => Run (binV op x y) fun r => Q (r, q.2) := by
  rw [evE]
  refine Run.bind.trans (nW_eq.trans (run_congr fun p => Run.bind.trans (nW_eq.trans (run_congr fun q => Run.bind.trans (run_congr fun x => Run.bind.trans (run_congr fun y => Run.bind.trans (run_congr fun r => Run.some)))))))
theorem rE_neg : Run (evE g (.neg a) ρ μ) Q = Run (evE g a ρ μ) fun p => Run (match p.1.norm with | .d (.int i) => some (-i) | _ => none) fun i => Q (rd (.int i), p.2) := by
  rw [evE]
  refine Run.bind.trans (nW_eq.trans (run_congr fun p => ?_))
  rcases p with ⟨r, μ1⟩
  dsimp only
  rcases r.norm with x | n
  · cases x <;> first | exact Run.none.trans Run.none.symm | (refine Eq.trans Run.some ?_; dsimp only; rw [Run.some])
  · exact Run.none.trans Run.none.symm
theorem rE_not : Run (evE g (.not a) ρ μ) Q = Run (evE g a ρ μ) fun p => Run (tst p.1.norm p.2) fun b => Q (rd (.bool (!b)), p.2) := by
  rw [evE]
  exact Run.bind.trans (nB_eq.trans (run_congr fun p => run_congr fun b => Run.some))
theorem rE_cmp {op : CmpOp} : Run (evE g (.cmp op a b) ρ μ) Q = Run (evE g a ρ μ) fun p => Run (evE g b ρ p.2) fun q => Run (peek q.2 p.1.norm) fun x => Run (peek q.2 q.1.norm) fun y => Run (cmpV op x y) fun r => Q (rd (.bool r), q.2) := by
  rw [evE]
  refine Run.bind.trans (nW_eq.trans (run_congr fun p => Run.bind.trans (nW_eq.trans (run_congr fun q => Run.bind.trans (run_congr fun x => Run.bind.trans (run_congr fun y => Run.bind.trans (run_congr fun r => Run.some)))))))
theorem rE_chain {op op' : CmpOp} : Run (evE g (.chain op op' a b c) ρ μ) Q = Run (evE g a ρ μ) fun p => Run (evE g b ρ p.2) fun q => Run (peek q.2 p.1.norm) fun x => Run (peek q.2 q.1.norm) fun y => Run (cmpV op x y) fun r =>
    RunIf r (Run (evE g c ρ q.2) fun p3 => Run (peek p3.2 q.1.norm) fun y' => Run (peek p3.2 p3.1.norm) fun z => Run (cmpV op' y' z) fun r' => Q (rd (.bool r'), p3.2)) (Q (rd (.bool false), q.2)) := by
  rw [evE]
  refine Run.bind.trans (nW_eq.trans (run_congr fun p => Run.bind.trans (nW_eq.trans (run_congr fun q => Run.bind.trans (run_congr fun x => Run.bind.trans (run_congr fun y => Run.bind.trans (run_congr fun r => ?_)))))))
  cases r with
  | true =>
    rw [RunIf.tt]
    exact Run.bind.trans (nW_eq.trans (run_congr fun p => Run.bind.trans (run_congr fun x => Run.bind.trans (run_congr fun y => Run.bind.trans (run_congr fun r => Run.some)))))
  | false =>
    rw [RunIf.ff]
    exact Run.some
theorem rE_and : Run (evE g (.and a b) ρ μ) Q = Run (evE g a ρ μ) fun p => Run (tst p.1.norm p.2) fun t => RunIf t (Run (evE g b ρ p.2) Q) (Q (.w p.1.norm, p.2)) := by
  rw [evE]
  refine Run.bind.trans (nW_eq.trans (run_congr fun p => ?_))
  unfold tst
  refine Run.bind.trans (Eq.trans (run_congr fun x => Run.bind.trans (run_congr fun t => ?_)) Run.bind.symm)
  cases t with
  | true => exact RunIf.tt.symm
  | false => exact Eq.trans Run.some RunIf.ff.symm
theorem rE_or : Run (evE g (.or a b) ρ μ) Q = Run (evE g a ρ μ) fun p => Run (tst p.1.norm p.2) fun t => RunIf t (Q (.w p.1.norm, p.2)) (Run (evE g b ρ p.2) Q) := by
  rw [evE]
  refine Run.bind.trans (nW_eq.trans (run_congr fun p => ?_))
  unfold tst
  refine Run.bind.trans (Eq.trans (run_congr fun x => Run.bind.trans (run_congr fun t => ?_)) Run.bind.symm)
  cases t with
  | true => exact Eq.trans Run.some RunIf.tt.symm
  | false => exact RunIf.ff.symm
theorem rE_ife : Run (evE g (.ife c a b) ρ μ) Q = Run (evE g c ρ μ) fun p => Run (tst p.1.norm p.2) fun t => RunIf t (Run (evE g a ρ p.2) Q) (Run (evE g b ρ p.2) Q) := by
  rw [evE]
  refine Run.bind.trans (nB_eq.trans (run_congr fun p => run_congr fun t => ?_))
  cases t with
  | true => rw [RunIf.tt]; rfl
  | false => rw [RunIf.ff]; rfl
theorem rE_call {f : Nat} {as : Es} : Run (evE g (.call f as) ρ μ) Q = Run (evEs g as ρ μ) fun p => Run (g.fn f p.1 p.2) Q := by
  rw [evE]
  exact Run.bind
theorem rE_b1 {n : B1} : Run (evE g (.b1 n a) ρ μ) Q = Run (evE g a ρ μ) fun p => Run (peek p.2 p.1.norm) fun x => Run (b1V n x) fun r => Q (r, p.2) := by
  rw [evE]
  exact Run.bind.trans (nW_eq.trans (run_congr fun p => Run.bind.trans (run_congr fun x => Run.bind.trans (run_congr fun r => Run.some))))
theorem rE_b2 {n : B2} : Run (evE g (.b2 n a b) ρ μ) Q = Run (evE g a ρ μ) fun p => Run (evE g b ρ p.2) fun q => Run p.1.norm.toD fun x => Run q.1.norm.toD fun y => Run (b2V n x y) fun r => Q (r, q.2) := by
  rw [evE]
  refine Run.bind.trans (nW_eq.trans (run_congr fun p => Run.bind.trans (nW_eq.trans (run_congr fun q => Run.bind.trans (run_congr fun x => Run.bind.trans (run_congr fun y => Run.bind.trans (run_congr fun r => Run.some)))))))
theorem rE_isi {n : Tn} : Run (evE g (.isi a n) ρ μ) Q = Run (evE g a ρ μ) fun p => Run p.1.norm.toD fun x => Q (rd (.bool (isiV x n)), p.2) := by
  rw [evE]
  exact Run.bind.trans (nW_eq.trans (run_congr fun p => Run.bind.trans (run_congr fun x => Run.some)))
theorem rE_ix : Run (evE g (.ix a b) ρ μ) Q = Run (evE g a ρ μ) fun p => Run (evE g b ρ p.2) fun q => Run (peek q.2 p.1.norm) fun x => Run q.1.norm.toD fun y => Run (ixV x y) fun r => Q (rd r, q.2) := by
  rw [evE]
  refine Run.bind.trans (nW_eq.trans (run_congr fun p => Run.bind.trans (nW_eq.trans (run_congr fun q => Run.bind.trans (run_congr fun x => Run.bind.trans (run_congr fun y => Run.bind.trans (run_congr fun r => Run.some)))))))
theorem rE_sl {lo hi : Eo} : Run (evE g (.sl a lo hi) ρ μ) Q = Run (evE g a ρ μ) fun p => Run (evEo g lo ρ p.2) fun l => Run (evEo g hi ρ l.2) fun h => Run (peek h.2 p.1.norm) fun x => Run (optInt l.1) fun l => Run (optInt h.1) fun h' => Run (slV x l h') fun r => Q (r, h.2) := by
  rw [evE]
  exact Run.bind.trans (nW_eq.trans (run_congr fun p => Run.bind.trans (run_congr fun l => Run.bind.trans (run_congr fun h => Run.bind.trans (run_congr fun x => Run.bind.trans (run_congr fun l => Run.bind.trans (run_congr fun h' => Run.bind.trans (run_congr fun r => Run.some))))))))
theorem rE_tup {as : Es} : Run (evE g (.tup as) ρ μ) Q = Run (evEs g as ρ μ) fun p => Run (p.1.mapM W.toD) fun ds => sz ds.length = true ∧ Q (rd (.tuple ds), p.2) := by
  rw [evE]
  exact Run.bind.trans (run_congr fun p => Run.bind.trans (run_congr fun ds => Run.ifn.trans (congrArg _ Run.some)))
theorem rE_lst {as : Es} : Run (evE g (.lst as) ρ μ) Q = Run (evEs g as ρ μ) fun p => Run (p.1.mapM W.toD) fun ds => sz ds.length = true ∧ Q (.fr (.lst ds), p.2) := by
  rw [evE]
  exact Run.bind.trans (run_congr fun p => Run.bind.trans (run_congr fun ds => Run.ifn.trans (congrArg _ Run.some)))
/-- a comprehension over its values -/
def lcRun (g : Ge) (own : List Nat) (t : Tg) (cs : Eo) (e : E) (ρ : Rho) (xs : List D) (μ : Store) : Option (List D × Store) := lcLoop own t (fun ρ μ => evC g cs ρ μ) (fun ρ μ => (nW (evE g e ρ μ)).bind fun p => p.1.toD.bind fun d => some (d, p.2)) ρ xs μ
theorem rE_lc {own : List Nat} {t : Tg} {it : Src} {cs : Eo} : Run (evE g (.lc own t it cs a) ρ μ) Q = Run (evIt g it ρ μ) fun p => sz p.1.length = true ∧ Run (lcRun g own t cs a ρ p.1 p.2) fun q => Q (.fr (.lst q.1), q.2) := by
  rw [evE]
  refine Run.bind.trans (run_congr fun p => Run.ifn.trans ?_)
  congr 1
  exact Run.bind.trans (run_congr fun q => Run.some)
theorem rEs_nil {Q : List W × Store → Prop} : Run (evEs g .nil ρ μ) Q = Q ([], μ) := Run.some
theorem rEs_cons {as : Es} {Q : List W × Store → Prop} : Run (evEs g (.cons a as) ρ μ) Q = Run (evE g a ρ μ) fun p => Run (evEs g as ρ p.2) fun q => Q (p.1.norm :: q.1, q.2) := by
  rw [evEs]
  exact Run.bind.trans (nW_eq.trans (run_congr fun p => Run.bind.trans (run_congr fun ⟨_, _⟩ => Run.some)))
theorem rEo_no {Q : Option D × Store → Prop} : Run (evEo g .no ρ μ) Q = Q (none, μ) := Run.some
theorem rEo_so {Q : Option D × Store → Prop} : Run (evEo g (.so a) ρ μ) Q = Run (evE g a ρ μ) fun p => Run p.1.norm.toD fun d => Q (some d, p.2) := by
  rw [evEo]
  exact Run.bind.trans (nW_eq.trans (run_congr fun p => Run.bind.trans (run_congr fun q => Run.some)))
theorem rC_no {Q : Bool × Store → Prop} : Run (evC g .no ρ μ) Q = Q (true, μ) := Run.some
theorem rC_so {Q : Bool × Store → Prop} : Run (evC g (.so a) ρ μ) Q = Run (evE g a ρ μ) fun p => Run (tst p.1.norm p.2) fun b => Q (b, p.2) := by
  rw [evC]
  exact nB_eq
section
variable {QI : List D × Store → Prop}
theorem rI_sq : Run (evIt g (.sq a) ρ μ) QI = Run (evE g a ρ μ) fun p => Run p.1.norm.toD fun d => Run (seqOf d) fun ds => QI (ds, p.2) := by
  rw [evIt]
  exact Run.bind.trans (nW_eq.trans (run_congr fun p => Run.bind.trans (run_congr fun q => Run.bind.trans (run_congr fun q => Run.some))))
def rng1 : W → Option (List D)
  | .d (.int j) => if -big ≤ j ∧ j < big then some (rangeD 0 j) else none
  | _ => none
def rng2 : W → W → Option (List D)
  | .d (.int i), .d (.int j) => if -big ≤ i ∧ i < big ∧ -big ≤ j ∧ j < big then some (rangeD i j) else none
  | _, _ => none
theorem rI_r1 : Run (evIt g (.r1 a) ρ μ) QI = Run (evE g a ρ μ) fun p => Run (rng1 p.1.norm) fun xs => QI (xs, p.2) := by
  rw [evIt]
  refine Run.bind.trans (nW_eq.trans (run_congr fun p => ?_))
  rcases p with ⟨r, μ1⟩
  dsimp only
  rcases r.norm with x | n
  · cases x <;> first | exact Run.none.trans Run.none.symm | skip
    dsimp only
    unfold rng1
    rw [Run.ifn, Run.ifn]
    exact congrArg _ (Eq.trans Run.some (by rw [Run.some]))
  · exact Run.none.trans Run.none.symm
theorem rI_r2 : Run (evIt g (.r2 a b) ρ μ) QI = Run (evE g a ρ μ) fun p => Run (evE g b ρ p.2) fun q => Run (rng2 p.1.norm q.1.norm) fun xs => QI (xs, q.2) := by
  rw [evIt]
  refine Run.bind.trans (nW_eq.trans (run_congr fun p => Run.bind.trans (nW_eq.trans (run_congr fun q => ?_))))
  rcases p with ⟨r, μ1⟩
  rcases q with ⟨r2, μ2⟩
  dsimp only
  rcases r.norm with x | n
  · cases x <;> first | exact Run.none.trans Run.none.symm | skip
    rcases r2.norm with y | n
    · cases y <;> first | exact Run.none.trans Run.none.symm | skip
      dsimp only
      unfold rng2
      rw [Run.ifn, Run.ifn]
      exact congrArg _ (Eq.trans Run.some (by rw [Run.some]))
    · exact Run.none.trans Run.none.symm
  · exact Run.none.trans Run.none.symm
theorem rI_zip : Run (evIt g (.zip a b) ρ μ) QI = Run (evE g a ρ μ) fun p => Run (evE g b ρ p.2) fun q => Run p.1.norm.toD fun d => Run q.1.norm.toD fun d' => Run (seqOf d) fun xs => Run (seqOf d') fun ys => QI (List.zipWith (fun x y => .tuple [x, y]) xs ys, q.2) := by
  rw [evIt]
  exact Run.bind.trans (nW_eq.trans (run_congr fun p => Run.bind.trans (nW_eq.trans (run_congr fun q => Run.bind.trans (run_congr fun x => Run.bind.trans (run_congr fun y => Run.bind.trans (run_congr fun xs => Run.bind.trans (run_congr fun ys => Run.some))))))))
def lstOf : W → Option (List D)
  | .d (.list xs) => some xs
  | _ => none
theorem rI_enu : Run (evIt g (.enu a) ρ μ) QI = Run (evE g a ρ μ) fun p => Run (lstOf p.1.norm) fun xs => QI (xs.mapIdx fun i x => .tuple [.int i, x], p.2) := by
  rw [evIt]
  refine Run.bind.trans (nW_eq.trans (run_congr fun p => ?_))
  rcases p with ⟨r, μ1⟩
  dsimp only
  rcases r.norm with x | n
  · cases x <;> first | exact Run.none.trans Run.none.symm | (refine Eq.trans Run.some ?_; dsimp only [lstOf]; rw [Run.some])
  · exact Run.none.trans Run.none.symm
end
end
end
end Mini
end
section
set_option autoImplicit false
set_option Elab.async false
set_option linter.all false
set_option maxRecDepth 100000
set_option maxHeartbeats 4000000
/-! MX: statements, calls, loops. -/
namespace Mini
open PySem L2
section
variable {g : Ge} {ρ : Rho} {μ : Store} {a b c e : E} {Q : Fl → Prop}
/-- what follows a statement -/
def after (g : Ge) (ss : Ss) (Q : Fl → Prop) : Fl → Prop
  | .nx ρ μ => Run (evSs g ss ρ μ) Q
  | f => Q f
theorem after_nx {ss : Ss} {ρ : Rho} {μ : Store} : after g ss Q (.nx ρ μ) = Run (evSs g ss ρ μ) Q := rfl
theorem after_rt {ss : Ss} {r : R} {μ : Store} : after g ss Q (.rt r μ) = Q (.rt r μ) := rfl
theorem after_bk {ss : Ss} {ρ : Rho} {μ : Store} : after g ss Q (.bk ρ μ) = Q (.bk ρ μ) := rfl
theorem after_ct {ss : Ss} {ρ : Rho} {μ : Store} : after g ss Q (.ct ρ μ) = Q (.ct ρ μ) := rfl
theorem rSs_nil : Run (evSs g .nil ρ μ) Q = Q (.nx ρ μ) := Run.some
theorem rSs_cons {s : S} {ss : Ss} : Run (evSs g (.cons s ss) ρ μ) Q = Run (evS g s ρ μ) (after g ss Q) := by
  rw [evSs]
  refine Run.bind.trans (run_congr fun f => ?_)
  cases f with
  | nx ρ1 μ1 => rfl
  | bk ρ1 μ1 => exact Run.some
  | ct ρ1 μ1 => exact Run.some
  | rt r μ1 => exact Run.some
theorem rS_asg {i : Nat} : Run (evS g (.asg (.nm i) e) ρ μ) Q = Run (evE g e ρ μ) fun p => Q (.nx (ρ.set i (some p.1.norm)) p.2) := by
  rw [evS]
  exact Run.bind.trans (nW_eq.trans (run_congr fun p => Run.some))
theorem rS_tup {is : List Nat} : Run (evS g (.asg (.tp is) e) ρ μ) Q = Run (evE g e ρ μ) fun p => Run p.1.norm.toD fun d => Run (bind (.tp is) d ρ) fun ρ1 => Q (.nx ρ1 p.2) := by
  rw [evS]
  exact Run.bind.trans (nW_eq.trans (run_congr fun p => Run.bind.trans (run_congr fun d => Run.bind.trans (run_congr fun r => Run.some))))
theorem rS_par {i j : Nat} {fa fb : Bool} : Run (evS g (.par i j fa fb a b) ρ μ) Q = Run (evE g a ρ μ) fun p => Run (mkW fa p) fun q => Run (evE g b ρ q.2) fun p2 => Run (mkW fb p2) fun q2 => Q (.nx ((ρ.set i (some q.1)).set j (some q2.1)) q2.2) := by
  rw [evS]
  exact Run.bind.trans (run_congr fun p => Run.bind.trans (run_congr fun q => Run.bind.trans (run_congr fun r => Run.bind.trans (run_congr fun s => Run.some))))
theorem mkW_f {p : R × Store} : mkW false p = some (p.1.norm, p.2) := rfl
theorem mkW_t {o : FO} {μ : Store} : mkW true (.fr o, μ) = some (.bx μ.length, μ ++ [some (.fo o)]) := rfl
theorem rS_bxa {i : Nat} : Run (evS g (.bxa i e) ρ μ) Q = Run (evE g e ρ μ) fun p => Run (mkW true p) fun q => Q (.nx (ρ.set i (some q.1)) q.2) := by
  rw [evS]
  exact Run.bind.trans (run_congr fun p => Run.bind.trans (run_congr fun q => Run.some))
def toBx : W → Option Nat
  | .bx n => some n
  | _ => none
theorem toBx_b {n : Nat} : toBx (.bx n) = some n := rfl
theorem boxAt_slot {i : Nat} : boxAt ρ i = (slot ρ i).bind toBx := by
  unfold boxAt slot
  rcases ρ[i]? with _ | _ | w
  · rfl
  · rfl
  · cases w <;> rfl
theorem rS_app {i : Nat} : Run (evS g (.app i e) ρ μ) Q = Run (slot ρ i) fun w => Run (toBx w) fun n => Run (lstAt μ n) fun _ => Run (evE g e ρ μ) fun p => Run p.1.norm.toD fun d => Run (lstAt p.2 n) fun ds => sz ds.length = true ∧ Q (.nx ρ (p.2.set n (some (.fo (.lst (ds ++ [d])))))) := by
  rw [evS, boxAt_slot]
  refine Run.bind.trans (Run.bind.trans (run_congr fun w => run_congr fun n => Run.bind.trans (run_congr fun _ => Run.bind.trans (nW_eq.trans (run_congr fun p => Run.bind.trans (run_congr fun d => Run.bind.trans (run_congr fun ds => Run.ifn.trans (congrArg _ Run.some))))))))
def toInt : W → Option Int
  | .d (.int i) => some i
  | _ => none
theorem toInt_i {i : Int} : toInt (.d (.int i)) = some i := rfl
theorem rS_set {i : Nat} {ix : E} : Run (evS g (.set i ix e) ρ μ) Q = Run (slot ρ i) fun w => Run (toBx w) fun n => Run (evE g e ρ μ) fun p => Run p.1.norm.toD fun d => Run (evE g ix ρ p.2) fun q => Run (toInt q.1.norm) fun k => Run (lstAt q.2 n) fun ds => Run (ixN ds.length k) fun j => Q (.nx ρ (q.2.set n (some (.fo (.lst (ds.set j d)))))) := by
  rw [evS, boxAt_slot]
  refine Run.bind.trans (Run.bind.trans (run_congr fun w => run_congr fun n => Run.bind.trans (nW_eq.trans (run_congr fun p => Run.bind.trans (run_congr fun d => Run.bind.trans (nW_eq.trans (run_congr fun q => ?_)))))))
  rcases q with ⟨r, μ1⟩
  dsimp only
  rcases r.norm with x | m
  · cases x <;> first | exact Run.none.trans Run.none.symm | skip
    exact Run.bind.trans (Eq.trans (run_congr fun ds => Run.bind.trans (run_congr fun j => Run.some)) (by rw [toInt_i, Run.some]))
  · exact Run.none.trans Run.none.symm
def augV (op : Operator) (i j : Int) : Option Int := match op with
  | .Add => some (i + j)
  | .Sub => some (i - j)
  | _ => none
theorem augV_a {i j : Int} : augV .Add i j = some (i + j) := rfl
theorem augV_s {i j : Int} : augV .Sub i j = some (i - j) := rfl
theorem rS_aug {i : Nat} {op : Operator} : Run (evS g (.aug i op e) ρ μ) Q = Run (slot ρ i) fun w => Run (toInt w) fun x => Run (evE g e ρ μ) fun p => Run (toInt p.1.norm) fun y => Run (augV op x y) fun z => Q (.nx (ρ.set i (some (.d (.int z)))) p.2) := by
  rw [evS]; unfold slot
  rcases ρ[i]? with _ | _ | w
  · exact Run.none.trans Run.none.symm
  · exact Run.none.trans Run.none.symm
  · dsimp only
    rw [Run.some]
    rcases w with x | m
    · cases x <;> first | exact Run.none.trans Run.none.symm | skip
      rw [toInt_i, Run.some]
      refine Run.bind.trans (nW_eq.trans (run_congr fun p => ?_))
      rcases p with ⟨r, μ1⟩
      dsimp only
      rcases r.norm with x | m
      · cases x <;> first | exact Run.none.trans Run.none.symm | skip
        rw [toInt_i, Run.some]
        unfold augV
        cases op <;> first | exact Run.none.trans Run.none.symm | (refine Eq.trans Run.some ?_; dsimp only; rw [Run.some])
      · exact Run.none.trans Run.none.symm
    · exact Run.none.trans Run.none.symm
/-- what a return hands out -/
def foAt (μ : Store) (n : Nat) : Option FO := match μ[n]? with
  | some (some (.fo o)) => some o
  | _ => none
def retR : R × Store → Option (R × Store)
  | (.w (.bx n), μ) => (foAt μ n).map fun o => (.fr o, μ.set n none)
  | p => some p
theorem retR_d {x : D} {μ : Store} : retR (.w (.d x), μ) = some (.w (.d x), μ) := rfl
theorem retR_rd {x : D} {μ : Store} : retR (rd x, μ) = some (rd x, μ) := rfl
theorem retR_f {o : FO} {μ : Store} : retR (.fr o, μ) = some (.fr o, μ) := rfl
theorem retR_b {n : Nat} {μ : Store} : retR (.w (.bx n), μ) = (foAt μ n).map fun o => (.fr o, μ.set n none) := rfl
theorem rS_ret : Run (evS g (.ret e) ρ μ) Q = Run (evE g e ρ μ) fun p => Run (retR p) fun q => Q (.rt q.1 q.2) := by
  rw [evS]
  refine Run.bind.trans (run_congr fun p => ?_)
  rcases p with ⟨r, μ1⟩
  dsimp only
  rcases r with (x | n) | o
  · exact Run.some.trans (by rw [retR_d, Run.some])
  · rw [retR_b, Run.map]
    unfold foAt
    dsimp only
    rcases μ1[n]? with _ | _ | (o | ds)
    · exact Run.none.trans Run.none.symm
    · exact Run.none.trans Run.none.symm
    · exact Run.some.trans (by rw [Run.some])
    · exact Run.none.trans Run.none.symm
  · exact Run.some.trans (by rw [retR_f, Run.some])
theorem rS_retN : Run (evS g .retN ρ μ) Q = Q (.rt (rd .none) μ) := Run.some
theorem rS_ife {x y : Ss} : Run (evS g (.ife c x y) ρ μ) Q = Run (evE g c ρ μ) fun p => Run (tst p.1.norm p.2) fun t => RunIf t (Run (evSs g x ρ p.2) Q) (Run (evSs g y ρ p.2) Q) := by
  rw [evS]
  refine Run.bind.trans (nB_eq.trans (run_congr fun p => run_congr fun t => ?_))
  cases t with
  | true => exact RunIf.tt.symm
  | false => exact RunIf.ff.symm
theorem rS_for {t : Tg} {it : Src} {y : Ss} : Run (evS g (.for_ t it y) ρ μ) Q = Run (evIt g it ρ μ) fun p => Run (forLoop t (evSs g y) p.1 ρ p.2) Q := by
  rw [evS]
  exact Run.bind
theorem rS_while {y : Ss} : Run (evS g (.while_ c y) ρ μ) Q = Run (whileLoop (fun ρ μ => nB (evE g c ρ μ)) (evSs g y) wfuel ρ μ) Q := by
  rw [evS]
theorem rS_pass : Run (evS g .pass ρ μ) Q = Q (.nx ρ μ) := Run.some
theorem rS_brk : Run (evS g .brk ρ μ) Q = Q (.bk ρ μ) := Run.some
theorem rS_cont : Run (evS g .cont ρ μ) Q = Q (.ct ρ μ) := Run.some
theorem rS_expr : Run (evS g (.expr e) ρ μ) Q = Run (evE g e ρ μ) fun p => Q (.nx ρ p.2) := by
  rw [evS]
  exact Run.bind.trans (nW_eq.trans (run_congr fun p => Run.some))
/-! calls -/
theorem endOf_d {m : Nat} {x : D} {μ : Store} : endOf m (.rt (.w (.d x)) μ) = some (.w (.d x), μ.take m) := rfl
theorem endOf_rd {m : Nat} {x : D} {μ : Store} : endOf m (.rt (rd x) μ) = some (rd x, μ.take m) := rfl
theorem endOf_f {m : Nat} {o : FO} {μ : Store} : endOf m (.rt (.fr o) μ) = some (.fr o, μ.take m) := rfl
theorem endOf_n {m : Nat} {ρ : Rho} {μ : Store} : endOf m (.nx ρ μ) = some (rd .none, μ.take m) := rfl
theorem geOf_glob (T : List Df) (gl : Nat → Option D) (n : Nat) (k : Nat) : (geOf T gl n).gl k = gl k := by cases n <;> rfl
theorem run_fn {T : List Df} {gl : Nat → Option D} {n f ar sl : Nat} {bd : Ss} {ws : List W} {μ : Store} {Q : R × Store → Prop} (hd : T[f]? = some ⟨ar, sl, bd⟩) (hl : ws.length = ar)
    (k : Run (evSs (geOf T gl n) bd (ws.map some ++ List.replicate (sl - ar) none) μ) fun fl => Run (endOf μ.length fl) Q) : Run ((geOf T gl (n + 1)).fn f ws μ) Q := by
  show Run (match T[f]? with | some d => callDf (geOf T gl n) d ws μ | none => none) Q
  rw [hd]
  show Run (if ws.length = ar then _ else none) Q
  rw [if_pos hl, Run.bind]
  subst hl
  exact k
/-! loops -/
theorem forLoop_nil {t : Tg} {B : Rho → Store → Option Fl} : Run (forLoop t B [] ρ μ) Q = Q (.nx ρ μ) := Run.some
theorem forLoop_cons {t : Tg} {B : Rho → Store → Option Fl} {x : D} {xs : List D} : Run (forLoop t B (x :: xs) ρ μ) Q = Run (bind t x ρ) fun ρ1 => Run (B ρ1 μ) fun f => (match f with
    | .nx ρ2 μ2 => Run (forLoop t B xs ρ2 μ2) Q
    | .ct ρ2 μ2 => Run (forLoop t B xs ρ2 μ2) Q
    | .bk ρ2 μ2 => Q (.nx ρ2 μ2)
    | .rt r μ2 => Q (.rt r μ2)) := by
  rw [forLoop]
  refine Run.bind.trans (run_congr fun ρ1 => Run.bind.trans (run_congr fun f => ?_))
  cases f with
  | nx ρ1 μ1 => rfl
  | bk ρ1 μ1 => exact Run.some
  | ct ρ1 μ1 => rfl
  | rt r μ1 => exact Run.some
/-- a for with an invariant over the number of turns done -/
theorem for_inv {t : Tg} {B : Rho → Store → Option Fl} {xs : List D} (I : Nat → Rho → Store → Prop) (h0 : I 0 ρ μ)
    (st : ∀ i x, xs[i]? = some x → ∀ ρ μ, I i ρ μ → Run (bind t x ρ) fun ρ1 => Run (B ρ1 μ) fun f => (match f with
      | .nx ρ2 μ2 => I (i + 1) ρ2 μ2
      | .ct ρ2 μ2 => I (i + 1) ρ2 μ2
      | .bk ρ2 μ2 => Q (.nx ρ2 μ2)
      | .rt r μ2 => Q (.rt r μ2)))
    (en : ∀ ρ μ, I xs.length ρ μ → Q (.nx ρ μ)) : Run (forLoop t B xs ρ μ) Q := by
  suffices h : ∀ (k i : Nat) (ρ : Rho) (μ : Store), i + k = xs.length → I i ρ μ → Run (forLoop t B (xs.drop i) ρ μ) Q by
    have := h xs.length 0 ρ μ (by omega) h0
    rwa [List.drop_zero] at this
  intro k
  induction k with
  | zero =>
    intro i ρ μ hi hI
    rw [List.drop_of_length_le (by omega), forLoop_nil]
    exact en ρ μ (by rw [show xs.length = i by omega]; exact hI)
  | succ k ih =>
    intro i ρ μ hi hI
    have hlt : i < xs.length := by omega
    rw [List.drop_eq_getElem_cons hlt, forLoop_cons]
    refine (st i xs[i] (List.getElem?_eq_getElem hlt) ρ μ hI).mono fun ρ1 h1 => h1.mono fun f hf => ?_
    cases f with
    | nx ρ1 μ1 => exact ih (i + 1) ρ1 μ1 (by omega) hf
    | bk ρ1 μ1 => exact hf
    | ct ρ1 μ1 => exact ih (i + 1) ρ1 μ1 (by omega) hf
    | rt r μ1 => exact hf
/-- a while with an invariant and a measure -/
theorem while_inv {t : Rho → Store → Option (Bool × Store)} {B : Rho → Store → Option Fl} (I : Nat → Rho → Store → Prop) {n : Nat} {k : Nat} (hk : k < n) (h0 : I k ρ μ)
    (st : ∀ m ρ μ, I m ρ μ → Run (t ρ μ) fun p => RunIf p.1 (Run (B ρ p.2) fun f => (match f with
      | .nx ρ2 μ2 => ∃ m', m = m' + 1 ∧ I m' ρ2 μ2
      | .ct ρ2 μ2 => ∃ m', m = m' + 1 ∧ I m' ρ2 μ2
      | .bk ρ2 μ2 => Q (.nx ρ2 μ2)
      | .rt r μ2 => Q (.rt r μ2))) (Q (.nx ρ p.2))) : Run (whileLoop t B n ρ μ) Q := by
  induction n generalizing k ρ μ with
  | zero => omega
  | succ n ih =>
    rw [whileLoop]
    refine (Run.bind (α := Bool × Store) (β := Fl)).symm ▸ ((st k ρ μ h0).mono fun p hp => ?_)
    rcases p with ⟨b, μ1⟩
    cases b with
    | false =>
      rw [RunIf.ff] at hp
      exact .of_eq rfl hp
    | true =>
      rw [RunIf.tt] at hp
      refine (Run.bind (α := Fl) (β := Fl)).symm ▸ (hp.mono fun f hf => ?_)
      cases f with
      | nx ρ1 μ1 => obtain ⟨m', rfl, hI⟩ := hf; exact ih (by omega) hI
      | bk ρ1 μ1 => exact .of_eq rfl hf
      | ct ρ1 μ1 => obtain ⟨m', rfl, hI⟩ := hf; exact ih (by omega) hI
      | rt r μ1 => exact .of_eq rfl hf
end
/-! comprehensions -/
inductive All2 {α β : Type} (P : α → β → Prop) : List α → List β → Prop
  | nil : All2 P [] []
  | cons {x : α} {y : β} {xs : List α} {ys : List β} : P x y → All2 P xs ys → All2 P (x :: xs) (y :: ys)
section
variable {g : Ge} {own : List Nat} {t : Tg} {cs : Eo} {e : E} {ρ : Rho} {μ : Store}
theorem lcRun_nil {Q : List D × Store → Prop} : Run (lcRun g own t cs e ρ [] μ) Q = Q ([], μ) := Run.some
theorem lcRun_cons {x : D} {xs : List D} {Q : List D × Store → Prop} : Run (lcRun g own t cs e ρ (x :: xs) μ) Q = Run (bind t x (wipeE ρ own)) fun ρ1 => Run (evC g cs ρ1 μ) fun c =>
    RunIf c.1 (Run (evE g e ρ1 c.2) fun p => Run p.1.norm.toD fun y => Run (lcRun g own t cs e ρ xs p.2) fun q => Q (y :: q.1, q.2)) (Run (lcRun g own t cs e ρ xs c.2) Q) := by
  rw [lcRun, lcLoop]
  refine Run.bind.trans (run_congr fun ρ1 => Run.bind.trans (run_congr fun c => ?_))
  rcases c with ⟨b, μ1⟩
  cases b with
  | false => exact RunIf.ff.symm
  | true =>
    refine Eq.trans ?_ RunIf.tt.symm
    refine Run.bind.trans (Run.bind.trans (nW_eq.trans (run_congr fun p => Run.bind.trans (run_congr fun y => ?_))))
    exact Run.some.trans (Run.bind.trans (run_congr fun q => Run.some))
/-- a comprehension that gives one thing for each -/
theorem lc_map {xs : List D} (f : D → D) (h : ∀ x ∈ xs, Run (bind t x (wipeE ρ own)) fun ρ1 => Run (evC g cs ρ1 μ) fun c => c = (true, μ) ∧ Run (evE g e ρ1 μ) fun p => p.1.norm = .d (f x) ∧ p.2 = μ) : lcRun g own t cs e ρ xs μ = some (xs.map f, μ) := by
  apply Run.eq
  induction xs with
  | nil => rw [lcRun_nil]; rfl
  | cons x xs ih =>
    rw [lcRun_cons]
    refine (h x (.head _)).mono fun ρ1 h1 => h1.mono fun c hc => ?_
    obtain ⟨rfl, hc⟩ := hc
    rw [RunIf.tt]
    refine hc.mono fun p hp => ?_
    rw [hp.1, hp.2, toD_d, Run.some]
    exact (ih fun x hx => h x (.tail _ hx)).mono fun q hq => by rw [hq]; rfl
theorem lc_mapm {α : Type} {l : List α} (h f : α → D) (H : ∀ x ∈ l, Run (bind t (h x) (wipeE ρ own)) fun ρ1 => Run (evC g cs ρ1 μ) fun c => c = (true, μ) ∧ Run (evE g e ρ1 μ) fun p => p.1.norm = .d (f x) ∧ p.2 = μ) : lcRun g own t cs e ρ (l.map h) μ = some (l.map f, μ) := by
  apply Run.eq
  induction l with
  | nil => rw [List.map_nil, lcRun_nil]; rfl
  | cons x xs ih =>
    rw [List.map_cons, lcRun_cons]
    refine (H x (.head _)).mono fun ρ1 h1 => h1.mono fun c hc => ?_
    obtain ⟨rfl, hc⟩ := hc
    rw [RunIf.tt]
    refine hc.mono fun p hp => ?_
    rw [hp.1, hp.2, toD_d, Run.some]
    exact (ih fun x hx => H x (.tail _ hx)).mono fun q hq => by rw [hq]; rfl
/-- a comprehension with an invariant over the number of turns done, that gives one thing for each -/
theorem lc_inv {xs : List D} {Q : List D × Store → Prop} (I : Nat → Store → Prop) (P : D → D → Prop) (h0 : I 0 μ)
    (st : ∀ i x, xs[i]? = some x → ∀ μ, I i μ → Run (bind t x (wipeE ρ own)) fun ρ1 => Run (evC g cs ρ1 μ) fun c => c = (true, μ) ∧ Run (evE g e ρ1 μ) fun p => Run p.1.norm.toD fun y => P x y ∧ I (i + 1) p.2)
    (en : ∀ ys μ, All2 P xs ys → I xs.length μ → Q (ys, μ)) : Run (lcRun g own t cs e ρ xs μ) Q := by
  suffices h : ∀ (k i : Nat) (μ : Store), i + k = xs.length → I i μ → Run (lcRun g own t cs e ρ (xs.drop i) μ) fun q => All2 P (xs.drop i) q.1 ∧ I xs.length q.2 by
    have := h xs.length 0 μ (by omega) h0
    rw [List.drop_zero] at this
    exact this.mono fun q hq => en q.1 q.2 hq.1 hq.2
  intro k
  induction k with
  | zero =>
    intro i μ hi hI
    rw [List.drop_of_length_le (by omega), lcRun_nil]
    exact ⟨.nil, by rw [show xs.length = i by omega]; exact hI⟩
  | succ k ih =>
    intro i μ hi hI
    have hlt : i < xs.length := by omega
    rw [List.drop_eq_getElem_cons hlt, lcRun_cons]
    refine (st i xs[i] (List.getElem?_eq_getElem hlt) μ hI).mono fun ρ1 h1 => h1.mono fun c hc => ?_
    obtain ⟨rfl, hc⟩ := hc
    rw [RunIf.tt]
    refine hc.mono fun p hp => hp.mono fun y hy => ?_
    exact (ih (i + 1) p.2 (by omega) hy.2).mono fun q hq => ⟨.cons hy.1 hq.1, hq.2⟩
/-- a comprehension that keeps some -/
theorem lc_filter {xs : List D} (p : D → Bool) (f : D → D) (h : ∀ x ∈ xs, Run (bind t x (wipeE ρ own)) fun ρ1 => Run (evC g cs ρ1 μ) fun c => c = (p x, μ) ∧ (p x = true → Run (evE g e ρ1 μ) fun q => q.1.norm = .d (f x) ∧ q.2 = μ)) : lcRun g own t cs e ρ xs μ = some ((xs.filter p).map f, μ) := by
  apply Run.eq
  induction xs with
  | nil => rw [lcRun_nil]; rfl
  | cons x xs ih =>
    rw [lcRun_cons]
    refine (h x (.head _)).mono fun ρ1 h1 => h1.mono fun c hc => ?_
    obtain ⟨rfl, hc⟩ := hc
    have ih := ih fun x hx => h x (.tail _ hx)
    cases hp : p x with
    | false =>
      rw [RunIf.ff]
      exact ih.mono fun q hq => by rw [hq, List.filter_cons, hp]; rfl
    | true =>
      rw [RunIf.tt]
      refine (hc hp).mono fun p hp' => ?_
      rw [hp'.1, hp'.2, toD_d, Run.some]
      exact ih.mono fun q hq => by rw [hq, List.filter_cons, hp]; rfl
end
theorem zip_map {α β : Type} (f : α → D) (h : β → D) : ∀ (l : List α) (m : List β), List.zipWith (fun x y => PyData.tuple [x, y]) (l.map f) (m.map h) = (l.zip m).map fun p => .tuple [f p.1, h p.2]
  | [], _ => by simp
  | _ :: _, [] => by simp
  | a :: l, b :: m => by simp [zip_map f h l m]
theorem cut_init {ds : List D} : cutD ds none (some (-1)) = ds.take (ds.length - 1) := by
  unfold cutD HT.sIx
  dsimp only
  rw [if_pos (by decide), List.drop_zero]
  congr 1
  omega
/-! the last box -/
section
variable {μ : Store} {ds : List D} {x y : Option SO}
theorem lstAt_last : lstAt (μ ++ [some (.fo (.lst ds))]) μ.length = some ds := by
  unfold lstAt
  rw [List.getElem?_append_right (Nat.le_refl _), Nat.sub_self]
  rfl
theorem set_last : (μ ++ [x]).set μ.length y = μ ++ [y] := by
  rw [List.set_append_right _ _ (Nat.le_refl _), Nat.sub_self]
  rfl
theorem peek_last : peek (μ ++ [some (.fo (.lst ds))]) (.bx μ.length) = some (.list ds) := by
  unfold peek
  dsimp only
  rw [List.getElem?_append_right (Nat.le_refl _), Nat.sub_self]
  rfl
theorem foAt_last {o : FO} : foAt (μ ++ [some (.fo o)]) μ.length = some o := by
  unfold foAt
  rw [List.getElem?_append_right (Nat.le_refl _), Nat.sub_self]
  rfl
theorem take_last : (μ ++ [x]).take μ.length = μ := List.take_left' rfl
end
/-! binding -/
section
variable {ρ : Rho}
theorem bind_nm {i : Nat} {d : D} : bind (.nm i) d ρ = some (ρ.set i (some (.d d))) := rfl
theorem bind_tp {is : List Nat} {ds : List D} : bind (.tp is) (.tuple ds) ρ = setAll ρ is ds := rfl
theorem setAll_nil : setAll ρ [] [] = some ρ := rfl
theorem setAll_cons {i : Nat} {is : List Nat} {d : D} {ds : List D} : setAll ρ (i :: is) (d :: ds) = setAll (ρ.set i (some (.d d))) is ds := rfl
theorem wipe_nil : wipeE ρ [] = ρ := rfl
theorem wipe_cons {v : Nat} {vs : List Nat} : wipeE ρ (v :: vs) = (wipeE ρ vs).set v none := rfl
end
/-! values -/
section
theorem add_ii {i j : Int} : binV .Add (.int i) (.int j) = some (rd (.int (i + j))) := rfl
theorem sub_ii {i j : Int} : binV .Sub (.int i) (.int j) = some (rd (.int (i - j))) := rfl
theorem mul_ii {i j : Int} : binV .Mult (.int i) (.int j) = if i.natAbs.log2 + j.natAbs.log2 < 1000000 then some (rd (.int (i * j))) else none := rfl
theorem mod_ii {i j : Int} : binV .Mod (.int i) (.int j) = if j ≠ 0 then some (rd (.int (i.fmod j))) else none := rfl
theorem div_ii {i j : Int} (h : 0 < j) (h2 : j.natAbs.log2 < 9000) : binV .FloorDiv (.int i) (.int j) = some (rd (.int (i / j))) := if_pos ⟨h, h2⟩
theorem pow_ii {i j : Int} : binV .Pow (.int i) (.int j) = if 0 ≤ j ∧ j ≤ 1000000 ∧ i.natAbs < 2 ^ 64 then some (rd (.int (i ^ j.toNat))) else none := rfl
theorem add_ll {a b : List D} : binV .Add (.list a) (.list b) = if sz a.length && sz b.length then some (.fr (.lst (a ++ b))) else none := rfl
theorem add_tt {a b : List D} : binV .Add (.tuple a) (.tuple b) = if sz a.length && sz b.length then some (rd (.tuple (a ++ b))) else none := rfl
theorem mul_li {a : List D} {k : Int} : binV .Mult (.list a) (.int k) = if sz a.length && decide (0 ≤ k) && sz (a.length * k.toNat) && decide (k < 1000000) then some (.fr (.lst (List.replicate k.toNat a).flatten)) else none := rfl
theorem lt_ii {i j : Int} : cmpV .Lt (.int i) (.int j) = some (decide (i < j)) := rfl
theorem le_ii {i j : Int} : cmpV .LtE (.int i) (.int j) = some (decide (i ≤ j)) := rfl
theorem gt_ii {i j : Int} : cmpV .Gt (.int i) (.int j) = some (decide (j < i)) := rfl
theorem ge_ii {i j : Int} : cmpV .GtE (.int i) (.int j) = some (decide (j ≤ i)) := rfl
theorem shp_i {i : Int} : SeqAt.shaped (.int i) = true := by
  unfold SeqAt.shaped
  simp [PyData.canLay0, PyData.depth]
theorem eq_ii {i j : Int} : cmpV .Eq (.int i) (.int j) = some (decide (i = j)) := by
  show eqD _ _ = _
  unfold eqD
  rw [shp_i, shp_i]
  rfl
theorem ne_ii {i j : Int} : cmpV .NotEq (.int i) (.int j) = some (!decide (i = j)) := by
  unfold cmpV eqD
  rw [shp_i, shp_i]
  rfl
theorem eqs_self {x : Str} : eqD (.str x) (.str x) = some true := by
  unfold eqD strEq
  split
  · rw [show PyData.eqv (.str x) (.str x) = (x == x) from rfl, beq_self_eq_true]
  · show some (x == x) = some true
    rw [beq_self_eq_true]
theorem eq_ss {x : Str} : cmpV .Eq (.str x) (.str x) = some true := eqs_self
theorem ne_ss {x : Str} : cmpV .NotEq (.str x) (.str x) = some false := by
  unfold cmpV
  rw [eqs_self]
  rfl
theorem eqD_of {x y : D} (h : SeqAt.shaped x = true) (k : SeqAt.shaped y = true) : cmpV .Eq x y = some (PyData.eqv x y) := by
  show eqD _ _ = _
  unfold eqD
  rw [h, k]
  rfl
theorem neD_of {x y : D} (h : SeqAt.shaped x = true) (k : SeqAt.shaped y = true) : cmpV .NotEq x y = some (!PyData.eqv x y) := by
  unfold cmpV eqD
  rw [h, k]
  rfl
theorem in_of {x : D} {ds : List D} (h : SeqAt.shaped x = true) (k : SeqAt.shaped (.list ds) = true) : cmpV .In x (.list ds) = some (ds.any fun z => PyData.eqv z x) := by
  unfold cmpV
  dsimp only
  rw [h, k]
  rfl
theorem is_none {x : D} : cmpV .Is x .none = some (match x with | .none => true | _ => false) := rfl
theorem isnot_none {x : D} : cmpV .IsNot x .none = some (match x with | .none => false | _ => true) := rfl
theorem len_l {x : List D} : b1V .len (.list x) = some (rd (.int x.length)) := rfl
theorem len_t {x : List D} : b1V .len (.tuple x) = some (rd (.int x.length)) := rfl
theorem abs_i {i : Int} : b1V .abs (.int i) = some (rd (.int (i.natAbs : Int))) := by
  show some (rd (.int (if i < 0 then -i else i))) = _
  congr 3
  split <;> omega
theorem w_d {x : D} : R.w (.d x) = rd x := rfl
theorem int_i {i : Int} : b1V .int (.int i) = some (rd (.int i)) := rfl
theorem int_b {b : Bool} : b1V .int (.bool b) = some (rd (.int (if b then 1 else 0))) := rfl
theorem sum_l {x : List D} : b1V .sum (.list x) = (intsOf x).map fun ns => rd (.int ns.sum) := rfl
theorem sum_t {x : List D} : b1V .sum (.tuple x) = (intsOf x).map fun ns => rd (.int ns.sum) := rfl
theorem all_l {x : List D} : b1V .all (.list x) = (boolsOf x).map fun bs => rd (.bool (bs.all id)) := rfl
theorem tuple_l {x : List D} : b1V .tuple (.list x) = some (rd (.tuple x)) := rfl
theorem tuple_t {x : List D} : b1V .tuple (.tuple x) = some (rd (.tuple x)) := rfl
theorem list_l {x : List D} : b1V .list (.list x) = some (.fr (.lst x)) := rfl
theorem list_t {x : List D} : b1V .list (.tuple x) = some (.fr (.lst x)) := rfl
theorem max_ii {i j : Int} : b2V .max (.int i) (.int j) = some (rd (.int (if j > i then j else i))) := rfl
theorem min_ii {i j : Int} : b2V .min (.int i) (.int j) = some (rd (.int (if j < i then j else i))) := rfl
theorem isi_int {x : D} : isiV x .int = isIntD x := rfl
theorem isi_bool {x : D} : isiV x .bool = isBoolD x := rfl
theorem isi_tup {x : D} : isiV x .tuple = isTupD x := rfl
theorem isi_str {x : D} : isiV x .str = isStrD x := rfl
theorem isi_lst {x : D} : isiV x .list = isLstD x := rfl
theorem ix_l {x : List D} {i : Int} : ixV (.list x) (.int i) = atD x i := rfl
theorem ix_t {x : List D} {i : Int} : ixV (.tuple x) (.int i) = atD x i := rfl
theorem at_0 {x : D} {r : List D} : atD (x :: r) 0 = some x := by
  unfold atD ixN
  simp
theorem at_nat {xs : List D} {n : Nat} {i : Int} (e : i = n) (h : n < xs.length) : atD xs i = some xs[n] := by
  subst e
  unfold atD ixN
  simp [h]
theorem atD_nat {xs : List D} {n : Nat} {x : D} (h : xs[n]? = some x) : atD xs (n : Int) = some x := by
  have hl := (List.getElem?_eq_some_iff.mp h).1
  unfold atD ixN
  simp [hl]
  exact (List.getElem?_eq_some_iff.mp h).2
theorem seq_l {x : List D} : seqOf (.list x) = some x := rfl
theorem seq_t {x : List D} : seqOf (.tuple x) = some x := rfl
theorem lstOf_l {x : List D} : lstOf (.d (.list x)) = some x := rfl
theorem rng1_i {j : Int} : rng1 (.d (.int j)) = if -big ≤ j ∧ j < big then some (rangeD 0 j) else none := rfl
theorem rng2_i {i j : Int} : rng2 (.d (.int i)) (.d (.int j)) = if -big ≤ i ∧ i < big ∧ -big ≤ j ∧ j < big then some (rangeD i j) else none := rfl
theorem optInt_n : optInt none = some none := rfl
theorem optInt_i {i : Int} : optInt (some (.int i)) = some (some i) := rfl
theorem sl_l {x : List D} {lo hi : Option Int} : slV (.list x) lo hi = some (.fr (.lst (cutD x lo hi))) := rfl
theorem sl_t {x : List D} {lo hi : Option Int} : slV (.tuple x) lo hi = some (rd (.tuple (cutD x lo hi))) := rfl
theorem mapM_nil : ([] : List W).mapM W.toD = some [] := rfl
theorem mapM_cons {x : D} {ws : List W} : (W.d x :: ws).mapM W.toD = (ws.mapM W.toD).map (x :: ·) := by
  rw [List.mapM_cons]
  show ((some x).bind fun a => (ws.mapM W.toD).bind fun as => some (a :: as)) = _
  rw [Option.bind_some]
  cases ws.mapM W.toD <;> rfl
theorem sz_le {n : Nat} (h : n ≤ 100000) : sz n = true := decide_eq_true h
end
end Mini
end
section
set_option autoImplicit false
set_option Elab.async false
set_option linter.all false
set_option maxRecDepth 100000
set_option maxHeartbeats 4000000
/-! MY: data that can be shown and weighed. -/
namespace Mini
open PySem PySem.Spec L2
mutual
def wt (k : Nat) : D → Nat
  | .none => 4 | .bool _ => 5 | .int _ => k + 1 | .str x => (reprText x).length
  | .list xs => wtAll k xs + 3 | .tuple xs => wtAll k xs + 3 | .dict _ => 0
def wtAll (k : Nat) : List D → Nat
  | [] => 0 | x :: xs => wt k x + 2 + wtAll k xs
end
mutual
def nice (k : Nat) : D → Bool
  | .none => true | .bool _ => true | .int i => decide (i.natAbs < 10 ^ k) | .str x => PyData.strOk x
  | .list xs => niceAll k xs | .tuple xs => niceAll k xs | .dict _ => false
def niceAll (k : Nat) : List D → Bool
  | [] => true | x :: xs => nice k x && niceAll k xs
end
theorem niceAll_iff {k : Nat} : ∀ {xs : List D}, niceAll k xs = true ↔ ∀ x ∈ xs, nice k x = true
  | [] => ⟨fun _ _ h => (nomatch h), fun _ => rfl⟩
  | x :: xs => by
    simp only [niceAll, Bool.and_eq_true, List.mem_cons, forall_eq_or_imp, niceAll_iff (xs := xs)]
theorem wtAll_le {k c : Nat} : ∀ {xs : List D}, (∀ x ∈ xs, wt k x ≤ c) → wtAll k xs ≤ xs.length * (c + 2)
  | [], _ => by simp [wtAll]
  | x :: xs, h => by
    have h1 := h x (.head _)
    have h2 := wtAll_le (xs := xs) fun y hy => h y (.tail _ hy)
    simp only [wtAll, List.length_cons, Nat.add_mul]
    omega
mutual
theorem nice_lay {k : Nat} : ∀ {d : D}, nice k d = true → d.canLay0 = true
  | .none, _ => by simp [PyData.canLay0]
  | .bool _, _ => by simp [PyData.canLay0]
  | .int _, _ => by simp [PyData.canLay0]
  | .str _, h => by simpa [PyData.canLay0, nice] using h
  | .list xs, h => by
    simp only [PyData.canLay0]
    exact niceAll_lay (by simpa [nice] using h)
  | .tuple xs, h => by
    simp only [PyData.canLay0]
    exact niceAll_lay (by simpa [nice] using h)
  | .dict _, h => by simp [nice] at h
theorem niceAll_lay {k : Nat} : ∀ {ds : List D}, niceAll k ds = true → PyData.canLayAll0 ds = true
  | [], _ => by simp [PyData.canLayAll0]
  | x :: xs, h => by
    simp only [niceAll, Bool.and_eq_true] at h
    simp only [PyData.canLayAll0, Bool.and_eq_true]
    exact ⟨nice_lay h.1, niceAll_lay h.2⟩
end
theorem pow_500 : (10 : Nat) ^ 500 ≤ 2 ^ 1920 := by decide +kernel
mutual
theorem nice_show {k : Nat} (hk : k ≤ 500) : ∀ {d : D}, nice k d = true → d.showable = true
  | .none, _ => by simp [PyData.showable]
  | .bool _, _ => by simp [PyData.showable]
  | .int i, h => by
    have h : i.natAbs < 10 ^ k := by simpa [nice] using h
    simp only [PyData.showable, decide_eq_true_eq]
    exact log2_small (Nat.lt_of_lt_of_le h (Nat.le_trans (Nat.pow_le_pow_right (by decide) hk) pow_500))
  | .str _, h => by simp [PyData.showable]
  | .list xs, h => by
    simp only [PyData.showable]
    exact niceAll_show hk (by simpa [nice] using h)
  | .tuple xs, h => by
    simp only [PyData.showable]
    exact niceAll_show hk (by simpa [nice] using h)
  | .dict _, h => by simp [nice] at h
theorem niceAll_show {k : Nat} (hk : k ≤ 500) : ∀ {ds : List D}, niceAll k ds = true → PyData.showableAll ds = true
  | [], _ => by simp [PyData.showableAll]
  | x :: xs, h => by
    simp only [niceAll, Bool.and_eq_true] at h
    simp only [PyData.showableAll, Bool.and_eq_true]
    exact ⟨nice_show hk h.1, niceAll_show hk h.2⟩
end
theorem listText_len (ts : List Str) : (listText ts).length ≤ piled ts + 2 := by
  unfold listText
  rw [strLen_append]
  have e1 : ((("]" : String) : Str)).length = 1 := rfl
  have e2 : ((("[" : String) : Str)).length = 1 := rfl
  rw [e1]
  cases ts with
  | nil => show ((("[" : String) : Str)).length + 1 ≤ _; rw [e2]; omega
  | cons t r =>
    show (textFrom 1 _ r).length + 1 ≤ _
    rw [textFrom_length_pos r 1 _ (by decide), strLen_append, strLen_append, piled_cons, e2]
    have e3 : (((if 0 > 0 then ", " else "" : String) : Str)).length = 0 := rfl
    rw [e3]
    omega
theorem tupleText_len (ts : List Str) : (tupleText ts).length ≤ piled ts + 3 := by
  unfold tupleText
  rw [strLen_append, strLen_append]
  have e1 : ((("(" : String) : Str)).length = 1 := rfl
  have e3 : (((if ts.length == 1 then ",)" else ")" : String) : Str)).length ≤ 2 := by split <;> decide
  rw [e1]
  by_cases h : ts = []
  · subst h
    have : (Str.join ", " []).length = 0 := rfl
    omega
  · have := join_length_add ts h
    omega
mutual
theorem shown_len {k : Nat} (hk : 0 < k) : ∀ {d : D}, nice k d = true → (PyData.shown d).length ≤ wt k d
  | .none, _ => by simp only [PyData.shown, wt]; decide
  | .bool b, _ => by cases b <;> simp only [PyData.shown, wt] <;> decide
  | .int i, h => by
    have h : i.natAbs < 10 ^ k := by simpa [nice] using h
    simp only [PyData.shown, wt]
    have := int_text_length_le10 hk h
    rw [ofString_length]
    exact this
  | .str x, _ => by simp only [PyData.shown, wt]; exact Nat.le_refl _
  | .list xs, h => by
    simp only [PyData.shown, wt]
    have h1 := listText_len (PyData.shownAll xs)
    have h2 := shownAll_len hk (ds := xs) (by simpa [nice] using h)
    omega
  | .tuple xs, h => by
    simp only [PyData.shown, wt]
    have h1 := tupleText_len (PyData.shownAll xs)
    have h2 := shownAll_len hk (ds := xs) (by simpa [nice] using h)
    omega
  | .dict _, h => by simp [nice] at h
theorem shownAll_len {k : Nat} (hk : 0 < k) : ∀ {ds : List D}, niceAll k ds = true → piled (PyData.shownAll ds) ≤ wtAll k ds
  | [], _ => by simp [PyData.shownAll, piled]
  | x :: xs, h => by
    simp only [niceAll, Bool.and_eq_true] at h
    simp only [PyData.shownAll, wtAll, piled_cons]
    have h1 := shown_len hk h.1
    have h2 := shownAll_len hk h.2
    omega
end
mutual
theorem eqv_refl {k : Nat} : ∀ {d : D}, nice k d = true → PyData.eqv d d = true
  | .none, _ => rfl
  | .bool b, _ => by simp [PyData.eqv]
  | .int i, _ => by simp [PyData.eqv]
  | .str x, _ => by simp [PyData.eqv]
  | .list xs, h => by
    simp only [PyData.eqv]
    exact eqvAll_refl (by simpa [nice] using h)
  | .tuple xs, h => by
    simp only [PyData.eqv]
    exact eqvAll_refl (by simpa [nice] using h)
  | .dict _, h => by simp [nice] at h
theorem eqvAll_refl {k : Nat} : ∀ {ds : List D}, niceAll k ds = true → PyData.eqvAll ds ds = true
  | [], _ => rfl
  | x :: xs, h => by
    simp only [niceAll, Bool.and_eq_true] at h
    simp only [PyData.eqvAll, Bool.and_eq_true]
    exact ⟨eqv_refl h.1, eqvAll_refl h.2⟩
end
theorem depthAll_le {k : Nat} : ∀ {l : List D}, (∀ x ∈ l, x.depth ≤ k) → PyData.depthAll l ≤ k
  | [], _ => by simp [PyData.depthAll]
  | x :: l, h => by
    have h1 := h x (.head _)
    have h2 := depthAll_le (l := l) fun y hy => h y (.tail _ hy)
    simp only [PyData.depthAll]
    omega
/-- a tuple that can be shown -/
def ReprOk (d : D) : Prop := ∃ l, d = .tuple l ∧ nice 70 d = true ∧ d.depth ≤ 64 ∧ wt 70 d ≤ 100000
theorem shaped_of {k : Nat} {d : D} (h : nice k d = true) (hd : d.depth ≤ 64) : SeqAt.shaped d = true := by
  unfold SeqAt.shaped
  rw [nice_lay h, decide_eq_true hd]
  rfl
theorem repr_l {k : Nat} {xs : List D} (hk : 0 < k) (hk2 : k ≤ 500) (h : nice k (.list xs) = true) (hd : (PyData.list xs).depth ≤ 64) (hw : wt k (.list xs) ≤ 100000) : b1V .repr (.list xs) = some (rd (.str (PyData.shown (.list xs)))) := by
  show (if _ then _ else _) = _
  rw [shaped_of h hd, nice_show hk2 h, sz_le (Nat.le_trans (shown_len hk h) hw)]
  rfl
theorem repr_t {k : Nat} {xs : List D} (hk : 0 < k) (hk2 : k ≤ 500) (h : nice k (.tuple xs) = true) (hd : (PyData.tuple xs).depth ≤ 64) (hw : wt k (.tuple xs) ≤ 100000) : b1V .repr (.tuple xs) = some (rd (.str (PyData.shown (.tuple xs)))) := by
  show (if _ then _ else _) = _
  rw [shaped_of h hd, nice_show hk2 h, sz_le (Nat.le_trans (shown_len hk h) hw)]
  rfl
theorem ReprOk.repr {d : D} (h : ReprOk d) : b1V .repr d = some (rd (.str (PyData.shown d))) := by
  obtain ⟨l, rfl, h1, h2, h3⟩ := h
  exact repr_t (k := 70) (by decide) (by decide) h1 h2 h3
end Mini
end
section
set_option autoImplicit false
set_option Elab.async false
set_option linter.all false
set_option maxRecDepth 100000
set_option maxHeartbeats 4000000
/-! MZ: sizes of numbers, fractions in lowest terms. -/
namespace Mini
open PySem L2
/-- of fewer than p binary digits -/
def Bt (p : Nat) (x : Int) : Prop := x.natAbs < 2 ^ p
theorem Bt.mono {p q : Nat} {x : Int} (h : Bt p x) (k : p ≤ q) : Bt q x := Nat.lt_of_lt_of_le h (Nat.pow_le_pow_right (by decide) k)
theorem Bt.mul {p q : Nat} {x y : Int} (h : Bt p x) (k : Bt q y) : Bt (p + q) (x * y) := by
  unfold Bt at *
  rw [Int.natAbs_mul, Nat.pow_add]
  exact Nat.mul_lt_mul'' h k
theorem Bt.add {p : Nat} {x y : Int} (h : Bt p x) (k : Bt p y) : Bt (p + 1) (x + y) := by
  unfold Bt at *
  have := Int.natAbs_add_le x y
  rw [Nat.pow_succ]
  omega
theorem Bt.le {p : Nat} {x y : Int} (h : Bt p y) (k : x.natAbs ≤ y.natAbs) : Bt p x := Nat.lt_of_le_of_lt k h
theorem Bt.neg {p : Nat} {x : Int} (h : Bt p x) : Bt p (-x) := by unfold Bt at *; rwa [Int.natAbs_neg]
theorem Bt.log {p : Nat} {x : Int} (h : Bt p x) (k : 0 < p) : x.natAbs.log2 < p := by
  by_cases h0 : x.natAbs = 0
  · rw [h0]; simpa using k
  · exact (Nat.log2_lt h0).2 h
theorem Bt.logm {p q N : Nat} {x y : Int} (h : Bt p x) (k : Bt q y) (hp : 0 < p) (hq : 0 < q) (hN : p + q ≤ N) : x.natAbs.log2 + y.natAbs.log2 < N := by
  have := h.log hp
  have := k.log hq
  omega
theorem at_1 {x y : D} {r : List D} : atD (x :: y :: r) 1 = some y := atD_nat (n := 1) rfl
theorem at_2 {x y z : D} {r : List D} : atD (x :: y :: z :: r) 2 = some z := atD_nat (n := 2) rfl
theorem at_3 {x y z u : D} {r : List D} : atD (x :: y :: z :: u :: r) 3 = some u := atD_nat (n := 3) rfl
theorem at_4 {x y z u v : D} {r : List D} : atD (x :: y :: z :: u :: v :: r) 4 = some v := atD_nat (n := 4) rfl
theorem div_pos {i j : Int} (h : 0 < j) (h2 : Bt 9000 j) : binV .FloorDiv (.int i) (.int j) = some (rd (.int (i / j))) := div_ii h (h2.log (by decide))
theorem mod_pos {i j : Int} (h : 0 < j) : binV .Mod (.int i) (.int j) = some (rd (.int (i % j))) := by
  rw [mod_ii, if_pos (by omega), Int.fmod_eq_emod_of_nonneg _ (by omega)]
theorem mul_bt {p q : Nat} {i j : Int} (h : Bt p i) (k : Bt q j) (hp : 0 < p) (hq : 0 < q) (hN : p + q ≤ 1000000) : binV .Mult (.int i) (.int j) = some (rd (.int (i * j))) := by
  rw [mul_ii, if_pos (h.logm k hp hq hN)]
theorem boolsOf_map {α : Type} (f : α → Bool) : ∀ (l : List α), boolsOf (l.map fun x => .bool (f x)) = some (l.map f)
  | [] => rfl
  | x :: l => by rw [List.map_cons, boolsOf, boolsOf_map f l]; rfl
theorem intsOf_map : ∀ (l : List Int), intsOf (l.map .int) = some l
  | [] => rfl
  | x :: l => by rw [List.map_cons, intsOf, intsOf_map l]; rfl
theorem all_map {α : Type} {l : List α} (f : α → Bool) : b1V .all (.list (l.map fun x => .bool (f x))) = some (rd (.bool (l.all f))) := by
  rw [all_l, boolsOf_map]
  simp [List.all_map]
theorem all_tt {α : Type} {l : List α} : b1V .all (.list (l.map fun _ => .bool true)) = some (rd (.bool true)) := by
  rw [all_map (fun _ => true), List.all_eq_true.mpr fun _ _ => rfl]
theorem all_ff {α : Type} {l : List α} (h : l ≠ []) : b1V .all (.list (l.map fun _ => .bool false)) = some (rd (.bool false)) := by
  rw [all_map (fun _ => false)]
  cases l with
  | nil => exact absurd rfl h
  | cons x r => rfl
theorem at_map {α : Type} {f : α → D} {l : List α} {i : Nat} {x : α} (h : l[i]? = some x) : atD (l.map f) (i : Int) = some (f x) := atD_nat (by rw [List.getElem?_map, h]; rfl)
theorem at_map0 {α : Type} {f : α → D} {l : List α} {x : α} (h : l[0]? = some x) : atD (l.map f) 0 = some (f x) := at_map (i := 0) h
theorem shp_pp {a b : Int} : SeqAt.shaped (.tuple [.int a, .int b]) = true := by
  unfold SeqAt.shaped
  simp [PyData.canLay0, PyData.canLayAll0, PyData.depth, PyData.depthAll]
theorem eq_pp {a b c d : Int} : cmpV .Eq (.tuple [.int a, .int b]) (.tuple [.int c, .int d]) = some (decide (a = c) && decide (b = d)) := by
  rw [eqD_of shp_pp shp_pp]
  simp only [PyData.eqv, PyData.eqvAll, Bool.and_true]
  rfl
theorem eq_nil : cmpV .Eq (.list []) (.list []) = some true := by
  rw [eqD_of (by decide) (by decide)]
  rfl
/-! Euclid's steps -/
def cnt : Nat → Nat → Nat
  | _, 0 => 0
  | l, r + 1 => cnt (r + 1) (l % (r + 1)) + 1
termination_by _ r => r
decreasing_by exact Nat.mod_lt _ (Nat.succ_pos r)
theorem cnt_z {l : Nat} : cnt l 0 = 0 := by rw [cnt]
theorem cnt_s {l r : Nat} (h : r ≠ 0) : cnt l r = cnt r (l % r) + 1 := by
  obtain ⟨k, rfl⟩ := Nat.exists_eq_succ_of_ne_zero h
  rw [cnt]
theorem cnt_le : ∀ (k l r : Nat), r < 2 ^ k → cnt l r ≤ 2 * k
  | 0, l, r, h => by
    have : r = 0 := by simpa using h
    rw [this, cnt_z]; omega
  | k + 1, l, r, h => by
    by_cases h0 : r = 0
    · rw [h0, cnt_z]; omega
    · rw [cnt_s h0]
      by_cases h1 : l % r = 0
      · rw [h1, cnt_z]; omega
      · rw [cnt_s h1]
        have a1 : l % r < r := Nat.mod_lt _ (by omega)
        have a2 : r % (l % r) < l % r := Nat.mod_lt _ (by omega)
        have a3 : r % (l % r) ≤ r - l % r := by
          have e := Nat.mod_eq_sub_mod (show r ≥ l % r by omega)
          rw [e]
          exact Nat.mod_le _ _
        have := cnt_le k (l % r) (r % (l % r)) (by rw [Nat.pow_succ] at h; omega)
        omega
/-! fractions in lowest terms -/
def nm (a b : Int) : Int := a / (Int.gcd a b : Int)
def fr (a b : Int) : D := .tuple [.int (nm a b), .int (nm b a)]
theorem gcd_pos {a b : Int} (h : 0 < b) : (0 : Int) < (Int.gcd a b : Int) := by
  have := Int.gcd_pos_of_ne_zero_right a (show b ≠ 0 by omega)
  omega
theorem nm_mul {a b : Int} : nm a b * (Int.gcd a b : Int) = a := Int.ediv_mul_cancel (Int.gcd_dvd_left a b)
theorem dn_mul {a b : Int} : nm b a * (Int.gcd a b : Int) = b := by
  unfold nm
  rw [Int.gcd_comm b a]
  exact Int.ediv_mul_cancel (Int.gcd_dvd_right a b)
theorem dn_pos {a b : Int} (h : 0 < b) : 0 < nm b a := by
  have e := dn_mul (a := a) (b := b)
  have g := gcd_pos (a := a) h
  rcases Int.lt_trichotomy (nm b a) 0 with z | z | z
  · have := Int.mul_neg_of_neg_of_pos z g
    omega
  · rw [z, Int.zero_mul] at e; omega
  · exact z
theorem nm_scale {a b m : Int} (h : 0 < m) : nm (a * m) (b * m) = nm a b := by
  unfold nm
  rw [Int.gcd_mul_right, Int.natCast_mul]
  have : (m.natAbs : Int) = m := by omega
  rw [this]
  exact Int.mul_ediv_mul_of_pos_left _ _ h
theorem fr_scale {a b m : Int} (h : 0 < m) : fr (a * m) (b * m) = fr a b := by
  unfold fr
  rw [nm_scale h, nm_scale h]
theorem nm_abs {a b : Int} (h : 0 < b) : (nm a b).natAbs ≤ a.natAbs := by
  have e := congrArg Int.natAbs (nm_mul (a := a) (b := b))
  rw [Int.natAbs_mul] at e
  have g := gcd_pos (a := a) h
  have : 1 ≤ (Int.gcd a b : Int).natAbs := by omega
  calc (nm a b).natAbs ≤ (nm a b).natAbs * (Int.gcd a b : Int).natAbs := Nat.le_mul_of_pos_right _ this
    _ = a.natAbs := e
theorem dn_abs {a b : Int} (h : 0 < b) : (nm b a).natAbs ≤ b.natAbs := by
  have e := congrArg Int.natAbs (dn_mul (a := a) (b := b))
  rw [Int.natAbs_mul] at e
  have g := gcd_pos (a := a) h
  have : 1 ≤ (Int.gcd a b : Int).natAbs := by omega
  calc (nm b a).natAbs ≤ (nm b a).natAbs * (Int.gcd a b : Int).natAbs := Nat.le_mul_of_pos_right _ this
    _ = b.natAbs := e
theorem Bt.nm {p : Nat} {a b : Int} (h : Bt p a) (k : 0 < b) : Bt p (nm a b) := h.le (nm_abs k)
theorem Bt.dn {p : Nat} {a b : Int} (h : Bt p b) (k : 0 < b) : Bt p (Mini.nm b a) := h.le (dn_abs k)
/-- same ratio, same words -/
theorem fr_eq {a b c d : Int} (hb : 0 < b) (hd : 0 < d) (e : a * d = c * b) : fr a b = fr c d := by
  rw [← fr_scale (a := a) (b := b) hd, ← fr_scale (a := c) (b := d) hb, e, Int.mul_comm b d]
theorem fr_nm {a b : Int} (hb : 0 < b) : fr (nm a b) (nm b a) = fr a b := by
  have g := gcd_pos (a := a) hb
  have := fr_scale (a := nm a b) (b := nm b a) g
  rw [nm_mul, dn_mul] at this
  exact this.symm
theorem nm_coprime {a b : Int} (hb : 0 < b) : Int.gcd (nm a b) (nm b a) = 1 := by
  have g := gcd_pos (a := a) hb
  have e : Int.gcd (nm a b * (Int.gcd a b : Int)) (nm b a * (Int.gcd a b : Int)) = Int.gcd a b := by rw [nm_mul, dn_mul]
  rw [Int.gcd_mul_right] at e
  have h1 : ((Int.gcd a b : Int)).natAbs = Int.gcd a b := by omega
  rw [h1] at e
  have : 0 < Int.gcd a b := by omega
  exact Nat.eq_of_mul_eq_mul_right this (by rw [e, Nat.one_mul])
/-- order of fractions -/
theorem fr_lt {a b c d : Int} (hb : 0 < b) (hd : 0 < d) : (nm a b * nm d c < nm c d * nm b a) ↔ a * d < c * b := by
  have g1 := gcd_pos (a := a) hb
  have g2 := gcd_pos (a := c) hd
  have e1 : a * d = (nm a b * nm d c) * ((Int.gcd a b : Int) * (Int.gcd c d : Int)) := by
    conv => lhs; rw [← nm_mul (a := a) (b := b), ← dn_mul (a := c) (b := d)]
    ac_rfl
  have e2 : c * b = (nm c d * nm b a) * ((Int.gcd a b : Int) * (Int.gcd c d : Int)) := by
    conv => lhs; rw [← nm_mul (a := c) (b := d), ← dn_mul (a := a) (b := b)]
    ac_rfl
  rw [e1, e2]
  exact ⟨fun h => Int.mul_lt_mul_of_pos_right h (Int.mul_pos g1 g2), fun h => Int.lt_of_mul_lt_mul_right h (Int.le_of_lt (Int.mul_pos g1 g2))⟩
theorem fr_add {a b c d : Int} (hb : 0 < b) (hd : 0 < d) : fr (nm a b * nm d c + nm c d * nm b a) (nm b a * nm d c) = fr (a * d + c * b) (b * d) := by
  have g1 := gcd_pos (a := a) hb
  have g2 := gcd_pos (a := c) hd
  have e1 : a * d = (nm a b * nm d c) * ((Int.gcd a b : Int) * (Int.gcd c d : Int)) := by
    conv => lhs; rw [← nm_mul (a := a) (b := b), ← dn_mul (a := c) (b := d)]
    ac_rfl
  have e2 : c * b = (nm c d * nm b a) * ((Int.gcd a b : Int) * (Int.gcd c d : Int)) := by
    conv => lhs; rw [← nm_mul (a := c) (b := d), ← dn_mul (a := a) (b := b)]
    ac_rfl
  have e3 : b * d = (nm b a * nm d c) * ((Int.gcd a b : Int) * (Int.gcd c d : Int)) := by
    conv => lhs; rw [← dn_mul (a := a) (b := b), ← dn_mul (a := c) (b := d)]
    ac_rfl
  rw [e1, e2, e3, ← Int.add_mul, fr_scale (Int.mul_pos g1 g2)]
theorem fr_mul {a b c d : Int} (hb : 0 < b) (hd : 0 < d) : fr (nm a b * nm c d) (nm b a * nm d c) = fr (a * c) (b * d) := by
  have g1 := gcd_pos (a := a) hb
  have g2 := gcd_pos (a := c) hd
  have e1 : a * c = (nm a b * nm c d) * ((Int.gcd a b : Int) * (Int.gcd c d : Int)) := by
    conv => lhs; rw [← nm_mul (a := a) (b := b), ← nm_mul (a := c) (b := d)]
    ac_rfl
  have e3 : b * d = (nm b a * nm d c) * ((Int.gcd a b : Int) * (Int.gcd c d : Int)) := by
    conv => lhs; rw [← dn_mul (a := a) (b := b), ← dn_mul (a := c) (b := d)]
    ac_rfl
  rw [e1, e3, fr_scale (Int.mul_pos g1 g2)]
theorem fr_one {a : Int} : fr a 1 = .tuple [.int a, .int 1] := by
  unfold fr nm
  rw [Int.gcd_one_right, Int.gcd_one_left]
  simp
theorem fr_self {a : Int} (h : 0 < a) : fr a a = .tuple [.int 1, .int 1] := by
  have := fr_scale (a := 1) (b := 1) h
  rw [Int.one_mul] at this
  rw [this, fr_one]
theorem fr_zero {a : Int} (h : 0 < a) : fr 0 a = .tuple [.int 0, .int 1] := by
  have := fr_scale (a := 0) (b := 1) h
  rw [Int.one_mul, Int.zero_mul] at this
  rw [this, fr_one]
end Mini
end
section
set_option autoImplicit false
set_option Elab.async false
set_option linter.all false
set_option maxRecDepth 100000
set_option maxHeartbeats 4000000
/-! MU: boxes that keep, the dice. -/
namespace Mini
open PySem L2
/-- only the box j has changed -/
def Fm (j : Nat) (μ μ' : Store) : Prop := μ'.length = μ.length ∧ ∀ i, i ≠ j → μ'[i]? = μ[i]?
theorem Fm.refl {j : Nat} {μ : Store} : Fm j μ μ := ⟨rfl, fun _ _ => rfl⟩
theorem Fm.trans {j : Nat} {μ μ' μ'' : Store} (h : Fm j μ μ') (k : Fm j μ' μ'') : Fm j μ μ'' := ⟨k.1.trans h.1, fun i hi => (k.2 i hi).trans (h.2 i hi)⟩
theorem Fm.set {j : Nat} {μ : Store} {x : Option SO} : Fm j μ (μ.set j x) := ⟨List.length_set, fun i hi => List.getElem?_set_ne (fun e => hi e.symm)⟩
theorem Fm.lst {i j : Nat} {μ μ' : Store} (h : Fm j μ μ') (hi : i ≠ j) : lstAt μ' i = lstAt μ i := by unfold lstAt; rw [h.2 i hi]
theorem Fm.peek {i j : Nat} {μ μ' : Store} (h : Fm j μ μ') (hi : i ≠ j) : peek μ' (.bx i) = peek μ (.bx i) := by unfold Mini.peek; dsimp only; rw [h.2 i hi]
theorem lst_lt {μ : Store} {j : Nat} {ds : List D} (h : lstAt μ j = some ds) : j < μ.length := by
  unfold lstAt at h
  split at h
  · rename_i e; exact (List.getElem?_eq_some_iff.mp e).1
  · cases h
theorem lst_peek {μ : Store} {j : Nat} {ds : List D} (h : lstAt μ j = some ds) : peek μ (.bx j) = some (.list ds) := by
  unfold lstAt at h
  unfold peek
  dsimp only
  split at h
  · rename_i e; rw [e]; cases h; rfl
  · cases h
theorem lst_set {μ : Store} {j : Nat} {ds : List D} (h : j < μ.length) : lstAt (μ.set j (some (.fo (.lst ds)))) j = some ds := by
  unfold lstAt
  rw [List.getElem?_set_self h]
theorem take_set {μ : Store} {j : Nat} {x : Option SO} : (μ.set j x).take μ.length = μ.set j x := List.take_of_length_le (by rw [List.length_set]; exact Nat.le_refl _)
theorem All2.length {α β : Type} {P : α → β → Prop} {xs : List α} {ys : List β} (h : All2 P xs ys) : ys.length = xs.length := by
  induction h with
  | nil => rfl
  | cons _ _ ih => simp [ih]
theorem All2.map {α β : Type} {Pr : β → Prop} {f : β → D} {xs : List α} {ys : List D} (h : All2 (fun _ y => ∃ v, y = f v ∧ Pr v) xs ys) : ∃ vs : List β, ys = vs.map f ∧ (∀ v ∈ vs, Pr v) ∧ vs.length = xs.length := by
  induction h with
  | nil => exact ⟨[], rfl, fun _ h => (nomatch h), rfl⟩
  | cons h _ ih =>
    obtain ⟨v, rfl, hv⟩ := h
    obtain ⟨vs, rfl, h2, h3⟩ := ih
    refine ⟨v :: vs, rfl, fun x hx => ?_, by simp [h3]⟩
    cases hx with
    | head => exact hv
    | tail _ hx => exact h2 x hx
/-- the dice stand in the box j, with k rolls left to them -/
def Dice (k j : Nat) (μ : Store) : Prop := ∃ a b c : Int, lstAt μ j = some [.int a, .int b, .int c] ∧ 0 ≤ a ∧ 0 ≤ c ∧ c + k ≤ 2 ^ 100
theorem Dice.mono {k k' j : Nat} {μ : Store} (h : Dice k j μ) (hk : k' ≤ k) : Dice k' j μ := by
  obtain ⟨a, b, c, h1, h2, h3, h4⟩ := h
  exact ⟨a, b, c, h1, h2, h3, by omega⟩
theorem Dice.keep {k j i : Nat} {μ μ' : Store} (h : Dice k j μ) (f : Fm i μ μ') (hi : j ≠ i) : Dice k j μ' := by
  obtain ⟨a, b, c, h1, h2⟩ := h
  exact ⟨a, b, c, by rw [f.lst hi]; exact h1, h2⟩
theorem Dice.app {k j : Nat} {μ : Store} {x : Option SO} (h : Dice k j μ) : Dice k j (μ ++ [x]) := by
  obtain ⟨a, b, c, h1, h2⟩ := h
  have hl := lst_lt h1
  refine ⟨a, b, c, ?_, h2⟩
  unfold lstAt at *
  rw [List.getElem?_append_left hl]
  exact h1
theorem Dice.lt {k j : Nat} {μ : Store} (h : Dice k j μ) : j < μ.length := by
  obtain ⟨a, b, c, h1, h2⟩ := h
  exact lst_lt h1
theorem Dice.take {k j N : Nat} {μ : Store} (h : Dice k j μ) (hN : j < N) : Dice k j (μ.take N) := by
  obtain ⟨a, b, c, h1, h2⟩ := h
  refine ⟨a, b, c, ?_, h2⟩
  unfold lstAt at *
  rw [List.getElem?_take_of_lt hN]
  exact h1
/-- a function that rolls at most m times -/
def Rolls (m j : Nat) (k : Nat) (μ : Store) (μ' : Store) : Prop := Dice (k - m) j μ' ∧ Fm j μ μ'
theorem Rolls.refl {j k : Nat} {μ : Store} (h : Dice k j μ) : Rolls 0 j k μ μ := ⟨h, Fm.refl⟩
theorem Rolls.trans {a b c j k : Nat} {μ μ1 μ2 : Store} (h : Rolls a j k μ μ1) (h2 : Rolls b j (k - a) μ1 μ2) (hc : a + b = c) : Rolls c j k μ μ2 :=
  ⟨by rw [← hc, ← Nat.sub_sub]; exact h2.1, h.2.trans h2.2⟩
theorem Rolls.up {a b j k : Nat} {μ μ1 : Store} (h : Rolls a j k μ μ1) (hb : a ≤ b) : Rolls b j k μ μ1 := ⟨h.1.mono (by omega), h.2⟩
theorem Rolls.dice {a j k : Nat} {μ μ1 : Store} (h : Rolls a j k μ μ1) : Dice (k - a) j μ1 := h.1
theorem Rolls.split {m j k : Nat} {σ μ' : Store} {x : Option SO} (h : Rolls m j k (σ ++ [x]) μ') (hj : j < σ.length) : ∃ σ', μ' = σ' ++ [x] ∧ Rolls m j k σ σ' := by
  obtain ⟨hd, hl, hf⟩ := h
  rw [List.length_append, List.length_singleton] at hl
  refine ⟨μ'.take σ.length, ?_, hd.take hj, ?_, fun i hi => ?_⟩
  · apply List.ext_getElem?
    intro i
    by_cases h1 : i < σ.length
    · rw [List.getElem?_append_left (by rw [List.length_take]; omega), List.getElem?_take_of_lt h1]
    · by_cases h2 : i = σ.length
      · subst h2
        rw [hf _ (by omega), List.getElem?_append_right (Nat.le_refl _), List.getElem?_append_right (by rw [List.length_take]; omega), List.length_take]
        congr 1
        omega
      · rw [List.getElem?_eq_none (by omega), List.getElem?_eq_none (by rw [List.length_append, List.length_take]; simp; omega)]
  · rw [List.length_take]; omega
  · by_cases h1 : i < σ.length
    · rw [List.getElem?_take_of_lt h1, hf i hi, List.getElem?_append_left h1]
    · rw [List.getElem?_eq_none (by rw [List.length_take]; omega), List.getElem?_eq_none (by omega)]
section
variable {μ : Store} {ds : List D} {x y : Option SO} {X : Nat}
theorem lstAt_at (h : μ.length = X) : lstAt (μ ++ [some (.fo (.lst ds))]) X = some ds := by subst h; exact lstAt_last
theorem set_at (h : μ.length = X) : (μ ++ [x]).set X y = μ ++ [y] := by subst h; exact set_last
theorem peek_at (h : μ.length = X) : peek (μ ++ [some (.fo (.lst ds))]) (.bx X) = some (.list ds) := by subst h; exact peek_last
theorem foAt_at {o : FO} (h : μ.length = X) : foAt (μ ++ [some (.fo o)]) X = some o := by subst h; exact foAt_last
theorem take_at (h : μ.length = X) : (μ ++ [x]).take X = μ := by subst h; exact take_last
end
theorem zip_snoc {α β : Type} {ps : List α} {p : α} {r : β} : ∀ {Rs : List β}, ps[Rs.length]? = some p → ps.zip (Rs ++ [r]) = ps.zip Rs ++ [(p, r)]
  | [], h => by
    cases ps with
    | nil => simp at h
    | cons a l => simp at h; subst h; simp
  | b :: Rs, h => by
    cases ps with
    | nil => simp at h
    | cons a l =>
      have := zip_snoc (ps := l) (p := p) (r := r) (Rs := Rs) (by simpa using h)
      simp [this]
theorem zip_fst {α β : Type} : ∀ {ps : List α} {Rs : List β}, Rs.length = ps.length → (ps.zip Rs).map (·.1) = ps
  | [], [], _ => rfl
  | a :: l, b :: m, h => by simp at h; simp [zip_fst h]
  | [], _ :: _, h => by simp at h
  | _ :: _, [], h => by simp at h
theorem rng_get {r i : Nat} {x : D} (h : (rangeD 0 (r : Int))[i]? = some x) : i < r ∧ x = .int (i : Int) := by
  unfold rangeD at h
  rw [List.getElem?_map] at h
  obtain ⟨j, h1, rfl⟩ := Option.map_eq_some_iff.mp h
  have hl := (List.getElem?_eq_some_iff.mp h1).1
  rw [List.length_range] at hl
  rw [List.getElem?_range hl] at h1
  cases h1
  refine ⟨by omega, by simp⟩
theorem rng_len {r : Nat} : (rangeD 0 (r : Int)).length = r := by
  unfold rangeD; simp
theorem rng_leni {r : Int} (h : 0 ≤ r) : (rangeD 0 r).length = r.toNat := by
  unfold rangeD; simp
end Mini
end
section
set_option Elab.async false
namespace K85
open Mini PySem
def b_is_whole : Ss := (.cons (.ret (.and (.isi (.var 0) .int) (.not (.isi (.var 0) .bool)))) .nil)
def b_is_near : Ss := (.cons (.ret (.and (.call 0 (.cons (.var 0) .nil)) (.chain .Lt .Lt (.neg (.glb 0)) (.var 0) (.glb 0)))) .nil)
def b_is_within : Ss := (.cons (.ret (.and (.call 0 (.cons (.var 0) .nil)) (.chain .LtE .LtE (.var 1) (.var 0) (.var 2)))) .nil)
def b_is_pair : Ss := (.cons (.ret (.and (.isi (.var 0) .tuple) (.cmp .Eq (.b1 .len (.var 0)) (.glb 1)))) .nil)
def b_common_divisor : Ss := (.cons (.par 2 3 false false (.b1 .abs (.var 0)) (.b1 .abs (.var 1))) (.cons (.while_ (.var 3) (.cons (.par 2 3 false false (.var 3) (.bin .Mod (.var 2) (.var 3))) .nil)) (.cons (.ret (.var 2)) .nil)))
def b_fraction : Ss := (.cons (.asg (.nm 2) (.bin .Mult (.call 4 (.cons (.var 0) (.cons (.var 1) .nil))) (.ife (.cmp .Gt (.var 1) (.cst (.int 0))) (.cst (.int 1)) (.neg (.cst (.int 1)))))) (.cons (.ret (.tup (.cons (.bin .FloorDiv (.var 0) (.var 2)) (.cons (.bin .FloorDiv (.var 1) (.var 2)) .nil)))) .nil))
def b_plus : Ss := (.cons (.ret (.call 5 (.cons (.bin .Add (.bin .Mult (.ix (.var 0) (.cst (.int 0))) (.ix (.var 1) (.cst (.int 1)))) (.bin .Mult (.ix (.var 1) (.cst (.int 0))) (.ix (.var 0) (.cst (.int 1))))) (.cons (.bin .Mult (.ix (.var 0) (.cst (.int 1))) (.ix (.var 1) (.cst (.int 1)))) .nil)))) .nil)
def b_times : Ss := (.cons (.ret (.call 5 (.cons (.bin .Mult (.ix (.var 0) (.cst (.int 0))) (.ix (.var 1) (.cst (.int 0)))) (.cons (.bin .Mult (.ix (.var 0) (.cst (.int 1))) (.ix (.var 1) (.cst (.int 1)))) .nil)))) .nil)
def b_is_less : Ss := (.cons (.ret (.cmp .Lt (.bin .Mult (.ix (.var 0) (.cst (.int 0))) (.ix (.var 1) (.cst (.int 1)))) (.bin .Mult (.ix (.var 1) (.cst (.int 0))) (.ix (.var 0) (.cst (.int 1)))))) .nil)
def b_is_fraction : Ss := (.cons (.ife (.or (.not (.call 3 (.cons (.var 0) .nil))) (.or (.not (.call 0 (.cons (.ix (.var 0) (.cst (.int 0))) .nil))) (.or (.not (.call 0 (.cons (.ix (.var 0) (.cst (.int 1))) .nil))) (.cmp .Lt (.ix (.var 0) (.cst (.int 1))) (.cst (.int 1)))))) (.cons (.ret (.cst (.bool false))) .nil) .nil) (.cons (.ret (.cmp .Eq (.call 4 (.cons (.ix (.var 0) (.cst (.int 0))) (.cons (.ix (.var 0) (.cst (.int 1))) .nil))) (.cst (.int 1)))) .nil))
def b_is_near_fraction : Ss := (.cons (.ret (.and (.call 9 (.cons (.var 0) .nil)) (.and (.call 1 (.cons (.ix (.var 0) (.cst (.int 0))) .nil)) (.call 1 (.cons (.ix (.var 0) (.cst (.int 1))) .nil))))) .nil)
def b_added : Ss := (.cons (.asg (.nm 1) (.tup (.cons (.cst (.int 0)) (.cons (.cst (.int 1)) .nil)))) (.cons (.for_ (.nm 2) (.sq (.var 0)) (.cons (.asg (.nm 1) (.call 6 (.cons (.var 1) (.cons (.var 2) .nil)))) .nil)) (.cons (.ret (.var 1)) .nil)))
def b_is_form_in : Ss := (.cons (.ife (.or (.not (.isi (.var 0) .tuple)) (.not (.chain .LtE .LtE (.cst (.int 1)) (.b1 .len (.var 0)) (.glb 2)))) (.cons (.ret (.cst (.bool false))) .nil) .nil) (.cons (.ife (.not (.b1 .all (.lc [1] (.nm 1) (.sq (.var 0)) .no (.isi (.var 1) .tuple)))) (.cons (.ret (.cst (.bool false))) .nil) .nil) (.cons (.ret (.and (.chain .LtE .LtE (.cst (.int 1)) (.b1 .len (.ix (.var 0) (.cst (.int 0)))) (.glb 2)) (.b1 .all (.lc [1] (.nm 1) (.sq (.var 0)) .no (.cmp .Eq (.b1 .len (.var 1)) (.b1 .len (.ix (.var 0) (.cst (.int 0))))))))) .nil)))
def b_is_seats_in : Ss := (.cons (.ife (.or (.not (.isi (.var 0) .tuple)) (.not (.chain .LtE .LtE (.cst (.int 1)) (.b1 .len (.var 0)) (.glb 3)))) (.cons (.ret (.cst (.bool false))) .nil) .nil) (.cons (.ret (.and (.b1 .all (.lc [1] (.nm 1) (.sq (.var 0)) .no (.call 2 (.cons (.var 1) (.cons (.cst (.int 0)) (.cons (.glb 4) .nil)))))) (.cmp .LtE (.b1 .sum (.var 0)) (.glb 4)))) .nil))
def b_is_seats_member : Ss := (.cons (.ret (.call 13 (.cons (.var 0) .nil))) .nil)
def b_is_table_member : Ss := (.cons (.ret (.and (.call 12 (.cons (.var 0) .nil)) (.b1 .all (.lc [1] (.nm 1) (.sq (.var 0)) .no (.b1 .all (.lc [2] (.nm 2) (.sq (.var 1)) .no (.call 2 (.cons (.var 2) (.cons (.cst (.int 0)) (.cons (.glb 6) .nil)))))))))) .nil)
def b_form_of : Ss := (.cons (.ife (.call 14 (.cons (.var 0) .nil)) (.cons (.ret (.tup (.cons (.b1 .len (.var 0)) .nil))) .nil) .nil) (.cons (.ret (.ife (.call 15 (.cons (.var 0) .nil)) (.tup (.cons (.b1 .len (.var 0)) (.cons (.b1 .len (.ix (.var 0) (.cst (.int 0)))) .nil))) (.cst .none))) .nil))
def b_is_lot_of : Ss := (.cons (.ife (.or (.not (.isi (.var 0) .tuple)) (.or (.not (.chain .LtE .LtE (.cst (.int 1)) (.b1 .len (.var 0)) (.glb 5))) (.not (.b1 .all (.lc [4] (.nm 4) (.sq (.var 0)) .no (.call 3 (.cons (.var 4) .nil))))))) (.cons (.ret (.cst (.bool false))) .nil) .nil) (.cons (.ife (.not (.b1 .all (.lc [2, 3] (.tp [2, 3]) (.sq (.var 0)) .no (.and (.call 9 (.cons (.var 2) .nil)) (.cmp .Gt (.ix (.var 2) (.cst (.int 0))) (.cst (.int 0))))))) (.cons (.ret (.cst (.bool false))) .nil) .nil) (.cons (.asg (.nm 1) (.lc [2, 3] (.tp [2, 3]) (.sq (.var 0)) .no (.call 16 (.cons (.var 3) .nil)))) (.cons (.ife (.or (.cmp .In (.cst .none) (.var 1)) (.not (.b1 .all (.lc [5] (.nm 5) (.sq (.var 1)) .no (.cmp .Eq (.var 5) (.ix (.var 1) (.cst (.int 0)))))))) (.cons (.ret (.cst (.bool false))) .nil) .nil) (.cons (.ret (.cmp .Eq (.call 11 (.cons (.lc [2, 3] (.tp [2, 3]) (.sq (.var 0)) .no (.var 2)) .nil)) (.glb 8))) .nil)))))
def b_mixed_in : Ss := (.cons (.asg (.nm 1) (.bin .Mult (.lst (.cons (.glb 7) .nil)) (.b1 .len (.ix (.ix (.var 0) (.cst (.int 0))) (.cst (.int 1)))))) (.cons (.for_ (.tp [2, 3]) (.sq (.var 0)) (.cons (.asg (.nm 1) (.lc [4, 5] (.tp [4, 5]) (.zip (.var 1) (.var 3)) .no (.call 6 (.cons (.var 4) (.cons (.call 7 (.cons (.var 2) (.cons (.tup (.cons (.var 5) (.cons (.cst (.int 1)) .nil))) .nil))) .nil))))) .nil)) (.cons (.ret (.var 1)) .nil)))
def b_made_in : Ss := (.cons (.ife (.call 14 (.cons (.ix (.ix (.var 0) (.cst (.int 0))) (.cst (.int 1))) .nil)) (.cons (.ret (.b1 .tuple (.call 18 (.cons (.var 0) .nil)))) .nil) .nil) (.cons (.bxa 1 (.lst .nil)) (.cons (.for_ (.nm 2) (.r1 (.b1 .len (.ix (.ix (.var 0) (.cst (.int 0))) (.cst (.int 1))))) (.cons (.app 1 (.b1 .tuple (.call 18 (.cons (.lc [3, 4] (.tp [3, 4]) (.sq (.var 0)) .no (.tup (.cons (.var 3) (.cons (.ix (.var 4) (.var 2)) .nil)))) .nil)))) .nil)) (.cons (.ret (.b1 .tuple (.var 1))) .nil))))
def b_drawn_in : Ss := (.cons (.asg (.nm 2) (.glb 7)) (.cons (.for_ (.tp [3, 4]) (.sq (.var 0)) (.cons (.asg (.nm 2) (.call 6 (.cons (.var 2) (.cons (.var 3) .nil)))) (.cons (.ife (.call 8 (.cons (.var 1) (.cons (.var 2) .nil))) (.cons (.ret (.var 4)) .nil) .nil) .nil))) (.cons (.ret (.ix (.ix (.var 0) (.neg (.cst (.int 1)))) (.cst (.int 1)))) .nil)))
def b_require_drawing : Ss := (.cons (.ife (.or (.not (.call 10 (.cons (.var 0) .nil))) (.not (.chain .LtE .Lt (.cst (.int 0)) (.ix (.var 0) (.cst (.int 0))) (.ix (.var 0) (.cst (.int 1)))))) (.cons .raise .nil) .nil) .nil)
def b_require_lot_of : Ss := (.cons (.ife (.not (.call 17 (.cons (.var 0) .nil))) (.cons .raise .nil) .nil) .nil)
def b_drawn : Ss := (.cons (.expr (.call 22 (.cons (.var 0) .nil))) (.cons (.expr (.call 21 (.cons (.var 1) .nil))) (.cons (.ret (.call 20 (.cons (.var 0) (.cons (.var 1) .nil)))) .nil)))
def b_made_by : Ss := (.cons (.expr (.call 22 (.cons (.var 0) .nil))) (.cons (.ret (.call 19 (.cons (.var 0) .nil))) .nil))
def b_law_dice : Ss := (.cons (.asg (.nm 2) (.ife (.cmp .Lt (.var 1) (.b1 .len (.var 0))) (.b1 .int (.ix (.var 0) (.var 1))) (.bin .Add (.bin .Mult (.cst (.int 97)) (.var 1)) (.cst (.int 43))))) (.cons (.asg (.nm 3) (.bin .Mod (.b2 .max (.cst (.int 0)) (.bin .Sub (.b1 .abs (.var 2)) (.bin .Pow (.cst (.int 10)) (.cst (.int 17))))) (.bin .Mult (.bin .Pow (.cst (.int 10)) (.cst (.int 60))) (.bin .Pow (.cst (.int 10)) (.cst (.int 60)))))) (.cons (.ret (.lst (.cons (.var 3) (.cons (.bin .Add (.bin .Add (.bin .Add (.bin .Mult (.bin .Mod (.b1 .abs (.var 2)) (.cst (.int 1152921504606846737))) (.cst (.int 37))) (.bin .Mult (.cst (.int 859)) (.var 1))) (.bin .Mult (.cst (.int 31)) (.b1 .int (.cmp .Lt (.var 2) (.cst (.int 0)))))) (.cst (.int 17))) (.cons (.cst (.int 0)) .nil))))) .nil)))
def b_law_roll : Ss := (.cons (.ife (.cmp .Gt (.ix (.var 0) (.cst (.int 0))) (.cst (.int 0))) (.cons (.asg (.nm 4) (.bin .Mod (.b1 .int (.ix (.var 0) (.cst (.int 0)))) (.var 1))) (.cons (.set 0 (.cst (.int 0)) (.bin .FloorDiv (.ix (.var 0) (.cst (.int 0))) (.var 1))) (.cons (.ret (.var 4)) .nil))) .nil) (.cons (.set 0 (.cst (.int 2)) (.bin .Add (.ix (.var 0) (.cst (.int 2))) (.cst (.int 1)))) (.cons (.asg (.nm 2) (.bin .Mod (.b1 .int (.bin .Add (.ix (.var 0) (.cst (.int 1))) (.bin .Mult (.cst (.int 15486209)) (.ix (.var 0) (.cst (.int 2)))))) (.cst (.int 2305843009213693951)))) (.cons (.asg (.nm 3) (.bin .Add (.bin .Mult (.bin .Mod (.b1 .int (.bin .Add (.bin .Mult (.var 2) (.var 2)) (.bin .Mult (.cst (.int 199)) (.ix (.var 0) (.cst (.int 2)))))) (.cst (.int 2305843009213693907))) (.cst (.int 7368751))) (.var 2))) (.cons (.ret (.bin .Mod (.b1 .int (.bin .FloorDiv (.var 3) (.cst (.int 65536)))) (.var 1))) .nil)))))
def b_law_divisor : Ss := (.cons (.par 0 1 false false (.b1 .abs (.var 0)) (.b1 .abs (.var 1))) (.cons (.while_ (.cmp .Gt (.var 1) (.cst (.int 0))) (.cons (.par 0 1 false false (.var 1) (.bin .Mod (.b1 .int (.var 0)) (.var 1))) .nil)) (.cons (.ret (.var 0)) .nil)))
def b_law_fraction : Ss := (.cons (.asg (.nm 2) (.bin .Mult (.call 27 (.cons (.var 0) (.cons (.var 1) .nil))) (.ife (.cmp .Gt (.var 1) (.cst (.int 0))) (.cst (.int 1)) (.neg (.cst (.int 1)))))) (.cons (.ret (.tup (.cons (.bin .FloorDiv (.var 0) (.var 2)) (.cons (.bin .FloorDiv (.var 1) (.var 2)) .nil)))) .nil))
def b_law_fr_plus : Ss := (.cons (.ret (.call 28 (.cons (.bin .Add (.bin .Mult (.ix (.var 0) (.cst (.int 0))) (.ix (.var 1) (.cst (.int 1)))) (.bin .Mult (.ix (.var 1) (.cst (.int 0))) (.ix (.var 0) (.cst (.int 1))))) (.cons (.bin .Mult (.ix (.var 0) (.cst (.int 1))) (.ix (.var 1) (.cst (.int 1)))) .nil)))) .nil)
def b_law_fr_times : Ss := (.cons (.ret (.call 28 (.cons (.bin .Mult (.ix (.var 0) (.cst (.int 0))) (.ix (.var 1) (.cst (.int 0)))) (.cons (.bin .Mult (.ix (.var 0) (.cst (.int 1))) (.ix (.var 1) (.cst (.int 1)))) .nil)))) .nil)
def b_law_fr_less : Ss := (.cons (.ret (.cmp .Lt (.bin .Mult (.ix (.var 0) (.cst (.int 0))) (.ix (.var 1) (.cst (.int 1)))) (.bin .Mult (.ix (.var 1) (.cst (.int 0))) (.ix (.var 0) (.cst (.int 1)))))) .nil)
def b_law_lt_made : Ss := (.cons (.asg (.nm 2) (.bin .Mult (.lst (.cons (.tup (.cons (.cst (.int 0)) (.cons (.cst (.int 1)) .nil))) .nil)) (.var 1))) (.cons (.for_ (.tp [3, 4]) (.sq (.var 0)) (.cons (.asg (.nm 2) (.lc [5, 6] (.tp [5, 6]) (.zip (.var 2) (.var 4)) .no (.call 29 (.cons (.var 5) (.cons (.call 30 (.cons (.var 3) (.cons (.tup (.cons (.var 6) (.cons (.cst (.int 1)) .nil))) .nil))) .nil))))) .nil)) (.cons (.ret (.var 2)) .nil)))
def b_law_some_lot : Ss := (.cons (.asg (.tp [3, 4]) (.tup (.cons (.bin .Add (.cst (.int 1)) (.call 26 (.cons (.var 0) (.cons (.cst (.int 4)) .nil)))) (.cons (.cmp .Eq (.call 26 (.cons (.var 0) (.cons (.cst (.int 2)) .nil))) (.cst (.int 0))) .nil)))) (.cons (.asg (.nm 1) (.lc [8] (.nm 8) (.r1 (.bin .Add (.cst (.int 1)) (.call 26 (.cons (.var 0) (.cons (.cst (.int 6)) .nil))))) .no (.bin .Add (.cst (.int 1)) (.call 26 (.cons (.var 0) (.cons (.ix (.lst (.cons (.cst (.int 4)) (.cons (.bin .Pow (.cst (.int 10)) (.cst (.int 9))) .nil))) (.call 26 (.cons (.var 0) (.cons (.cst (.int 2)) .nil)))) .nil)))))) (.cons (.par 5 6 true false (.lst .nil) (.bin .Add (.cst (.int 1)) (.call 26 (.cons (.var 0) (.cons (.cst (.int 3)) .nil))))) (.cons (.for_ (.nm 2) (.sq (.var 1)) (.cons (.asg (.nm 7) (.b1 .tuple (.lc [9] (.nm 9) (.r1 (.var 3)) .no (.call 26 (.cons (.var 0) (.cons (.cst (.int 21)) .nil)))))) (.cons (.ife (.not (.var 4)) (.cons (.asg (.nm 7) (.b1 .tuple (.lc [10] (.nm 10) (.r1 (.var 6)) .no (.b1 .tuple (.lc [9] (.nm 9) (.r1 (.var 3)) .no (.call 26 (.cons (.var 0) (.cons (.cst (.int 61)) .nil)))))))) .nil) .nil) (.cons (.app 5 (.tup (.cons (.call 28 (.cons (.var 2) (.cons (.b1 .sum (.var 1)) .nil))) (.cons (.var 7) .nil)))) .nil)))) (.cons (.ret (.tup (.cons (.b1 .tuple (.var 5)) (.cons (.var 4) .nil)))) .nil)))))
def b_law_made : Ss := (.cons (.ife (.var 1) (.cons (.ret (.b1 .tuple (.call 32 (.cons (.var 0) (.cons (.b1 .len (.ix (.ix (.var 0) (.cst (.int 0))) (.cst (.int 1)))) .nil))))) .nil) .nil) (.cons (.bxa 2 (.lst .nil)) (.cons (.for_ (.nm 3) (.r1 (.b1 .len (.ix (.ix (.var 0) (.cst (.int 0))) (.cst (.int 1))))) (.cons (.app 2 (.b1 .tuple (.call 32 (.cons (.lc [4, 5] (.tp [4, 5]) (.sq (.var 0)) .no (.tup (.cons (.var 4) (.cons (.ix (.var 5) (.var 3)) .nil)))) (.cons (.b1 .len (.ix (.ix (.ix (.var 0) (.cst (.int 0))) (.cst (.int 1))) (.cst (.int 0)))) .nil))))) .nil)) (.cons (.ret (.b1 .tuple (.var 2))) .nil))))
def b_law_drawn : Ss := (.cons (.asg (.nm 2) (.tup (.cons (.cst (.int 0)) (.cons (.cst (.int 1)) .nil)))) (.cons (.for_ (.tp [3, 4]) (.sq (.var 0)) (.cons (.asg (.nm 2) (.call 29 (.cons (.var 2) (.cons (.var 3) .nil)))) (.cons (.ife (.call 31 (.cons (.var 1) (.cons (.var 2) .nil))) (.cons (.ret (.var 4)) .nil) .nil) .nil))) (.cons (.ret (.cst .none)) .nil)))
def b_law_right : Ss := (.cons (.asg (.tp [2, 3]) (.call 33 (.cons (.var 0) .nil))) (.cons (.ife (.cmp .NotEq (.b1 .repr (.call 24 (.cons (.var 2) .nil))) (.b1 .repr (.call 34 (.cons (.var 2) (.cons (.var 3) .nil))))) (.cons (.ret (.cst (.bool false))) .nil) .nil) (.cons (.par 1 4 false false (.lst (.cons (.tup (.cons (.cst (.int 0)) (.cons (.cst (.int 1)) .nil))) .nil)) (.tup (.cons (.cst (.int 0)) (.cons (.cst (.int 1)) .nil)))) (.cons (.for_ (.tp [5, 6]) (.sq (.sl (.var 2) .no (.so (.neg (.cst (.int 1)))))) (.cons (.asg (.nm 4) (.call 29 (.cons (.var 4) (.cons (.var 5) .nil)))) (.cons (.asg (.nm 1) (.bin .Add (.var 1) (.lst (.cons (.var 4) (.cons (.call 29 (.cons (.var 4) (.cons (.tup (.cons (.neg (.cst (.int 1))) (.cons (.bin .Pow (.cst (.int 10)) (.cst (.int 30))) .nil))) .nil))) .nil))))) .nil))) (.cons (.asg (.nm 1) (.bin .Add (.var 1) (.lst (.cons (.call 28 (.cons (.call 26 (.cons (.var 0) (.cons (.cst (.int 50)) .nil))) (.cons (.cst (.int 50)) .nil))) (.cons (.call 28 (.cons (.bin .Sub (.bin .Pow (.cst (.int 10)) (.cst (.int 40))) (.cst (.int 1))) (.cons (.bin .Pow (.cst (.int 10)) (.cst (.int 40))) .nil))) .nil))))) (.cons (.ret (.cmp .Eq (.lc [7] (.nm 7) (.sq (.var 1)) (.so (.cmp .NotEq (.b1 .repr (.call 23 (.cons (.var 2) (.cons (.var 7) .nil)))) (.b1 .repr (.call 35 (.cons (.var 2) (.cons (.var 7) .nil)))))) (.var 7)) (.lst .nil))) .nil))))))
def b_law : Ss := (.cons (.for_ (.nm 1) (.r1 (.b2 .max (.cst (.int 1)) (.b2 .min (.cst (.int 5)) (.b1 .len (.var 0))))) (.cons (.bxa 3 (.call 25 (.cons (.var 0) (.cons (.var 1) .nil)))) (.cons (.for_ (.nm 4) (.r1 (.cst (.int 5))) (.cons (.ife (.not (.call 36 (.cons (.var 3) .nil))) (.cons (.ret (.cst (.bool false))) .nil) .nil) .nil)) .nil))) (.cons (.asg (.nm 2) (.tup (.cons (.tup (.cons (.tup (.cons (.cst (.int 1)) (.cons (.cst (.int 3)) .nil))) (.cons (.tup (.cons (.cst (.int 1)) (.cons (.cst (.int 0)) .nil))) .nil))) (.cons (.tup (.cons (.tup (.cons (.cst (.int 2)) (.cons (.cst (.int 3)) .nil))) (.cons (.tup (.cons (.cst (.int 0)) (.cons (.cst (.int 1)) .nil))) .nil))) .nil)))) (.cons (.ret (.cmp .Eq (.lst (.cons (.call 23 (.cons (.var 2) (.cons (.tup (.cons (.cst (.int 1)) (.cons (.cst (.int 3)) .nil))) .nil))) (.cons (.call 23 (.cons (.var 2) (.cons (.tup (.cons (.cst (.int 0)) (.cons (.cst (.int 1)) .nil))) .nil))) (.cons (.call 24 (.cons (.var 2) .nil)) .nil)))) (.lst (.cons (.tup (.cons (.cst (.int 0)) (.cons (.cst (.int 1)) .nil))) (.cons (.tup (.cons (.cst (.int 1)) (.cons (.cst (.int 0)) .nil))) (.cons (.tup (.cons (.tup (.cons (.cst (.int 1)) (.cons (.cst (.int 3)) .nil))) (.cons (.tup (.cons (.cst (.int 2)) (.cons (.cst (.int 3)) .nil))) .nil))) .nil)))))) .nil)))
def table : List Df := ⟨1, 1, b_is_whole⟩ :: ⟨1, 1, b_is_near⟩ :: ⟨3, 3, b_is_within⟩ :: ⟨1, 1, b_is_pair⟩ :: ⟨2, 4, b_common_divisor⟩ :: ⟨2, 3, b_fraction⟩ :: ⟨2, 2, b_plus⟩ :: ⟨2, 2, b_times⟩ :: ⟨2, 2, b_is_less⟩ :: ⟨1, 1, b_is_fraction⟩ :: ⟨1, 1, b_is_near_fraction⟩ :: ⟨1, 3, b_added⟩ :: ⟨1, 2, b_is_form_in⟩ :: ⟨1, 2, b_is_seats_in⟩ :: ⟨1, 1, b_is_seats_member⟩ :: ⟨1, 3, b_is_table_member⟩ :: ⟨1, 1, b_form_of⟩ :: ⟨1, 6, b_is_lot_of⟩ :: ⟨1, 6, b_mixed_in⟩ :: ⟨1, 5, b_made_in⟩ :: ⟨2, 5, b_drawn_in⟩ :: ⟨1, 1, b_require_drawing⟩ :: ⟨1, 1, b_require_lot_of⟩ :: ⟨2, 2, b_drawn⟩ :: ⟨1, 1, b_made_by⟩ :: ⟨2, 4, b_law_dice⟩ :: ⟨2, 5, b_law_roll⟩ :: ⟨2, 2, b_law_divisor⟩ :: ⟨2, 3, b_law_fraction⟩ :: ⟨2, 2, b_law_fr_plus⟩ :: ⟨2, 2, b_law_fr_times⟩ :: ⟨2, 2, b_law_fr_less⟩ :: ⟨2, 7, b_law_lt_made⟩ :: ⟨1, 11, b_law_some_lot⟩ :: ⟨2, 6, b_law_made⟩ :: ⟨2, 5, b_law_drawn⟩ :: ⟨1, 8, b_law_right⟩ :: ⟨1, 5, b_law⟩ :: []
def fnNames : List Str := "is_whole" :: "is_near" :: "is_within" :: "is_pair" :: "common_divisor" :: "fraction" :: "plus" :: "times" :: "is_less" :: "is_fraction" :: "is_near_fraction" :: "added" :: "is_form_in" :: "is_seats_in" :: "is_seats_member" :: "is_table_member" :: "form_of" :: "is_lot_of" :: "mixed_in" :: "made_in" :: "drawn_in" :: "require_drawing" :: "require_lot_of" :: "drawn" :: "made_by" :: "_law_dice" :: "_law_roll" :: "_law_divisor" :: "_law_fraction" :: "_law_fr_plus" :: "_law_fr_times" :: "_law_fr_less" :: "_law_lt_made" :: "_law_some_lot" :: "_law_made" :: "_law_drawn" :: "_law_right" :: "law" :: []
def glNames : List Str := "FAR" :: "PAIR_SIZE" :: "MOST_ROWS" :: "MOST_PARTIES" :: "MOST_HOUSE" :: "MOST_DRAWN" :: "MOST_CELL" :: "NOUGHT" :: "ONE" :: []
def glVals : List D := (.int 1000000000000000000000000000000000000000000000000000000000000) :: (.int 2) :: (.int 6) :: (.int 10) :: (.int 200) :: (.int 100) :: (.int 60) :: (.tuple [(.int 0), (.int 1)]) :: (.tuple [(.int 1), (.int 1)]) :: []
def blNames : List Str := "isinstance" :: "int" :: "bool" :: "tuple" :: "len" :: "abs" :: "all" :: "sum" :: "zip" :: "range" :: "max" :: "repr" :: "min" :: []
def gc : Gc := ⟨fnNames, glNames, blNames⟩
def gl : Nat → Option D := fun i => glVals[i]?
end K85
end
section
set_option Elab.async false
set_option linter.all false
set_option maxRecDepth 100000
set_option maxHeartbeats 4000000
namespace K85
open Mini PySem PySem.Spec PyProof.Rows L2
def topS (i : Nat) : Stmt := PySem.Challenge.pw_seatsdue_k85_whole_drawn_and_made.main.body.getD i (.Pass ⟨0, 0, 0, 0⟩)
theorem e_is_whole {K : PySem.W.Frag} {mg : Str → Option Value} {h : Heap} (X : K.In h) (G : h.Ns mainGlobals mg) {fa : Addr} {od an : Option Addr} {sl : Array (Option Value)} {oc kV dc pm cd ct : Value}
    (a : PySem.W.nsIn K mainGlobals "is_whole" = some (some (.ref fa))) (l : K.lookup fa = some ⟨oc, od, .func (PySem.W.fnOf "is_whole" "is_whole" (defArgs (topS 6)) (defBody (topS 6)) (defScope (topS 6)) .none kV dc pm an cd ct), sl⟩)
    (c : PySem.W.codeIn K cd "is_whole" = true) (kp : PySem.W.keepIn K (.ref fa) = true) : Entry K mg gc "is_whole" ⟨1, 1, b_is_whole⟩ :=
  have F := fun_mk (st := topS 6) l c kp
  ⟨⟨topS 6, fa, _, ["value"], ["value"], PySem.W.mg_of X G a, F, F.binds fun _ _ _ _ _ _ us hl => match us, hl with | [_], _ => rfl, ⟨rfl, rfl, rfl, by decide +kernel, rfl, by decide +kernel, by decide +kernel⟩, rfl, rfl, by decide +kernel⟩⟩
theorem e_is_near {K : PySem.W.Frag} {mg : Str → Option Value} {h : Heap} (X : K.In h) (G : h.Ns mainGlobals mg) {fa : Addr} {od an : Option Addr} {sl : Array (Option Value)} {oc kV dc pm cd ct : Value}
    (a : PySem.W.nsIn K mainGlobals "is_near" = some (some (.ref fa))) (l : K.lookup fa = some ⟨oc, od, .func (PySem.W.fnOf "is_near" "is_near" (defArgs (topS 7)) (defBody (topS 7)) (defScope (topS 7)) .none kV dc pm an cd ct), sl⟩)
    (c : PySem.W.codeIn K cd "is_near" = true) (kp : PySem.W.keepIn K (.ref fa) = true) : Entry K mg gc "is_near" ⟨1, 1, b_is_near⟩ :=
  have F := fun_mk (st := topS 7) l c kp
  ⟨⟨topS 7, fa, _, ["value"], ["value"], PySem.W.mg_of X G a, F, F.binds fun _ _ _ _ _ _ us hl => match us, hl with | [_], _ => rfl, ⟨rfl, rfl, rfl, by decide +kernel, rfl, by decide +kernel, by decide +kernel⟩, rfl, rfl, by decide +kernel⟩⟩
theorem e_is_within {K : PySem.W.Frag} {mg : Str → Option Value} {h : Heap} (X : K.In h) (G : h.Ns mainGlobals mg) {fa : Addr} {od an : Option Addr} {sl : Array (Option Value)} {oc kV dc pm cd ct : Value}
    (a : PySem.W.nsIn K mainGlobals "is_within" = some (some (.ref fa))) (l : K.lookup fa = some ⟨oc, od, .func (PySem.W.fnOf "is_within" "is_within" (defArgs (topS 8)) (defBody (topS 8)) (defScope (topS 8)) .none kV dc pm an cd ct), sl⟩)
    (c : PySem.W.codeIn K cd "is_within" = true) (kp : PySem.W.keepIn K (.ref fa) = true) : Entry K mg gc "is_within" ⟨3, 3, b_is_within⟩ :=
  have F := fun_mk (st := topS 8) l c kp
  ⟨⟨topS 8, fa, _, ["value", "least", "most"], ["value", "least", "most"], PySem.W.mg_of X G a, F, F.binds fun _ _ _ _ _ _ us hl => match us, hl with | [_, _, _], _ => rfl, ⟨rfl, rfl, rfl, by decide +kernel, rfl, by decide +kernel, by decide +kernel⟩, rfl, rfl, by decide +kernel⟩⟩
theorem e_is_pair {K : PySem.W.Frag} {mg : Str → Option Value} {h : Heap} (X : K.In h) (G : h.Ns mainGlobals mg) {fa : Addr} {od an : Option Addr} {sl : Array (Option Value)} {oc kV dc pm cd ct : Value}
    (a : PySem.W.nsIn K mainGlobals "is_pair" = some (some (.ref fa))) (l : K.lookup fa = some ⟨oc, od, .func (PySem.W.fnOf "is_pair" "is_pair" (defArgs (topS 9)) (defBody (topS 9)) (defScope (topS 9)) .none kV dc pm an cd ct), sl⟩)
    (c : PySem.W.codeIn K cd "is_pair" = true) (kp : PySem.W.keepIn K (.ref fa) = true) : Entry K mg gc "is_pair" ⟨1, 1, b_is_pair⟩ :=
  have F := fun_mk (st := topS 9) l c kp
  ⟨⟨topS 9, fa, _, ["value"], ["value"], PySem.W.mg_of X G a, F, F.binds fun _ _ _ _ _ _ us hl => match us, hl with | [_], _ => rfl, ⟨rfl, rfl, rfl, by decide +kernel, rfl, by decide +kernel, by decide +kernel⟩, rfl, rfl, by decide +kernel⟩⟩
theorem e_common_divisor {K : PySem.W.Frag} {mg : Str → Option Value} {h : Heap} (X : K.In h) (G : h.Ns mainGlobals mg) {fa : Addr} {od an : Option Addr} {sl : Array (Option Value)} {oc kV dc pm cd ct : Value}
    (a : PySem.W.nsIn K mainGlobals "common_divisor" = some (some (.ref fa))) (l : K.lookup fa = some ⟨oc, od, .func (PySem.W.fnOf "common_divisor" "common_divisor" (defArgs (topS 10)) (defBody (topS 10)) (defScope (topS 10)) .none kV dc pm an cd ct), sl⟩)
    (c : PySem.W.codeIn K cd "common_divisor" = true) (kp : PySem.W.keepIn K (.ref fa) = true) : Entry K mg gc "common_divisor" ⟨2, 4, b_common_divisor⟩ :=
  have F := fun_mk (st := topS 10) l c kp
  ⟨⟨topS 10, fa, _, ["one", "other", "left", "right"], ["one", "other"], PySem.W.mg_of X G a, F, F.binds fun _ _ _ _ _ _ us hl => match us, hl with | [_, _], _ => rfl, ⟨rfl, rfl, rfl, by decide +kernel, rfl, by decide +kernel, by decide +kernel⟩, rfl, rfl, by decide +kernel⟩⟩
theorem e_fraction {K : PySem.W.Frag} {mg : Str → Option Value} {h : Heap} (X : K.In h) (G : h.Ns mainGlobals mg) {fa : Addr} {od an : Option Addr} {sl : Array (Option Value)} {oc kV dc pm cd ct : Value}
    (a : PySem.W.nsIn K mainGlobals "fraction" = some (some (.ref fa))) (l : K.lookup fa = some ⟨oc, od, .func (PySem.W.fnOf "fraction" "fraction" (defArgs (topS 11)) (defBody (topS 11)) (defScope (topS 11)) .none kV dc pm an cd ct), sl⟩)
    (c : PySem.W.codeIn K cd "fraction" = true) (kp : PySem.W.keepIn K (.ref fa) = true) : Entry K mg gc "fraction" ⟨2, 3, b_fraction⟩ :=
  have F := fun_mk (st := topS 11) l c kp
  ⟨⟨topS 11, fa, _, ["top", "bottom", "shared"], ["top", "bottom"], PySem.W.mg_of X G a, F, F.binds fun _ _ _ _ _ _ us hl => match us, hl with | [_, _], _ => rfl, ⟨rfl, rfl, rfl, by decide +kernel, rfl, by decide +kernel, by decide +kernel⟩, rfl, rfl, by decide +kernel⟩⟩
theorem e_plus {K : PySem.W.Frag} {mg : Str → Option Value} {h : Heap} (X : K.In h) (G : h.Ns mainGlobals mg) {fa : Addr} {od an : Option Addr} {sl : Array (Option Value)} {oc kV dc pm cd ct : Value}
    (a : PySem.W.nsIn K mainGlobals "plus" = some (some (.ref fa))) (l : K.lookup fa = some ⟨oc, od, .func (PySem.W.fnOf "plus" "plus" (defArgs (topS 12)) (defBody (topS 12)) (defScope (topS 12)) .none kV dc pm an cd ct), sl⟩)
    (c : PySem.W.codeIn K cd "plus" = true) (kp : PySem.W.keepIn K (.ref fa) = true) : Entry K mg gc "plus" ⟨2, 2, b_plus⟩ :=
  have F := fun_mk (st := topS 12) l c kp
  ⟨⟨topS 12, fa, _, ["one", "other"], ["one", "other"], PySem.W.mg_of X G a, F, F.binds fun _ _ _ _ _ _ us hl => match us, hl with | [_, _], _ => rfl, ⟨rfl, rfl, rfl, by decide +kernel, rfl, by decide +kernel, by decide +kernel⟩, rfl, rfl, by decide +kernel⟩⟩
theorem e_times {K : PySem.W.Frag} {mg : Str → Option Value} {h : Heap} (X : K.In h) (G : h.Ns mainGlobals mg) {fa : Addr} {od an : Option Addr} {sl : Array (Option Value)} {oc kV dc pm cd ct : Value}
    (a : PySem.W.nsIn K mainGlobals "times" = some (some (.ref fa))) (l : K.lookup fa = some ⟨oc, od, .func (PySem.W.fnOf "times" "times" (defArgs (topS 13)) (defBody (topS 13)) (defScope (topS 13)) .none kV dc pm an cd ct), sl⟩)
    (c : PySem.W.codeIn K cd "times" = true) (kp : PySem.W.keepIn K (.ref fa) = true) : Entry K mg gc "times" ⟨2, 2, b_times⟩ :=
  have F := fun_mk (st := topS 13) l c kp
  ⟨⟨topS 13, fa, _, ["one", "other"], ["one", "other"], PySem.W.mg_of X G a, F, F.binds fun _ _ _ _ _ _ us hl => match us, hl with | [_, _], _ => rfl, ⟨rfl, rfl, rfl, by decide +kernel, rfl, by decide +kernel, by decide +kernel⟩, rfl, rfl, by decide +kernel⟩⟩
theorem e_is_less {K : PySem.W.Frag} {mg : Str → Option Value} {h : Heap} (X : K.In h) (G : h.Ns mainGlobals mg) {fa : Addr} {od an : Option Addr} {sl : Array (Option Value)} {oc kV dc pm cd ct : Value}
    (a : PySem.W.nsIn K mainGlobals "is_less" = some (some (.ref fa))) (l : K.lookup fa = some ⟨oc, od, .func (PySem.W.fnOf "is_less" "is_less" (defArgs (topS 14)) (defBody (topS 14)) (defScope (topS 14)) .none kV dc pm an cd ct), sl⟩)
    (c : PySem.W.codeIn K cd "is_less" = true) (kp : PySem.W.keepIn K (.ref fa) = true) : Entry K mg gc "is_less" ⟨2, 2, b_is_less⟩ :=
  have F := fun_mk (st := topS 14) l c kp
  ⟨⟨topS 14, fa, _, ["one", "other"], ["one", "other"], PySem.W.mg_of X G a, F, F.binds fun _ _ _ _ _ _ us hl => match us, hl with | [_, _], _ => rfl, ⟨rfl, rfl, rfl, by decide +kernel, rfl, by decide +kernel, by decide +kernel⟩, rfl, rfl, by decide +kernel⟩⟩
theorem e_is_fraction {K : PySem.W.Frag} {mg : Str → Option Value} {h : Heap} (X : K.In h) (G : h.Ns mainGlobals mg) {fa : Addr} {od an : Option Addr} {sl : Array (Option Value)} {oc kV dc pm cd ct : Value}
    (a : PySem.W.nsIn K mainGlobals "is_fraction" = some (some (.ref fa))) (l : K.lookup fa = some ⟨oc, od, .func (PySem.W.fnOf "is_fraction" "is_fraction" (defArgs (topS 15)) (defBody (topS 15)) (defScope (topS 15)) .none kV dc pm an cd ct), sl⟩)
    (c : PySem.W.codeIn K cd "is_fraction" = true) (kp : PySem.W.keepIn K (.ref fa) = true) : Entry K mg gc "is_fraction" ⟨1, 1, b_is_fraction⟩ :=
  have F := fun_mk (st := topS 15) l c kp
  ⟨⟨topS 15, fa, _, ["value"], ["value"], PySem.W.mg_of X G a, F, F.binds fun _ _ _ _ _ _ us hl => match us, hl with | [_], _ => rfl, ⟨rfl, rfl, rfl, by decide +kernel, rfl, by decide +kernel, by decide +kernel⟩, rfl, rfl, by decide +kernel⟩⟩
theorem e_is_near_fraction {K : PySem.W.Frag} {mg : Str → Option Value} {h : Heap} (X : K.In h) (G : h.Ns mainGlobals mg) {fa : Addr} {od an : Option Addr} {sl : Array (Option Value)} {oc kV dc pm cd ct : Value}
    (a : PySem.W.nsIn K mainGlobals "is_near_fraction" = some (some (.ref fa))) (l : K.lookup fa = some ⟨oc, od, .func (PySem.W.fnOf "is_near_fraction" "is_near_fraction" (defArgs (topS 16)) (defBody (topS 16)) (defScope (topS 16)) .none kV dc pm an cd ct), sl⟩)
    (c : PySem.W.codeIn K cd "is_near_fraction" = true) (kp : PySem.W.keepIn K (.ref fa) = true) : Entry K mg gc "is_near_fraction" ⟨1, 1, b_is_near_fraction⟩ :=
  have F := fun_mk (st := topS 16) l c kp
  ⟨⟨topS 16, fa, _, ["value"], ["value"], PySem.W.mg_of X G a, F, F.binds fun _ _ _ _ _ _ us hl => match us, hl with | [_], _ => rfl, ⟨rfl, rfl, rfl, by decide +kernel, rfl, by decide +kernel, by decide +kernel⟩, rfl, rfl, by decide +kernel⟩⟩
theorem e_added {K : PySem.W.Frag} {mg : Str → Option Value} {h : Heap} (X : K.In h) (G : h.Ns mainGlobals mg) {fa : Addr} {od an : Option Addr} {sl : Array (Option Value)} {oc kV dc pm cd ct : Value}
    (a : PySem.W.nsIn K mainGlobals "added" = some (some (.ref fa))) (l : K.lookup fa = some ⟨oc, od, .func (PySem.W.fnOf "added" "added" (defArgs (topS 17)) (defBody (topS 17)) (defScope (topS 17)) .none kV dc pm an cd ct), sl⟩)
    (c : PySem.W.codeIn K cd "added" = true) (kp : PySem.W.keepIn K (.ref fa) = true) : Entry K mg gc "added" ⟨1, 3, b_added⟩ :=
  have F := fun_mk (st := topS 17) l c kp
  ⟨⟨topS 17, fa, _, ["fractions", "found", "one"], ["fractions"], PySem.W.mg_of X G a, F, F.binds fun _ _ _ _ _ _ us hl => match us, hl with | [_], _ => rfl, ⟨rfl, rfl, rfl, by decide +kernel, rfl, by decide +kernel, by decide +kernel⟩, rfl, rfl, by decide +kernel⟩⟩
theorem e_is_form_in {K : PySem.W.Frag} {mg : Str → Option Value} {h : Heap} (X : K.In h) (G : h.Ns mainGlobals mg) {fa : Addr} {od an : Option Addr} {sl : Array (Option Value)} {oc kV dc pm cd ct : Value}
    (a : PySem.W.nsIn K mainGlobals "is_form_in" = some (some (.ref fa))) (l : K.lookup fa = some ⟨oc, od, .func (PySem.W.fnOf "is_form_in" "is_form_in" (defArgs (topS 20)) (defBody (topS 20)) (defScope (topS 20)) .none kV dc pm an cd ct), sl⟩)
    (c : PySem.W.codeIn K cd "is_form_in" = true) (kp : PySem.W.keepIn K (.ref fa) = true) : Entry K mg gc "is_form_in" ⟨1, 2, b_is_form_in⟩ :=
  have F := fun_mk (st := topS 20) l c kp
  ⟨⟨topS 20, fa, _, ["value", "row"], ["value"], PySem.W.mg_of X G a, F, F.binds fun _ _ _ _ _ _ us hl => match us, hl with | [_], _ => rfl, ⟨rfl, rfl, rfl, by decide +kernel, rfl, by decide +kernel, by decide +kernel⟩, rfl, rfl, by decide +kernel⟩⟩
theorem e_is_seats_in {K : PySem.W.Frag} {mg : Str → Option Value} {h : Heap} (X : K.In h) (G : h.Ns mainGlobals mg) {fa : Addr} {od an : Option Addr} {sl : Array (Option Value)} {oc kV dc pm cd ct : Value}
    (a : PySem.W.nsIn K mainGlobals "is_seats_in" = some (some (.ref fa))) (l : K.lookup fa = some ⟨oc, od, .func (PySem.W.fnOf "is_seats_in" "is_seats_in" (defArgs (topS 24)) (defBody (topS 24)) (defScope (topS 24)) .none kV dc pm an cd ct), sl⟩)
    (c : PySem.W.codeIn K cd "is_seats_in" = true) (kp : PySem.W.keepIn K (.ref fa) = true) : Entry K mg gc "is_seats_in" ⟨1, 2, b_is_seats_in⟩ :=
  have F := fun_mk (st := topS 24) l c kp
  ⟨⟨topS 24, fa, _, ["value", "number"], ["value"], PySem.W.mg_of X G a, F, F.binds fun _ _ _ _ _ _ us hl => match us, hl with | [_], _ => rfl, ⟨rfl, rfl, rfl, by decide +kernel, rfl, by decide +kernel, by decide +kernel⟩, rfl, rfl, by decide +kernel⟩⟩
theorem e_is_seats_member {K : PySem.W.Frag} {mg : Str → Option Value} {h : Heap} (X : K.In h) (G : h.Ns mainGlobals mg) {fa : Addr} {od an : Option Addr} {sl : Array (Option Value)} {oc kV dc pm cd ct : Value}
    (a : PySem.W.nsIn K mainGlobals "is_seats_member" = some (some (.ref fa))) (l : K.lookup fa = some ⟨oc, od, .func (PySem.W.fnOf "is_seats_member" "is_seats_member" (defArgs (topS 30)) (defBody (topS 30)) (defScope (topS 30)) .none kV dc pm an cd ct), sl⟩)
    (c : PySem.W.codeIn K cd "is_seats_member" = true) (kp : PySem.W.keepIn K (.ref fa) = true) : Entry K mg gc "is_seats_member" ⟨1, 1, b_is_seats_member⟩ :=
  have F := fun_mk (st := topS 30) l c kp
  ⟨⟨topS 30, fa, _, ["value"], ["value"], PySem.W.mg_of X G a, F, F.binds fun _ _ _ _ _ _ us hl => match us, hl with | [_], _ => rfl, ⟨rfl, rfl, rfl, by decide +kernel, rfl, by decide +kernel, by decide +kernel⟩, rfl, rfl, by decide +kernel⟩⟩
theorem e_is_table_member {K : PySem.W.Frag} {mg : Str → Option Value} {h : Heap} (X : K.In h) (G : h.Ns mainGlobals mg) {fa : Addr} {od an : Option Addr} {sl : Array (Option Value)} {oc kV dc pm cd ct : Value}
    (a : PySem.W.nsIn K mainGlobals "is_table_member" = some (some (.ref fa))) (l : K.lookup fa = some ⟨oc, od, .func (PySem.W.fnOf "is_table_member" "is_table_member" (defArgs (topS 31)) (defBody (topS 31)) (defScope (topS 31)) .none kV dc pm an cd ct), sl⟩)
    (c : PySem.W.codeIn K cd "is_table_member" = true) (kp : PySem.W.keepIn K (.ref fa) = true) : Entry K mg gc "is_table_member" ⟨1, 3, b_is_table_member⟩ :=
  have F := fun_mk (st := topS 31) l c kp
  ⟨⟨topS 31, fa, _, ["value", "row", "cell"], ["value"], PySem.W.mg_of X G a, F, F.binds fun _ _ _ _ _ _ us hl => match us, hl with | [_], _ => rfl, ⟨rfl, rfl, rfl, by decide +kernel, rfl, by decide +kernel, by decide +kernel⟩, rfl, rfl, by decide +kernel⟩⟩
theorem e_form_of {K : PySem.W.Frag} {mg : Str → Option Value} {h : Heap} (X : K.In h) (G : h.Ns mainGlobals mg) {fa : Addr} {od an : Option Addr} {sl : Array (Option Value)} {oc kV dc pm cd ct : Value}
    (a : PySem.W.nsIn K mainGlobals "form_of" = some (some (.ref fa))) (l : K.lookup fa = some ⟨oc, od, .func (PySem.W.fnOf "form_of" "form_of" (defArgs (topS 32)) (defBody (topS 32)) (defScope (topS 32)) .none kV dc pm an cd ct), sl⟩)
    (c : PySem.W.codeIn K cd "form_of" = true) (kp : PySem.W.keepIn K (.ref fa) = true) : Entry K mg gc "form_of" ⟨1, 1, b_form_of⟩ :=
  have F := fun_mk (st := topS 32) l c kp
  ⟨⟨topS 32, fa, _, ["value"], ["value"], PySem.W.mg_of X G a, F, F.binds fun _ _ _ _ _ _ us hl => match us, hl with | [_], _ => rfl, ⟨rfl, rfl, rfl, by decide +kernel, rfl, by decide +kernel, by decide +kernel⟩, rfl, rfl, by decide +kernel⟩⟩
theorem e_is_lot_of {K : PySem.W.Frag} {mg : Str → Option Value} {h : Heap} (X : K.In h) (G : h.Ns mainGlobals mg) {fa : Addr} {od an : Option Addr} {sl : Array (Option Value)} {oc kV dc pm cd ct : Value}
    (a : PySem.W.nsIn K mainGlobals "is_lot_of" = some (some (.ref fa))) (l : K.lookup fa = some ⟨oc, od, .func (PySem.W.fnOf "is_lot_of" "is_lot_of" (defArgs (topS 33)) (defBody (topS 33)) (defScope (topS 33)) .none kV dc pm an cd ct), sl⟩)
    (c : PySem.W.codeIn K cd "is_lot_of" = true) (kp : PySem.W.keepIn K (.ref fa) = true) : Entry K mg gc "is_lot_of" ⟨1, 6, b_is_lot_of⟩ :=
  have F := fun_mk (st := topS 33) l c kp
  ⟨⟨topS 33, fa, _, ["value", "forms", "weight", "member", "one", "form"], ["value"], PySem.W.mg_of X G a, F, F.binds fun _ _ _ _ _ _ us hl => match us, hl with | [_], _ => rfl, ⟨rfl, rfl, rfl, by decide +kernel, rfl, by decide +kernel, by decide +kernel⟩, rfl, rfl, by decide +kernel⟩⟩
theorem e_mixed_in {K : PySem.W.Frag} {mg : Str → Option Value} {h : Heap} (X : K.In h) (G : h.Ns mainGlobals mg) {fa : Addr} {od an : Option Addr} {sl : Array (Option Value)} {oc kV dc pm cd ct : Value}
    (a : PySem.W.nsIn K mainGlobals "mixed_in" = some (some (.ref fa))) (l : K.lookup fa = some ⟨oc, od, .func (PySem.W.fnOf "mixed_in" "mixed_in" (defArgs (topS 34)) (defBody (topS 34)) (defScope (topS 34)) .none kV dc pm an cd ct), sl⟩)
    (c : PySem.W.codeIn K cd "mixed_in" = true) (kp : PySem.W.keepIn K (.ref fa) = true) : Entry K mg gc "mixed_in" ⟨1, 6, b_mixed_in⟩ :=
  have F := fun_mk (st := topS 34) l c kp
  ⟨⟨topS 34, fa, _, ["lot", "found", "weight", "member", "one", "number"], ["lot"], PySem.W.mg_of X G a, F, F.binds fun _ _ _ _ _ _ us hl => match us, hl with | [_], _ => rfl, ⟨rfl, rfl, rfl, by decide +kernel, rfl, by decide +kernel, by decide +kernel⟩, rfl, rfl, by decide +kernel⟩⟩
theorem e_made_in {K : PySem.W.Frag} {mg : Str → Option Value} {h : Heap} (X : K.In h) (G : h.Ns mainGlobals mg) {fa : Addr} {od an : Option Addr} {sl : Array (Option Value)} {oc kV dc pm cd ct : Value}
    (a : PySem.W.nsIn K mainGlobals "made_in" = some (some (.ref fa))) (l : K.lookup fa = some ⟨oc, od, .func (PySem.W.fnOf "made_in" "made_in" (defArgs (topS 35)) (defBody (topS 35)) (defScope (topS 35)) .none kV dc pm an cd ct), sl⟩)
    (c : PySem.W.codeIn K cd "made_in" = true) (kp : PySem.W.keepIn K (.ref fa) = true) : Entry K mg gc "made_in" ⟨1, 5, b_made_in⟩ :=
  have F := fun_mk (st := topS 35) l c kp
  ⟨⟨topS 35, fa, _, ["lot", "rows", "i", "weight", "member"], ["lot"], PySem.W.mg_of X G a, F, F.binds fun _ _ _ _ _ _ us hl => match us, hl with | [_], _ => rfl, ⟨rfl, rfl, rfl, by decide +kernel, rfl, by decide +kernel, by decide +kernel⟩, rfl, rfl, by decide +kernel⟩⟩
theorem e_drawn_in {K : PySem.W.Frag} {mg : Str → Option Value} {h : Heap} (X : K.In h) (G : h.Ns mainGlobals mg) {fa : Addr} {od an : Option Addr} {sl : Array (Option Value)} {oc kV dc pm cd ct : Value}
    (a : PySem.W.nsIn K mainGlobals "drawn_in" = some (some (.ref fa))) (l : K.lookup fa = some ⟨oc, od, .func (PySem.W.fnOf "drawn_in" "drawn_in" (defArgs (topS 36)) (defBody (topS 36)) (defScope (topS 36)) .none kV dc pm an cd ct), sl⟩)
    (c : PySem.W.codeIn K cd "drawn_in" = true) (kp : PySem.W.keepIn K (.ref fa) = true) : Entry K mg gc "drawn_in" ⟨2, 5, b_drawn_in⟩ :=
  have F := fun_mk (st := topS 36) l c kp
  ⟨⟨topS 36, fa, _, ["lot", "u", "total", "weight", "member"], ["lot", "u"], PySem.W.mg_of X G a, F, F.binds fun _ _ _ _ _ _ us hl => match us, hl with | [_, _], _ => rfl, ⟨rfl, rfl, rfl, by decide +kernel, rfl, by decide +kernel, by decide +kernel⟩, rfl, rfl, by decide +kernel⟩⟩
theorem e_require_drawing {K : PySem.W.Frag} {mg : Str → Option Value} {h : Heap} (X : K.In h) (G : h.Ns mainGlobals mg) {fa : Addr} {od an : Option Addr} {sl : Array (Option Value)} {oc kV dc pm cd ct : Value}
    (a : PySem.W.nsIn K mainGlobals "require_drawing" = some (some (.ref fa))) (l : K.lookup fa = some ⟨oc, od, .func (PySem.W.fnOf "require_drawing" "require_drawing" (defArgs (topS 37)) (defBody (topS 37)) (defScope (topS 37)) .none kV dc pm an cd ct), sl⟩)
    (c : PySem.W.codeIn K cd "require_drawing" = true) (kp : PySem.W.keepIn K (.ref fa) = true) : Entry K mg gc "require_drawing" ⟨1, 1, b_require_drawing⟩ :=
  have F := fun_mk (st := topS 37) l c kp
  ⟨⟨topS 37, fa, _, ["value"], ["value"], PySem.W.mg_of X G a, F, F.binds fun _ _ _ _ _ _ us hl => match us, hl with | [_], _ => rfl, ⟨rfl, rfl, rfl, by decide +kernel, rfl, by decide +kernel, by decide +kernel⟩, rfl, rfl, by decide +kernel⟩⟩
theorem e_require_lot_of {K : PySem.W.Frag} {mg : Str → Option Value} {h : Heap} (X : K.In h) (G : h.Ns mainGlobals mg) {fa : Addr} {od an : Option Addr} {sl : Array (Option Value)} {oc kV dc pm cd ct : Value}
    (a : PySem.W.nsIn K mainGlobals "require_lot_of" = some (some (.ref fa))) (l : K.lookup fa = some ⟨oc, od, .func (PySem.W.fnOf "require_lot_of" "require_lot_of" (defArgs (topS 38)) (defBody (topS 38)) (defScope (topS 38)) .none kV dc pm an cd ct), sl⟩)
    (c : PySem.W.codeIn K cd "require_lot_of" = true) (kp : PySem.W.keepIn K (.ref fa) = true) : Entry K mg gc "require_lot_of" ⟨1, 1, b_require_lot_of⟩ :=
  have F := fun_mk (st := topS 38) l c kp
  ⟨⟨topS 38, fa, _, ["value"], ["value"], PySem.W.mg_of X G a, F, F.binds fun _ _ _ _ _ _ us hl => match us, hl with | [_], _ => rfl, ⟨rfl, rfl, rfl, by decide +kernel, rfl, by decide +kernel, by decide +kernel⟩, rfl, rfl, by decide +kernel⟩⟩
theorem e_drawn {K : PySem.W.Frag} {mg : Str → Option Value} {h : Heap} (X : K.In h) (G : h.Ns mainGlobals mg) {fa : Addr} {od an : Option Addr} {sl : Array (Option Value)} {oc kV dc pm cd ct : Value}
    (a : PySem.W.nsIn K mainGlobals "drawn" = some (some (.ref fa))) (l : K.lookup fa = some ⟨oc, od, .func (PySem.W.fnOf "drawn" "drawn" (defArgs (topS 39)) (defBody (topS 39)) (defScope (topS 39)) .none kV dc pm an cd ct), sl⟩)
    (c : PySem.W.codeIn K cd "drawn" = true) (kp : PySem.W.keepIn K (.ref fa) = true) : Entry K mg gc "drawn" ⟨2, 2, b_drawn⟩ :=
  have F := fun_mk (st := topS 39) l c kp
  ⟨⟨topS 39, fa, _, ["lot", "u"], ["lot", "u"], PySem.W.mg_of X G a, F, F.binds fun _ _ _ _ _ _ us hl => match us, hl with | [_, _], _ => rfl, ⟨rfl, rfl, rfl, by decide +kernel, rfl, by decide +kernel, by decide +kernel⟩, rfl, rfl, by decide +kernel⟩⟩
theorem e_made_by {K : PySem.W.Frag} {mg : Str → Option Value} {h : Heap} (X : K.In h) (G : h.Ns mainGlobals mg) {fa : Addr} {od an : Option Addr} {sl : Array (Option Value)} {oc kV dc pm cd ct : Value}
    (a : PySem.W.nsIn K mainGlobals "made_by" = some (some (.ref fa))) (l : K.lookup fa = some ⟨oc, od, .func (PySem.W.fnOf "made_by" "made_by" (defArgs (topS 40)) (defBody (topS 40)) (defScope (topS 40)) .none kV dc pm an cd ct), sl⟩)
    (c : PySem.W.codeIn K cd "made_by" = true) (kp : PySem.W.keepIn K (.ref fa) = true) : Entry K mg gc "made_by" ⟨1, 1, b_made_by⟩ :=
  have F := fun_mk (st := topS 40) l c kp
  ⟨⟨topS 40, fa, _, ["lot"], ["lot"], PySem.W.mg_of X G a, F, F.binds fun _ _ _ _ _ _ us hl => match us, hl with | [_], _ => rfl, ⟨rfl, rfl, rfl, by decide +kernel, rfl, by decide +kernel, by decide +kernel⟩, rfl, rfl, by decide +kernel⟩⟩
theorem e_law_dice {K : PySem.W.Frag} {mg : Str → Option Value} {h : Heap} (X : K.In h) (G : h.Ns mainGlobals mg) {fa : Addr} {od an : Option Addr} {sl : Array (Option Value)} {oc kV dc pm cd ct : Value}
    (a : PySem.W.nsIn K mainGlobals "_law_dice" = some (some (.ref fa))) (l : K.lookup fa = some ⟨oc, od, .func (PySem.W.fnOf "_law_dice" "_law_dice" (defArgs (topS 42)) (defBody (topS 42)) (defScope (topS 42)) .none kV dc pm an cd ct), sl⟩)
    (c : PySem.W.codeIn K cd "_law_dice" = true) (kp : PySem.W.keepIn K (.ref fa) = true) : Entry K mg gc "_law_dice" ⟨2, 4, b_law_dice⟩ :=
  have F := fun_mk (st := topS 42) l c kp
  ⟨⟨topS 42, fa, _, ["script", "spot", "cell", "left"], ["script", "spot"], PySem.W.mg_of X G a, F, F.binds fun _ _ _ _ _ _ us hl => match us, hl with | [_, _], _ => rfl, ⟨rfl, rfl, rfl, by decide +kernel, rfl, by decide +kernel, by decide +kernel⟩, rfl, rfl, by decide +kernel⟩⟩
theorem e_law_roll {K : PySem.W.Frag} {mg : Str → Option Value} {h : Heap} (X : K.In h) (G : h.Ns mainGlobals mg) {fa : Addr} {od an : Option Addr} {sl : Array (Option Value)} {oc kV dc pm cd ct : Value}
    (a : PySem.W.nsIn K mainGlobals "_law_roll" = some (some (.ref fa))) (l : K.lookup fa = some ⟨oc, od, .func (PySem.W.fnOf "_law_roll" "_law_roll" (defArgs (topS 43)) (defBody (topS 43)) (defScope (topS 43)) .none kV dc pm an cd ct), sl⟩)
    (c : PySem.W.codeIn K cd "_law_roll" = true) (kp : PySem.W.keepIn K (.ref fa) = true) : Entry K mg gc "_law_roll" ⟨2, 5, b_law_roll⟩ :=
  have F := fun_mk (st := topS 43) l c kp
  ⟨⟨topS 43, fa, _, ["dice", "total", "one", "two", "found"], ["dice", "total"], PySem.W.mg_of X G a, F, F.binds fun _ _ _ _ _ _ us hl => match us, hl with | [_, _], _ => rfl, ⟨rfl, rfl, rfl, by decide +kernel, rfl, by decide +kernel, by decide +kernel⟩, rfl, rfl, by decide +kernel⟩⟩
theorem e_law_divisor {K : PySem.W.Frag} {mg : Str → Option Value} {h : Heap} (X : K.In h) (G : h.Ns mainGlobals mg) {fa : Addr} {od an : Option Addr} {sl : Array (Option Value)} {oc kV dc pm cd ct : Value}
    (a : PySem.W.nsIn K mainGlobals "_law_divisor" = some (some (.ref fa))) (l : K.lookup fa = some ⟨oc, od, .func (PySem.W.fnOf "_law_divisor" "_law_divisor" (defArgs (topS 44)) (defBody (topS 44)) (defScope (topS 44)) .none kV dc pm an cd ct), sl⟩)
    (c : PySem.W.codeIn K cd "_law_divisor" = true) (kp : PySem.W.keepIn K (.ref fa) = true) : Entry K mg gc "_law_divisor" ⟨2, 2, b_law_divisor⟩ :=
  have F := fun_mk (st := topS 44) l c kp
  ⟨⟨topS 44, fa, _, ["one", "other"], ["one", "other"], PySem.W.mg_of X G a, F, F.binds fun _ _ _ _ _ _ us hl => match us, hl with | [_, _], _ => rfl, ⟨rfl, rfl, rfl, by decide +kernel, rfl, by decide +kernel, by decide +kernel⟩, rfl, rfl, by decide +kernel⟩⟩
theorem e_law_fraction {K : PySem.W.Frag} {mg : Str → Option Value} {h : Heap} (X : K.In h) (G : h.Ns mainGlobals mg) {fa : Addr} {od an : Option Addr} {sl : Array (Option Value)} {oc kV dc pm cd ct : Value}
    (a : PySem.W.nsIn K mainGlobals "_law_fraction" = some (some (.ref fa))) (l : K.lookup fa = some ⟨oc, od, .func (PySem.W.fnOf "_law_fraction" "_law_fraction" (defArgs (topS 45)) (defBody (topS 45)) (defScope (topS 45)) .none kV dc pm an cd ct), sl⟩)
    (c : PySem.W.codeIn K cd "_law_fraction" = true) (kp : PySem.W.keepIn K (.ref fa) = true) : Entry K mg gc "_law_fraction" ⟨2, 3, b_law_fraction⟩ :=
  have F := fun_mk (st := topS 45) l c kp
  ⟨⟨topS 45, fa, _, ["top", "bottom", "shared"], ["top", "bottom"], PySem.W.mg_of X G a, F, F.binds fun _ _ _ _ _ _ us hl => match us, hl with | [_, _], _ => rfl, ⟨rfl, rfl, rfl, by decide +kernel, rfl, by decide +kernel, by decide +kernel⟩, rfl, rfl, by decide +kernel⟩⟩
theorem e_law_fr_plus {K : PySem.W.Frag} {mg : Str → Option Value} {h : Heap} (X : K.In h) (G : h.Ns mainGlobals mg) {fa : Addr} {od an : Option Addr} {sl : Array (Option Value)} {oc kV dc pm cd ct : Value}
    (a : PySem.W.nsIn K mainGlobals "_law_fr_plus" = some (some (.ref fa))) (l : K.lookup fa = some ⟨oc, od, .func (PySem.W.fnOf "_law_fr_plus" "_law_fr_plus" (defArgs (topS 46)) (defBody (topS 46)) (defScope (topS 46)) .none kV dc pm an cd ct), sl⟩)
    (c : PySem.W.codeIn K cd "_law_fr_plus" = true) (kp : PySem.W.keepIn K (.ref fa) = true) : Entry K mg gc "_law_fr_plus" ⟨2, 2, b_law_fr_plus⟩ :=
  have F := fun_mk (st := topS 46) l c kp
  ⟨⟨topS 46, fa, _, ["one", "other"], ["one", "other"], PySem.W.mg_of X G a, F, F.binds fun _ _ _ _ _ _ us hl => match us, hl with | [_, _], _ => rfl, ⟨rfl, rfl, rfl, by decide +kernel, rfl, by decide +kernel, by decide +kernel⟩, rfl, rfl, by decide +kernel⟩⟩
theorem e_law_fr_times {K : PySem.W.Frag} {mg : Str → Option Value} {h : Heap} (X : K.In h) (G : h.Ns mainGlobals mg) {fa : Addr} {od an : Option Addr} {sl : Array (Option Value)} {oc kV dc pm cd ct : Value}
    (a : PySem.W.nsIn K mainGlobals "_law_fr_times" = some (some (.ref fa))) (l : K.lookup fa = some ⟨oc, od, .func (PySem.W.fnOf "_law_fr_times" "_law_fr_times" (defArgs (topS 47)) (defBody (topS 47)) (defScope (topS 47)) .none kV dc pm an cd ct), sl⟩)
    (c : PySem.W.codeIn K cd "_law_fr_times" = true) (kp : PySem.W.keepIn K (.ref fa) = true) : Entry K mg gc "_law_fr_times" ⟨2, 2, b_law_fr_times⟩ :=
  have F := fun_mk (st := topS 47) l c kp
  ⟨⟨topS 47, fa, _, ["one", "other"], ["one", "other"], PySem.W.mg_of X G a, F, F.binds fun _ _ _ _ _ _ us hl => match us, hl with | [_, _], _ => rfl, ⟨rfl, rfl, rfl, by decide +kernel, rfl, by decide +kernel, by decide +kernel⟩, rfl, rfl, by decide +kernel⟩⟩
theorem e_law_fr_less {K : PySem.W.Frag} {mg : Str → Option Value} {h : Heap} (X : K.In h) (G : h.Ns mainGlobals mg) {fa : Addr} {od an : Option Addr} {sl : Array (Option Value)} {oc kV dc pm cd ct : Value}
    (a : PySem.W.nsIn K mainGlobals "_law_fr_less" = some (some (.ref fa))) (l : K.lookup fa = some ⟨oc, od, .func (PySem.W.fnOf "_law_fr_less" "_law_fr_less" (defArgs (topS 48)) (defBody (topS 48)) (defScope (topS 48)) .none kV dc pm an cd ct), sl⟩)
    (c : PySem.W.codeIn K cd "_law_fr_less" = true) (kp : PySem.W.keepIn K (.ref fa) = true) : Entry K mg gc "_law_fr_less" ⟨2, 2, b_law_fr_less⟩ :=
  have F := fun_mk (st := topS 48) l c kp
  ⟨⟨topS 48, fa, _, ["one", "other"], ["one", "other"], PySem.W.mg_of X G a, F, F.binds fun _ _ _ _ _ _ us hl => match us, hl with | [_, _], _ => rfl, ⟨rfl, rfl, rfl, by decide +kernel, rfl, by decide +kernel, by decide +kernel⟩, rfl, rfl, by decide +kernel⟩⟩
theorem e_law_lt_made {K : PySem.W.Frag} {mg : Str → Option Value} {h : Heap} (X : K.In h) (G : h.Ns mainGlobals mg) {fa : Addr} {od an : Option Addr} {sl : Array (Option Value)} {oc kV dc pm cd ct : Value}
    (a : PySem.W.nsIn K mainGlobals "_law_lt_made" = some (some (.ref fa))) (l : K.lookup fa = some ⟨oc, od, .func (PySem.W.fnOf "_law_lt_made" "_law_lt_made" (defArgs (topS 49)) (defBody (topS 49)) (defScope (topS 49)) .none kV dc pm an cd ct), sl⟩)
    (c : PySem.W.codeIn K cd "_law_lt_made" = true) (kp : PySem.W.keepIn K (.ref fa) = true) : Entry K mg gc "_law_lt_made" ⟨2, 7, b_law_lt_made⟩ :=
  have F := fun_mk (st := topS 49) l c kp
  ⟨⟨topS 49, fa, _, ["pairs", "width", "found", "weight", "row", "one", "number"], ["pairs", "width"], PySem.W.mg_of X G a, F, F.binds fun _ _ _ _ _ _ us hl => match us, hl with | [_, _], _ => rfl, ⟨rfl, rfl, rfl, by decide +kernel, rfl, by decide +kernel, by decide +kernel⟩, rfl, rfl, by decide +kernel⟩⟩
theorem e_law_some_lot {K : PySem.W.Frag} {mg : Str → Option Value} {h : Heap} (X : K.In h) (G : h.Ns mainGlobals mg) {fa : Addr} {od an : Option Addr} {sl : Array (Option Value)} {oc kV dc pm cd ct : Value}
    (a : PySem.W.nsIn K mainGlobals "_law_some_lot" = some (some (.ref fa))) (l : K.lookup fa = some ⟨oc, od, .func (PySem.W.fnOf "_law_some_lot" "_law_some_lot" (defArgs (topS 50)) (defBody (topS 50)) (defScope (topS 50)) .none kV dc pm an cd ct), sl⟩)
    (c : PySem.W.codeIn K cd "_law_some_lot" = true) (kp : PySem.W.keepIn K (.ref fa) = true) : Entry K mg gc "_law_some_lot" ⟨1, 11, b_law_some_lot⟩ :=
  have F := fun_mk (st := topS 50) l c kp
  ⟨⟨topS 50, fa, _, ["dice", "parts", "part", "n", "is_flat", "found", "r", "row", "turn", "j", "i"], ["dice"], PySem.W.mg_of X G a, F, F.binds fun _ _ _ _ _ _ us hl => match us, hl with | [_], _ => rfl, ⟨rfl, rfl, rfl, by decide +kernel, rfl, by decide +kernel, by decide +kernel⟩, rfl, rfl, by decide +kernel⟩⟩
theorem e_law_made {K : PySem.W.Frag} {mg : Str → Option Value} {h : Heap} (X : K.In h) (G : h.Ns mainGlobals mg) {fa : Addr} {od an : Option Addr} {sl : Array (Option Value)} {oc kV dc pm cd ct : Value}
    (a : PySem.W.nsIn K mainGlobals "_law_made" = some (some (.ref fa))) (l : K.lookup fa = some ⟨oc, od, .func (PySem.W.fnOf "_law_made" "_law_made" (defArgs (topS 51)) (defBody (topS 51)) (defScope (topS 51)) .none kV dc pm an cd ct), sl⟩)
    (c : PySem.W.codeIn K cd "_law_made" = true) (kp : PySem.W.keepIn K (.ref fa) = true) : Entry K mg gc "_law_made" ⟨2, 6, b_law_made⟩ :=
  have F := fun_mk (st := topS 51) l c kp
  ⟨⟨topS 51, fa, _, ["value", "is_flat", "rows", "i", "weight", "member"], ["value", "is_flat"], PySem.W.mg_of X G a, F, F.binds fun _ _ _ _ _ _ us hl => match us, hl with | [_, _], _ => rfl, ⟨rfl, rfl, rfl, by decide +kernel, rfl, by decide +kernel, by decide +kernel⟩, rfl, rfl, by decide +kernel⟩⟩
theorem e_law_drawn {K : PySem.W.Frag} {mg : Str → Option Value} {h : Heap} (X : K.In h) (G : h.Ns mainGlobals mg) {fa : Addr} {od an : Option Addr} {sl : Array (Option Value)} {oc kV dc pm cd ct : Value}
    (a : PySem.W.nsIn K mainGlobals "_law_drawn" = some (some (.ref fa))) (l : K.lookup fa = some ⟨oc, od, .func (PySem.W.fnOf "_law_drawn" "_law_drawn" (defArgs (topS 52)) (defBody (topS 52)) (defScope (topS 52)) .none kV dc pm an cd ct), sl⟩)
    (c : PySem.W.codeIn K cd "_law_drawn" = true) (kp : PySem.W.keepIn K (.ref fa) = true) : Entry K mg gc "_law_drawn" ⟨2, 5, b_law_drawn⟩ :=
  have F := fun_mk (st := topS 52) l c kp
  ⟨⟨topS 52, fa, _, ["value", "u", "total", "weight", "member"], ["value", "u"], PySem.W.mg_of X G a, F, F.binds fun _ _ _ _ _ _ us hl => match us, hl with | [_, _], _ => rfl, ⟨rfl, rfl, rfl, by decide +kernel, rfl, by decide +kernel, by decide +kernel⟩, rfl, rfl, by decide +kernel⟩⟩
theorem e_law_right {K : PySem.W.Frag} {mg : Str → Option Value} {h : Heap} (X : K.In h) (G : h.Ns mainGlobals mg) {fa : Addr} {od an : Option Addr} {sl : Array (Option Value)} {oc kV dc pm cd ct : Value}
    (a : PySem.W.nsIn K mainGlobals "_law_right" = some (some (.ref fa))) (l : K.lookup fa = some ⟨oc, od, .func (PySem.W.fnOf "_law_right" "_law_right" (defArgs (topS 53)) (defBody (topS 53)) (defScope (topS 53)) .none kV dc pm an cd ct), sl⟩)
    (c : PySem.W.codeIn K cd "_law_right" = true) (kp : PySem.W.keepIn K (.ref fa) = true) : Entry K mg gc "_law_right" ⟨1, 8, b_law_right⟩ :=
  have F := fun_mk (st := topS 53) l c kp
  ⟨⟨topS 53, fa, _, ["dice", "ends", "value", "is_flat", "total", "weight", "member", "u"], ["dice"], PySem.W.mg_of X G a, F, F.binds fun _ _ _ _ _ _ us hl => match us, hl with | [_], _ => rfl, ⟨rfl, rfl, rfl, by decide +kernel, rfl, by decide +kernel, by decide +kernel⟩, rfl, rfl, by decide +kernel⟩⟩
theorem e_law {K : PySem.W.Frag} {mg : Str → Option Value} {h : Heap} (X : K.In h) (G : h.Ns mainGlobals mg) {fa : Addr} {od an : Option Addr} {sl : Array (Option Value)} {oc kV dc pm cd ct : Value}
    (a : PySem.W.nsIn K mainGlobals "law" = some (some (.ref fa))) (l : K.lookup fa = some ⟨oc, od, .func (PySem.W.fnOf "law" "law" (defArgs (topS 54)) (defBody (topS 54)) (defScope (topS 54)) .none kV dc pm an cd ct), sl⟩)
    (c : PySem.W.codeIn K cd "law" = true) (kp : PySem.W.keepIn K (.ref fa) = true) : Entry K mg gc "law" ⟨1, 5, b_law⟩ :=
  have F := fun_mk (st := topS 54) l c kp
  ⟨⟨topS 54, fa, _, ["script", "spot", "some", "dice", "turn"], ["script"], PySem.W.mg_of X G a, F, F.binds fun _ _ _ _ _ _ us hl => match us, hl with | [_], _ => rfl, ⟨rfl, rfl, rfl, by decide +kernel, rfl, by decide +kernel, by decide +kernel⟩, rfl, rfl, by decide +kernel⟩⟩
end K85
end
section
set_option Elab.async false
set_option linter.all false
set_option maxRecDepth 100000
set_option maxHeartbeats 1000000
open Mini PySem
namespace K85
abbrev G (n : Nat) : Ge := geOf table gl n
section
variable {n : Nat} {μ : Store}
theorem is_whole_i {i : Int} : (G (n + 1)).fn 0 [.d (.int i)] μ = some (rd (.bool true), μ) := by
  apply Run.eq
  refine run_fn (bd := b_is_whole) rfl rfl ?_; unfold b_is_whole; simp only [List.map_cons, List.map_nil, List.cons_append, List.nil_append, List.append_nil, List.replicate_succ, List.replicate_zero, Nat.reduceSub]
  simp only [↓rSs_cons, ↓rSs_nil, ↓rS_asg, ↓rS_tup, ↓rS_par, ↓rS_bxa, ↓rS_app, ↓rS_set, ↓rS_aug, ↓rS_ret, ↓rS_retN, ↓rS_ife, ↓rS_for, ↓rS_while, ↓rS_pass, ↓rS_brk, ↓rS_cont, ↓rS_expr, ↓rE_var, ↓rE_cst, ↓rE_glb, ↓rE_bin, ↓rE_neg, ↓rE_not, ↓rE_cmp, ↓rE_chain, ↓rE_and, ↓rE_or, ↓rE_ife, ↓rE_call, ↓rE_b1, ↓rE_b2, ↓rE_isi, ↓rE_ix, ↓rE_sl, ↓rE_tup, ↓rE_lst, ↓rE_lc, ↓rEs_nil, ↓rEs_cons, ↓rEo_no, ↓rEo_so, ↓rC_no, ↓rC_so, ↓rI_sq, ↓rI_r1, ↓rI_r2, ↓rI_zip, ↓rI_enu, after_nx, after_rt, after_bk, after_ct, Run.some, Run.none, Run.map, Run.ifn, RunIf.tt, RunIf.ff, RunIf.not_, w_d, R.norm_d, R.norm_w, R.norm_l, peek_d, toD_d, tst_b, tst_i, tst_l, tst_t, tst_n, slot_0, slot_s, mkW_f, mkW_t, toBx_b, toInt_i, augV_a, augV_s, retR_d, retR_rd, retR_f, endOf_d, endOf_rd, endOf_f, endOf_n, geOf_glob, bind_nm, bind_tp, setAll_nil, setAll_cons, wipe_nil, wipe_cons, add_ii, sub_ii, add_ll, add_tt, mul_li, lt_ii, le_ii, gt_ii, ge_ii, eq_ii, ne_ii, eq_ss, ne_ss, Mini.is_none, Mini.isnot_none, len_l, len_t, abs_i, int_i, int_b, tuple_l, tuple_t, list_l, list_t, max_ii, min_ii, isi_int, isi_bool, isi_tup, isi_str, isi_lst, isIntD, isBoolD, isStrD, isTupD, isLstD, ix_l, ix_t, at_0, seq_l, seq_t, lstOf_l, rng1_i, rng2_i, optInt_n, optInt_i, sl_l, sl_t, mapM_nil, mapM_cons, at_1, at_2, at_3, at_4, Option.map_some, List.map_cons, List.map_nil, List.cons_append, List.nil_append, List.append_nil, List.length_cons, List.length_nil, List.set_cons_zero, List.set_cons_succ, List.take_length, List.replicate_succ, List.replicate_zero, sz, decide_eq_true_eq, Nat.zero_add, Nat.reduceAdd, Nat.reduceLeDiff, true_and, and_true, Nat.sub_self, Nat.reduceSub, gl, glVals, List.getElem?_cons_zero, List.getElem?_cons_succ, Bool.not_true, Bool.not_false]
theorem is_whole_t {l : List D} : (G (n + 1)).fn 0 [.d (.tuple l)] μ = some (rd (.bool false), μ) := by
  apply Run.eq
  refine run_fn (bd := b_is_whole) rfl rfl ?_; unfold b_is_whole; simp only [List.map_cons, List.map_nil, List.cons_append, List.nil_append, List.append_nil, List.replicate_succ, List.replicate_zero, Nat.reduceSub]
  simp only [↓rSs_cons, ↓rSs_nil, ↓rS_asg, ↓rS_tup, ↓rS_par, ↓rS_bxa, ↓rS_app, ↓rS_set, ↓rS_aug, ↓rS_ret, ↓rS_retN, ↓rS_ife, ↓rS_for, ↓rS_while, ↓rS_pass, ↓rS_brk, ↓rS_cont, ↓rS_expr, ↓rE_var, ↓rE_cst, ↓rE_glb, ↓rE_bin, ↓rE_neg, ↓rE_not, ↓rE_cmp, ↓rE_chain, ↓rE_and, ↓rE_or, ↓rE_ife, ↓rE_call, ↓rE_b1, ↓rE_b2, ↓rE_isi, ↓rE_ix, ↓rE_sl, ↓rE_tup, ↓rE_lst, ↓rE_lc, ↓rEs_nil, ↓rEs_cons, ↓rEo_no, ↓rEo_so, ↓rC_no, ↓rC_so, ↓rI_sq, ↓rI_r1, ↓rI_r2, ↓rI_zip, ↓rI_enu, after_nx, after_rt, after_bk, after_ct, Run.some, Run.none, Run.map, Run.ifn, RunIf.tt, RunIf.ff, RunIf.not_, w_d, R.norm_d, R.norm_w, R.norm_l, peek_d, toD_d, tst_b, tst_i, tst_l, tst_t, tst_n, slot_0, slot_s, mkW_f, mkW_t, toBx_b, toInt_i, augV_a, augV_s, retR_d, retR_rd, retR_f, endOf_d, endOf_rd, endOf_f, endOf_n, geOf_glob, bind_nm, bind_tp, setAll_nil, setAll_cons, wipe_nil, wipe_cons, add_ii, sub_ii, add_ll, add_tt, mul_li, lt_ii, le_ii, gt_ii, ge_ii, eq_ii, ne_ii, eq_ss, ne_ss, Mini.is_none, Mini.isnot_none, len_l, len_t, abs_i, int_i, int_b, tuple_l, tuple_t, list_l, list_t, max_ii, min_ii, isi_int, isi_bool, isi_tup, isi_str, isi_lst, isIntD, isBoolD, isStrD, isTupD, isLstD, ix_l, ix_t, at_0, seq_l, seq_t, lstOf_l, rng1_i, rng2_i, optInt_n, optInt_i, sl_l, sl_t, mapM_nil, mapM_cons, at_1, at_2, at_3, at_4, Option.map_some, List.map_cons, List.map_nil, List.cons_append, List.nil_append, List.append_nil, List.length_cons, List.length_nil, List.set_cons_zero, List.set_cons_succ, List.take_length, List.replicate_succ, List.replicate_zero, sz, decide_eq_true_eq, Nat.zero_add, Nat.reduceAdd, Nat.reduceLeDiff, true_and, and_true, Nat.sub_self, Nat.reduceSub, gl, glVals, List.getElem?_cons_zero, List.getElem?_cons_succ, Bool.not_true, Bool.not_false]
theorem is_near_i {i : Int} (h : i.natAbs < 10 ^ 60) : (G (n + 2)).fn 1 [.d (.int i)] μ = some (rd (.bool true), μ) := by
  apply Run.eq
  refine run_fn (bd := b_is_near) rfl rfl ?_; unfold b_is_near; simp only [List.map_cons, List.map_nil, List.cons_append, List.nil_append, List.append_nil, List.replicate_succ, List.replicate_zero, Nat.reduceSub]
  simp only [↓rSs_cons, ↓rSs_nil, ↓rS_asg, ↓rS_tup, ↓rS_par, ↓rS_bxa, ↓rS_app, ↓rS_set, ↓rS_aug, ↓rS_ret, ↓rS_retN, ↓rS_ife, ↓rS_for, ↓rS_while, ↓rS_pass, ↓rS_brk, ↓rS_cont, ↓rS_expr, ↓rE_var, ↓rE_cst, ↓rE_glb, ↓rE_bin, ↓rE_neg, ↓rE_not, ↓rE_cmp, ↓rE_chain, ↓rE_and, ↓rE_or, ↓rE_ife, ↓rE_call, ↓rE_b1, ↓rE_b2, ↓rE_isi, ↓rE_ix, ↓rE_sl, ↓rE_tup, ↓rE_lst, ↓rE_lc, ↓rEs_nil, ↓rEs_cons, ↓rEo_no, ↓rEo_so, ↓rC_no, ↓rC_so, ↓rI_sq, ↓rI_r1, ↓rI_r2, ↓rI_zip, ↓rI_enu, after_nx, after_rt, after_bk, after_ct, Run.some, Run.none, Run.map, Run.ifn, RunIf.tt, RunIf.ff, RunIf.not_, w_d, R.norm_d, R.norm_w, R.norm_l, peek_d, toD_d, tst_b, tst_i, tst_l, tst_t, tst_n, slot_0, slot_s, mkW_f, mkW_t, toBx_b, toInt_i, augV_a, augV_s, retR_d, retR_rd, retR_f, endOf_d, endOf_rd, endOf_f, endOf_n, geOf_glob, bind_nm, bind_tp, setAll_nil, setAll_cons, wipe_nil, wipe_cons, add_ii, sub_ii, add_ll, add_tt, mul_li, lt_ii, le_ii, gt_ii, ge_ii, eq_ii, ne_ii, eq_ss, ne_ss, Mini.is_none, Mini.isnot_none, len_l, len_t, abs_i, int_i, int_b, tuple_l, tuple_t, list_l, list_t, max_ii, min_ii, isi_int, isi_bool, isi_tup, isi_str, isi_lst, isIntD, isBoolD, isStrD, isTupD, isLstD, ix_l, ix_t, at_0, seq_l, seq_t, lstOf_l, rng1_i, rng2_i, optInt_n, optInt_i, sl_l, sl_t, mapM_nil, mapM_cons, at_1, at_2, at_3, at_4, Option.map_some, List.map_cons, List.map_nil, List.cons_append, List.nil_append, List.append_nil, List.length_cons, List.length_nil, List.set_cons_zero, List.set_cons_succ, List.take_length, List.replicate_succ, List.replicate_zero, sz, decide_eq_true_eq, Nat.zero_add, Nat.reduceAdd, Nat.reduceLeDiff, true_and, and_true, Nat.sub_self, Nat.reduceSub, gl, glVals, List.getElem?_cons_zero, List.getElem?_cons_succ, Bool.not_true, Bool.not_false, is_whole_i]
  have h1 : -1000000000000000000000000000000000000000000000000000000000000 < i := by omega
  have h2 : i < 1000000000000000000000000000000000000000000000000000000000000 := by omega
  refine .pos h1 ?_
  simp only [↓rSs_cons, ↓rSs_nil, ↓rS_asg, ↓rS_tup, ↓rS_par, ↓rS_bxa, ↓rS_app, ↓rS_set, ↓rS_aug, ↓rS_ret, ↓rS_retN, ↓rS_ife, ↓rS_for, ↓rS_while, ↓rS_pass, ↓rS_brk, ↓rS_cont, ↓rS_expr, ↓rE_var, ↓rE_cst, ↓rE_glb, ↓rE_bin, ↓rE_neg, ↓rE_not, ↓rE_cmp, ↓rE_chain, ↓rE_and, ↓rE_or, ↓rE_ife, ↓rE_call, ↓rE_b1, ↓rE_b2, ↓rE_isi, ↓rE_ix, ↓rE_sl, ↓rE_tup, ↓rE_lst, ↓rE_lc, ↓rEs_nil, ↓rEs_cons, ↓rEo_no, ↓rEo_so, ↓rC_no, ↓rC_so, ↓rI_sq, ↓rI_r1, ↓rI_r2, ↓rI_zip, ↓rI_enu, after_nx, after_rt, after_bk, after_ct, Run.some, Run.none, Run.map, Run.ifn, RunIf.tt, RunIf.ff, RunIf.not_, w_d, R.norm_d, R.norm_w, R.norm_l, peek_d, toD_d, tst_b, tst_i, tst_l, tst_t, tst_n, slot_0, slot_s, mkW_f, mkW_t, toBx_b, toInt_i, augV_a, augV_s, retR_d, retR_rd, retR_f, endOf_d, endOf_rd, endOf_f, endOf_n, geOf_glob, bind_nm, bind_tp, setAll_nil, setAll_cons, wipe_nil, wipe_cons, add_ii, sub_ii, add_ll, add_tt, mul_li, lt_ii, le_ii, gt_ii, ge_ii, eq_ii, ne_ii, eq_ss, ne_ss, Mini.is_none, Mini.isnot_none, len_l, len_t, abs_i, int_i, int_b, tuple_l, tuple_t, list_l, list_t, max_ii, min_ii, isi_int, isi_bool, isi_tup, isi_str, isi_lst, isIntD, isBoolD, isStrD, isTupD, isLstD, ix_l, ix_t, at_0, seq_l, seq_t, lstOf_l, rng1_i, rng2_i, optInt_n, optInt_i, sl_l, sl_t, mapM_nil, mapM_cons, at_1, at_2, at_3, at_4, Option.map_some, List.map_cons, List.map_nil, List.cons_append, List.nil_append, List.append_nil, List.length_cons, List.length_nil, List.set_cons_zero, List.set_cons_succ, List.take_length, List.replicate_succ, List.replicate_zero, sz, decide_eq_true_eq, Nat.zero_add, Nat.reduceAdd, Nat.reduceLeDiff, true_and, and_true, Nat.sub_self, Nat.reduceSub, gl, glVals, List.getElem?_cons_zero, List.getElem?_cons_succ, Bool.not_true, Bool.not_false]
  rw [decide_eq_true h2]
theorem is_within_i {i a b : Int} : (G (n + 2)).fn 2 [.d (.int i), .d (.int a), .d (.int b)] μ = some (rd (.bool (decide (a ≤ i ∧ i ≤ b))), μ) := by
  apply Run.eq
  refine run_fn (bd := b_is_within) rfl rfl ?_; unfold b_is_within; simp only [List.map_cons, List.map_nil, List.cons_append, List.nil_append, List.append_nil, List.replicate_succ, List.replicate_zero, Nat.reduceSub]
  simp only [↓rSs_cons, ↓rSs_nil, ↓rS_asg, ↓rS_tup, ↓rS_par, ↓rS_bxa, ↓rS_app, ↓rS_set, ↓rS_aug, ↓rS_ret, ↓rS_retN, ↓rS_ife, ↓rS_for, ↓rS_while, ↓rS_pass, ↓rS_brk, ↓rS_cont, ↓rS_expr, ↓rE_var, ↓rE_cst, ↓rE_glb, ↓rE_bin, ↓rE_neg, ↓rE_not, ↓rE_cmp, ↓rE_chain, ↓rE_and, ↓rE_or, ↓rE_ife, ↓rE_call, ↓rE_b1, ↓rE_b2, ↓rE_isi, ↓rE_ix, ↓rE_sl, ↓rE_tup, ↓rE_lst, ↓rE_lc, ↓rEs_nil, ↓rEs_cons, ↓rEo_no, ↓rEo_so, ↓rC_no, ↓rC_so, ↓rI_sq, ↓rI_r1, ↓rI_r2, ↓rI_zip, ↓rI_enu, after_nx, after_rt, after_bk, after_ct, Run.some, Run.none, Run.map, Run.ifn, RunIf.tt, RunIf.ff, RunIf.not_, w_d, R.norm_d, R.norm_w, R.norm_l, peek_d, toD_d, tst_b, tst_i, tst_l, tst_t, tst_n, slot_0, slot_s, mkW_f, mkW_t, toBx_b, toInt_i, augV_a, augV_s, retR_d, retR_rd, retR_f, endOf_d, endOf_rd, endOf_f, endOf_n, geOf_glob, bind_nm, bind_tp, setAll_nil, setAll_cons, wipe_nil, wipe_cons, add_ii, sub_ii, add_ll, add_tt, mul_li, lt_ii, le_ii, gt_ii, ge_ii, eq_ii, ne_ii, eq_ss, ne_ss, Mini.is_none, Mini.isnot_none, len_l, len_t, abs_i, int_i, int_b, tuple_l, tuple_t, list_l, list_t, max_ii, min_ii, isi_int, isi_bool, isi_tup, isi_str, isi_lst, isIntD, isBoolD, isStrD, isTupD, isLstD, ix_l, ix_t, at_0, seq_l, seq_t, lstOf_l, rng1_i, rng2_i, optInt_n, optInt_i, sl_l, sl_t, mapM_nil, mapM_cons, at_1, at_2, at_3, at_4, Option.map_some, List.map_cons, List.map_nil, List.cons_append, List.nil_append, List.append_nil, List.length_cons, List.length_nil, List.set_cons_zero, List.set_cons_succ, List.take_length, List.replicate_succ, List.replicate_zero, sz, decide_eq_true_eq, Nat.zero_add, Nat.reduceAdd, Nat.reduceLeDiff, true_and, and_true, Nat.sub_self, Nat.reduceSub, gl, glVals, List.getElem?_cons_zero, List.getElem?_cons_succ, Bool.not_true, Bool.not_false, is_whole_i]
  refine .dec (fun h => ?_) fun h => ?_
  · simp only [↓rSs_cons, ↓rSs_nil, ↓rS_asg, ↓rS_tup, ↓rS_par, ↓rS_bxa, ↓rS_app, ↓rS_set, ↓rS_aug, ↓rS_ret, ↓rS_retN, ↓rS_ife, ↓rS_for, ↓rS_while, ↓rS_pass, ↓rS_brk, ↓rS_cont, ↓rS_expr, ↓rE_var, ↓rE_cst, ↓rE_glb, ↓rE_bin, ↓rE_neg, ↓rE_not, ↓rE_cmp, ↓rE_chain, ↓rE_and, ↓rE_or, ↓rE_ife, ↓rE_call, ↓rE_b1, ↓rE_b2, ↓rE_isi, ↓rE_ix, ↓rE_sl, ↓rE_tup, ↓rE_lst, ↓rE_lc, ↓rEs_nil, ↓rEs_cons, ↓rEo_no, ↓rEo_so, ↓rC_no, ↓rC_so, ↓rI_sq, ↓rI_r1, ↓rI_r2, ↓rI_zip, ↓rI_enu, after_nx, after_rt, after_bk, after_ct, Run.some, Run.none, Run.map, Run.ifn, RunIf.tt, RunIf.ff, RunIf.not_, w_d, R.norm_d, R.norm_w, R.norm_l, peek_d, toD_d, tst_b, tst_i, tst_l, tst_t, tst_n, slot_0, slot_s, mkW_f, mkW_t, toBx_b, toInt_i, augV_a, augV_s, retR_d, retR_rd, retR_f, endOf_d, endOf_rd, endOf_f, endOf_n, geOf_glob, bind_nm, bind_tp, setAll_nil, setAll_cons, wipe_nil, wipe_cons, add_ii, sub_ii, add_ll, add_tt, mul_li, lt_ii, le_ii, gt_ii, ge_ii, eq_ii, ne_ii, eq_ss, ne_ss, Mini.is_none, Mini.isnot_none, len_l, len_t, abs_i, int_i, int_b, tuple_l, tuple_t, list_l, list_t, max_ii, min_ii, isi_int, isi_bool, isi_tup, isi_str, isi_lst, isIntD, isBoolD, isStrD, isTupD, isLstD, ix_l, ix_t, at_0, seq_l, seq_t, lstOf_l, rng1_i, rng2_i, optInt_n, optInt_i, sl_l, sl_t, mapM_nil, mapM_cons, at_1, at_2, at_3, at_4, Option.map_some, List.map_cons, List.map_nil, List.cons_append, List.nil_append, List.append_nil, List.length_cons, List.length_nil, List.set_cons_zero, List.set_cons_succ, List.take_length, List.replicate_succ, List.replicate_zero, sz, decide_eq_true_eq, Nat.zero_add, Nat.reduceAdd, Nat.reduceLeDiff, true_and, and_true, Nat.sub_self, Nat.reduceSub, gl, glVals, List.getElem?_cons_zero, List.getElem?_cons_succ, Bool.not_true, Bool.not_false, h]
  · simp only [↓rSs_cons, ↓rSs_nil, ↓rS_asg, ↓rS_tup, ↓rS_par, ↓rS_bxa, ↓rS_app, ↓rS_set, ↓rS_aug, ↓rS_ret, ↓rS_retN, ↓rS_ife, ↓rS_for, ↓rS_while, ↓rS_pass, ↓rS_brk, ↓rS_cont, ↓rS_expr, ↓rE_var, ↓rE_cst, ↓rE_glb, ↓rE_bin, ↓rE_neg, ↓rE_not, ↓rE_cmp, ↓rE_chain, ↓rE_and, ↓rE_or, ↓rE_ife, ↓rE_call, ↓rE_b1, ↓rE_b2, ↓rE_isi, ↓rE_ix, ↓rE_sl, ↓rE_tup, ↓rE_lst, ↓rE_lc, ↓rEs_nil, ↓rEs_cons, ↓rEo_no, ↓rEo_so, ↓rC_no, ↓rC_so, ↓rI_sq, ↓rI_r1, ↓rI_r2, ↓rI_zip, ↓rI_enu, after_nx, after_rt, after_bk, after_ct, Run.some, Run.none, Run.map, Run.ifn, RunIf.tt, RunIf.ff, RunIf.not_, w_d, R.norm_d, R.norm_w, R.norm_l, peek_d, toD_d, tst_b, tst_i, tst_l, tst_t, tst_n, slot_0, slot_s, mkW_f, mkW_t, toBx_b, toInt_i, augV_a, augV_s, retR_d, retR_rd, retR_f, endOf_d, endOf_rd, endOf_f, endOf_n, geOf_glob, bind_nm, bind_tp, setAll_nil, setAll_cons, wipe_nil, wipe_cons, add_ii, sub_ii, add_ll, add_tt, mul_li, lt_ii, le_ii, gt_ii, ge_ii, eq_ii, ne_ii, eq_ss, ne_ss, Mini.is_none, Mini.isnot_none, len_l, len_t, abs_i, int_i, int_b, tuple_l, tuple_t, list_l, list_t, max_ii, min_ii, isi_int, isi_bool, isi_tup, isi_str, isi_lst, isIntD, isBoolD, isStrD, isTupD, isLstD, ix_l, ix_t, at_0, seq_l, seq_t, lstOf_l, rng1_i, rng2_i, optInt_n, optInt_i, sl_l, sl_t, mapM_nil, mapM_cons, at_1, at_2, at_3, at_4, Option.map_some, List.map_cons, List.map_nil, List.cons_append, List.nil_append, List.append_nil, List.length_cons, List.length_nil, List.set_cons_zero, List.set_cons_succ, List.take_length, List.replicate_succ, List.replicate_zero, sz, decide_eq_true_eq, Nat.zero_add, Nat.reduceAdd, Nat.reduceLeDiff, true_and, and_true, Nat.sub_self, Nat.reduceSub, gl, glVals, List.getElem?_cons_zero, List.getElem?_cons_succ, Bool.not_true, Bool.not_false, h, false_and, decide_false]
theorem is_within_t {l : List D} {a b : Int} : (G (n + 2)).fn 2 [.d (.tuple l), .d (.int a), .d (.int b)] μ = some (rd (.bool false), μ) := by
  apply Run.eq
  refine run_fn (bd := b_is_within) rfl rfl ?_; unfold b_is_within; simp only [List.map_cons, List.map_nil, List.cons_append, List.nil_append, List.append_nil, List.replicate_succ, List.replicate_zero, Nat.reduceSub]
  simp only [↓rSs_cons, ↓rSs_nil, ↓rS_asg, ↓rS_tup, ↓rS_par, ↓rS_bxa, ↓rS_app, ↓rS_set, ↓rS_aug, ↓rS_ret, ↓rS_retN, ↓rS_ife, ↓rS_for, ↓rS_while, ↓rS_pass, ↓rS_brk, ↓rS_cont, ↓rS_expr, ↓rE_var, ↓rE_cst, ↓rE_glb, ↓rE_bin, ↓rE_neg, ↓rE_not, ↓rE_cmp, ↓rE_chain, ↓rE_and, ↓rE_or, ↓rE_ife, ↓rE_call, ↓rE_b1, ↓rE_b2, ↓rE_isi, ↓rE_ix, ↓rE_sl, ↓rE_tup, ↓rE_lst, ↓rE_lc, ↓rEs_nil, ↓rEs_cons, ↓rEo_no, ↓rEo_so, ↓rC_no, ↓rC_so, ↓rI_sq, ↓rI_r1, ↓rI_r2, ↓rI_zip, ↓rI_enu, after_nx, after_rt, after_bk, after_ct, Run.some, Run.none, Run.map, Run.ifn, RunIf.tt, RunIf.ff, RunIf.not_, w_d, R.norm_d, R.norm_w, R.norm_l, peek_d, toD_d, tst_b, tst_i, tst_l, tst_t, tst_n, slot_0, slot_s, mkW_f, mkW_t, toBx_b, toInt_i, augV_a, augV_s, retR_d, retR_rd, retR_f, endOf_d, endOf_rd, endOf_f, endOf_n, geOf_glob, bind_nm, bind_tp, setAll_nil, setAll_cons, wipe_nil, wipe_cons, add_ii, sub_ii, add_ll, add_tt, mul_li, lt_ii, le_ii, gt_ii, ge_ii, eq_ii, ne_ii, eq_ss, ne_ss, Mini.is_none, Mini.isnot_none, len_l, len_t, abs_i, int_i, int_b, tuple_l, tuple_t, list_l, list_t, max_ii, min_ii, isi_int, isi_bool, isi_tup, isi_str, isi_lst, isIntD, isBoolD, isStrD, isTupD, isLstD, ix_l, ix_t, at_0, seq_l, seq_t, lstOf_l, rng1_i, rng2_i, optInt_n, optInt_i, sl_l, sl_t, mapM_nil, mapM_cons, at_1, at_2, at_3, at_4, Option.map_some, List.map_cons, List.map_nil, List.cons_append, List.nil_append, List.append_nil, List.length_cons, List.length_nil, List.set_cons_zero, List.set_cons_succ, List.take_length, List.replicate_succ, List.replicate_zero, sz, decide_eq_true_eq, Nat.zero_add, Nat.reduceAdd, Nat.reduceLeDiff, true_and, and_true, Nat.sub_self, Nat.reduceSub, gl, glVals, List.getElem?_cons_zero, List.getElem?_cons_succ, Bool.not_true, Bool.not_false, is_whole_t]
theorem is_pair_t {x y : D} : (G (n + 1)).fn 3 [.d (.tuple [x, y])] μ = some (rd (.bool true), μ) := by
  apply Run.eq
  refine run_fn (bd := b_is_pair) rfl rfl ?_; unfold b_is_pair; simp only [List.map_cons, List.map_nil, List.cons_append, List.nil_append, List.append_nil, List.replicate_succ, List.replicate_zero, Nat.reduceSub]
  simp only [↓rSs_cons, ↓rSs_nil, ↓rS_asg, ↓rS_tup, ↓rS_par, ↓rS_bxa, ↓rS_app, ↓rS_set, ↓rS_aug, ↓rS_ret, ↓rS_retN, ↓rS_ife, ↓rS_for, ↓rS_while, ↓rS_pass, ↓rS_brk, ↓rS_cont, ↓rS_expr, ↓rE_var, ↓rE_cst, ↓rE_glb, ↓rE_bin, ↓rE_neg, ↓rE_not, ↓rE_cmp, ↓rE_chain, ↓rE_and, ↓rE_or, ↓rE_ife, ↓rE_call, ↓rE_b1, ↓rE_b2, ↓rE_isi, ↓rE_ix, ↓rE_sl, ↓rE_tup, ↓rE_lst, ↓rE_lc, ↓rEs_nil, ↓rEs_cons, ↓rEo_no, ↓rEo_so, ↓rC_no, ↓rC_so, ↓rI_sq, ↓rI_r1, ↓rI_r2, ↓rI_zip, ↓rI_enu, after_nx, after_rt, after_bk, after_ct, Run.some, Run.none, Run.map, Run.ifn, RunIf.tt, RunIf.ff, RunIf.not_, w_d, R.norm_d, R.norm_w, R.norm_l, peek_d, toD_d, tst_b, tst_i, tst_l, tst_t, tst_n, slot_0, slot_s, mkW_f, mkW_t, toBx_b, toInt_i, augV_a, augV_s, retR_d, retR_rd, retR_f, endOf_d, endOf_rd, endOf_f, endOf_n, geOf_glob, bind_nm, bind_tp, setAll_nil, setAll_cons, wipe_nil, wipe_cons, add_ii, sub_ii, add_ll, add_tt, mul_li, lt_ii, le_ii, gt_ii, ge_ii, eq_ii, ne_ii, eq_ss, ne_ss, Mini.is_none, Mini.isnot_none, len_l, len_t, abs_i, int_i, int_b, tuple_l, tuple_t, list_l, list_t, max_ii, min_ii, isi_int, isi_bool, isi_tup, isi_str, isi_lst, isIntD, isBoolD, isStrD, isTupD, isLstD, ix_l, ix_t, at_0, seq_l, seq_t, lstOf_l, rng1_i, rng2_i, optInt_n, optInt_i, sl_l, sl_t, mapM_nil, mapM_cons, at_1, at_2, at_3, at_4, Option.map_some, List.map_cons, List.map_nil, List.cons_append, List.nil_append, List.append_nil, List.length_cons, List.length_nil, List.set_cons_zero, List.set_cons_succ, List.take_length, List.replicate_succ, List.replicate_zero, sz, decide_eq_true_eq, Nat.zero_add, Nat.reduceAdd, Nat.reduceLeDiff, true_and, and_true, Nat.sub_self, Nat.reduceSub, gl, glVals, List.getElem?_cons_zero, List.getElem?_cons_succ, Bool.not_true, Bool.not_false]
  rfl
theorem common_divisor_i {a b : Int} (h : Bt 9000 b) : (G (n + 1)).fn 4 [.d (.int a), .d (.int b)] μ = some (rd (.int (Int.gcd a b)), μ) := by
  apply Run.eq
  refine run_fn (bd := b_common_divisor) rfl rfl ?_; unfold b_common_divisor; simp only [List.map_cons, List.map_nil, List.cons_append, List.nil_append, List.append_nil, List.replicate_succ, List.replicate_zero, Nat.reduceSub]
  simp only [↓rSs_cons, ↓rSs_nil, ↓rS_asg, ↓rS_tup, ↓rS_par, ↓rS_bxa, ↓rS_app, ↓rS_set, ↓rS_aug, ↓rS_ret, ↓rS_retN, ↓rS_ife, ↓rS_for, ↓rS_while, ↓rS_pass, ↓rS_brk, ↓rS_cont, ↓rS_expr, ↓rE_var, ↓rE_cst, ↓rE_glb, ↓rE_bin, ↓rE_neg, ↓rE_not, ↓rE_cmp, ↓rE_chain, ↓rE_and, ↓rE_or, ↓rE_ife, ↓rE_call, ↓rE_b1, ↓rE_b2, ↓rE_isi, ↓rE_ix, ↓rE_sl, ↓rE_tup, ↓rE_lst, ↓rE_lc, ↓rEs_nil, ↓rEs_cons, ↓rEo_no, ↓rEo_so, ↓rC_no, ↓rC_so, ↓rI_sq, ↓rI_r1, ↓rI_r2, ↓rI_zip, ↓rI_enu, after_nx, after_rt, after_bk, after_ct, Run.some, Run.none, Run.map, Run.ifn, RunIf.tt, RunIf.ff, RunIf.not_, w_d, R.norm_d, R.norm_w, R.norm_l, peek_d, toD_d, tst_b, tst_i, tst_l, tst_t, tst_n, slot_0, slot_s, mkW_f, mkW_t, toBx_b, toInt_i, augV_a, augV_s, retR_d, retR_rd, retR_f, endOf_d, endOf_rd, endOf_f, endOf_n, geOf_glob, bind_nm, bind_tp, setAll_nil, setAll_cons, wipe_nil, wipe_cons, add_ii, sub_ii, add_ll, add_tt, mul_li, lt_ii, le_ii, gt_ii, ge_ii, eq_ii, ne_ii, eq_ss, ne_ss, Mini.is_none, Mini.isnot_none, len_l, len_t, abs_i, int_i, int_b, tuple_l, tuple_t, list_l, list_t, max_ii, min_ii, isi_int, isi_bool, isi_tup, isi_str, isi_lst, isIntD, isBoolD, isStrD, isTupD, isLstD, ix_l, ix_t, at_0, seq_l, seq_t, lstOf_l, rng1_i, rng2_i, optInt_n, optInt_i, sl_l, sl_t, mapM_nil, mapM_cons, at_1, at_2, at_3, at_4, Option.map_some, List.map_cons, List.map_nil, List.cons_append, List.nil_append, List.append_nil, List.length_cons, List.length_nil, List.set_cons_zero, List.set_cons_succ, List.take_length, List.replicate_succ, List.replicate_zero, sz, decide_eq_true_eq, Nat.zero_add, Nat.reduceAdd, Nat.reduceLeDiff, true_and, and_true, Nat.sub_self, Nat.reduceSub, gl, glVals, List.getElem?_cons_zero, List.getElem?_cons_succ, Bool.not_true, Bool.not_false]
  refine while_inv (fun m ρ μ' => μ' = μ ∧ ∃ l r : Nat, ρ = [some (.d (.int a)), some (.d (.int b)), some (.d (.int l)), some (.d (.int r))] ∧ Nat.gcd l r = Int.gcd a b ∧ cnt l r ≤ m) (k := 18000) (by decide) ⟨rfl, a.natAbs, b.natAbs, ?_, rfl, ?_⟩ ?_
  · rfl
  · exact cnt_le 9000 _ _ h
  · rintro m ρ μ' ⟨rfl, l, r, rfl, hg, hc⟩
    rw [nB_eq]
    simp only [↓rSs_cons, ↓rSs_nil, ↓rS_asg, ↓rS_tup, ↓rS_par, ↓rS_bxa, ↓rS_app, ↓rS_set, ↓rS_aug, ↓rS_ret, ↓rS_retN, ↓rS_ife, ↓rS_for, ↓rS_while, ↓rS_pass, ↓rS_brk, ↓rS_cont, ↓rS_expr, ↓rE_var, ↓rE_cst, ↓rE_glb, ↓rE_bin, ↓rE_neg, ↓rE_not, ↓rE_cmp, ↓rE_chain, ↓rE_and, ↓rE_or, ↓rE_ife, ↓rE_call, ↓rE_b1, ↓rE_b2, ↓rE_isi, ↓rE_ix, ↓rE_sl, ↓rE_tup, ↓rE_lst, ↓rE_lc, ↓rEs_nil, ↓rEs_cons, ↓rEo_no, ↓rEo_so, ↓rC_no, ↓rC_so, ↓rI_sq, ↓rI_r1, ↓rI_r2, ↓rI_zip, ↓rI_enu, after_nx, after_rt, after_bk, after_ct, Run.some, Run.none, Run.map, Run.ifn, RunIf.tt, RunIf.ff, RunIf.not_, w_d, R.norm_d, R.norm_w, R.norm_l, peek_d, toD_d, tst_b, tst_i, tst_l, tst_t, tst_n, slot_0, slot_s, mkW_f, mkW_t, toBx_b, toInt_i, augV_a, augV_s, retR_d, retR_rd, retR_f, endOf_d, endOf_rd, endOf_f, endOf_n, geOf_glob, bind_nm, bind_tp, setAll_nil, setAll_cons, wipe_nil, wipe_cons, add_ii, sub_ii, add_ll, add_tt, mul_li, lt_ii, le_ii, gt_ii, ge_ii, eq_ii, ne_ii, eq_ss, ne_ss, Mini.is_none, Mini.isnot_none, len_l, len_t, abs_i, int_i, int_b, tuple_l, tuple_t, list_l, list_t, max_ii, min_ii, isi_int, isi_bool, isi_tup, isi_str, isi_lst, isIntD, isBoolD, isStrD, isTupD, isLstD, ix_l, ix_t, at_0, seq_l, seq_t, lstOf_l, rng1_i, rng2_i, optInt_n, optInt_i, sl_l, sl_t, mapM_nil, mapM_cons, at_1, at_2, at_3, at_4, Option.map_some, List.map_cons, List.map_nil, List.cons_append, List.nil_append, List.append_nil, List.length_cons, List.length_nil, List.set_cons_zero, List.set_cons_succ, List.take_length, List.replicate_succ, List.replicate_zero, sz, decide_eq_true_eq, Nat.zero_add, Nat.reduceAdd, Nat.reduceLeDiff, true_and, and_true, Nat.sub_self, Nat.reduceSub, gl, glVals, List.getElem?_cons_zero, List.getElem?_cons_succ, Bool.not_true, Bool.not_false]
    by_cases h0 : r = 0
    · subst h0
      simp only [↓rSs_cons, ↓rSs_nil, ↓rS_asg, ↓rS_tup, ↓rS_par, ↓rS_bxa, ↓rS_app, ↓rS_set, ↓rS_aug, ↓rS_ret, ↓rS_retN, ↓rS_ife, ↓rS_for, ↓rS_while, ↓rS_pass, ↓rS_brk, ↓rS_cont, ↓rS_expr, ↓rE_var, ↓rE_cst, ↓rE_glb, ↓rE_bin, ↓rE_neg, ↓rE_not, ↓rE_cmp, ↓rE_chain, ↓rE_and, ↓rE_or, ↓rE_ife, ↓rE_call, ↓rE_b1, ↓rE_b2, ↓rE_isi, ↓rE_ix, ↓rE_sl, ↓rE_tup, ↓rE_lst, ↓rE_lc, ↓rEs_nil, ↓rEs_cons, ↓rEo_no, ↓rEo_so, ↓rC_no, ↓rC_so, ↓rI_sq, ↓rI_r1, ↓rI_r2, ↓rI_zip, ↓rI_enu, after_nx, after_rt, after_bk, after_ct, Run.some, Run.none, Run.map, Run.ifn, RunIf.tt, RunIf.ff, RunIf.not_, w_d, R.norm_d, R.norm_w, R.norm_l, peek_d, toD_d, tst_b, tst_i, tst_l, tst_t, tst_n, slot_0, slot_s, mkW_f, mkW_t, toBx_b, toInt_i, augV_a, augV_s, retR_d, retR_rd, retR_f, endOf_d, endOf_rd, endOf_f, endOf_n, geOf_glob, bind_nm, bind_tp, setAll_nil, setAll_cons, wipe_nil, wipe_cons, add_ii, sub_ii, add_ll, add_tt, mul_li, lt_ii, le_ii, gt_ii, ge_ii, eq_ii, ne_ii, eq_ss, ne_ss, Mini.is_none, Mini.isnot_none, len_l, len_t, abs_i, int_i, int_b, tuple_l, tuple_t, list_l, list_t, max_ii, min_ii, isi_int, isi_bool, isi_tup, isi_str, isi_lst, isIntD, isBoolD, isStrD, isTupD, isLstD, ix_l, ix_t, at_0, seq_l, seq_t, lstOf_l, rng1_i, rng2_i, optInt_n, optInt_i, sl_l, sl_t, mapM_nil, mapM_cons, at_1, at_2, at_3, at_4, Option.map_some, List.map_cons, List.map_nil, List.cons_append, List.nil_append, List.append_nil, List.length_cons, List.length_nil, List.set_cons_zero, List.set_cons_succ, List.take_length, List.replicate_succ, List.replicate_zero, sz, decide_eq_true_eq, Nat.zero_add, Nat.reduceAdd, Nat.reduceLeDiff, true_and, and_true, Nat.sub_self, Nat.reduceSub, gl, glVals, List.getElem?_cons_zero, List.getElem?_cons_succ, Bool.not_true, Bool.not_false, Int.natCast_zero, bne_self_eq_false]
      rw [← hg, Nat.gcd_zero_right]
    · have e : ((r : Int) != 0) = true := by simp; omega
      rw [e]
      rw [cnt_s h0] at hc
      obtain ⟨m', rfl⟩ : ∃ m', m = m' + 1 := ⟨m - 1, by omega⟩
      simp only [↓rSs_cons, ↓rSs_nil, ↓rS_asg, ↓rS_tup, ↓rS_par, ↓rS_bxa, ↓rS_app, ↓rS_set, ↓rS_aug, ↓rS_ret, ↓rS_retN, ↓rS_ife, ↓rS_for, ↓rS_while, ↓rS_pass, ↓rS_brk, ↓rS_cont, ↓rS_expr, ↓rE_var, ↓rE_cst, ↓rE_glb, ↓rE_bin, ↓rE_neg, ↓rE_not, ↓rE_cmp, ↓rE_chain, ↓rE_and, ↓rE_or, ↓rE_ife, ↓rE_call, ↓rE_b1, ↓rE_b2, ↓rE_isi, ↓rE_ix, ↓rE_sl, ↓rE_tup, ↓rE_lst, ↓rE_lc, ↓rEs_nil, ↓rEs_cons, ↓rEo_no, ↓rEo_so, ↓rC_no, ↓rC_so, ↓rI_sq, ↓rI_r1, ↓rI_r2, ↓rI_zip, ↓rI_enu, after_nx, after_rt, after_bk, after_ct, Run.some, Run.none, Run.map, Run.ifn, RunIf.tt, RunIf.ff, RunIf.not_, w_d, R.norm_d, R.norm_w, R.norm_l, peek_d, toD_d, tst_b, tst_i, tst_l, tst_t, tst_n, slot_0, slot_s, mkW_f, mkW_t, toBx_b, toInt_i, augV_a, augV_s, retR_d, retR_rd, retR_f, endOf_d, endOf_rd, endOf_f, endOf_n, geOf_glob, bind_nm, bind_tp, setAll_nil, setAll_cons, wipe_nil, wipe_cons, add_ii, sub_ii, add_ll, add_tt, mul_li, lt_ii, le_ii, gt_ii, ge_ii, eq_ii, ne_ii, eq_ss, ne_ss, Mini.is_none, Mini.isnot_none, len_l, len_t, abs_i, int_i, int_b, tuple_l, tuple_t, list_l, list_t, max_ii, min_ii, isi_int, isi_bool, isi_tup, isi_str, isi_lst, isIntD, isBoolD, isStrD, isTupD, isLstD, ix_l, ix_t, at_0, seq_l, seq_t, lstOf_l, rng1_i, rng2_i, optInt_n, optInt_i, sl_l, sl_t, mapM_nil, mapM_cons, at_1, at_2, at_3, at_4, Option.map_some, List.map_cons, List.map_nil, List.cons_append, List.nil_append, List.append_nil, List.length_cons, List.length_nil, List.set_cons_zero, List.set_cons_succ, List.take_length, List.replicate_succ, List.replicate_zero, sz, decide_eq_true_eq, Nat.zero_add, Nat.reduceAdd, Nat.reduceLeDiff, true_and, and_true, Nat.sub_self, Nat.reduceSub, gl, glVals, List.getElem?_cons_zero, List.getElem?_cons_succ, Bool.not_true, Bool.not_false, mod_pos (show (0 : Int) < r by omega)]
      refine ⟨m', rfl, r, l % r, rfl, ?_, by omega⟩
      rw [← hg, Nat.gcd_comm l r, Nat.gcd_comm r (l % r), ← Nat.gcd_rec]
theorem fraction_i {a b : Int} (hb : 0 < b) (h : Bt 9000 b) : (G (n + 2)).fn 5 [.d (.int a), .d (.int b)] μ = some (rd (fr a b), μ) := by
  apply Run.eq
  refine run_fn (bd := b_fraction) rfl rfl ?_; unfold b_fraction; simp only [List.map_cons, List.map_nil, List.cons_append, List.nil_append, List.append_nil, List.replicate_succ, List.replicate_zero, Nat.reduceSub]
  have g := gcd_pos (a := a) hb
  have hg : Bt 9000 (Int.gcd a b : Int) := h.le (by
    have := Int.gcd_le_natAbs_right a (show b ≠ 0 by omega)
    omega)
  simp only [↓rSs_cons, ↓rSs_nil, ↓rS_asg, ↓rS_tup, ↓rS_par, ↓rS_bxa, ↓rS_app, ↓rS_set, ↓rS_aug, ↓rS_ret, ↓rS_retN, ↓rS_ife, ↓rS_for, ↓rS_while, ↓rS_pass, ↓rS_brk, ↓rS_cont, ↓rS_expr, ↓rE_var, ↓rE_cst, ↓rE_glb, ↓rE_bin, ↓rE_neg, ↓rE_not, ↓rE_cmp, ↓rE_chain, ↓rE_and, ↓rE_or, ↓rE_ife, ↓rE_call, ↓rE_b1, ↓rE_b2, ↓rE_isi, ↓rE_ix, ↓rE_sl, ↓rE_tup, ↓rE_lst, ↓rE_lc, ↓rEs_nil, ↓rEs_cons, ↓rEo_no, ↓rEo_so, ↓rC_no, ↓rC_so, ↓rI_sq, ↓rI_r1, ↓rI_r2, ↓rI_zip, ↓rI_enu, after_nx, after_rt, after_bk, after_ct, Run.some, Run.none, Run.map, Run.ifn, RunIf.tt, RunIf.ff, RunIf.not_, w_d, R.norm_d, R.norm_w, R.norm_l, peek_d, toD_d, tst_b, tst_i, tst_l, tst_t, tst_n, slot_0, slot_s, mkW_f, mkW_t, toBx_b, toInt_i, augV_a, augV_s, retR_d, retR_rd, retR_f, endOf_d, endOf_rd, endOf_f, endOf_n, geOf_glob, bind_nm, bind_tp, setAll_nil, setAll_cons, wipe_nil, wipe_cons, add_ii, sub_ii, add_ll, add_tt, mul_li, lt_ii, le_ii, gt_ii, ge_ii, eq_ii, ne_ii, eq_ss, ne_ss, Mini.is_none, Mini.isnot_none, len_l, len_t, abs_i, int_i, int_b, tuple_l, tuple_t, list_l, list_t, max_ii, min_ii, isi_int, isi_bool, isi_tup, isi_str, isi_lst, isIntD, isBoolD, isStrD, isTupD, isLstD, ix_l, ix_t, at_0, seq_l, seq_t, lstOf_l, rng1_i, rng2_i, optInt_n, optInt_i, sl_l, sl_t, mapM_nil, mapM_cons, at_1, at_2, at_3, at_4, Option.map_some, List.map_cons, List.map_nil, List.cons_append, List.nil_append, List.append_nil, List.length_cons, List.length_nil, List.set_cons_zero, List.set_cons_succ, List.take_length, List.replicate_succ, List.replicate_zero, sz, decide_eq_true_eq, Nat.zero_add, Nat.reduceAdd, Nat.reduceLeDiff, true_and, and_true, Nat.sub_self, Nat.reduceSub, gl, glVals, List.getElem?_cons_zero, List.getElem?_cons_succ, Bool.not_true, Bool.not_false, common_divisor_i h]
  refine .pos hb ?_
  simp only [↓rSs_cons, ↓rSs_nil, ↓rS_asg, ↓rS_tup, ↓rS_par, ↓rS_bxa, ↓rS_app, ↓rS_set, ↓rS_aug, ↓rS_ret, ↓rS_retN, ↓rS_ife, ↓rS_for, ↓rS_while, ↓rS_pass, ↓rS_brk, ↓rS_cont, ↓rS_expr, ↓rE_var, ↓rE_cst, ↓rE_glb, ↓rE_bin, ↓rE_neg, ↓rE_not, ↓rE_cmp, ↓rE_chain, ↓rE_and, ↓rE_or, ↓rE_ife, ↓rE_call, ↓rE_b1, ↓rE_b2, ↓rE_isi, ↓rE_ix, ↓rE_sl, ↓rE_tup, ↓rE_lst, ↓rE_lc, ↓rEs_nil, ↓rEs_cons, ↓rEo_no, ↓rEo_so, ↓rC_no, ↓rC_so, ↓rI_sq, ↓rI_r1, ↓rI_r2, ↓rI_zip, ↓rI_enu, after_nx, after_rt, after_bk, after_ct, Run.some, Run.none, Run.map, Run.ifn, RunIf.tt, RunIf.ff, RunIf.not_, w_d, R.norm_d, R.norm_w, R.norm_l, peek_d, toD_d, tst_b, tst_i, tst_l, tst_t, tst_n, slot_0, slot_s, mkW_f, mkW_t, toBx_b, toInt_i, augV_a, augV_s, retR_d, retR_rd, retR_f, endOf_d, endOf_rd, endOf_f, endOf_n, geOf_glob, bind_nm, bind_tp, setAll_nil, setAll_cons, wipe_nil, wipe_cons, add_ii, sub_ii, add_ll, add_tt, mul_li, lt_ii, le_ii, gt_ii, ge_ii, eq_ii, ne_ii, eq_ss, ne_ss, Mini.is_none, Mini.isnot_none, len_l, len_t, abs_i, int_i, int_b, tuple_l, tuple_t, list_l, list_t, max_ii, min_ii, isi_int, isi_bool, isi_tup, isi_str, isi_lst, isIntD, isBoolD, isStrD, isTupD, isLstD, ix_l, ix_t, at_0, seq_l, seq_t, lstOf_l, rng1_i, rng2_i, optInt_n, optInt_i, sl_l, sl_t, mapM_nil, mapM_cons, at_1, at_2, at_3, at_4, Option.map_some, List.map_cons, List.map_nil, List.cons_append, List.nil_append, List.append_nil, List.length_cons, List.length_nil, List.set_cons_zero, List.set_cons_succ, List.take_length, List.replicate_succ, List.replicate_zero, sz, decide_eq_true_eq, Nat.zero_add, Nat.reduceAdd, Nat.reduceLeDiff, true_and, and_true, Nat.sub_self, Nat.reduceSub, gl, glVals, List.getElem?_cons_zero, List.getElem?_cons_succ, Bool.not_true, Bool.not_false, mul_bt hg (show Bt 1 1 from (by decide : (1 : Int).natAbs < 2 ^ 1)) (by decide) (by decide) (by decide), Int.mul_one, div_pos g hg]
  unfold fr nm
  rw [Int.gcd_comm b a]
theorem plus_i {a b c d : Int} (hb : 0 < b) (hd : 0 < d) (ha : Bt 4000 a) (hb' : Bt 4000 b) (hc : Bt 4000 c) (hd' : Bt 4000 d) :
    (G (n + 3)).fn 6 [.d (.tuple [.int a, .int b]), .d (.tuple [.int c, .int d])] μ = some (rd (fr (a * d + c * b) (b * d)), μ) := by
  apply Run.eq
  refine run_fn (bd := b_plus) rfl rfl ?_; unfold b_plus; simp only [List.map_cons, List.map_nil, List.cons_append, List.nil_append, List.append_nil, List.replicate_succ, List.replicate_zero, Nat.reduceSub]
  simp only [↓rSs_cons, ↓rSs_nil, ↓rS_asg, ↓rS_tup, ↓rS_par, ↓rS_bxa, ↓rS_app, ↓rS_set, ↓rS_aug, ↓rS_ret, ↓rS_retN, ↓rS_ife, ↓rS_for, ↓rS_while, ↓rS_pass, ↓rS_brk, ↓rS_cont, ↓rS_expr, ↓rE_var, ↓rE_cst, ↓rE_glb, ↓rE_bin, ↓rE_neg, ↓rE_not, ↓rE_cmp, ↓rE_chain, ↓rE_and, ↓rE_or, ↓rE_ife, ↓rE_call, ↓rE_b1, ↓rE_b2, ↓rE_isi, ↓rE_ix, ↓rE_sl, ↓rE_tup, ↓rE_lst, ↓rE_lc, ↓rEs_nil, ↓rEs_cons, ↓rEo_no, ↓rEo_so, ↓rC_no, ↓rC_so, ↓rI_sq, ↓rI_r1, ↓rI_r2, ↓rI_zip, ↓rI_enu, after_nx, after_rt, after_bk, after_ct, Run.some, Run.none, Run.map, Run.ifn, RunIf.tt, RunIf.ff, RunIf.not_, w_d, R.norm_d, R.norm_w, R.norm_l, peek_d, toD_d, tst_b, tst_i, tst_l, tst_t, tst_n, slot_0, slot_s, mkW_f, mkW_t, toBx_b, toInt_i, augV_a, augV_s, retR_d, retR_rd, retR_f, endOf_d, endOf_rd, endOf_f, endOf_n, geOf_glob, bind_nm, bind_tp, setAll_nil, setAll_cons, wipe_nil, wipe_cons, add_ii, sub_ii, add_ll, add_tt, mul_li, lt_ii, le_ii, gt_ii, ge_ii, eq_ii, ne_ii, eq_ss, ne_ss, Mini.is_none, Mini.isnot_none, len_l, len_t, abs_i, int_i, int_b, tuple_l, tuple_t, list_l, list_t, max_ii, min_ii, isi_int, isi_bool, isi_tup, isi_str, isi_lst, isIntD, isBoolD, isStrD, isTupD, isLstD, ix_l, ix_t, at_0, seq_l, seq_t, lstOf_l, rng1_i, rng2_i, optInt_n, optInt_i, sl_l, sl_t, mapM_nil, mapM_cons, at_1, at_2, at_3, at_4, Option.map_some, List.map_cons, List.map_nil, List.cons_append, List.nil_append, List.append_nil, List.length_cons, List.length_nil, List.set_cons_zero, List.set_cons_succ, List.take_length, List.replicate_succ, List.replicate_zero, sz, decide_eq_true_eq, Nat.zero_add, Nat.reduceAdd, Nat.reduceLeDiff, true_and, and_true, Nat.sub_self, Nat.reduceSub, gl, glVals, List.getElem?_cons_zero, List.getElem?_cons_succ, Bool.not_true, Bool.not_false, mul_bt ha hd' (by decide) (by decide) (by decide), mul_bt hc hb' (by decide) (by decide) (by decide), mul_bt hb' hd' (by decide) (by decide) (by decide), fraction_i (Int.mul_pos hb hd) ((hb'.mul hd').mono (by decide))]
theorem times_i {a b c d : Int} (hb : 0 < b) (hd : 0 < d) (ha : Bt 4000 a) (hb' : Bt 4000 b) (hc : Bt 4000 c) (hd' : Bt 4000 d) :
    (G (n + 3)).fn 7 [.d (.tuple [.int a, .int b]), .d (.tuple [.int c, .int d])] μ = some (rd (fr (a * c) (b * d)), μ) := by
  apply Run.eq
  refine run_fn (bd := b_times) rfl rfl ?_; unfold b_times; simp only [List.map_cons, List.map_nil, List.cons_append, List.nil_append, List.append_nil, List.replicate_succ, List.replicate_zero, Nat.reduceSub]
  simp only [↓rSs_cons, ↓rSs_nil, ↓rS_asg, ↓rS_tup, ↓rS_par, ↓rS_bxa, ↓rS_app, ↓rS_set, ↓rS_aug, ↓rS_ret, ↓rS_retN, ↓rS_ife, ↓rS_for, ↓rS_while, ↓rS_pass, ↓rS_brk, ↓rS_cont, ↓rS_expr, ↓rE_var, ↓rE_cst, ↓rE_glb, ↓rE_bin, ↓rE_neg, ↓rE_not, ↓rE_cmp, ↓rE_chain, ↓rE_and, ↓rE_or, ↓rE_ife, ↓rE_call, ↓rE_b1, ↓rE_b2, ↓rE_isi, ↓rE_ix, ↓rE_sl, ↓rE_tup, ↓rE_lst, ↓rE_lc, ↓rEs_nil, ↓rEs_cons, ↓rEo_no, ↓rEo_so, ↓rC_no, ↓rC_so, ↓rI_sq, ↓rI_r1, ↓rI_r2, ↓rI_zip, ↓rI_enu, after_nx, after_rt, after_bk, after_ct, Run.some, Run.none, Run.map, Run.ifn, RunIf.tt, RunIf.ff, RunIf.not_, w_d, R.norm_d, R.norm_w, R.norm_l, peek_d, toD_d, tst_b, tst_i, tst_l, tst_t, tst_n, slot_0, slot_s, mkW_f, mkW_t, toBx_b, toInt_i, augV_a, augV_s, retR_d, retR_rd, retR_f, endOf_d, endOf_rd, endOf_f, endOf_n, geOf_glob, bind_nm, bind_tp, setAll_nil, setAll_cons, wipe_nil, wipe_cons, add_ii, sub_ii, add_ll, add_tt, mul_li, lt_ii, le_ii, gt_ii, ge_ii, eq_ii, ne_ii, eq_ss, ne_ss, Mini.is_none, Mini.isnot_none, len_l, len_t, abs_i, int_i, int_b, tuple_l, tuple_t, list_l, list_t, max_ii, min_ii, isi_int, isi_bool, isi_tup, isi_str, isi_lst, isIntD, isBoolD, isStrD, isTupD, isLstD, ix_l, ix_t, at_0, seq_l, seq_t, lstOf_l, rng1_i, rng2_i, optInt_n, optInt_i, sl_l, sl_t, mapM_nil, mapM_cons, at_1, at_2, at_3, at_4, Option.map_some, List.map_cons, List.map_nil, List.cons_append, List.nil_append, List.append_nil, List.length_cons, List.length_nil, List.set_cons_zero, List.set_cons_succ, List.take_length, List.replicate_succ, List.replicate_zero, sz, decide_eq_true_eq, Nat.zero_add, Nat.reduceAdd, Nat.reduceLeDiff, true_and, and_true, Nat.sub_self, Nat.reduceSub, gl, glVals, List.getElem?_cons_zero, List.getElem?_cons_succ, Bool.not_true, Bool.not_false, mul_bt ha hc (by decide) (by decide) (by decide), mul_bt hb' hd' (by decide) (by decide) (by decide), fraction_i (Int.mul_pos hb hd) ((hb'.mul hd').mono (by decide))]
theorem is_less_i {a b c d : Int} (ha : Bt 4000 a) (hb' : Bt 4000 b) (hc : Bt 4000 c) (hd' : Bt 4000 d) :
    (G (n + 1)).fn 8 [.d (.tuple [.int a, .int b]), .d (.tuple [.int c, .int d])] μ = some (rd (.bool (decide (a * d < c * b))), μ) := by
  apply Run.eq
  refine run_fn (bd := b_is_less) rfl rfl ?_; unfold b_is_less; simp only [List.map_cons, List.map_nil, List.cons_append, List.nil_append, List.append_nil, List.replicate_succ, List.replicate_zero, Nat.reduceSub]
  simp only [↓rSs_cons, ↓rSs_nil, ↓rS_asg, ↓rS_tup, ↓rS_par, ↓rS_bxa, ↓rS_app, ↓rS_set, ↓rS_aug, ↓rS_ret, ↓rS_retN, ↓rS_ife, ↓rS_for, ↓rS_while, ↓rS_pass, ↓rS_brk, ↓rS_cont, ↓rS_expr, ↓rE_var, ↓rE_cst, ↓rE_glb, ↓rE_bin, ↓rE_neg, ↓rE_not, ↓rE_cmp, ↓rE_chain, ↓rE_and, ↓rE_or, ↓rE_ife, ↓rE_call, ↓rE_b1, ↓rE_b2, ↓rE_isi, ↓rE_ix, ↓rE_sl, ↓rE_tup, ↓rE_lst, ↓rE_lc, ↓rEs_nil, ↓rEs_cons, ↓rEo_no, ↓rEo_so, ↓rC_no, ↓rC_so, ↓rI_sq, ↓rI_r1, ↓rI_r2, ↓rI_zip, ↓rI_enu, after_nx, after_rt, after_bk, after_ct, Run.some, Run.none, Run.map, Run.ifn, RunIf.tt, RunIf.ff, RunIf.not_, w_d, R.norm_d, R.norm_w, R.norm_l, peek_d, toD_d, tst_b, tst_i, tst_l, tst_t, tst_n, slot_0, slot_s, mkW_f, mkW_t, toBx_b, toInt_i, augV_a, augV_s, retR_d, retR_rd, retR_f, endOf_d, endOf_rd, endOf_f, endOf_n, geOf_glob, bind_nm, bind_tp, setAll_nil, setAll_cons, wipe_nil, wipe_cons, add_ii, sub_ii, add_ll, add_tt, mul_li, lt_ii, le_ii, gt_ii, ge_ii, eq_ii, ne_ii, eq_ss, ne_ss, Mini.is_none, Mini.isnot_none, len_l, len_t, abs_i, int_i, int_b, tuple_l, tuple_t, list_l, list_t, max_ii, min_ii, isi_int, isi_bool, isi_tup, isi_str, isi_lst, isIntD, isBoolD, isStrD, isTupD, isLstD, ix_l, ix_t, at_0, seq_l, seq_t, lstOf_l, rng1_i, rng2_i, optInt_n, optInt_i, sl_l, sl_t, mapM_nil, mapM_cons, at_1, at_2, at_3, at_4, Option.map_some, List.map_cons, List.map_nil, List.cons_append, List.nil_append, List.append_nil, List.length_cons, List.length_nil, List.set_cons_zero, List.set_cons_succ, List.take_length, List.replicate_succ, List.replicate_zero, sz, decide_eq_true_eq, Nat.zero_add, Nat.reduceAdd, Nat.reduceLeDiff, true_and, and_true, Nat.sub_self, Nat.reduceSub, gl, glVals, List.getElem?_cons_zero, List.getElem?_cons_succ, Bool.not_true, Bool.not_false, mul_bt ha hd' (by decide) (by decide) (by decide), mul_bt hc hb' (by decide) (by decide) (by decide)]
end
end K85
end
section
set_option Elab.async false
set_option linter.all false
set_option maxRecDepth 100000
set_option maxHeartbeats 1000000
open Mini PySem
namespace K85
section
variable {n : Nat} {μ : Store}
theorem is_fraction_f {a b : Int} (hb : 0 < b) (h : Bt 9000 b) : (G (n + 2)).fn 9 [.d (fr a b)] μ = some (rd (.bool true), μ) := by
  apply Run.eq
  have d := dn_pos (a := a) hb
  have e : (Int.gcd (nm a b) (nm b a) : Int) = 1 := by rw [nm_coprime hb]; rfl
  unfold fr
  refine run_fn (bd := b_is_fraction) rfl rfl ?_; unfold b_is_fraction; simp only [List.map_cons, List.map_nil, List.cons_append, List.nil_append, List.append_nil, List.replicate_succ, List.replicate_zero, Nat.reduceSub]
  simp only [↓rSs_cons, ↓rSs_nil, ↓rS_asg, ↓rS_tup, ↓rS_par, ↓rS_bxa, ↓rS_app, ↓rS_set, ↓rS_aug, ↓rS_ret, ↓rS_retN, ↓rS_ife, ↓rS_for, ↓rS_while, ↓rS_pass, ↓rS_brk, ↓rS_cont, ↓rS_expr, ↓rE_var, ↓rE_cst, ↓rE_glb, ↓rE_bin, ↓rE_neg, ↓rE_not, ↓rE_cmp, ↓rE_chain, ↓rE_and, ↓rE_or, ↓rE_ife, ↓rE_call, ↓rE_b1, ↓rE_b2, ↓rE_isi, ↓rE_ix, ↓rE_sl, ↓rE_tup, ↓rE_lst, ↓rE_lc, ↓rEs_nil, ↓rEs_cons, ↓rEo_no, ↓rEo_so, ↓rC_no, ↓rC_so, ↓rI_sq, ↓rI_r1, ↓rI_r2, ↓rI_zip, ↓rI_enu, after_nx, after_rt, after_bk, after_ct, Run.some, Run.none, Run.map, Run.ifn, RunIf.tt, RunIf.ff, RunIf.not_, w_d, R.norm_d, R.norm_w, R.norm_l, peek_d, toD_d, tst_b, tst_i, tst_l, tst_t, tst_n, slot_0, slot_s, mkW_f, mkW_t, toBx_b, toInt_i, augV_a, augV_s, retR_d, retR_rd, retR_f, endOf_d, endOf_rd, endOf_f, endOf_n, geOf_glob, bind_nm, bind_tp, setAll_nil, setAll_cons, wipe_nil, wipe_cons, add_ii, sub_ii, add_ll, add_tt, mul_li, lt_ii, le_ii, gt_ii, ge_ii, eq_ii, ne_ii, eq_ss, ne_ss, Mini.is_none, Mini.isnot_none, len_l, len_t, abs_i, int_i, int_b, tuple_l, tuple_t, list_l, list_t, max_ii, min_ii, isi_int, isi_bool, isi_tup, isi_str, isi_lst, isIntD, isBoolD, isStrD, isTupD, isLstD, ix_l, ix_t, at_0, seq_l, seq_t, lstOf_l, rng1_i, rng2_i, optInt_n, optInt_i, sl_l, sl_t, mapM_nil, mapM_cons, at_1, at_2, at_3, at_4, Option.map_some, List.map_cons, List.map_nil, List.cons_append, List.nil_append, List.append_nil, List.length_cons, List.length_nil, List.set_cons_zero, List.set_cons_succ, List.take_length, List.replicate_succ, List.replicate_zero, sz, decide_eq_true_eq, Nat.zero_add, Nat.reduceAdd, Nat.reduceLeDiff, true_and, and_true, Nat.sub_self, Nat.reduceSub, gl, glVals, List.getElem?_cons_zero, List.getElem?_cons_succ, Bool.not_true, Bool.not_false, is_pair_t, is_whole_i]
  refine .neg (by omega) ?_
  simp only [↓rSs_cons, ↓rSs_nil, ↓rS_asg, ↓rS_tup, ↓rS_par, ↓rS_bxa, ↓rS_app, ↓rS_set, ↓rS_aug, ↓rS_ret, ↓rS_retN, ↓rS_ife, ↓rS_for, ↓rS_while, ↓rS_pass, ↓rS_brk, ↓rS_cont, ↓rS_expr, ↓rE_var, ↓rE_cst, ↓rE_glb, ↓rE_bin, ↓rE_neg, ↓rE_not, ↓rE_cmp, ↓rE_chain, ↓rE_and, ↓rE_or, ↓rE_ife, ↓rE_call, ↓rE_b1, ↓rE_b2, ↓rE_isi, ↓rE_ix, ↓rE_sl, ↓rE_tup, ↓rE_lst, ↓rE_lc, ↓rEs_nil, ↓rEs_cons, ↓rEo_no, ↓rEo_so, ↓rC_no, ↓rC_so, ↓rI_sq, ↓rI_r1, ↓rI_r2, ↓rI_zip, ↓rI_enu, after_nx, after_rt, after_bk, after_ct, Run.some, Run.none, Run.map, Run.ifn, RunIf.tt, RunIf.ff, RunIf.not_, w_d, R.norm_d, R.norm_w, R.norm_l, peek_d, toD_d, tst_b, tst_i, tst_l, tst_t, tst_n, slot_0, slot_s, mkW_f, mkW_t, toBx_b, toInt_i, augV_a, augV_s, retR_d, retR_rd, retR_f, endOf_d, endOf_rd, endOf_f, endOf_n, geOf_glob, bind_nm, bind_tp, setAll_nil, setAll_cons, wipe_nil, wipe_cons, add_ii, sub_ii, add_ll, add_tt, mul_li, lt_ii, le_ii, gt_ii, ge_ii, eq_ii, ne_ii, eq_ss, ne_ss, Mini.is_none, Mini.isnot_none, len_l, len_t, abs_i, int_i, int_b, tuple_l, tuple_t, list_l, list_t, max_ii, min_ii, isi_int, isi_bool, isi_tup, isi_str, isi_lst, isIntD, isBoolD, isStrD, isTupD, isLstD, ix_l, ix_t, at_0, seq_l, seq_t, lstOf_l, rng1_i, rng2_i, optInt_n, optInt_i, sl_l, sl_t, mapM_nil, mapM_cons, at_1, at_2, at_3, at_4, Option.map_some, List.map_cons, List.map_nil, List.cons_append, List.nil_append, List.append_nil, List.length_cons, List.length_nil, List.set_cons_zero, List.set_cons_succ, List.take_length, List.replicate_succ, List.replicate_zero, sz, decide_eq_true_eq, Nat.zero_add, Nat.reduceAdd, Nat.reduceLeDiff, true_and, and_true, Nat.sub_self, Nat.reduceSub, gl, glVals, List.getElem?_cons_zero, List.getElem?_cons_succ, Bool.not_true, Bool.not_false, common_divisor_i (h.dn hb), e, decide_true]
theorem is_near_fraction_f {a b : Int} (hb : 0 < b) (h : Bt 9000 b) (h1 : (nm a b).natAbs < 10 ^ 60) (h2 : (nm b a).natAbs < 10 ^ 60) : (G (n + 3)).fn 10 [.d (fr a b)] μ = some (rd (.bool true), μ) := by
  apply Run.eq
  refine run_fn (bd := b_is_near_fraction) rfl rfl ?_; unfold b_is_near_fraction; simp only [List.map_cons, List.map_nil, List.cons_append, List.nil_append, List.append_nil, List.replicate_succ, List.replicate_zero, Nat.reduceSub]
  simp only [↓rSs_cons, ↓rSs_nil, ↓rS_asg, ↓rS_tup, ↓rS_par, ↓rS_bxa, ↓rS_app, ↓rS_set, ↓rS_aug, ↓rS_ret, ↓rS_retN, ↓rS_ife, ↓rS_for, ↓rS_while, ↓rS_pass, ↓rS_brk, ↓rS_cont, ↓rS_expr, ↓rE_var, ↓rE_cst, ↓rE_glb, ↓rE_bin, ↓rE_neg, ↓rE_not, ↓rE_cmp, ↓rE_chain, ↓rE_and, ↓rE_or, ↓rE_ife, ↓rE_call, ↓rE_b1, ↓rE_b2, ↓rE_isi, ↓rE_ix, ↓rE_sl, ↓rE_tup, ↓rE_lst, ↓rE_lc, ↓rEs_nil, ↓rEs_cons, ↓rEo_no, ↓rEo_so, ↓rC_no, ↓rC_so, ↓rI_sq, ↓rI_r1, ↓rI_r2, ↓rI_zip, ↓rI_enu, after_nx, after_rt, after_bk, after_ct, Run.some, Run.none, Run.map, Run.ifn, RunIf.tt, RunIf.ff, RunIf.not_, w_d, R.norm_d, R.norm_w, R.norm_l, peek_d, toD_d, tst_b, tst_i, tst_l, tst_t, tst_n, slot_0, slot_s, mkW_f, mkW_t, toBx_b, toInt_i, augV_a, augV_s, retR_d, retR_rd, retR_f, endOf_d, endOf_rd, endOf_f, endOf_n, geOf_glob, bind_nm, bind_tp, setAll_nil, setAll_cons, wipe_nil, wipe_cons, add_ii, sub_ii, add_ll, add_tt, mul_li, lt_ii, le_ii, gt_ii, ge_ii, eq_ii, ne_ii, eq_ss, ne_ss, Mini.is_none, Mini.isnot_none, len_l, len_t, abs_i, int_i, int_b, tuple_l, tuple_t, list_l, list_t, max_ii, min_ii, isi_int, isi_bool, isi_tup, isi_str, isi_lst, isIntD, isBoolD, isStrD, isTupD, isLstD, ix_l, ix_t, at_0, seq_l, seq_t, lstOf_l, rng1_i, rng2_i, optInt_n, optInt_i, sl_l, sl_t, mapM_nil, mapM_cons, at_1, at_2, at_3, at_4, Option.map_some, List.map_cons, List.map_nil, List.cons_append, List.nil_append, List.append_nil, List.length_cons, List.length_nil, List.set_cons_zero, List.set_cons_succ, List.take_length, List.replicate_succ, List.replicate_zero, sz, decide_eq_true_eq, Nat.zero_add, Nat.reduceAdd, Nat.reduceLeDiff, true_and, and_true, Nat.sub_self, Nat.reduceSub, gl, glVals, List.getElem?_cons_zero, List.getElem?_cons_succ, Bool.not_true, Bool.not_false, is_fraction_f hb h]
  unfold fr
  simp only [↓rSs_cons, ↓rSs_nil, ↓rS_asg, ↓rS_tup, ↓rS_par, ↓rS_bxa, ↓rS_app, ↓rS_set, ↓rS_aug, ↓rS_ret, ↓rS_retN, ↓rS_ife, ↓rS_for, ↓rS_while, ↓rS_pass, ↓rS_brk, ↓rS_cont, ↓rS_expr, ↓rE_var, ↓rE_cst, ↓rE_glb, ↓rE_bin, ↓rE_neg, ↓rE_not, ↓rE_cmp, ↓rE_chain, ↓rE_and, ↓rE_or, ↓rE_ife, ↓rE_call, ↓rE_b1, ↓rE_b2, ↓rE_isi, ↓rE_ix, ↓rE_sl, ↓rE_tup, ↓rE_lst, ↓rE_lc, ↓rEs_nil, ↓rEs_cons, ↓rEo_no, ↓rEo_so, ↓rC_no, ↓rC_so, ↓rI_sq, ↓rI_r1, ↓rI_r2, ↓rI_zip, ↓rI_enu, after_nx, after_rt, after_bk, after_ct, Run.some, Run.none, Run.map, Run.ifn, RunIf.tt, RunIf.ff, RunIf.not_, w_d, R.norm_d, R.norm_w, R.norm_l, peek_d, toD_d, tst_b, tst_i, tst_l, tst_t, tst_n, slot_0, slot_s, mkW_f, mkW_t, toBx_b, toInt_i, augV_a, augV_s, retR_d, retR_rd, retR_f, endOf_d, endOf_rd, endOf_f, endOf_n, geOf_glob, bind_nm, bind_tp, setAll_nil, setAll_cons, wipe_nil, wipe_cons, add_ii, sub_ii, add_ll, add_tt, mul_li, lt_ii, le_ii, gt_ii, ge_ii, eq_ii, ne_ii, eq_ss, ne_ss, Mini.is_none, Mini.isnot_none, len_l, len_t, abs_i, int_i, int_b, tuple_l, tuple_t, list_l, list_t, max_ii, min_ii, isi_int, isi_bool, isi_tup, isi_str, isi_lst, isIntD, isBoolD, isStrD, isTupD, isLstD, ix_l, ix_t, at_0, seq_l, seq_t, lstOf_l, rng1_i, rng2_i, optInt_n, optInt_i, sl_l, sl_t, mapM_nil, mapM_cons, at_1, at_2, at_3, at_4, Option.map_some, List.map_cons, List.map_nil, List.cons_append, List.nil_append, List.append_nil, List.length_cons, List.length_nil, List.set_cons_zero, List.set_cons_succ, List.take_length, List.replicate_succ, List.replicate_zero, sz, decide_eq_true_eq, Nat.zero_add, Nat.reduceAdd, Nat.reduceLeDiff, true_and, and_true, Nat.sub_self, Nat.reduceSub, gl, glVals, List.getElem?_cons_zero, List.getElem?_cons_succ, Bool.not_true, Bool.not_false, is_near_i h1, is_near_i h2]
theorem plus_f {a b c d : Int} (hb : 0 < b) (hd : 0 < d) (ha : Bt 4000 a) (hb' : Bt 4000 b) (hc : Bt 4000 c) (hd' : Bt 4000 d) :
    (G (n + 3)).fn 6 [.d (fr a b), .d (fr c d)] μ = some (rd (fr (a * d + c * b) (b * d)), μ) := by
  unfold fr
  rw [plus_i (dn_pos hb) (dn_pos hd) (ha.nm hb) (hb'.dn hb) (hc.nm hd) (hd'.dn hd), fr_add hb hd]
  rfl
theorem plus_S {a c S : Int} (hS : 0 < S) (ha : Bt 4000 a) (hb' : Bt 4000 S) (hc : Bt 4000 c) : (G (n + 3)).fn 6 [.d (fr a S), .d (fr c S)] μ = some (rd (fr (a + c) S), μ) := by
  rw [plus_f hS hS ha hb' hc hb', ← Int.add_mul, fr_scale hS]
theorem times_f {a b c d : Int} (hb : 0 < b) (hd : 0 < d) (ha : Bt 4000 a) (hb' : Bt 4000 b) (hc : Bt 4000 c) (hd' : Bt 4000 d) :
    (G (n + 3)).fn 7 [.d (fr a b), .d (fr c d)] μ = some (rd (fr (a * c) (b * d)), μ) := by
  unfold fr
  rw [times_i (dn_pos hb) (dn_pos hd) (ha.nm hb) (hb'.dn hb) (hc.nm hd) (hd'.dn hd), fr_mul hb hd]
  rfl
theorem times_S {a c S : Int} (hS : 0 < S) (ha : Bt 4000 a) (hb' : Bt 4000 S) (hc : Bt 4000 c) : (G (n + 3)).fn 7 [.d (fr a S), .d (.tuple [.int c, .int 1])] μ = some (rd (fr (a * c) S), μ) := by
  rw [← fr_one, times_f hS (by decide) ha hb' hc (show (1 : Int).natAbs < 2 ^ 4000 from Nat.one_lt_two_pow (by decide)), Int.mul_one]
theorem is_less_f {a b c d : Int} (hb : 0 < b) (hd : 0 < d) (ha : Bt 4000 a) (hb' : Bt 4000 b) (hc : Bt 4000 c) (hd' : Bt 4000 d) :
    (G (n + 1)).fn 8 [.d (fr a b), .d (fr c d)] μ = some (rd (.bool (decide (a * d < c * b))), μ) := by
  unfold fr
  rw [is_less_i (ha.nm hb) (hb'.dn hb) (hc.nm hd) (hd'.dn hd)]
  congr 5
  exact propext (fr_lt hb hd)
end
/-- the weights: all above 0, S in all -/
structure Wts (S : Int) (ps : List Int) : Prop where
  pos : ∀ p ∈ ps, 0 < p
  sum : ps.sum = S
  bt : Bt 1000 S
  len : 1 ≤ ps.length ∧ ps.length ≤ 100
theorem sum_nonneg : ∀ {ps : List Int}, (∀ p ∈ ps, 0 < p) → 0 ≤ ps.sum
  | [], _ => by simp
  | p :: ps, h => by
    have := sum_nonneg fun q hq => h q (.tail p hq)
    have := h p (.head _)
    rw [List.sum_cons]; omega
theorem sum_take_le : ∀ {ps : List Int} (i : Nat), (∀ p ∈ ps, 0 < p) → 0 ≤ (ps.take i).sum ∧ (ps.take i).sum ≤ ps.sum
  | [], i, _ => by simp
  | p :: ps, 0, h => by
    have := sum_nonneg h
    simp at *; omega
  | p :: ps, i + 1, h => by
    have := sum_take_le (ps := ps) i fun q hq => h q (.tail p hq)
    have := h p (.head _)
    rw [List.take_succ_cons, List.sum_cons, List.sum_cons]; omega
theorem mem_le_sum : ∀ {ps : List Int} {p : Int}, (∀ p ∈ ps, 0 < p) → p ∈ ps → p ≤ ps.sum
  | q :: ps, p, h, hp => by
    have h1 := sum_nonneg (ps := ps) fun q hq => h q (.tail _ hq)
    have h2 := h q (.head _)
    rw [List.sum_cons]
    cases hp with
    | head => omega
    | tail _ hp =>
      have := mem_le_sum (ps := ps) (fun q hq => h q (.tail _ hq)) hp
      omega
section
variable {S : Int} {ps : List Int}
theorem Wts.S_pos (h : Wts S ps) : 0 < S := by
  obtain ⟨p, hp⟩ : ∃ p, p ∈ ps := by
    cases ps with
    | nil => have := h.len.1; simp at this
    | cons p r => exact ⟨p, .head _⟩
  have := mem_le_sum h.pos hp
  have := h.pos p hp
  rw [h.sum] at *; omega
theorem Wts.p_bt (h : Wts S ps) {p : Int} (hp : p ∈ ps) : Bt 1000 p := h.bt.le (by
  have := mem_le_sum h.pos hp
  have := h.pos p hp
  have := h.S_pos
  rw [h.sum] at *; omega)
theorem Wts.t_bt (h : Wts S ps) (i : Nat) : Bt 1000 (ps.take i).sum := h.bt.le (by
  have := sum_take_le i h.pos
  have := h.S_pos
  rw [h.sum] at *; omega)
end
theorem take_succ_sum {ps : List Int} {i : Nat} {p : Int} (h : ps[i]? = some p) : (ps.take (i + 1)).sum = (ps.take i).sum + p := by
  rw [List.take_add_one, h]
  simp
theorem b1000 {x : Int} (h : Bt 1000 x) : Bt 4000 x := h.mono (by decide)
section
variable {n : Nat} {μ : Store} {S : Int} {ps : List Int}
theorem added_f (h : Wts S ps) : (G (n + 4)).fn 11 [.d (.list (ps.map (fr · S)))] μ = some (rd (.tuple [.int 1, .int 1]), μ) := by
  apply Run.eq
  have hS := h.S_pos
  refine run_fn (bd := b_added) rfl rfl ?_; unfold b_added; simp only [List.map_cons, List.map_nil, List.cons_append, List.nil_append, List.append_nil, List.replicate_succ, List.replicate_zero, Nat.reduceSub]
  simp only [↓rSs_cons, ↓rSs_nil, ↓rS_asg, ↓rS_tup, ↓rS_par, ↓rS_bxa, ↓rS_app, ↓rS_set, ↓rS_aug, ↓rS_ret, ↓rS_retN, ↓rS_ife, ↓rS_for, ↓rS_while, ↓rS_pass, ↓rS_brk, ↓rS_cont, ↓rS_expr, ↓rE_var, ↓rE_cst, ↓rE_glb, ↓rE_bin, ↓rE_neg, ↓rE_not, ↓rE_cmp, ↓rE_chain, ↓rE_and, ↓rE_or, ↓rE_ife, ↓rE_call, ↓rE_b1, ↓rE_b2, ↓rE_isi, ↓rE_ix, ↓rE_sl, ↓rE_tup, ↓rE_lst, ↓rE_lc, ↓rEs_nil, ↓rEs_cons, ↓rEo_no, ↓rEo_so, ↓rC_no, ↓rC_so, ↓rI_sq, ↓rI_r1, ↓rI_r2, ↓rI_zip, ↓rI_enu, after_nx, after_rt, after_bk, after_ct, Run.some, Run.none, Run.map, Run.ifn, RunIf.tt, RunIf.ff, RunIf.not_, w_d, R.norm_d, R.norm_w, R.norm_l, peek_d, toD_d, tst_b, tst_i, tst_l, tst_t, tst_n, slot_0, slot_s, mkW_f, mkW_t, toBx_b, toInt_i, augV_a, augV_s, retR_d, retR_rd, retR_f, endOf_d, endOf_rd, endOf_f, endOf_n, geOf_glob, bind_nm, bind_tp, setAll_nil, setAll_cons, wipe_nil, wipe_cons, add_ii, sub_ii, add_ll, add_tt, mul_li, lt_ii, le_ii, gt_ii, ge_ii, eq_ii, ne_ii, eq_ss, ne_ss, Mini.is_none, Mini.isnot_none, len_l, len_t, abs_i, int_i, int_b, tuple_l, tuple_t, list_l, list_t, max_ii, min_ii, isi_int, isi_bool, isi_tup, isi_str, isi_lst, isIntD, isBoolD, isStrD, isTupD, isLstD, ix_l, ix_t, at_0, seq_l, seq_t, lstOf_l, rng1_i, rng2_i, optInt_n, optInt_i, sl_l, sl_t, mapM_nil, mapM_cons, at_1, at_2, at_3, at_4, Option.map_some, List.map_cons, List.map_nil, List.cons_append, List.nil_append, List.append_nil, List.length_cons, List.length_nil, List.set_cons_zero, List.set_cons_succ, List.take_length, List.replicate_succ, List.replicate_zero, sz, decide_eq_true_eq, Nat.zero_add, Nat.reduceAdd, Nat.reduceLeDiff, true_and, and_true, Nat.sub_self, Nat.reduceSub, gl, glVals, List.getElem?_cons_zero, List.getElem?_cons_succ, Bool.not_true, Bool.not_false]
  refine for_inv (fun i ρ μ' => μ' = μ ∧ ∃ x, ρ = [some (.d (.list (ps.map (fr · S)))), some (.d (fr (ps.take i).sum S)), x]) ⟨rfl, none, by rw [List.take_zero, List.sum_nil, fr_zero hS]⟩ ?_ ?_
  · rintro i x hx ρ μ' ⟨rfl, z, rfl⟩
    rw [List.getElem?_map] at hx
    obtain ⟨p, hp, rfl⟩ := Option.map_eq_some_iff.mp hx
    simp only [↓rSs_cons, ↓rSs_nil, ↓rS_asg, ↓rS_tup, ↓rS_par, ↓rS_bxa, ↓rS_app, ↓rS_set, ↓rS_aug, ↓rS_ret, ↓rS_retN, ↓rS_ife, ↓rS_for, ↓rS_while, ↓rS_pass, ↓rS_brk, ↓rS_cont, ↓rS_expr, ↓rE_var, ↓rE_cst, ↓rE_glb, ↓rE_bin, ↓rE_neg, ↓rE_not, ↓rE_cmp, ↓rE_chain, ↓rE_and, ↓rE_or, ↓rE_ife, ↓rE_call, ↓rE_b1, ↓rE_b2, ↓rE_isi, ↓rE_ix, ↓rE_sl, ↓rE_tup, ↓rE_lst, ↓rE_lc, ↓rEs_nil, ↓rEs_cons, ↓rEo_no, ↓rEo_so, ↓rC_no, ↓rC_so, ↓rI_sq, ↓rI_r1, ↓rI_r2, ↓rI_zip, ↓rI_enu, after_nx, after_rt, after_bk, after_ct, Run.some, Run.none, Run.map, Run.ifn, RunIf.tt, RunIf.ff, RunIf.not_, w_d, R.norm_d, R.norm_w, R.norm_l, peek_d, toD_d, tst_b, tst_i, tst_l, tst_t, tst_n, slot_0, slot_s, mkW_f, mkW_t, toBx_b, toInt_i, augV_a, augV_s, retR_d, retR_rd, retR_f, endOf_d, endOf_rd, endOf_f, endOf_n, geOf_glob, bind_nm, bind_tp, setAll_nil, setAll_cons, wipe_nil, wipe_cons, add_ii, sub_ii, add_ll, add_tt, mul_li, lt_ii, le_ii, gt_ii, ge_ii, eq_ii, ne_ii, eq_ss, ne_ss, Mini.is_none, Mini.isnot_none, len_l, len_t, abs_i, int_i, int_b, tuple_l, tuple_t, list_l, list_t, max_ii, min_ii, isi_int, isi_bool, isi_tup, isi_str, isi_lst, isIntD, isBoolD, isStrD, isTupD, isLstD, ix_l, ix_t, at_0, seq_l, seq_t, lstOf_l, rng1_i, rng2_i, optInt_n, optInt_i, sl_l, sl_t, mapM_nil, mapM_cons, at_1, at_2, at_3, at_4, Option.map_some, List.map_cons, List.map_nil, List.cons_append, List.nil_append, List.append_nil, List.length_cons, List.length_nil, List.set_cons_zero, List.set_cons_succ, List.take_length, List.replicate_succ, List.replicate_zero, sz, decide_eq_true_eq, Nat.zero_add, Nat.reduceAdd, Nat.reduceLeDiff, true_and, and_true, Nat.sub_self, Nat.reduceSub, gl, glVals, List.getElem?_cons_zero, List.getElem?_cons_succ, Bool.not_true, Bool.not_false, plus_S hS (b1000 (h.t_bt i)) (b1000 h.bt) (b1000 (h.p_bt (List.mem_of_getElem? hp))), ← take_succ_sum hp]
    exact ⟨_, rfl⟩
  · rintro ρ μ' ⟨rfl, z, rfl⟩
    simp only [↓rSs_cons, ↓rSs_nil, ↓rS_asg, ↓rS_tup, ↓rS_par, ↓rS_bxa, ↓rS_app, ↓rS_set, ↓rS_aug, ↓rS_ret, ↓rS_retN, ↓rS_ife, ↓rS_for, ↓rS_while, ↓rS_pass, ↓rS_brk, ↓rS_cont, ↓rS_expr, ↓rE_var, ↓rE_cst, ↓rE_glb, ↓rE_bin, ↓rE_neg, ↓rE_not, ↓rE_cmp, ↓rE_chain, ↓rE_and, ↓rE_or, ↓rE_ife, ↓rE_call, ↓rE_b1, ↓rE_b2, ↓rE_isi, ↓rE_ix, ↓rE_sl, ↓rE_tup, ↓rE_lst, ↓rE_lc, ↓rEs_nil, ↓rEs_cons, ↓rEo_no, ↓rEo_so, ↓rC_no, ↓rC_so, ↓rI_sq, ↓rI_r1, ↓rI_r2, ↓rI_zip, ↓rI_enu, after_nx, after_rt, after_bk, after_ct, Run.some, Run.none, Run.map, Run.ifn, RunIf.tt, RunIf.ff, RunIf.not_, w_d, R.norm_d, R.norm_w, R.norm_l, peek_d, toD_d, tst_b, tst_i, tst_l, tst_t, tst_n, slot_0, slot_s, mkW_f, mkW_t, toBx_b, toInt_i, augV_a, augV_s, retR_d, retR_rd, retR_f, endOf_d, endOf_rd, endOf_f, endOf_n, geOf_glob, bind_nm, bind_tp, setAll_nil, setAll_cons, wipe_nil, wipe_cons, add_ii, sub_ii, add_ll, add_tt, mul_li, lt_ii, le_ii, gt_ii, ge_ii, eq_ii, ne_ii, eq_ss, ne_ss, Mini.is_none, Mini.isnot_none, len_l, len_t, abs_i, int_i, int_b, tuple_l, tuple_t, list_l, list_t, max_ii, min_ii, isi_int, isi_bool, isi_tup, isi_str, isi_lst, isIntD, isBoolD, isStrD, isTupD, isLstD, ix_l, ix_t, at_0, seq_l, seq_t, lstOf_l, rng1_i, rng2_i, optInt_n, optInt_i, sl_l, sl_t, mapM_nil, mapM_cons, at_1, at_2, at_3, at_4, Option.map_some, List.map_cons, List.map_nil, List.cons_append, List.nil_append, List.append_nil, List.length_cons, List.length_nil, List.set_cons_zero, List.set_cons_succ, List.take_length, List.replicate_succ, List.replicate_zero, sz, decide_eq_true_eq, Nat.zero_add, Nat.reduceAdd, Nat.reduceLeDiff, true_and, and_true, Nat.sub_self, Nat.reduceSub, gl, glVals, List.getElem?_cons_zero, List.getElem?_cons_succ, Bool.not_true, Bool.not_false, List.length_map, List.take_length, h.sum, fr_self hS]
end
theorem nm_pos {a b : Int} (hb : 0 < b) (ha : 0 < a) : 0 < nm a b := by
  have e := nm_mul (a := a) (b := b)
  have g := gcd_pos (a := a) hb
  rcases Int.lt_trichotomy (nm a b) 0 with z | z | z
  · have := Int.mul_neg_of_neg_of_pos z g
    omega
  · rw [z, Int.zero_mul] at e; omega
  · exact z
theorem depthAll_const {F : D} {l : List D} {k : Nat} (h : F.depth ≤ k) : PyData.depthAll (l.map fun _ => F) ≤ k := by
  induction l with
  | nil => simp [PyData.depthAll]
  | cons x l ih => simp only [List.map_cons, PyData.depthAll]; omega
/-! lots -/
def lotL (S : Int) (L : List (Int × D)) : List D := L.map fun q => .tuple [fr q.1 S, q.2]
structure Lot (n : Nat) (μ : Store) (S : Int) (L : List (Int × D)) (F : List D) : Prop where
  w : Wts S (L.map (·.1))
  f : ∀ q ∈ L, (G (n + 4)).fn 16 [.d q.2] μ = some (rd (.tuple F), μ)
  nf : nice 9 (.tuple F) = true
  df : (PyData.tuple F).depth ≤ 60
theorem mem_lotL {S : Int} {L : List (Int × D)} {x : D} (h : x ∈ lotL S L) : ∃ q ∈ L, x = .tuple [fr q.1 S, q.2] := by
  obtain ⟨q, hq, rfl⟩ := List.mem_map.mp h
  exact ⟨q, hq, rfl⟩
section
variable {n : Nat} {μ : Store} {S : Int} {L : List (Int × D)} {F : List D}
theorem Lot.len (h : Lot n μ S L F) : 1 ≤ L.length ∧ L.length ≤ 100 := by simpa using h.w.len
theorem len_lot : (lotL S L).length = L.length := by unfold lotL; rw [List.length_map]
theorem is_lot_of_f (h : Lot n μ S L F) : (G (n + 5)).fn 17 [.d (.tuple (lotL S L))] μ = some (rd (.bool true), μ) := by
  apply Run.eq
  have hS := h.w.S_pos
  have hl := h.len
  refine run_fn (bd := b_is_lot_of) rfl rfl ?_; unfold b_is_lot_of; simp only [List.map_cons, List.map_nil, List.cons_append, List.nil_append, List.append_nil, List.replicate_succ, List.replicate_zero, Nat.reduceSub]
  simp only [↓rSs_cons, ↓rSs_nil, ↓rS_asg, ↓rS_tup, ↓rS_par, ↓rS_bxa, ↓rS_app, ↓rS_set, ↓rS_aug, ↓rS_ret, ↓rS_retN, ↓rS_ife, ↓rS_for, ↓rS_while, ↓rS_pass, ↓rS_brk, ↓rS_cont, ↓rS_expr, ↓rE_var, ↓rE_cst, ↓rE_glb, ↓rE_bin, ↓rE_neg, ↓rE_not, ↓rE_cmp, ↓rE_chain, ↓rE_and, ↓rE_or, ↓rE_ife, ↓rE_call, ↓rE_b1, ↓rE_b2, ↓rE_isi, ↓rE_ix, ↓rE_sl, ↓rE_tup, ↓rE_lst, ↓rE_lc, ↓rEs_nil, ↓rEs_cons, ↓rEo_no, ↓rEo_so, ↓rC_no, ↓rC_so, ↓rI_sq, ↓rI_r1, ↓rI_r2, ↓rI_zip, ↓rI_enu, after_nx, after_rt, after_bk, after_ct, Run.some, Run.none, Run.map, Run.ifn, RunIf.tt, RunIf.ff, RunIf.not_, w_d, R.norm_d, R.norm_w, R.norm_l, peek_d, toD_d, tst_b, tst_i, tst_l, tst_t, tst_n, slot_0, slot_s, mkW_f, mkW_t, toBx_b, toInt_i, augV_a, augV_s, retR_d, retR_rd, retR_f, endOf_d, endOf_rd, endOf_f, endOf_n, geOf_glob, bind_nm, bind_tp, setAll_nil, setAll_cons, wipe_nil, wipe_cons, add_ii, sub_ii, add_ll, add_tt, mul_li, lt_ii, le_ii, gt_ii, ge_ii, eq_ii, ne_ii, eq_ss, ne_ss, Mini.is_none, Mini.isnot_none, len_l, len_t, abs_i, int_i, int_b, tuple_l, tuple_t, list_l, list_t, max_ii, min_ii, isi_int, isi_bool, isi_tup, isi_str, isi_lst, isIntD, isBoolD, isStrD, isTupD, isLstD, ix_l, ix_t, at_0, seq_l, seq_t, lstOf_l, rng1_i, rng2_i, optInt_n, optInt_i, sl_l, sl_t, mapM_nil, mapM_cons, at_1, at_2, at_3, at_4, Option.map_some, List.map_cons, List.map_nil, List.cons_append, List.nil_append, List.append_nil, List.length_cons, List.length_nil, List.set_cons_zero, List.set_cons_succ, List.take_length, List.replicate_succ, List.replicate_zero, sz, decide_eq_true_eq, Nat.zero_add, Nat.reduceAdd, Nat.reduceLeDiff, true_and, and_true, Nat.sub_self, Nat.reduceSub, gl, glVals, List.getElem?_cons_zero, List.getElem?_cons_succ, Bool.not_true, Bool.not_false, len_lot]
  refine .pos (by omega) ?_
  simp only [↓rSs_cons, ↓rSs_nil, ↓rS_asg, ↓rS_tup, ↓rS_par, ↓rS_bxa, ↓rS_app, ↓rS_set, ↓rS_aug, ↓rS_ret, ↓rS_retN, ↓rS_ife, ↓rS_for, ↓rS_while, ↓rS_pass, ↓rS_brk, ↓rS_cont, ↓rS_expr, ↓rE_var, ↓rE_cst, ↓rE_glb, ↓rE_bin, ↓rE_neg, ↓rE_not, ↓rE_cmp, ↓rE_chain, ↓rE_and, ↓rE_or, ↓rE_ife, ↓rE_call, ↓rE_b1, ↓rE_b2, ↓rE_isi, ↓rE_ix, ↓rE_sl, ↓rE_tup, ↓rE_lst, ↓rE_lc, ↓rEs_nil, ↓rEs_cons, ↓rEo_no, ↓rEo_so, ↓rC_no, ↓rC_so, ↓rI_sq, ↓rI_r1, ↓rI_r2, ↓rI_zip, ↓rI_enu, after_nx, after_rt, after_bk, after_ct, Run.some, Run.none, Run.map, Run.ifn, RunIf.tt, RunIf.ff, RunIf.not_, w_d, R.norm_d, R.norm_w, R.norm_l, peek_d, toD_d, tst_b, tst_i, tst_l, tst_t, tst_n, slot_0, slot_s, mkW_f, mkW_t, toBx_b, toInt_i, augV_a, augV_s, retR_d, retR_rd, retR_f, endOf_d, endOf_rd, endOf_f, endOf_n, geOf_glob, bind_nm, bind_tp, setAll_nil, setAll_cons, wipe_nil, wipe_cons, add_ii, sub_ii, add_ll, add_tt, mul_li, lt_ii, le_ii, gt_ii, ge_ii, eq_ii, ne_ii, eq_ss, ne_ss, Mini.is_none, Mini.isnot_none, len_l, len_t, abs_i, int_i, int_b, tuple_l, tuple_t, list_l, list_t, max_ii, min_ii, isi_int, isi_bool, isi_tup, isi_str, isi_lst, isIntD, isBoolD, isStrD, isTupD, isLstD, ix_l, ix_t, at_0, seq_l, seq_t, lstOf_l, rng1_i, rng2_i, optInt_n, optInt_i, sl_l, sl_t, mapM_nil, mapM_cons, at_1, at_2, at_3, at_4, Option.map_some, List.map_cons, List.map_nil, List.cons_append, List.nil_append, List.append_nil, List.length_cons, List.length_nil, List.set_cons_zero, List.set_cons_succ, List.take_length, List.replicate_succ, List.replicate_zero, sz, decide_eq_true_eq, Nat.zero_add, Nat.reduceAdd, Nat.reduceLeDiff, true_and, and_true, Nat.sub_self, Nat.reduceSub, gl, glVals, List.getElem?_cons_zero, List.getElem?_cons_succ, Bool.not_true, Bool.not_false, len_lot]
  rw [decide_eq_true (show (L.length : Int) ≤ 100 by omega)]
  simp only [↓rSs_cons, ↓rSs_nil, ↓rS_asg, ↓rS_tup, ↓rS_par, ↓rS_bxa, ↓rS_app, ↓rS_set, ↓rS_aug, ↓rS_ret, ↓rS_retN, ↓rS_ife, ↓rS_for, ↓rS_while, ↓rS_pass, ↓rS_brk, ↓rS_cont, ↓rS_expr, ↓rE_var, ↓rE_cst, ↓rE_glb, ↓rE_bin, ↓rE_neg, ↓rE_not, ↓rE_cmp, ↓rE_chain, ↓rE_and, ↓rE_or, ↓rE_ife, ↓rE_call, ↓rE_b1, ↓rE_b2, ↓rE_isi, ↓rE_ix, ↓rE_sl, ↓rE_tup, ↓rE_lst, ↓rE_lc, ↓rEs_nil, ↓rEs_cons, ↓rEo_no, ↓rEo_so, ↓rC_no, ↓rC_so, ↓rI_sq, ↓rI_r1, ↓rI_r2, ↓rI_zip, ↓rI_enu, after_nx, after_rt, after_bk, after_ct, Run.some, Run.none, Run.map, Run.ifn, RunIf.tt, RunIf.ff, RunIf.not_, w_d, R.norm_d, R.norm_w, R.norm_l, peek_d, toD_d, tst_b, tst_i, tst_l, tst_t, tst_n, slot_0, slot_s, mkW_f, mkW_t, toBx_b, toInt_i, augV_a, augV_s, retR_d, retR_rd, retR_f, endOf_d, endOf_rd, endOf_f, endOf_n, geOf_glob, bind_nm, bind_tp, setAll_nil, setAll_cons, wipe_nil, wipe_cons, add_ii, sub_ii, add_ll, add_tt, mul_li, lt_ii, le_ii, gt_ii, ge_ii, eq_ii, ne_ii, eq_ss, ne_ss, Mini.is_none, Mini.isnot_none, len_l, len_t, abs_i, int_i, int_b, tuple_l, tuple_t, list_l, list_t, max_ii, min_ii, isi_int, isi_bool, isi_tup, isi_str, isi_lst, isIntD, isBoolD, isStrD, isTupD, isLstD, ix_l, ix_t, at_0, seq_l, seq_t, lstOf_l, rng1_i, rng2_i, optInt_n, optInt_i, sl_l, sl_t, mapM_nil, mapM_cons, at_1, at_2, at_3, at_4, Option.map_some, List.map_cons, List.map_nil, List.cons_append, List.nil_append, List.append_nil, List.length_cons, List.length_nil, List.set_cons_zero, List.set_cons_succ, List.take_length, List.replicate_succ, List.replicate_zero, sz, decide_eq_true_eq, Nat.zero_add, Nat.reduceAdd, Nat.reduceLeDiff, true_and, and_true, Nat.sub_self, Nat.reduceSub, gl, glVals, List.getElem?_cons_zero, List.getElem?_cons_succ, Bool.not_true, Bool.not_false, len_lot]
  refine ⟨by omega, ?_⟩
  refine .of_eq (lc_map (fun _ => .bool true) fun x hx => ?_) ?_
  · obtain ⟨q, hq, rfl⟩ := mem_lotL hx
    simp only [↓rSs_cons, ↓rSs_nil, ↓rS_asg, ↓rS_tup, ↓rS_par, ↓rS_bxa, ↓rS_app, ↓rS_set, ↓rS_aug, ↓rS_ret, ↓rS_retN, ↓rS_ife, ↓rS_for, ↓rS_while, ↓rS_pass, ↓rS_brk, ↓rS_cont, ↓rS_expr, ↓rE_var, ↓rE_cst, ↓rE_glb, ↓rE_bin, ↓rE_neg, ↓rE_not, ↓rE_cmp, ↓rE_chain, ↓rE_and, ↓rE_or, ↓rE_ife, ↓rE_call, ↓rE_b1, ↓rE_b2, ↓rE_isi, ↓rE_ix, ↓rE_sl, ↓rE_tup, ↓rE_lst, ↓rE_lc, ↓rEs_nil, ↓rEs_cons, ↓rEo_no, ↓rEo_so, ↓rC_no, ↓rC_so, ↓rI_sq, ↓rI_r1, ↓rI_r2, ↓rI_zip, ↓rI_enu, after_nx, after_rt, after_bk, after_ct, Run.some, Run.none, Run.map, Run.ifn, RunIf.tt, RunIf.ff, RunIf.not_, w_d, R.norm_d, R.norm_w, R.norm_l, peek_d, toD_d, tst_b, tst_i, tst_l, tst_t, tst_n, slot_0, slot_s, mkW_f, mkW_t, toBx_b, toInt_i, augV_a, augV_s, retR_d, retR_rd, retR_f, endOf_d, endOf_rd, endOf_f, endOf_n, geOf_glob, bind_nm, bind_tp, setAll_nil, setAll_cons, wipe_nil, wipe_cons, add_ii, sub_ii, add_ll, add_tt, mul_li, lt_ii, le_ii, gt_ii, ge_ii, eq_ii, ne_ii, eq_ss, ne_ss, Mini.is_none, Mini.isnot_none, len_l, len_t, abs_i, int_i, int_b, tuple_l, tuple_t, list_l, list_t, max_ii, min_ii, isi_int, isi_bool, isi_tup, isi_str, isi_lst, isIntD, isBoolD, isStrD, isTupD, isLstD, ix_l, ix_t, at_0, seq_l, seq_t, lstOf_l, rng1_i, rng2_i, optInt_n, optInt_i, sl_l, sl_t, mapM_nil, mapM_cons, at_1, at_2, at_3, at_4, Option.map_some, List.map_cons, List.map_nil, List.cons_append, List.nil_append, List.append_nil, List.length_cons, List.length_nil, List.set_cons_zero, List.set_cons_succ, List.take_length, List.replicate_succ, List.replicate_zero, sz, decide_eq_true_eq, Nat.zero_add, Nat.reduceAdd, Nat.reduceLeDiff, true_and, and_true, Nat.sub_self, Nat.reduceSub, gl, glVals, List.getElem?_cons_zero, List.getElem?_cons_succ, Bool.not_true, Bool.not_false, is_pair_t]
  simp only [↓rSs_cons, ↓rSs_nil, ↓rS_asg, ↓rS_tup, ↓rS_par, ↓rS_bxa, ↓rS_app, ↓rS_set, ↓rS_aug, ↓rS_ret, ↓rS_retN, ↓rS_ife, ↓rS_for, ↓rS_while, ↓rS_pass, ↓rS_brk, ↓rS_cont, ↓rS_expr, ↓rE_var, ↓rE_cst, ↓rE_glb, ↓rE_bin, ↓rE_neg, ↓rE_not, ↓rE_cmp, ↓rE_chain, ↓rE_and, ↓rE_or, ↓rE_ife, ↓rE_call, ↓rE_b1, ↓rE_b2, ↓rE_isi, ↓rE_ix, ↓rE_sl, ↓rE_tup, ↓rE_lst, ↓rE_lc, ↓rEs_nil, ↓rEs_cons, ↓rEo_no, ↓rEo_so, ↓rC_no, ↓rC_so, ↓rI_sq, ↓rI_r1, ↓rI_r2, ↓rI_zip, ↓rI_enu, after_nx, after_rt, after_bk, after_ct, Run.some, Run.none, Run.map, Run.ifn, RunIf.tt, RunIf.ff, RunIf.not_, w_d, R.norm_d, R.norm_w, R.norm_l, peek_d, toD_d, tst_b, tst_i, tst_l, tst_t, tst_n, slot_0, slot_s, mkW_f, mkW_t, toBx_b, toInt_i, augV_a, augV_s, retR_d, retR_rd, retR_f, endOf_d, endOf_rd, endOf_f, endOf_n, geOf_glob, bind_nm, bind_tp, setAll_nil, setAll_cons, wipe_nil, wipe_cons, add_ii, sub_ii, add_ll, add_tt, mul_li, lt_ii, le_ii, gt_ii, ge_ii, eq_ii, ne_ii, eq_ss, ne_ss, Mini.is_none, Mini.isnot_none, len_l, len_t, abs_i, int_i, int_b, tuple_l, tuple_t, list_l, list_t, max_ii, min_ii, isi_int, isi_bool, isi_tup, isi_str, isi_lst, isIntD, isBoolD, isStrD, isTupD, isLstD, ix_l, ix_t, at_0, seq_l, seq_t, lstOf_l, rng1_i, rng2_i, optInt_n, optInt_i, sl_l, sl_t, mapM_nil, mapM_cons, at_1, at_2, at_3, at_4, Option.map_some, List.map_cons, List.map_nil, List.cons_append, List.nil_append, List.append_nil, List.length_cons, List.length_nil, List.set_cons_zero, List.set_cons_succ, List.take_length, List.replicate_succ, List.replicate_zero, sz, decide_eq_true_eq, Nat.zero_add, Nat.reduceAdd, Nat.reduceLeDiff, true_and, and_true, Nat.sub_self, Nat.reduceSub, gl, glVals, List.getElem?_cons_zero, List.getElem?_cons_succ, Bool.not_true, Bool.not_false, all_tt, len_lot]
  refine ⟨by omega, ?_⟩
  refine .of_eq (lc_map (fun _ => .bool true) fun x hx => ?_) ?_
  · obtain ⟨q, hq, rfl⟩ := mem_lotL hx
    have hq' : q.1 ∈ L.map (·.1) := List.mem_map_of_mem hq
    simp only [↓rSs_cons, ↓rSs_nil, ↓rS_asg, ↓rS_tup, ↓rS_par, ↓rS_bxa, ↓rS_app, ↓rS_set, ↓rS_aug, ↓rS_ret, ↓rS_retN, ↓rS_ife, ↓rS_for, ↓rS_while, ↓rS_pass, ↓rS_brk, ↓rS_cont, ↓rS_expr, ↓rE_var, ↓rE_cst, ↓rE_glb, ↓rE_bin, ↓rE_neg, ↓rE_not, ↓rE_cmp, ↓rE_chain, ↓rE_and, ↓rE_or, ↓rE_ife, ↓rE_call, ↓rE_b1, ↓rE_b2, ↓rE_isi, ↓rE_ix, ↓rE_sl, ↓rE_tup, ↓rE_lst, ↓rE_lc, ↓rEs_nil, ↓rEs_cons, ↓rEo_no, ↓rEo_so, ↓rC_no, ↓rC_so, ↓rI_sq, ↓rI_r1, ↓rI_r2, ↓rI_zip, ↓rI_enu, after_nx, after_rt, after_bk, after_ct, Run.some, Run.none, Run.map, Run.ifn, RunIf.tt, RunIf.ff, RunIf.not_, w_d, R.norm_d, R.norm_w, R.norm_l, peek_d, toD_d, tst_b, tst_i, tst_l, tst_t, tst_n, slot_0, slot_s, mkW_f, mkW_t, toBx_b, toInt_i, augV_a, augV_s, retR_d, retR_rd, retR_f, endOf_d, endOf_rd, endOf_f, endOf_n, geOf_glob, bind_nm, bind_tp, setAll_nil, setAll_cons, wipe_nil, wipe_cons, add_ii, sub_ii, add_ll, add_tt, mul_li, lt_ii, le_ii, gt_ii, ge_ii, eq_ii, ne_ii, eq_ss, ne_ss, Mini.is_none, Mini.isnot_none, len_l, len_t, abs_i, int_i, int_b, tuple_l, tuple_t, list_l, list_t, max_ii, min_ii, isi_int, isi_bool, isi_tup, isi_str, isi_lst, isIntD, isBoolD, isStrD, isTupD, isLstD, ix_l, ix_t, at_0, seq_l, seq_t, lstOf_l, rng1_i, rng2_i, optInt_n, optInt_i, sl_l, sl_t, mapM_nil, mapM_cons, at_1, at_2, at_3, at_4, Option.map_some, List.map_cons, List.map_nil, List.cons_append, List.nil_append, List.append_nil, List.length_cons, List.length_nil, List.set_cons_zero, List.set_cons_succ, List.take_length, List.replicate_succ, List.replicate_zero, sz, decide_eq_true_eq, Nat.zero_add, Nat.reduceAdd, Nat.reduceLeDiff, true_and, and_true, Nat.sub_self, Nat.reduceSub, gl, glVals, List.getElem?_cons_zero, List.getElem?_cons_succ, Bool.not_true, Bool.not_false, is_fraction_f hS (h.w.bt.mono (by decide : 1000 ≤ 9000))]
    unfold fr
    simp only [↓rSs_cons, ↓rSs_nil, ↓rS_asg, ↓rS_tup, ↓rS_par, ↓rS_bxa, ↓rS_app, ↓rS_set, ↓rS_aug, ↓rS_ret, ↓rS_retN, ↓rS_ife, ↓rS_for, ↓rS_while, ↓rS_pass, ↓rS_brk, ↓rS_cont, ↓rS_expr, ↓rE_var, ↓rE_cst, ↓rE_glb, ↓rE_bin, ↓rE_neg, ↓rE_not, ↓rE_cmp, ↓rE_chain, ↓rE_and, ↓rE_or, ↓rE_ife, ↓rE_call, ↓rE_b1, ↓rE_b2, ↓rE_isi, ↓rE_ix, ↓rE_sl, ↓rE_tup, ↓rE_lst, ↓rE_lc, ↓rEs_nil, ↓rEs_cons, ↓rEo_no, ↓rEo_so, ↓rC_no, ↓rC_so, ↓rI_sq, ↓rI_r1, ↓rI_r2, ↓rI_zip, ↓rI_enu, after_nx, after_rt, after_bk, after_ct, Run.some, Run.none, Run.map, Run.ifn, RunIf.tt, RunIf.ff, RunIf.not_, w_d, R.norm_d, R.norm_w, R.norm_l, peek_d, toD_d, tst_b, tst_i, tst_l, tst_t, tst_n, slot_0, slot_s, mkW_f, mkW_t, toBx_b, toInt_i, augV_a, augV_s, retR_d, retR_rd, retR_f, endOf_d, endOf_rd, endOf_f, endOf_n, geOf_glob, bind_nm, bind_tp, setAll_nil, setAll_cons, wipe_nil, wipe_cons, add_ii, sub_ii, add_ll, add_tt, mul_li, lt_ii, le_ii, gt_ii, ge_ii, eq_ii, ne_ii, eq_ss, ne_ss, Mini.is_none, Mini.isnot_none, len_l, len_t, abs_i, int_i, int_b, tuple_l, tuple_t, list_l, list_t, max_ii, min_ii, isi_int, isi_bool, isi_tup, isi_str, isi_lst, isIntD, isBoolD, isStrD, isTupD, isLstD, ix_l, ix_t, at_0, seq_l, seq_t, lstOf_l, rng1_i, rng2_i, optInt_n, optInt_i, sl_l, sl_t, mapM_nil, mapM_cons, at_1, at_2, at_3, at_4, Option.map_some, List.map_cons, List.map_nil, List.cons_append, List.nil_append, List.append_nil, List.length_cons, List.length_nil, List.set_cons_zero, List.set_cons_succ, List.take_length, List.replicate_succ, List.replicate_zero, sz, decide_eq_true_eq, Nat.zero_add, Nat.reduceAdd, Nat.reduceLeDiff, true_and, and_true, Nat.sub_self, Nat.reduceSub, gl, glVals, List.getElem?_cons_zero, List.getElem?_cons_succ, Bool.not_true, Bool.not_false]
    rw [decide_eq_true (nm_pos hS (h.w.pos _ hq'))]
  simp only [↓rSs_cons, ↓rSs_nil, ↓rS_asg, ↓rS_tup, ↓rS_par, ↓rS_bxa, ↓rS_app, ↓rS_set, ↓rS_aug, ↓rS_ret, ↓rS_retN, ↓rS_ife, ↓rS_for, ↓rS_while, ↓rS_pass, ↓rS_brk, ↓rS_cont, ↓rS_expr, ↓rE_var, ↓rE_cst, ↓rE_glb, ↓rE_bin, ↓rE_neg, ↓rE_not, ↓rE_cmp, ↓rE_chain, ↓rE_and, ↓rE_or, ↓rE_ife, ↓rE_call, ↓rE_b1, ↓rE_b2, ↓rE_isi, ↓rE_ix, ↓rE_sl, ↓rE_tup, ↓rE_lst, ↓rE_lc, ↓rEs_nil, ↓rEs_cons, ↓rEo_no, ↓rEo_so, ↓rC_no, ↓rC_so, ↓rI_sq, ↓rI_r1, ↓rI_r2, ↓rI_zip, ↓rI_enu, after_nx, after_rt, after_bk, after_ct, Run.some, Run.none, Run.map, Run.ifn, RunIf.tt, RunIf.ff, RunIf.not_, w_d, R.norm_d, R.norm_w, R.norm_l, peek_d, toD_d, tst_b, tst_i, tst_l, tst_t, tst_n, slot_0, slot_s, mkW_f, mkW_t, toBx_b, toInt_i, augV_a, augV_s, retR_d, retR_rd, retR_f, endOf_d, endOf_rd, endOf_f, endOf_n, geOf_glob, bind_nm, bind_tp, setAll_nil, setAll_cons, wipe_nil, wipe_cons, add_ii, sub_ii, add_ll, add_tt, mul_li, lt_ii, le_ii, gt_ii, ge_ii, eq_ii, ne_ii, eq_ss, ne_ss, Mini.is_none, Mini.isnot_none, len_l, len_t, abs_i, int_i, int_b, tuple_l, tuple_t, list_l, list_t, max_ii, min_ii, isi_int, isi_bool, isi_tup, isi_str, isi_lst, isIntD, isBoolD, isStrD, isTupD, isLstD, ix_l, ix_t, at_0, seq_l, seq_t, lstOf_l, rng1_i, rng2_i, optInt_n, optInt_i, sl_l, sl_t, mapM_nil, mapM_cons, at_1, at_2, at_3, at_4, Option.map_some, List.map_cons, List.map_nil, List.cons_append, List.nil_append, List.append_nil, List.length_cons, List.length_nil, List.set_cons_zero, List.set_cons_succ, List.take_length, List.replicate_succ, List.replicate_zero, sz, decide_eq_true_eq, Nat.zero_add, Nat.reduceAdd, Nat.reduceLeDiff, true_and, and_true, Nat.sub_self, Nat.reduceSub, gl, glVals, List.getElem?_cons_zero, List.getElem?_cons_succ, Bool.not_true, Bool.not_false, all_tt, len_lot]
  refine ⟨by omega, ?_⟩
  refine .of_eq (lc_map (fun _ => .tuple F) fun x hx => ?_) ?_
  · obtain ⟨q, hq, rfl⟩ := mem_lotL hx
    simp only [↓rSs_cons, ↓rSs_nil, ↓rS_asg, ↓rS_tup, ↓rS_par, ↓rS_bxa, ↓rS_app, ↓rS_set, ↓rS_aug, ↓rS_ret, ↓rS_retN, ↓rS_ife, ↓rS_for, ↓rS_while, ↓rS_pass, ↓rS_brk, ↓rS_cont, ↓rS_expr, ↓rE_var, ↓rE_cst, ↓rE_glb, ↓rE_bin, ↓rE_neg, ↓rE_not, ↓rE_cmp, ↓rE_chain, ↓rE_and, ↓rE_or, ↓rE_ife, ↓rE_call, ↓rE_b1, ↓rE_b2, ↓rE_isi, ↓rE_ix, ↓rE_sl, ↓rE_tup, ↓rE_lst, ↓rE_lc, ↓rEs_nil, ↓rEs_cons, ↓rEo_no, ↓rEo_so, ↓rC_no, ↓rC_so, ↓rI_sq, ↓rI_r1, ↓rI_r2, ↓rI_zip, ↓rI_enu, after_nx, after_rt, after_bk, after_ct, Run.some, Run.none, Run.map, Run.ifn, RunIf.tt, RunIf.ff, RunIf.not_, w_d, R.norm_d, R.norm_w, R.norm_l, peek_d, toD_d, tst_b, tst_i, tst_l, tst_t, tst_n, slot_0, slot_s, mkW_f, mkW_t, toBx_b, toInt_i, augV_a, augV_s, retR_d, retR_rd, retR_f, endOf_d, endOf_rd, endOf_f, endOf_n, geOf_glob, bind_nm, bind_tp, setAll_nil, setAll_cons, wipe_nil, wipe_cons, add_ii, sub_ii, add_ll, add_tt, mul_li, lt_ii, le_ii, gt_ii, ge_ii, eq_ii, ne_ii, eq_ss, ne_ss, Mini.is_none, Mini.isnot_none, len_l, len_t, abs_i, int_i, int_b, tuple_l, tuple_t, list_l, list_t, max_ii, min_ii, isi_int, isi_bool, isi_tup, isi_str, isi_lst, isIntD, isBoolD, isStrD, isTupD, isLstD, ix_l, ix_t, at_0, seq_l, seq_t, lstOf_l, rng1_i, rng2_i, optInt_n, optInt_i, sl_l, sl_t, mapM_nil, mapM_cons, at_1, at_2, at_3, at_4, Option.map_some, List.map_cons, List.map_nil, List.cons_append, List.nil_append, List.append_nil, List.length_cons, List.length_nil, List.set_cons_zero, List.set_cons_succ, List.take_length, List.replicate_succ, List.replicate_zero, sz, decide_eq_true_eq, Nat.zero_add, Nat.reduceAdd, Nat.reduceLeDiff, true_and, and_true, Nat.sub_self, Nat.reduceSub, gl, glVals, List.getElem?_cons_zero, List.getElem?_cons_succ, Bool.not_true, Bool.not_false, h.f q hq]
  have hsF : SeqAt.shaped (.tuple F) = true := shaped_of h.nf (Nat.le_trans h.df (by decide))
  have hsL : SeqAt.shaped (.list ((lotL S L).map fun _ => PyData.tuple F)) = true := by
    refine shaped_of (k := 9) ?_ ?_
    · simp only [nice]
      rw [niceAll_iff]
      intro x hx
      obtain ⟨_, _, rfl⟩ := List.mem_map.mp hx
      exact h.nf
    · simp only [PyData.depth]
      have := depthAll_const (l := lotL S L) h.df
      omega
  simp only [↓rSs_cons, ↓rSs_nil, ↓rS_asg, ↓rS_tup, ↓rS_par, ↓rS_bxa, ↓rS_app, ↓rS_set, ↓rS_aug, ↓rS_ret, ↓rS_retN, ↓rS_ife, ↓rS_for, ↓rS_while, ↓rS_pass, ↓rS_brk, ↓rS_cont, ↓rS_expr, ↓rE_var, ↓rE_cst, ↓rE_glb, ↓rE_bin, ↓rE_neg, ↓rE_not, ↓rE_cmp, ↓rE_chain, ↓rE_and, ↓rE_or, ↓rE_ife, ↓rE_call, ↓rE_b1, ↓rE_b2, ↓rE_isi, ↓rE_ix, ↓rE_sl, ↓rE_tup, ↓rE_lst, ↓rE_lc, ↓rEs_nil, ↓rEs_cons, ↓rEo_no, ↓rEo_so, ↓rC_no, ↓rC_so, ↓rI_sq, ↓rI_r1, ↓rI_r2, ↓rI_zip, ↓rI_enu, after_nx, after_rt, after_bk, after_ct, Run.some, Run.none, Run.map, Run.ifn, RunIf.tt, RunIf.ff, RunIf.not_, w_d, R.norm_d, R.norm_w, R.norm_l, peek_d, toD_d, tst_b, tst_i, tst_l, tst_t, tst_n, slot_0, slot_s, mkW_f, mkW_t, toBx_b, toInt_i, augV_a, augV_s, retR_d, retR_rd, retR_f, endOf_d, endOf_rd, endOf_f, endOf_n, geOf_glob, bind_nm, bind_tp, setAll_nil, setAll_cons, wipe_nil, wipe_cons, add_ii, sub_ii, add_ll, add_tt, mul_li, lt_ii, le_ii, gt_ii, ge_ii, eq_ii, ne_ii, eq_ss, ne_ss, Mini.is_none, Mini.isnot_none, len_l, len_t, abs_i, int_i, int_b, tuple_l, tuple_t, list_l, list_t, max_ii, min_ii, isi_int, isi_bool, isi_tup, isi_str, isi_lst, isIntD, isBoolD, isStrD, isTupD, isLstD, ix_l, ix_t, at_0, seq_l, seq_t, lstOf_l, rng1_i, rng2_i, optInt_n, optInt_i, sl_l, sl_t, mapM_nil, mapM_cons, at_1, at_2, at_3, at_4, Option.map_some, List.map_cons, List.map_nil, List.cons_append, List.nil_append, List.append_nil, List.length_cons, List.length_nil, List.set_cons_zero, List.set_cons_succ, List.take_length, List.replicate_succ, List.replicate_zero, sz, decide_eq_true_eq, Nat.zero_add, Nat.reduceAdd, Nat.reduceLeDiff, true_and, and_true, Nat.sub_self, Nat.reduceSub, gl, glVals, List.getElem?_cons_zero, List.getElem?_cons_succ, Bool.not_true, Bool.not_false, in_of (x := .none) rfl hsL, List.any_map]
  rw [List.any_eq_false.mpr (fun x _ => by simp [PyData.eqv])]
  simp only [↓rSs_cons, ↓rSs_nil, ↓rS_asg, ↓rS_tup, ↓rS_par, ↓rS_bxa, ↓rS_app, ↓rS_set, ↓rS_aug, ↓rS_ret, ↓rS_retN, ↓rS_ife, ↓rS_for, ↓rS_while, ↓rS_pass, ↓rS_brk, ↓rS_cont, ↓rS_expr, ↓rE_var, ↓rE_cst, ↓rE_glb, ↓rE_bin, ↓rE_neg, ↓rE_not, ↓rE_cmp, ↓rE_chain, ↓rE_and, ↓rE_or, ↓rE_ife, ↓rE_call, ↓rE_b1, ↓rE_b2, ↓rE_isi, ↓rE_ix, ↓rE_sl, ↓rE_tup, ↓rE_lst, ↓rE_lc, ↓rEs_nil, ↓rEs_cons, ↓rEo_no, ↓rEo_so, ↓rC_no, ↓rC_so, ↓rI_sq, ↓rI_r1, ↓rI_r2, ↓rI_zip, ↓rI_enu, after_nx, after_rt, after_bk, after_ct, Run.some, Run.none, Run.map, Run.ifn, RunIf.tt, RunIf.ff, RunIf.not_, w_d, R.norm_d, R.norm_w, R.norm_l, peek_d, toD_d, tst_b, tst_i, tst_l, tst_t, tst_n, slot_0, slot_s, mkW_f, mkW_t, toBx_b, toInt_i, augV_a, augV_s, retR_d, retR_rd, retR_f, endOf_d, endOf_rd, endOf_f, endOf_n, geOf_glob, bind_nm, bind_tp, setAll_nil, setAll_cons, wipe_nil, wipe_cons, add_ii, sub_ii, add_ll, add_tt, mul_li, lt_ii, le_ii, gt_ii, ge_ii, eq_ii, ne_ii, eq_ss, ne_ss, Mini.is_none, Mini.isnot_none, len_l, len_t, abs_i, int_i, int_b, tuple_l, tuple_t, list_l, list_t, max_ii, min_ii, isi_int, isi_bool, isi_tup, isi_str, isi_lst, isIntD, isBoolD, isStrD, isTupD, isLstD, ix_l, ix_t, at_0, seq_l, seq_t, lstOf_l, rng1_i, rng2_i, optInt_n, optInt_i, sl_l, sl_t, mapM_nil, mapM_cons, at_1, at_2, at_3, at_4, Option.map_some, List.map_cons, List.map_nil, List.cons_append, List.nil_append, List.append_nil, List.length_cons, List.length_nil, List.set_cons_zero, List.set_cons_succ, List.take_length, List.replicate_succ, List.replicate_zero, sz, decide_eq_true_eq, Nat.zero_add, Nat.reduceAdd, Nat.reduceLeDiff, true_and, and_true, Nat.sub_self, Nat.reduceSub, gl, glVals, List.getElem?_cons_zero, List.getElem?_cons_succ, Bool.not_true, Bool.not_false, List.length_map, len_lot]
  refine ⟨by omega, ?_⟩
  refine .of_eq (lc_map (fun _ => .bool true) fun x hx => ?_) ?_
  · obtain ⟨_, _, rfl⟩ := List.mem_map.mp hx
    obtain ⟨q0, hq0⟩ : ∃ q0, (lotL S L)[0]? = some q0 := ⟨_, List.getElem?_eq_getElem (by rw [len_lot]; omega)⟩
    simp only [↓rSs_cons, ↓rSs_nil, ↓rS_asg, ↓rS_tup, ↓rS_par, ↓rS_bxa, ↓rS_app, ↓rS_set, ↓rS_aug, ↓rS_ret, ↓rS_retN, ↓rS_ife, ↓rS_for, ↓rS_while, ↓rS_pass, ↓rS_brk, ↓rS_cont, ↓rS_expr, ↓rE_var, ↓rE_cst, ↓rE_glb, ↓rE_bin, ↓rE_neg, ↓rE_not, ↓rE_cmp, ↓rE_chain, ↓rE_and, ↓rE_or, ↓rE_ife, ↓rE_call, ↓rE_b1, ↓rE_b2, ↓rE_isi, ↓rE_ix, ↓rE_sl, ↓rE_tup, ↓rE_lst, ↓rE_lc, ↓rEs_nil, ↓rEs_cons, ↓rEo_no, ↓rEo_so, ↓rC_no, ↓rC_so, ↓rI_sq, ↓rI_r1, ↓rI_r2, ↓rI_zip, ↓rI_enu, after_nx, after_rt, after_bk, after_ct, Run.some, Run.none, Run.map, Run.ifn, RunIf.tt, RunIf.ff, RunIf.not_, w_d, R.norm_d, R.norm_w, R.norm_l, peek_d, toD_d, tst_b, tst_i, tst_l, tst_t, tst_n, slot_0, slot_s, mkW_f, mkW_t, toBx_b, toInt_i, augV_a, augV_s, retR_d, retR_rd, retR_f, endOf_d, endOf_rd, endOf_f, endOf_n, geOf_glob, bind_nm, bind_tp, setAll_nil, setAll_cons, wipe_nil, wipe_cons, add_ii, sub_ii, add_ll, add_tt, mul_li, lt_ii, le_ii, gt_ii, ge_ii, eq_ii, ne_ii, eq_ss, ne_ss, Mini.is_none, Mini.isnot_none, len_l, len_t, abs_i, int_i, int_b, tuple_l, tuple_t, list_l, list_t, max_ii, min_ii, isi_int, isi_bool, isi_tup, isi_str, isi_lst, isIntD, isBoolD, isStrD, isTupD, isLstD, ix_l, ix_t, at_0, seq_l, seq_t, lstOf_l, rng1_i, rng2_i, optInt_n, optInt_i, sl_l, sl_t, mapM_nil, mapM_cons, at_1, at_2, at_3, at_4, Option.map_some, List.map_cons, List.map_nil, List.cons_append, List.nil_append, List.append_nil, List.length_cons, List.length_nil, List.set_cons_zero, List.set_cons_succ, List.take_length, List.replicate_succ, List.replicate_zero, sz, decide_eq_true_eq, Nat.zero_add, Nat.reduceAdd, Nat.reduceLeDiff, true_and, and_true, Nat.sub_self, Nat.reduceSub, gl, glVals, List.getElem?_cons_zero, List.getElem?_cons_succ, Bool.not_true, Bool.not_false, at_map0 hq0, eqD_of hsF hsF, eqv_refl h.nf]
  simp only [↓rSs_cons, ↓rSs_nil, ↓rS_asg, ↓rS_tup, ↓rS_par, ↓rS_bxa, ↓rS_app, ↓rS_set, ↓rS_aug, ↓rS_ret, ↓rS_retN, ↓rS_ife, ↓rS_for, ↓rS_while, ↓rS_pass, ↓rS_brk, ↓rS_cont, ↓rS_expr, ↓rE_var, ↓rE_cst, ↓rE_glb, ↓rE_bin, ↓rE_neg, ↓rE_not, ↓rE_cmp, ↓rE_chain, ↓rE_and, ↓rE_or, ↓rE_ife, ↓rE_call, ↓rE_b1, ↓rE_b2, ↓rE_isi, ↓rE_ix, ↓rE_sl, ↓rE_tup, ↓rE_lst, ↓rE_lc, ↓rEs_nil, ↓rEs_cons, ↓rEo_no, ↓rEo_so, ↓rC_no, ↓rC_so, ↓rI_sq, ↓rI_r1, ↓rI_r2, ↓rI_zip, ↓rI_enu, after_nx, after_rt, after_bk, after_ct, Run.some, Run.none, Run.map, Run.ifn, RunIf.tt, RunIf.ff, RunIf.not_, w_d, R.norm_d, R.norm_w, R.norm_l, peek_d, toD_d, tst_b, tst_i, tst_l, tst_t, tst_n, slot_0, slot_s, mkW_f, mkW_t, toBx_b, toInt_i, augV_a, augV_s, retR_d, retR_rd, retR_f, endOf_d, endOf_rd, endOf_f, endOf_n, geOf_glob, bind_nm, bind_tp, setAll_nil, setAll_cons, wipe_nil, wipe_cons, add_ii, sub_ii, add_ll, add_tt, mul_li, lt_ii, le_ii, gt_ii, ge_ii, eq_ii, ne_ii, eq_ss, ne_ss, Mini.is_none, Mini.isnot_none, len_l, len_t, abs_i, int_i, int_b, tuple_l, tuple_t, list_l, list_t, max_ii, min_ii, isi_int, isi_bool, isi_tup, isi_str, isi_lst, isIntD, isBoolD, isStrD, isTupD, isLstD, ix_l, ix_t, at_0, seq_l, seq_t, lstOf_l, rng1_i, rng2_i, optInt_n, optInt_i, sl_l, sl_t, mapM_nil, mapM_cons, at_1, at_2, at_3, at_4, Option.map_some, List.map_cons, List.map_nil, List.cons_append, List.nil_append, List.append_nil, List.length_cons, List.length_nil, List.set_cons_zero, List.set_cons_succ, List.take_length, List.replicate_succ, List.replicate_zero, sz, decide_eq_true_eq, Nat.zero_add, Nat.reduceAdd, Nat.reduceLeDiff, true_and, and_true, Nat.sub_self, Nat.reduceSub, gl, glVals, List.getElem?_cons_zero, List.getElem?_cons_succ, Bool.not_true, Bool.not_false, all_tt, List.length_map, len_lot]
  refine ⟨by omega, ?_⟩
  refine .of_eq (lc_map (fun x => match x with | .tuple (w :: _) => w | _ => .none) fun x hx => ?_) ?_
  · obtain ⟨q, hq, rfl⟩ := mem_lotL hx
    simp only [↓rSs_cons, ↓rSs_nil, ↓rS_asg, ↓rS_tup, ↓rS_par, ↓rS_bxa, ↓rS_app, ↓rS_set, ↓rS_aug, ↓rS_ret, ↓rS_retN, ↓rS_ife, ↓rS_for, ↓rS_while, ↓rS_pass, ↓rS_brk, ↓rS_cont, ↓rS_expr, ↓rE_var, ↓rE_cst, ↓rE_glb, ↓rE_bin, ↓rE_neg, ↓rE_not, ↓rE_cmp, ↓rE_chain, ↓rE_and, ↓rE_or, ↓rE_ife, ↓rE_call, ↓rE_b1, ↓rE_b2, ↓rE_isi, ↓rE_ix, ↓rE_sl, ↓rE_tup, ↓rE_lst, ↓rE_lc, ↓rEs_nil, ↓rEs_cons, ↓rEo_no, ↓rEo_so, ↓rC_no, ↓rC_so, ↓rI_sq, ↓rI_r1, ↓rI_r2, ↓rI_zip, ↓rI_enu, after_nx, after_rt, after_bk, after_ct, Run.some, Run.none, Run.map, Run.ifn, RunIf.tt, RunIf.ff, RunIf.not_, w_d, R.norm_d, R.norm_w, R.norm_l, peek_d, toD_d, tst_b, tst_i, tst_l, tst_t, tst_n, slot_0, slot_s, mkW_f, mkW_t, toBx_b, toInt_i, augV_a, augV_s, retR_d, retR_rd, retR_f, endOf_d, endOf_rd, endOf_f, endOf_n, geOf_glob, bind_nm, bind_tp, setAll_nil, setAll_cons, wipe_nil, wipe_cons, add_ii, sub_ii, add_ll, add_tt, mul_li, lt_ii, le_ii, gt_ii, ge_ii, eq_ii, ne_ii, eq_ss, ne_ss, Mini.is_none, Mini.isnot_none, len_l, len_t, abs_i, int_i, int_b, tuple_l, tuple_t, list_l, list_t, max_ii, min_ii, isi_int, isi_bool, isi_tup, isi_str, isi_lst, isIntD, isBoolD, isStrD, isTupD, isLstD, ix_l, ix_t, at_0, seq_l, seq_t, lstOf_l, rng1_i, rng2_i, optInt_n, optInt_i, sl_l, sl_t, mapM_nil, mapM_cons, at_1, at_2, at_3, at_4, Option.map_some, List.map_cons, List.map_nil, List.cons_append, List.nil_append, List.append_nil, List.length_cons, List.length_nil, List.set_cons_zero, List.set_cons_succ, List.take_length, List.replicate_succ, List.replicate_zero, sz, decide_eq_true_eq, Nat.zero_add, Nat.reduceAdd, Nat.reduceLeDiff, true_and, and_true, Nat.sub_self, Nat.reduceSub, gl, glVals, List.getElem?_cons_zero, List.getElem?_cons_succ, Bool.not_true, Bool.not_false]
  have e : (lotL S L).map (fun x => match x with | .tuple (w :: _) => w | _ => PyData.none) = (L.map (·.1)).map (fr · S) := by
    unfold lotL
    rw [List.map_map, List.map_map]
    rfl
  simp only [↓rSs_cons, ↓rSs_nil, ↓rS_asg, ↓rS_tup, ↓rS_par, ↓rS_bxa, ↓rS_app, ↓rS_set, ↓rS_aug, ↓rS_ret, ↓rS_retN, ↓rS_ife, ↓rS_for, ↓rS_while, ↓rS_pass, ↓rS_brk, ↓rS_cont, ↓rS_expr, ↓rE_var, ↓rE_cst, ↓rE_glb, ↓rE_bin, ↓rE_neg, ↓rE_not, ↓rE_cmp, ↓rE_chain, ↓rE_and, ↓rE_or, ↓rE_ife, ↓rE_call, ↓rE_b1, ↓rE_b2, ↓rE_isi, ↓rE_ix, ↓rE_sl, ↓rE_tup, ↓rE_lst, ↓rE_lc, ↓rEs_nil, ↓rEs_cons, ↓rEo_no, ↓rEo_so, ↓rC_no, ↓rC_so, ↓rI_sq, ↓rI_r1, ↓rI_r2, ↓rI_zip, ↓rI_enu, after_nx, after_rt, after_bk, after_ct, Run.some, Run.none, Run.map, Run.ifn, RunIf.tt, RunIf.ff, RunIf.not_, w_d, R.norm_d, R.norm_w, R.norm_l, peek_d, toD_d, tst_b, tst_i, tst_l, tst_t, tst_n, slot_0, slot_s, mkW_f, mkW_t, toBx_b, toInt_i, augV_a, augV_s, retR_d, retR_rd, retR_f, endOf_d, endOf_rd, endOf_f, endOf_n, geOf_glob, bind_nm, bind_tp, setAll_nil, setAll_cons, wipe_nil, wipe_cons, add_ii, sub_ii, add_ll, add_tt, mul_li, lt_ii, le_ii, gt_ii, ge_ii, eq_ii, ne_ii, eq_ss, ne_ss, Mini.is_none, Mini.isnot_none, len_l, len_t, abs_i, int_i, int_b, tuple_l, tuple_t, list_l, list_t, max_ii, min_ii, isi_int, isi_bool, isi_tup, isi_str, isi_lst, isIntD, isBoolD, isStrD, isTupD, isLstD, ix_l, ix_t, at_0, seq_l, seq_t, lstOf_l, rng1_i, rng2_i, optInt_n, optInt_i, sl_l, sl_t, mapM_nil, mapM_cons, at_1, at_2, at_3, at_4, Option.map_some, List.map_cons, List.map_nil, List.cons_append, List.nil_append, List.append_nil, List.length_cons, List.length_nil, List.set_cons_zero, List.set_cons_succ, List.take_length, List.replicate_succ, List.replicate_zero, sz, decide_eq_true_eq, Nat.zero_add, Nat.reduceAdd, Nat.reduceLeDiff, true_and, and_true, Nat.sub_self, Nat.reduceSub, gl, glVals, List.getElem?_cons_zero, List.getElem?_cons_succ, Bool.not_true, Bool.not_false, e, added_f h.w, eq_pp, decide_true, Bool.and_true]
end
end K85
end
section
set_option Elab.async false
set_option linter.all false
set_option maxRecDepth 100000
set_option maxHeartbeats 1000000
open Mini PySem
namespace K85
def rowD (ns : List Int) : D := .tuple (ns.map .int)
def tabD (rs : List (List Int)) : D := .tuple (rs.map rowD)
/-- whole numbers from 0 to m -/
def Up (m : Int) (ns : List Int) : Prop := ∀ x ∈ ns, 0 ≤ x ∧ x ≤ m
theorem sum_up {m : Int} : ∀ {ns : List Int}, Up m ns → 0 ≤ ns.sum ∧ ns.sum ≤ m * ns.length
  | [], _ => by simp
  | x :: ns, h => by
    have h1 := h x (.head _)
    have h2 := sum_up (ns := ns) fun y hy => h y (.tail _ hy)
    rw [List.sum_cons, List.length_cons]
    have : m * ((ns.length + 1 : Nat) : Int) = m * ns.length + m := by rw [Int.natCast_add, Int.mul_add]; simp
    omega
section
variable {n : Nat} {μ : Store} {ns : List Int} {rs : List (List Int)}
theorem is_seats_in_r (h : Up 20 ns) (h1 : 1 ≤ ns.length ∧ ns.length ≤ 10) : (G (n + 3)).fn 13 [.d (rowD ns)] μ = some (rd (.bool true), μ) := by
  apply Run.eq
  have hs := sum_up h
  unfold rowD
  refine run_fn (bd := b_is_seats_in) rfl rfl ?_; unfold b_is_seats_in; simp only [List.map_cons, List.map_nil, List.cons_append, List.nil_append, List.append_nil, List.replicate_succ, List.replicate_zero, Nat.reduceSub]
  simp only [↓rSs_cons, ↓rSs_nil, ↓rS_asg, ↓rS_tup, ↓rS_par, ↓rS_bxa, ↓rS_app, ↓rS_set, ↓rS_aug, ↓rS_ret, ↓rS_retN, ↓rS_ife, ↓rS_for, ↓rS_while, ↓rS_pass, ↓rS_brk, ↓rS_cont, ↓rS_expr, ↓rE_var, ↓rE_cst, ↓rE_glb, ↓rE_bin, ↓rE_neg, ↓rE_not, ↓rE_cmp, ↓rE_chain, ↓rE_and, ↓rE_or, ↓rE_ife, ↓rE_call, ↓rE_b1, ↓rE_b2, ↓rE_isi, ↓rE_ix, ↓rE_sl, ↓rE_tup, ↓rE_lst, ↓rE_lc, ↓rEs_nil, ↓rEs_cons, ↓rEo_no, ↓rEo_so, ↓rC_no, ↓rC_so, ↓rI_sq, ↓rI_r1, ↓rI_r2, ↓rI_zip, ↓rI_enu, after_nx, after_rt, after_bk, after_ct, Run.some, Run.none, Run.map, Run.ifn, RunIf.tt, RunIf.ff, RunIf.not_, w_d, R.norm_d, R.norm_w, R.norm_l, peek_d, toD_d, tst_b, tst_i, tst_l, tst_t, tst_n, slot_0, slot_s, mkW_f, mkW_t, toBx_b, toInt_i, augV_a, augV_s, retR_d, retR_rd, retR_f, endOf_d, endOf_rd, endOf_f, endOf_n, geOf_glob, bind_nm, bind_tp, setAll_nil, setAll_cons, wipe_nil, wipe_cons, add_ii, sub_ii, add_ll, add_tt, mul_li, lt_ii, le_ii, gt_ii, ge_ii, eq_ii, ne_ii, eq_ss, ne_ss, Mini.is_none, Mini.isnot_none, len_l, len_t, abs_i, int_i, int_b, tuple_l, tuple_t, list_l, list_t, max_ii, min_ii, isi_int, isi_bool, isi_tup, isi_str, isi_lst, isIntD, isBoolD, isStrD, isTupD, isLstD, ix_l, ix_t, at_0, seq_l, seq_t, lstOf_l, rng1_i, rng2_i, optInt_n, optInt_i, sl_l, sl_t, mapM_nil, mapM_cons, at_1, at_2, at_3, at_4, Option.map_some, List.map_cons, List.map_nil, List.cons_append, List.nil_append, List.append_nil, List.length_cons, List.length_nil, List.set_cons_zero, List.set_cons_succ, List.take_length, List.replicate_succ, List.replicate_zero, sz, decide_eq_true_eq, Nat.zero_add, Nat.reduceAdd, Nat.reduceLeDiff, true_and, and_true, Nat.sub_self, Nat.reduceSub, gl, glVals, List.getElem?_cons_zero, List.getElem?_cons_succ, Bool.not_true, Bool.not_false, List.length_map]
  refine .pos (by omega) ?_
  simp only [↓rSs_cons, ↓rSs_nil, ↓rS_asg, ↓rS_tup, ↓rS_par, ↓rS_bxa, ↓rS_app, ↓rS_set, ↓rS_aug, ↓rS_ret, ↓rS_retN, ↓rS_ife, ↓rS_for, ↓rS_while, ↓rS_pass, ↓rS_brk, ↓rS_cont, ↓rS_expr, ↓rE_var, ↓rE_cst, ↓rE_glb, ↓rE_bin, ↓rE_neg, ↓rE_not, ↓rE_cmp, ↓rE_chain, ↓rE_and, ↓rE_or, ↓rE_ife, ↓rE_call, ↓rE_b1, ↓rE_b2, ↓rE_isi, ↓rE_ix, ↓rE_sl, ↓rE_tup, ↓rE_lst, ↓rE_lc, ↓rEs_nil, ↓rEs_cons, ↓rEo_no, ↓rEo_so, ↓rC_no, ↓rC_so, ↓rI_sq, ↓rI_r1, ↓rI_r2, ↓rI_zip, ↓rI_enu, after_nx, after_rt, after_bk, after_ct, Run.some, Run.none, Run.map, Run.ifn, RunIf.tt, RunIf.ff, RunIf.not_, w_d, R.norm_d, R.norm_w, R.norm_l, peek_d, toD_d, tst_b, tst_i, tst_l, tst_t, tst_n, slot_0, slot_s, mkW_f, mkW_t, toBx_b, toInt_i, augV_a, augV_s, retR_d, retR_rd, retR_f, endOf_d, endOf_rd, endOf_f, endOf_n, geOf_glob, bind_nm, bind_tp, setAll_nil, setAll_cons, wipe_nil, wipe_cons, add_ii, sub_ii, add_ll, add_tt, mul_li, lt_ii, le_ii, gt_ii, ge_ii, eq_ii, ne_ii, eq_ss, ne_ss, Mini.is_none, Mini.isnot_none, len_l, len_t, abs_i, int_i, int_b, tuple_l, tuple_t, list_l, list_t, max_ii, min_ii, isi_int, isi_bool, isi_tup, isi_str, isi_lst, isIntD, isBoolD, isStrD, isTupD, isLstD, ix_l, ix_t, at_0, seq_l, seq_t, lstOf_l, rng1_i, rng2_i, optInt_n, optInt_i, sl_l, sl_t, mapM_nil, mapM_cons, at_1, at_2, at_3, at_4, Option.map_some, List.map_cons, List.map_nil, List.cons_append, List.nil_append, List.append_nil, List.length_cons, List.length_nil, List.set_cons_zero, List.set_cons_succ, List.take_length, List.replicate_succ, List.replicate_zero, sz, decide_eq_true_eq, Nat.zero_add, Nat.reduceAdd, Nat.reduceLeDiff, true_and, and_true, Nat.sub_self, Nat.reduceSub, gl, glVals, List.getElem?_cons_zero, List.getElem?_cons_succ, Bool.not_true, Bool.not_false]
  rw [decide_eq_true (show (ns.length : Int) ≤ 10 by omega)]
  simp only [↓rSs_cons, ↓rSs_nil, ↓rS_asg, ↓rS_tup, ↓rS_par, ↓rS_bxa, ↓rS_app, ↓rS_set, ↓rS_aug, ↓rS_ret, ↓rS_retN, ↓rS_ife, ↓rS_for, ↓rS_while, ↓rS_pass, ↓rS_brk, ↓rS_cont, ↓rS_expr, ↓rE_var, ↓rE_cst, ↓rE_glb, ↓rE_bin, ↓rE_neg, ↓rE_not, ↓rE_cmp, ↓rE_chain, ↓rE_and, ↓rE_or, ↓rE_ife, ↓rE_call, ↓rE_b1, ↓rE_b2, ↓rE_isi, ↓rE_ix, ↓rE_sl, ↓rE_tup, ↓rE_lst, ↓rE_lc, ↓rEs_nil, ↓rEs_cons, ↓rEo_no, ↓rEo_so, ↓rC_no, ↓rC_so, ↓rI_sq, ↓rI_r1, ↓rI_r2, ↓rI_zip, ↓rI_enu, after_nx, after_rt, after_bk, after_ct, Run.some, Run.none, Run.map, Run.ifn, RunIf.tt, RunIf.ff, RunIf.not_, w_d, R.norm_d, R.norm_w, R.norm_l, peek_d, toD_d, tst_b, tst_i, tst_l, tst_t, tst_n, slot_0, slot_s, mkW_f, mkW_t, toBx_b, toInt_i, augV_a, augV_s, retR_d, retR_rd, retR_f, endOf_d, endOf_rd, endOf_f, endOf_n, geOf_glob, bind_nm, bind_tp, setAll_nil, setAll_cons, wipe_nil, wipe_cons, add_ii, sub_ii, add_ll, add_tt, mul_li, lt_ii, le_ii, gt_ii, ge_ii, eq_ii, ne_ii, eq_ss, ne_ss, Mini.is_none, Mini.isnot_none, len_l, len_t, abs_i, int_i, int_b, tuple_l, tuple_t, list_l, list_t, max_ii, min_ii, isi_int, isi_bool, isi_tup, isi_str, isi_lst, isIntD, isBoolD, isStrD, isTupD, isLstD, ix_l, ix_t, at_0, seq_l, seq_t, lstOf_l, rng1_i, rng2_i, optInt_n, optInt_i, sl_l, sl_t, mapM_nil, mapM_cons, at_1, at_2, at_3, at_4, Option.map_some, List.map_cons, List.map_nil, List.cons_append, List.nil_append, List.append_nil, List.length_cons, List.length_nil, List.set_cons_zero, List.set_cons_succ, List.take_length, List.replicate_succ, List.replicate_zero, sz, decide_eq_true_eq, Nat.zero_add, Nat.reduceAdd, Nat.reduceLeDiff, true_and, and_true, Nat.sub_self, Nat.reduceSub, gl, glVals, List.getElem?_cons_zero, List.getElem?_cons_succ, Bool.not_true, Bool.not_false, List.length_map]
  refine ⟨by omega, ?_⟩
  refine .of_eq (lc_map (fun _ => .bool true) fun x hx => ?_) ?_
  · obtain ⟨i, hi, rfl⟩ := List.mem_map.mp hx
    have := h i hi
    simp only [↓rSs_cons, ↓rSs_nil, ↓rS_asg, ↓rS_tup, ↓rS_par, ↓rS_bxa, ↓rS_app, ↓rS_set, ↓rS_aug, ↓rS_ret, ↓rS_retN, ↓rS_ife, ↓rS_for, ↓rS_while, ↓rS_pass, ↓rS_brk, ↓rS_cont, ↓rS_expr, ↓rE_var, ↓rE_cst, ↓rE_glb, ↓rE_bin, ↓rE_neg, ↓rE_not, ↓rE_cmp, ↓rE_chain, ↓rE_and, ↓rE_or, ↓rE_ife, ↓rE_call, ↓rE_b1, ↓rE_b2, ↓rE_isi, ↓rE_ix, ↓rE_sl, ↓rE_tup, ↓rE_lst, ↓rE_lc, ↓rEs_nil, ↓rEs_cons, ↓rEo_no, ↓rEo_so, ↓rC_no, ↓rC_so, ↓rI_sq, ↓rI_r1, ↓rI_r2, ↓rI_zip, ↓rI_enu, after_nx, after_rt, after_bk, after_ct, Run.some, Run.none, Run.map, Run.ifn, RunIf.tt, RunIf.ff, RunIf.not_, w_d, R.norm_d, R.norm_w, R.norm_l, peek_d, toD_d, tst_b, tst_i, tst_l, tst_t, tst_n, slot_0, slot_s, mkW_f, mkW_t, toBx_b, toInt_i, augV_a, augV_s, retR_d, retR_rd, retR_f, endOf_d, endOf_rd, endOf_f, endOf_n, geOf_glob, bind_nm, bind_tp, setAll_nil, setAll_cons, wipe_nil, wipe_cons, add_ii, sub_ii, add_ll, add_tt, mul_li, lt_ii, le_ii, gt_ii, ge_ii, eq_ii, ne_ii, eq_ss, ne_ss, Mini.is_none, Mini.isnot_none, len_l, len_t, abs_i, int_i, int_b, tuple_l, tuple_t, list_l, list_t, max_ii, min_ii, isi_int, isi_bool, isi_tup, isi_str, isi_lst, isIntD, isBoolD, isStrD, isTupD, isLstD, ix_l, ix_t, at_0, seq_l, seq_t, lstOf_l, rng1_i, rng2_i, optInt_n, optInt_i, sl_l, sl_t, mapM_nil, mapM_cons, at_1, at_2, at_3, at_4, Option.map_some, List.map_cons, List.map_nil, List.cons_append, List.nil_append, List.append_nil, List.length_cons, List.length_nil, List.set_cons_zero, List.set_cons_succ, List.take_length, List.replicate_succ, List.replicate_zero, sz, decide_eq_true_eq, Nat.zero_add, Nat.reduceAdd, Nat.reduceLeDiff, true_and, and_true, Nat.sub_self, Nat.reduceSub, gl, glVals, List.getElem?_cons_zero, List.getElem?_cons_succ, Bool.not_true, Bool.not_false, is_within_i]
    rw [decide_eq_true (show 0 ≤ i ∧ i ≤ 200 by omega)]
  simp only [↓rSs_cons, ↓rSs_nil, ↓rS_asg, ↓rS_tup, ↓rS_par, ↓rS_bxa, ↓rS_app, ↓rS_set, ↓rS_aug, ↓rS_ret, ↓rS_retN, ↓rS_ife, ↓rS_for, ↓rS_while, ↓rS_pass, ↓rS_brk, ↓rS_cont, ↓rS_expr, ↓rE_var, ↓rE_cst, ↓rE_glb, ↓rE_bin, ↓rE_neg, ↓rE_not, ↓rE_cmp, ↓rE_chain, ↓rE_and, ↓rE_or, ↓rE_ife, ↓rE_call, ↓rE_b1, ↓rE_b2, ↓rE_isi, ↓rE_ix, ↓rE_sl, ↓rE_tup, ↓rE_lst, ↓rE_lc, ↓rEs_nil, ↓rEs_cons, ↓rEo_no, ↓rEo_so, ↓rC_no, ↓rC_so, ↓rI_sq, ↓rI_r1, ↓rI_r2, ↓rI_zip, ↓rI_enu, after_nx, after_rt, after_bk, after_ct, Run.some, Run.none, Run.map, Run.ifn, RunIf.tt, RunIf.ff, RunIf.not_, w_d, R.norm_d, R.norm_w, R.norm_l, peek_d, toD_d, tst_b, tst_i, tst_l, tst_t, tst_n, slot_0, slot_s, mkW_f, mkW_t, toBx_b, toInt_i, augV_a, augV_s, retR_d, retR_rd, retR_f, endOf_d, endOf_rd, endOf_f, endOf_n, geOf_glob, bind_nm, bind_tp, setAll_nil, setAll_cons, wipe_nil, wipe_cons, add_ii, sub_ii, add_ll, add_tt, mul_li, lt_ii, le_ii, gt_ii, ge_ii, eq_ii, ne_ii, eq_ss, ne_ss, Mini.is_none, Mini.isnot_none, len_l, len_t, abs_i, int_i, int_b, tuple_l, tuple_t, list_l, list_t, max_ii, min_ii, isi_int, isi_bool, isi_tup, isi_str, isi_lst, isIntD, isBoolD, isStrD, isTupD, isLstD, ix_l, ix_t, at_0, seq_l, seq_t, lstOf_l, rng1_i, rng2_i, optInt_n, optInt_i, sl_l, sl_t, mapM_nil, mapM_cons, at_1, at_2, at_3, at_4, Option.map_some, List.map_cons, List.map_nil, List.cons_append, List.nil_append, List.append_nil, List.length_cons, List.length_nil, List.set_cons_zero, List.set_cons_succ, List.take_length, List.replicate_succ, List.replicate_zero, sz, decide_eq_true_eq, Nat.zero_add, Nat.reduceAdd, Nat.reduceLeDiff, true_and, and_true, Nat.sub_self, Nat.reduceSub, gl, glVals, List.getElem?_cons_zero, List.getElem?_cons_succ, Bool.not_true, Bool.not_false, all_tt, sum_t, intsOf_map]
  rw [decide_eq_true (show ns.sum ≤ 200 by omega)]
theorem is_seats_in_t (h1 : 1 ≤ rs.length ∧ rs.length ≤ 6) : (G (n + 3)).fn 13 [.d (tabD rs)] μ = some (rd (.bool false), μ) := by
  apply Run.eq
  unfold tabD
  refine run_fn (bd := b_is_seats_in) rfl rfl ?_; unfold b_is_seats_in; simp only [List.map_cons, List.map_nil, List.cons_append, List.nil_append, List.append_nil, List.replicate_succ, List.replicate_zero, Nat.reduceSub]
  simp only [↓rSs_cons, ↓rSs_nil, ↓rS_asg, ↓rS_tup, ↓rS_par, ↓rS_bxa, ↓rS_app, ↓rS_set, ↓rS_aug, ↓rS_ret, ↓rS_retN, ↓rS_ife, ↓rS_for, ↓rS_while, ↓rS_pass, ↓rS_brk, ↓rS_cont, ↓rS_expr, ↓rE_var, ↓rE_cst, ↓rE_glb, ↓rE_bin, ↓rE_neg, ↓rE_not, ↓rE_cmp, ↓rE_chain, ↓rE_and, ↓rE_or, ↓rE_ife, ↓rE_call, ↓rE_b1, ↓rE_b2, ↓rE_isi, ↓rE_ix, ↓rE_sl, ↓rE_tup, ↓rE_lst, ↓rE_lc, ↓rEs_nil, ↓rEs_cons, ↓rEo_no, ↓rEo_so, ↓rC_no, ↓rC_so, ↓rI_sq, ↓rI_r1, ↓rI_r2, ↓rI_zip, ↓rI_enu, after_nx, after_rt, after_bk, after_ct, Run.some, Run.none, Run.map, Run.ifn, RunIf.tt, RunIf.ff, RunIf.not_, w_d, R.norm_d, R.norm_w, R.norm_l, peek_d, toD_d, tst_b, tst_i, tst_l, tst_t, tst_n, slot_0, slot_s, mkW_f, mkW_t, toBx_b, toInt_i, augV_a, augV_s, retR_d, retR_rd, retR_f, endOf_d, endOf_rd, endOf_f, endOf_n, geOf_glob, bind_nm, bind_tp, setAll_nil, setAll_cons, wipe_nil, wipe_cons, add_ii, sub_ii, add_ll, add_tt, mul_li, lt_ii, le_ii, gt_ii, ge_ii, eq_ii, ne_ii, eq_ss, ne_ss, Mini.is_none, Mini.isnot_none, len_l, len_t, abs_i, int_i, int_b, tuple_l, tuple_t, list_l, list_t, max_ii, min_ii, isi_int, isi_bool, isi_tup, isi_str, isi_lst, isIntD, isBoolD, isStrD, isTupD, isLstD, ix_l, ix_t, at_0, seq_l, seq_t, lstOf_l, rng1_i, rng2_i, optInt_n, optInt_i, sl_l, sl_t, mapM_nil, mapM_cons, at_1, at_2, at_3, at_4, Option.map_some, List.map_cons, List.map_nil, List.cons_append, List.nil_append, List.append_nil, List.length_cons, List.length_nil, List.set_cons_zero, List.set_cons_succ, List.take_length, List.replicate_succ, List.replicate_zero, sz, decide_eq_true_eq, Nat.zero_add, Nat.reduceAdd, Nat.reduceLeDiff, true_and, and_true, Nat.sub_self, Nat.reduceSub, gl, glVals, List.getElem?_cons_zero, List.getElem?_cons_succ, Bool.not_true, Bool.not_false, List.length_map]
  refine .pos (by omega) ?_
  simp only [↓rSs_cons, ↓rSs_nil, ↓rS_asg, ↓rS_tup, ↓rS_par, ↓rS_bxa, ↓rS_app, ↓rS_set, ↓rS_aug, ↓rS_ret, ↓rS_retN, ↓rS_ife, ↓rS_for, ↓rS_while, ↓rS_pass, ↓rS_brk, ↓rS_cont, ↓rS_expr, ↓rE_var, ↓rE_cst, ↓rE_glb, ↓rE_bin, ↓rE_neg, ↓rE_not, ↓rE_cmp, ↓rE_chain, ↓rE_and, ↓rE_or, ↓rE_ife, ↓rE_call, ↓rE_b1, ↓rE_b2, ↓rE_isi, ↓rE_ix, ↓rE_sl, ↓rE_tup, ↓rE_lst, ↓rE_lc, ↓rEs_nil, ↓rEs_cons, ↓rEo_no, ↓rEo_so, ↓rC_no, ↓rC_so, ↓rI_sq, ↓rI_r1, ↓rI_r2, ↓rI_zip, ↓rI_enu, after_nx, after_rt, after_bk, after_ct, Run.some, Run.none, Run.map, Run.ifn, RunIf.tt, RunIf.ff, RunIf.not_, w_d, R.norm_d, R.norm_w, R.norm_l, peek_d, toD_d, tst_b, tst_i, tst_l, tst_t, tst_n, slot_0, slot_s, mkW_f, mkW_t, toBx_b, toInt_i, augV_a, augV_s, retR_d, retR_rd, retR_f, endOf_d, endOf_rd, endOf_f, endOf_n, geOf_glob, bind_nm, bind_tp, setAll_nil, setAll_cons, wipe_nil, wipe_cons, add_ii, sub_ii, add_ll, add_tt, mul_li, lt_ii, le_ii, gt_ii, ge_ii, eq_ii, ne_ii, eq_ss, ne_ss, Mini.is_none, Mini.isnot_none, len_l, len_t, abs_i, int_i, int_b, tuple_l, tuple_t, list_l, list_t, max_ii, min_ii, isi_int, isi_bool, isi_tup, isi_str, isi_lst, isIntD, isBoolD, isStrD, isTupD, isLstD, ix_l, ix_t, at_0, seq_l, seq_t, lstOf_l, rng1_i, rng2_i, optInt_n, optInt_i, sl_l, sl_t, mapM_nil, mapM_cons, at_1, at_2, at_3, at_4, Option.map_some, List.map_cons, List.map_nil, List.cons_append, List.nil_append, List.append_nil, List.length_cons, List.length_nil, List.set_cons_zero, List.set_cons_succ, List.take_length, List.replicate_succ, List.replicate_zero, sz, decide_eq_true_eq, Nat.zero_add, Nat.reduceAdd, Nat.reduceLeDiff, true_and, and_true, Nat.sub_self, Nat.reduceSub, gl, glVals, List.getElem?_cons_zero, List.getElem?_cons_succ, Bool.not_true, Bool.not_false]
  rw [decide_eq_true (show (rs.length : Int) ≤ 10 by omega)]
  simp only [↓rSs_cons, ↓rSs_nil, ↓rS_asg, ↓rS_tup, ↓rS_par, ↓rS_bxa, ↓rS_app, ↓rS_set, ↓rS_aug, ↓rS_ret, ↓rS_retN, ↓rS_ife, ↓rS_for, ↓rS_while, ↓rS_pass, ↓rS_brk, ↓rS_cont, ↓rS_expr, ↓rE_var, ↓rE_cst, ↓rE_glb, ↓rE_bin, ↓rE_neg, ↓rE_not, ↓rE_cmp, ↓rE_chain, ↓rE_and, ↓rE_or, ↓rE_ife, ↓rE_call, ↓rE_b1, ↓rE_b2, ↓rE_isi, ↓rE_ix, ↓rE_sl, ↓rE_tup, ↓rE_lst, ↓rE_lc, ↓rEs_nil, ↓rEs_cons, ↓rEo_no, ↓rEo_so, ↓rC_no, ↓rC_so, ↓rI_sq, ↓rI_r1, ↓rI_r2, ↓rI_zip, ↓rI_enu, after_nx, after_rt, after_bk, after_ct, Run.some, Run.none, Run.map, Run.ifn, RunIf.tt, RunIf.ff, RunIf.not_, w_d, R.norm_d, R.norm_w, R.norm_l, peek_d, toD_d, tst_b, tst_i, tst_l, tst_t, tst_n, slot_0, slot_s, mkW_f, mkW_t, toBx_b, toInt_i, augV_a, augV_s, retR_d, retR_rd, retR_f, endOf_d, endOf_rd, endOf_f, endOf_n, geOf_glob, bind_nm, bind_tp, setAll_nil, setAll_cons, wipe_nil, wipe_cons, add_ii, sub_ii, add_ll, add_tt, mul_li, lt_ii, le_ii, gt_ii, ge_ii, eq_ii, ne_ii, eq_ss, ne_ss, Mini.is_none, Mini.isnot_none, len_l, len_t, abs_i, int_i, int_b, tuple_l, tuple_t, list_l, list_t, max_ii, min_ii, isi_int, isi_bool, isi_tup, isi_str, isi_lst, isIntD, isBoolD, isStrD, isTupD, isLstD, ix_l, ix_t, at_0, seq_l, seq_t, lstOf_l, rng1_i, rng2_i, optInt_n, optInt_i, sl_l, sl_t, mapM_nil, mapM_cons, at_1, at_2, at_3, at_4, Option.map_some, List.map_cons, List.map_nil, List.cons_append, List.nil_append, List.append_nil, List.length_cons, List.length_nil, List.set_cons_zero, List.set_cons_succ, List.take_length, List.replicate_succ, List.replicate_zero, sz, decide_eq_true_eq, Nat.zero_add, Nat.reduceAdd, Nat.reduceLeDiff, true_and, and_true, Nat.sub_self, Nat.reduceSub, gl, glVals, List.getElem?_cons_zero, List.getElem?_cons_succ, Bool.not_true, Bool.not_false, List.length_map]
  refine ⟨by omega, ?_⟩
  refine .of_eq (lc_map (fun _ => .bool false) fun x hx => ?_) ?_
  · obtain ⟨i, hi, rfl⟩ := List.mem_map.mp hx
    unfold rowD
    simp only [↓rSs_cons, ↓rSs_nil, ↓rS_asg, ↓rS_tup, ↓rS_par, ↓rS_bxa, ↓rS_app, ↓rS_set, ↓rS_aug, ↓rS_ret, ↓rS_retN, ↓rS_ife, ↓rS_for, ↓rS_while, ↓rS_pass, ↓rS_brk, ↓rS_cont, ↓rS_expr, ↓rE_var, ↓rE_cst, ↓rE_glb, ↓rE_bin, ↓rE_neg, ↓rE_not, ↓rE_cmp, ↓rE_chain, ↓rE_and, ↓rE_or, ↓rE_ife, ↓rE_call, ↓rE_b1, ↓rE_b2, ↓rE_isi, ↓rE_ix, ↓rE_sl, ↓rE_tup, ↓rE_lst, ↓rE_lc, ↓rEs_nil, ↓rEs_cons, ↓rEo_no, ↓rEo_so, ↓rC_no, ↓rC_so, ↓rI_sq, ↓rI_r1, ↓rI_r2, ↓rI_zip, ↓rI_enu, after_nx, after_rt, after_bk, after_ct, Run.some, Run.none, Run.map, Run.ifn, RunIf.tt, RunIf.ff, RunIf.not_, w_d, R.norm_d, R.norm_w, R.norm_l, peek_d, toD_d, tst_b, tst_i, tst_l, tst_t, tst_n, slot_0, slot_s, mkW_f, mkW_t, toBx_b, toInt_i, augV_a, augV_s, retR_d, retR_rd, retR_f, endOf_d, endOf_rd, endOf_f, endOf_n, geOf_glob, bind_nm, bind_tp, setAll_nil, setAll_cons, wipe_nil, wipe_cons, add_ii, sub_ii, add_ll, add_tt, mul_li, lt_ii, le_ii, gt_ii, ge_ii, eq_ii, ne_ii, eq_ss, ne_ss, Mini.is_none, Mini.isnot_none, len_l, len_t, abs_i, int_i, int_b, tuple_l, tuple_t, list_l, list_t, max_ii, min_ii, isi_int, isi_bool, isi_tup, isi_str, isi_lst, isIntD, isBoolD, isStrD, isTupD, isLstD, ix_l, ix_t, at_0, seq_l, seq_t, lstOf_l, rng1_i, rng2_i, optInt_n, optInt_i, sl_l, sl_t, mapM_nil, mapM_cons, at_1, at_2, at_3, at_4, Option.map_some, List.map_cons, List.map_nil, List.cons_append, List.nil_append, List.append_nil, List.length_cons, List.length_nil, List.set_cons_zero, List.set_cons_succ, List.take_length, List.replicate_succ, List.replicate_zero, sz, decide_eq_true_eq, Nat.zero_add, Nat.reduceAdd, Nat.reduceLeDiff, true_and, and_true, Nat.sub_self, Nat.reduceSub, gl, glVals, List.getElem?_cons_zero, List.getElem?_cons_succ, Bool.not_true, Bool.not_false, is_within_t]
  have hne : rs.map rowD ≠ [] := by
    intro e
    rw [List.map_eq_nil_iff] at e
    subst e
    simp at h1
  simp only [↓rSs_cons, ↓rSs_nil, ↓rS_asg, ↓rS_tup, ↓rS_par, ↓rS_bxa, ↓rS_app, ↓rS_set, ↓rS_aug, ↓rS_ret, ↓rS_retN, ↓rS_ife, ↓rS_for, ↓rS_while, ↓rS_pass, ↓rS_brk, ↓rS_cont, ↓rS_expr, ↓rE_var, ↓rE_cst, ↓rE_glb, ↓rE_bin, ↓rE_neg, ↓rE_not, ↓rE_cmp, ↓rE_chain, ↓rE_and, ↓rE_or, ↓rE_ife, ↓rE_call, ↓rE_b1, ↓rE_b2, ↓rE_isi, ↓rE_ix, ↓rE_sl, ↓rE_tup, ↓rE_lst, ↓rE_lc, ↓rEs_nil, ↓rEs_cons, ↓rEo_no, ↓rEo_so, ↓rC_no, ↓rC_so, ↓rI_sq, ↓rI_r1, ↓rI_r2, ↓rI_zip, ↓rI_enu, after_nx, after_rt, after_bk, after_ct, Run.some, Run.none, Run.map, Run.ifn, RunIf.tt, RunIf.ff, RunIf.not_, w_d, R.norm_d, R.norm_w, R.norm_l, peek_d, toD_d, tst_b, tst_i, tst_l, tst_t, tst_n, slot_0, slot_s, mkW_f, mkW_t, toBx_b, toInt_i, augV_a, augV_s, retR_d, retR_rd, retR_f, endOf_d, endOf_rd, endOf_f, endOf_n, geOf_glob, bind_nm, bind_tp, setAll_nil, setAll_cons, wipe_nil, wipe_cons, add_ii, sub_ii, add_ll, add_tt, mul_li, lt_ii, le_ii, gt_ii, ge_ii, eq_ii, ne_ii, eq_ss, ne_ss, Mini.is_none, Mini.isnot_none, len_l, len_t, abs_i, int_i, int_b, tuple_l, tuple_t, list_l, list_t, max_ii, min_ii, isi_int, isi_bool, isi_tup, isi_str, isi_lst, isIntD, isBoolD, isStrD, isTupD, isLstD, ix_l, ix_t, at_0, seq_l, seq_t, lstOf_l, rng1_i, rng2_i, optInt_n, optInt_i, sl_l, sl_t, mapM_nil, mapM_cons, at_1, at_2, at_3, at_4, Option.map_some, List.map_cons, List.map_nil, List.cons_append, List.nil_append, List.append_nil, List.length_cons, List.length_nil, List.set_cons_zero, List.set_cons_succ, List.take_length, List.replicate_succ, List.replicate_zero, sz, decide_eq_true_eq, Nat.zero_add, Nat.reduceAdd, Nat.reduceLeDiff, true_and, and_true, Nat.sub_self, Nat.reduceSub, gl, glVals, List.getElem?_cons_zero, List.getElem?_cons_succ, Bool.not_true, Bool.not_false, all_ff hne]
theorem is_seats_member_r (h : Up 20 ns) (h1 : 1 ≤ ns.length ∧ ns.length ≤ 10) : (G (n + 4)).fn 14 [.d (rowD ns)] μ = some (rd (.bool true), μ) := by
  apply Run.eq
  refine run_fn (bd := b_is_seats_member) rfl rfl ?_; unfold b_is_seats_member; simp only [List.map_cons, List.map_nil, List.cons_append, List.nil_append, List.append_nil, List.replicate_succ, List.replicate_zero, Nat.reduceSub]
  simp only [↓rSs_cons, ↓rSs_nil, ↓rS_asg, ↓rS_tup, ↓rS_par, ↓rS_bxa, ↓rS_app, ↓rS_set, ↓rS_aug, ↓rS_ret, ↓rS_retN, ↓rS_ife, ↓rS_for, ↓rS_while, ↓rS_pass, ↓rS_brk, ↓rS_cont, ↓rS_expr, ↓rE_var, ↓rE_cst, ↓rE_glb, ↓rE_bin, ↓rE_neg, ↓rE_not, ↓rE_cmp, ↓rE_chain, ↓rE_and, ↓rE_or, ↓rE_ife, ↓rE_call, ↓rE_b1, ↓rE_b2, ↓rE_isi, ↓rE_ix, ↓rE_sl, ↓rE_tup, ↓rE_lst, ↓rE_lc, ↓rEs_nil, ↓rEs_cons, ↓rEo_no, ↓rEo_so, ↓rC_no, ↓rC_so, ↓rI_sq, ↓rI_r1, ↓rI_r2, ↓rI_zip, ↓rI_enu, after_nx, after_rt, after_bk, after_ct, Run.some, Run.none, Run.map, Run.ifn, RunIf.tt, RunIf.ff, RunIf.not_, w_d, R.norm_d, R.norm_w, R.norm_l, peek_d, toD_d, tst_b, tst_i, tst_l, tst_t, tst_n, slot_0, slot_s, mkW_f, mkW_t, toBx_b, toInt_i, augV_a, augV_s, retR_d, retR_rd, retR_f, endOf_d, endOf_rd, endOf_f, endOf_n, geOf_glob, bind_nm, bind_tp, setAll_nil, setAll_cons, wipe_nil, wipe_cons, add_ii, sub_ii, add_ll, add_tt, mul_li, lt_ii, le_ii, gt_ii, ge_ii, eq_ii, ne_ii, eq_ss, ne_ss, Mini.is_none, Mini.isnot_none, len_l, len_t, abs_i, int_i, int_b, tuple_l, tuple_t, list_l, list_t, max_ii, min_ii, isi_int, isi_bool, isi_tup, isi_str, isi_lst, isIntD, isBoolD, isStrD, isTupD, isLstD, ix_l, ix_t, at_0, seq_l, seq_t, lstOf_l, rng1_i, rng2_i, optInt_n, optInt_i, sl_l, sl_t, mapM_nil, mapM_cons, at_1, at_2, at_3, at_4, Option.map_some, List.map_cons, List.map_nil, List.cons_append, List.nil_append, List.append_nil, List.length_cons, List.length_nil, List.set_cons_zero, List.set_cons_succ, List.take_length, List.replicate_succ, List.replicate_zero, sz, decide_eq_true_eq, Nat.zero_add, Nat.reduceAdd, Nat.reduceLeDiff, true_and, and_true, Nat.sub_self, Nat.reduceSub, gl, glVals, List.getElem?_cons_zero, List.getElem?_cons_succ, Bool.not_true, Bool.not_false, is_seats_in_r h h1]
theorem is_seats_member_t (h1 : 1 ≤ rs.length ∧ rs.length ≤ 6) : (G (n + 4)).fn 14 [.d (tabD rs)] μ = some (rd (.bool false), μ) := by
  apply Run.eq
  refine run_fn (bd := b_is_seats_member) rfl rfl ?_; unfold b_is_seats_member; simp only [List.map_cons, List.map_nil, List.cons_append, List.nil_append, List.append_nil, List.replicate_succ, List.replicate_zero, Nat.reduceSub]
  simp only [↓rSs_cons, ↓rSs_nil, ↓rS_asg, ↓rS_tup, ↓rS_par, ↓rS_bxa, ↓rS_app, ↓rS_set, ↓rS_aug, ↓rS_ret, ↓rS_retN, ↓rS_ife, ↓rS_for, ↓rS_while, ↓rS_pass, ↓rS_brk, ↓rS_cont, ↓rS_expr, ↓rE_var, ↓rE_cst, ↓rE_glb, ↓rE_bin, ↓rE_neg, ↓rE_not, ↓rE_cmp, ↓rE_chain, ↓rE_and, ↓rE_or, ↓rE_ife, ↓rE_call, ↓rE_b1, ↓rE_b2, ↓rE_isi, ↓rE_ix, ↓rE_sl, ↓rE_tup, ↓rE_lst, ↓rE_lc, ↓rEs_nil, ↓rEs_cons, ↓rEo_no, ↓rEo_so, ↓rC_no, ↓rC_so, ↓rI_sq, ↓rI_r1, ↓rI_r2, ↓rI_zip, ↓rI_enu, after_nx, after_rt, after_bk, after_ct, Run.some, Run.none, Run.map, Run.ifn, RunIf.tt, RunIf.ff, RunIf.not_, w_d, R.norm_d, R.norm_w, R.norm_l, peek_d, toD_d, tst_b, tst_i, tst_l, tst_t, tst_n, slot_0, slot_s, mkW_f, mkW_t, toBx_b, toInt_i, augV_a, augV_s, retR_d, retR_rd, retR_f, endOf_d, endOf_rd, endOf_f, endOf_n, geOf_glob, bind_nm, bind_tp, setAll_nil, setAll_cons, wipe_nil, wipe_cons, add_ii, sub_ii, add_ll, add_tt, mul_li, lt_ii, le_ii, gt_ii, ge_ii, eq_ii, ne_ii, eq_ss, ne_ss, Mini.is_none, Mini.isnot_none, len_l, len_t, abs_i, int_i, int_b, tuple_l, tuple_t, list_l, list_t, max_ii, min_ii, isi_int, isi_bool, isi_tup, isi_str, isi_lst, isIntD, isBoolD, isStrD, isTupD, isLstD, ix_l, ix_t, at_0, seq_l, seq_t, lstOf_l, rng1_i, rng2_i, optInt_n, optInt_i, sl_l, sl_t, mapM_nil, mapM_cons, at_1, at_2, at_3, at_4, Option.map_some, List.map_cons, List.map_nil, List.cons_append, List.nil_append, List.append_nil, List.length_cons, List.length_nil, List.set_cons_zero, List.set_cons_succ, List.take_length, List.replicate_succ, List.replicate_zero, sz, decide_eq_true_eq, Nat.zero_add, Nat.reduceAdd, Nat.reduceLeDiff, true_and, and_true, Nat.sub_self, Nat.reduceSub, gl, glVals, List.getElem?_cons_zero, List.getElem?_cons_succ, Bool.not_true, Bool.not_false, is_seats_in_t h1]
/-- a table: rows of one length, of cells from 0 to 60 -/
structure Tb (rs : List (List Int)) (w : Nat) : Prop where
  len : 1 ≤ rs.length ∧ rs.length ≤ 6
  wid : 1 ≤ w ∧ w ≤ 6
  row : ∀ r ∈ rs, r.length = w ∧ Up 60 r
theorem Tb.zero {w : Nat} (h : Tb rs w) : ∃ r, rs[0]? = some r ∧ r.length = w := by
  refine ⟨rs[0]'(by have := h.len; omega), List.getElem?_eq_getElem _, ?_⟩
  exact (h.row _ (List.getElem_mem _)).1
theorem is_form_in_t {w : Nat} (h : Tb rs w) : (G (n + 1)).fn 12 [.d (tabD rs)] μ = some (rd (.bool true), μ) := by
  apply Run.eq
  have h1 := h.len
  have h2 := h.wid
  obtain ⟨r0, hr, hw⟩ := h.zero
  unfold tabD
  refine run_fn (bd := b_is_form_in) rfl rfl ?_; unfold b_is_form_in; simp only [List.map_cons, List.map_nil, List.cons_append, List.nil_append, List.append_nil, List.replicate_succ, List.replicate_zero, Nat.reduceSub]
  simp only [↓rSs_cons, ↓rSs_nil, ↓rS_asg, ↓rS_tup, ↓rS_par, ↓rS_bxa, ↓rS_app, ↓rS_set, ↓rS_aug, ↓rS_ret, ↓rS_retN, ↓rS_ife, ↓rS_for, ↓rS_while, ↓rS_pass, ↓rS_brk, ↓rS_cont, ↓rS_expr, ↓rE_var, ↓rE_cst, ↓rE_glb, ↓rE_bin, ↓rE_neg, ↓rE_not, ↓rE_cmp, ↓rE_chain, ↓rE_and, ↓rE_or, ↓rE_ife, ↓rE_call, ↓rE_b1, ↓rE_b2, ↓rE_isi, ↓rE_ix, ↓rE_sl, ↓rE_tup, ↓rE_lst, ↓rE_lc, ↓rEs_nil, ↓rEs_cons, ↓rEo_no, ↓rEo_so, ↓rC_no, ↓rC_so, ↓rI_sq, ↓rI_r1, ↓rI_r2, ↓rI_zip, ↓rI_enu, after_nx, after_rt, after_bk, after_ct, Run.some, Run.none, Run.map, Run.ifn, RunIf.tt, RunIf.ff, RunIf.not_, w_d, R.norm_d, R.norm_w, R.norm_l, peek_d, toD_d, tst_b, tst_i, tst_l, tst_t, tst_n, slot_0, slot_s, mkW_f, mkW_t, toBx_b, toInt_i, augV_a, augV_s, retR_d, retR_rd, retR_f, endOf_d, endOf_rd, endOf_f, endOf_n, geOf_glob, bind_nm, bind_tp, setAll_nil, setAll_cons, wipe_nil, wipe_cons, add_ii, sub_ii, add_ll, add_tt, mul_li, lt_ii, le_ii, gt_ii, ge_ii, eq_ii, ne_ii, eq_ss, ne_ss, Mini.is_none, Mini.isnot_none, len_l, len_t, abs_i, int_i, int_b, tuple_l, tuple_t, list_l, list_t, max_ii, min_ii, isi_int, isi_bool, isi_tup, isi_str, isi_lst, isIntD, isBoolD, isStrD, isTupD, isLstD, ix_l, ix_t, at_0, seq_l, seq_t, lstOf_l, rng1_i, rng2_i, optInt_n, optInt_i, sl_l, sl_t, mapM_nil, mapM_cons, at_1, at_2, at_3, at_4, Option.map_some, List.map_cons, List.map_nil, List.cons_append, List.nil_append, List.append_nil, List.length_cons, List.length_nil, List.set_cons_zero, List.set_cons_succ, List.take_length, List.replicate_succ, List.replicate_zero, sz, decide_eq_true_eq, Nat.zero_add, Nat.reduceAdd, Nat.reduceLeDiff, true_and, and_true, Nat.sub_self, Nat.reduceSub, gl, glVals, List.getElem?_cons_zero, List.getElem?_cons_succ, Bool.not_true, Bool.not_false, List.length_map]
  refine .pos (by omega) ?_
  simp only [↓rSs_cons, ↓rSs_nil, ↓rS_asg, ↓rS_tup, ↓rS_par, ↓rS_bxa, ↓rS_app, ↓rS_set, ↓rS_aug, ↓rS_ret, ↓rS_retN, ↓rS_ife, ↓rS_for, ↓rS_while, ↓rS_pass, ↓rS_brk, ↓rS_cont, ↓rS_expr, ↓rE_var, ↓rE_cst, ↓rE_glb, ↓rE_bin, ↓rE_neg, ↓rE_not, ↓rE_cmp, ↓rE_chain, ↓rE_and, ↓rE_or, ↓rE_ife, ↓rE_call, ↓rE_b1, ↓rE_b2, ↓rE_isi, ↓rE_ix, ↓rE_sl, ↓rE_tup, ↓rE_lst, ↓rE_lc, ↓rEs_nil, ↓rEs_cons, ↓rEo_no, ↓rEo_so, ↓rC_no, ↓rC_so, ↓rI_sq, ↓rI_r1, ↓rI_r2, ↓rI_zip, ↓rI_enu, after_nx, after_rt, after_bk, after_ct, Run.some, Run.none, Run.map, Run.ifn, RunIf.tt, RunIf.ff, RunIf.not_, w_d, R.norm_d, R.norm_w, R.norm_l, peek_d, toD_d, tst_b, tst_i, tst_l, tst_t, tst_n, slot_0, slot_s, mkW_f, mkW_t, toBx_b, toInt_i, augV_a, augV_s, retR_d, retR_rd, retR_f, endOf_d, endOf_rd, endOf_f, endOf_n, geOf_glob, bind_nm, bind_tp, setAll_nil, setAll_cons, wipe_nil, wipe_cons, add_ii, sub_ii, add_ll, add_tt, mul_li, lt_ii, le_ii, gt_ii, ge_ii, eq_ii, ne_ii, eq_ss, ne_ss, Mini.is_none, Mini.isnot_none, len_l, len_t, abs_i, int_i, int_b, tuple_l, tuple_t, list_l, list_t, max_ii, min_ii, isi_int, isi_bool, isi_tup, isi_str, isi_lst, isIntD, isBoolD, isStrD, isTupD, isLstD, ix_l, ix_t, at_0, seq_l, seq_t, lstOf_l, rng1_i, rng2_i, optInt_n, optInt_i, sl_l, sl_t, mapM_nil, mapM_cons, at_1, at_2, at_3, at_4, Option.map_some, List.map_cons, List.map_nil, List.cons_append, List.nil_append, List.append_nil, List.length_cons, List.length_nil, List.set_cons_zero, List.set_cons_succ, List.take_length, List.replicate_succ, List.replicate_zero, sz, decide_eq_true_eq, Nat.zero_add, Nat.reduceAdd, Nat.reduceLeDiff, true_and, and_true, Nat.sub_self, Nat.reduceSub, gl, glVals, List.getElem?_cons_zero, List.getElem?_cons_succ, Bool.not_true, Bool.not_false]
  rw [decide_eq_true (show (rs.length : Int) ≤ 6 by omega)]
  simp only [↓rSs_cons, ↓rSs_nil, ↓rS_asg, ↓rS_tup, ↓rS_par, ↓rS_bxa, ↓rS_app, ↓rS_set, ↓rS_aug, ↓rS_ret, ↓rS_retN, ↓rS_ife, ↓rS_for, ↓rS_while, ↓rS_pass, ↓rS_brk, ↓rS_cont, ↓rS_expr, ↓rE_var, ↓rE_cst, ↓rE_glb, ↓rE_bin, ↓rE_neg, ↓rE_not, ↓rE_cmp, ↓rE_chain, ↓rE_and, ↓rE_or, ↓rE_ife, ↓rE_call, ↓rE_b1, ↓rE_b2, ↓rE_isi, ↓rE_ix, ↓rE_sl, ↓rE_tup, ↓rE_lst, ↓rE_lc, ↓rEs_nil, ↓rEs_cons, ↓rEo_no, ↓rEo_so, ↓rC_no, ↓rC_so, ↓rI_sq, ↓rI_r1, ↓rI_r2, ↓rI_zip, ↓rI_enu, after_nx, after_rt, after_bk, after_ct, Run.some, Run.none, Run.map, Run.ifn, RunIf.tt, RunIf.ff, RunIf.not_, w_d, R.norm_d, R.norm_w, R.norm_l, peek_d, toD_d, tst_b, tst_i, tst_l, tst_t, tst_n, slot_0, slot_s, mkW_f, mkW_t, toBx_b, toInt_i, augV_a, augV_s, retR_d, retR_rd, retR_f, endOf_d, endOf_rd, endOf_f, endOf_n, geOf_glob, bind_nm, bind_tp, setAll_nil, setAll_cons, wipe_nil, wipe_cons, add_ii, sub_ii, add_ll, add_tt, mul_li, lt_ii, le_ii, gt_ii, ge_ii, eq_ii, ne_ii, eq_ss, ne_ss, Mini.is_none, Mini.isnot_none, len_l, len_t, abs_i, int_i, int_b, tuple_l, tuple_t, list_l, list_t, max_ii, min_ii, isi_int, isi_bool, isi_tup, isi_str, isi_lst, isIntD, isBoolD, isStrD, isTupD, isLstD, ix_l, ix_t, at_0, seq_l, seq_t, lstOf_l, rng1_i, rng2_i, optInt_n, optInt_i, sl_l, sl_t, mapM_nil, mapM_cons, at_1, at_2, at_3, at_4, Option.map_some, List.map_cons, List.map_nil, List.cons_append, List.nil_append, List.append_nil, List.length_cons, List.length_nil, List.set_cons_zero, List.set_cons_succ, List.take_length, List.replicate_succ, List.replicate_zero, sz, decide_eq_true_eq, Nat.zero_add, Nat.reduceAdd, Nat.reduceLeDiff, true_and, and_true, Nat.sub_self, Nat.reduceSub, gl, glVals, List.getElem?_cons_zero, List.getElem?_cons_succ, Bool.not_true, Bool.not_false, List.length_map]
  refine ⟨by omega, ?_⟩
  refine .of_eq (lc_map (fun _ => .bool true) fun x hx => ?_) ?_
  · obtain ⟨i, hi, rfl⟩ := List.mem_map.mp hx
    unfold rowD
    simp only [↓rSs_cons, ↓rSs_nil, ↓rS_asg, ↓rS_tup, ↓rS_par, ↓rS_bxa, ↓rS_app, ↓rS_set, ↓rS_aug, ↓rS_ret, ↓rS_retN, ↓rS_ife, ↓rS_for, ↓rS_while, ↓rS_pass, ↓rS_brk, ↓rS_cont, ↓rS_expr, ↓rE_var, ↓rE_cst, ↓rE_glb, ↓rE_bin, ↓rE_neg, ↓rE_not, ↓rE_cmp, ↓rE_chain, ↓rE_and, ↓rE_or, ↓rE_ife, ↓rE_call, ↓rE_b1, ↓rE_b2, ↓rE_isi, ↓rE_ix, ↓rE_sl, ↓rE_tup, ↓rE_lst, ↓rE_lc, ↓rEs_nil, ↓rEs_cons, ↓rEo_no, ↓rEo_so, ↓rC_no, ↓rC_so, ↓rI_sq, ↓rI_r1, ↓rI_r2, ↓rI_zip, ↓rI_enu, after_nx, after_rt, after_bk, after_ct, Run.some, Run.none, Run.map, Run.ifn, RunIf.tt, RunIf.ff, RunIf.not_, w_d, R.norm_d, R.norm_w, R.norm_l, peek_d, toD_d, tst_b, tst_i, tst_l, tst_t, tst_n, slot_0, slot_s, mkW_f, mkW_t, toBx_b, toInt_i, augV_a, augV_s, retR_d, retR_rd, retR_f, endOf_d, endOf_rd, endOf_f, endOf_n, geOf_glob, bind_nm, bind_tp, setAll_nil, setAll_cons, wipe_nil, wipe_cons, add_ii, sub_ii, add_ll, add_tt, mul_li, lt_ii, le_ii, gt_ii, ge_ii, eq_ii, ne_ii, eq_ss, ne_ss, Mini.is_none, Mini.isnot_none, len_l, len_t, abs_i, int_i, int_b, tuple_l, tuple_t, list_l, list_t, max_ii, min_ii, isi_int, isi_bool, isi_tup, isi_str, isi_lst, isIntD, isBoolD, isStrD, isTupD, isLstD, ix_l, ix_t, at_0, seq_l, seq_t, lstOf_l, rng1_i, rng2_i, optInt_n, optInt_i, sl_l, sl_t, mapM_nil, mapM_cons, at_1, at_2, at_3, at_4, Option.map_some, List.map_cons, List.map_nil, List.cons_append, List.nil_append, List.append_nil, List.length_cons, List.length_nil, List.set_cons_zero, List.set_cons_succ, List.take_length, List.replicate_succ, List.replicate_zero, sz, decide_eq_true_eq, Nat.zero_add, Nat.reduceAdd, Nat.reduceLeDiff, true_and, and_true, Nat.sub_self, Nat.reduceSub, gl, glVals, List.getElem?_cons_zero, List.getElem?_cons_succ, Bool.not_true, Bool.not_false]
  simp only [↓rSs_cons, ↓rSs_nil, ↓rS_asg, ↓rS_tup, ↓rS_par, ↓rS_bxa, ↓rS_app, ↓rS_set, ↓rS_aug, ↓rS_ret, ↓rS_retN, ↓rS_ife, ↓rS_for, ↓rS_while, ↓rS_pass, ↓rS_brk, ↓rS_cont, ↓rS_expr, ↓rE_var, ↓rE_cst, ↓rE_glb, ↓rE_bin, ↓rE_neg, ↓rE_not, ↓rE_cmp, ↓rE_chain, ↓rE_and, ↓rE_or, ↓rE_ife, ↓rE_call, ↓rE_b1, ↓rE_b2, ↓rE_isi, ↓rE_ix, ↓rE_sl, ↓rE_tup, ↓rE_lst, ↓rE_lc, ↓rEs_nil, ↓rEs_cons, ↓rEo_no, ↓rEo_so, ↓rC_no, ↓rC_so, ↓rI_sq, ↓rI_r1, ↓rI_r2, ↓rI_zip, ↓rI_enu, after_nx, after_rt, after_bk, after_ct, Run.some, Run.none, Run.map, Run.ifn, RunIf.tt, RunIf.ff, RunIf.not_, w_d, R.norm_d, R.norm_w, R.norm_l, peek_d, toD_d, tst_b, tst_i, tst_l, tst_t, tst_n, slot_0, slot_s, mkW_f, mkW_t, toBx_b, toInt_i, augV_a, augV_s, retR_d, retR_rd, retR_f, endOf_d, endOf_rd, endOf_f, endOf_n, geOf_glob, bind_nm, bind_tp, setAll_nil, setAll_cons, wipe_nil, wipe_cons, add_ii, sub_ii, add_ll, add_tt, mul_li, lt_ii, le_ii, gt_ii, ge_ii, eq_ii, ne_ii, eq_ss, ne_ss, Mini.is_none, Mini.isnot_none, len_l, len_t, abs_i, int_i, int_b, tuple_l, tuple_t, list_l, list_t, max_ii, min_ii, isi_int, isi_bool, isi_tup, isi_str, isi_lst, isIntD, isBoolD, isStrD, isTupD, isLstD, ix_l, ix_t, at_0, seq_l, seq_t, lstOf_l, rng1_i, rng2_i, optInt_n, optInt_i, sl_l, sl_t, mapM_nil, mapM_cons, at_1, at_2, at_3, at_4, Option.map_some, List.map_cons, List.map_nil, List.cons_append, List.nil_append, List.append_nil, List.length_cons, List.length_nil, List.set_cons_zero, List.set_cons_succ, List.take_length, List.replicate_succ, List.replicate_zero, sz, decide_eq_true_eq, Nat.zero_add, Nat.reduceAdd, Nat.reduceLeDiff, true_and, and_true, Nat.sub_self, Nat.reduceSub, gl, glVals, List.getElem?_cons_zero, List.getElem?_cons_succ, Bool.not_true, Bool.not_false, all_tt, at_map0 hr]
  unfold rowD
  simp only [↓rSs_cons, ↓rSs_nil, ↓rS_asg, ↓rS_tup, ↓rS_par, ↓rS_bxa, ↓rS_app, ↓rS_set, ↓rS_aug, ↓rS_ret, ↓rS_retN, ↓rS_ife, ↓rS_for, ↓rS_while, ↓rS_pass, ↓rS_brk, ↓rS_cont, ↓rS_expr, ↓rE_var, ↓rE_cst, ↓rE_glb, ↓rE_bin, ↓rE_neg, ↓rE_not, ↓rE_cmp, ↓rE_chain, ↓rE_and, ↓rE_or, ↓rE_ife, ↓rE_call, ↓rE_b1, ↓rE_b2, ↓rE_isi, ↓rE_ix, ↓rE_sl, ↓rE_tup, ↓rE_lst, ↓rE_lc, ↓rEs_nil, ↓rEs_cons, ↓rEo_no, ↓rEo_so, ↓rC_no, ↓rC_so, ↓rI_sq, ↓rI_r1, ↓rI_r2, ↓rI_zip, ↓rI_enu, after_nx, after_rt, after_bk, after_ct, Run.some, Run.none, Run.map, Run.ifn, RunIf.tt, RunIf.ff, RunIf.not_, w_d, R.norm_d, R.norm_w, R.norm_l, peek_d, toD_d, tst_b, tst_i, tst_l, tst_t, tst_n, slot_0, slot_s, mkW_f, mkW_t, toBx_b, toInt_i, augV_a, augV_s, retR_d, retR_rd, retR_f, endOf_d, endOf_rd, endOf_f, endOf_n, geOf_glob, bind_nm, bind_tp, setAll_nil, setAll_cons, wipe_nil, wipe_cons, add_ii, sub_ii, add_ll, add_tt, mul_li, lt_ii, le_ii, gt_ii, ge_ii, eq_ii, ne_ii, eq_ss, ne_ss, Mini.is_none, Mini.isnot_none, len_l, len_t, abs_i, int_i, int_b, tuple_l, tuple_t, list_l, list_t, max_ii, min_ii, isi_int, isi_bool, isi_tup, isi_str, isi_lst, isIntD, isBoolD, isStrD, isTupD, isLstD, ix_l, ix_t, at_0, seq_l, seq_t, lstOf_l, rng1_i, rng2_i, optInt_n, optInt_i, sl_l, sl_t, mapM_nil, mapM_cons, at_1, at_2, at_3, at_4, Option.map_some, List.map_cons, List.map_nil, List.cons_append, List.nil_append, List.append_nil, List.length_cons, List.length_nil, List.set_cons_zero, List.set_cons_succ, List.take_length, List.replicate_succ, List.replicate_zero, sz, decide_eq_true_eq, Nat.zero_add, Nat.reduceAdd, Nat.reduceLeDiff, true_and, and_true, Nat.sub_self, Nat.reduceSub, gl, glVals, List.getElem?_cons_zero, List.getElem?_cons_succ, Bool.not_true, Bool.not_false, List.length_map]
  refine .pos (by omega) ?_
  simp only [↓rSs_cons, ↓rSs_nil, ↓rS_asg, ↓rS_tup, ↓rS_par, ↓rS_bxa, ↓rS_app, ↓rS_set, ↓rS_aug, ↓rS_ret, ↓rS_retN, ↓rS_ife, ↓rS_for, ↓rS_while, ↓rS_pass, ↓rS_brk, ↓rS_cont, ↓rS_expr, ↓rE_var, ↓rE_cst, ↓rE_glb, ↓rE_bin, ↓rE_neg, ↓rE_not, ↓rE_cmp, ↓rE_chain, ↓rE_and, ↓rE_or, ↓rE_ife, ↓rE_call, ↓rE_b1, ↓rE_b2, ↓rE_isi, ↓rE_ix, ↓rE_sl, ↓rE_tup, ↓rE_lst, ↓rE_lc, ↓rEs_nil, ↓rEs_cons, ↓rEo_no, ↓rEo_so, ↓rC_no, ↓rC_so, ↓rI_sq, ↓rI_r1, ↓rI_r2, ↓rI_zip, ↓rI_enu, after_nx, after_rt, after_bk, after_ct, Run.some, Run.none, Run.map, Run.ifn, RunIf.tt, RunIf.ff, RunIf.not_, w_d, R.norm_d, R.norm_w, R.norm_l, peek_d, toD_d, tst_b, tst_i, tst_l, tst_t, tst_n, slot_0, slot_s, mkW_f, mkW_t, toBx_b, toInt_i, augV_a, augV_s, retR_d, retR_rd, retR_f, endOf_d, endOf_rd, endOf_f, endOf_n, geOf_glob, bind_nm, bind_tp, setAll_nil, setAll_cons, wipe_nil, wipe_cons, add_ii, sub_ii, add_ll, add_tt, mul_li, lt_ii, le_ii, gt_ii, ge_ii, eq_ii, ne_ii, eq_ss, ne_ss, Mini.is_none, Mini.isnot_none, len_l, len_t, abs_i, int_i, int_b, tuple_l, tuple_t, list_l, list_t, max_ii, min_ii, isi_int, isi_bool, isi_tup, isi_str, isi_lst, isIntD, isBoolD, isStrD, isTupD, isLstD, ix_l, ix_t, at_0, seq_l, seq_t, lstOf_l, rng1_i, rng2_i, optInt_n, optInt_i, sl_l, sl_t, mapM_nil, mapM_cons, at_1, at_2, at_3, at_4, Option.map_some, List.map_cons, List.map_nil, List.cons_append, List.nil_append, List.append_nil, List.length_cons, List.length_nil, List.set_cons_zero, List.set_cons_succ, List.take_length, List.replicate_succ, List.replicate_zero, sz, decide_eq_true_eq, Nat.zero_add, Nat.reduceAdd, Nat.reduceLeDiff, true_and, and_true, Nat.sub_self, Nat.reduceSub, gl, glVals, List.getElem?_cons_zero, List.getElem?_cons_succ, Bool.not_true, Bool.not_false]
  rw [decide_eq_true (show (r0.length : Int) ≤ 6 by omega)]
  simp only [↓rSs_cons, ↓rSs_nil, ↓rS_asg, ↓rS_tup, ↓rS_par, ↓rS_bxa, ↓rS_app, ↓rS_set, ↓rS_aug, ↓rS_ret, ↓rS_retN, ↓rS_ife, ↓rS_for, ↓rS_while, ↓rS_pass, ↓rS_brk, ↓rS_cont, ↓rS_expr, ↓rE_var, ↓rE_cst, ↓rE_glb, ↓rE_bin, ↓rE_neg, ↓rE_not, ↓rE_cmp, ↓rE_chain, ↓rE_and, ↓rE_or, ↓rE_ife, ↓rE_call, ↓rE_b1, ↓rE_b2, ↓rE_isi, ↓rE_ix, ↓rE_sl, ↓rE_tup, ↓rE_lst, ↓rE_lc, ↓rEs_nil, ↓rEs_cons, ↓rEo_no, ↓rEo_so, ↓rC_no, ↓rC_so, ↓rI_sq, ↓rI_r1, ↓rI_r2, ↓rI_zip, ↓rI_enu, after_nx, after_rt, after_bk, after_ct, Run.some, Run.none, Run.map, Run.ifn, RunIf.tt, RunIf.ff, RunIf.not_, w_d, R.norm_d, R.norm_w, R.norm_l, peek_d, toD_d, tst_b, tst_i, tst_l, tst_t, tst_n, slot_0, slot_s, mkW_f, mkW_t, toBx_b, toInt_i, augV_a, augV_s, retR_d, retR_rd, retR_f, endOf_d, endOf_rd, endOf_f, endOf_n, geOf_glob, bind_nm, bind_tp, setAll_nil, setAll_cons, wipe_nil, wipe_cons, add_ii, sub_ii, add_ll, add_tt, mul_li, lt_ii, le_ii, gt_ii, ge_ii, eq_ii, ne_ii, eq_ss, ne_ss, Mini.is_none, Mini.isnot_none, len_l, len_t, abs_i, int_i, int_b, tuple_l, tuple_t, list_l, list_t, max_ii, min_ii, isi_int, isi_bool, isi_tup, isi_str, isi_lst, isIntD, isBoolD, isStrD, isTupD, isLstD, ix_l, ix_t, at_0, seq_l, seq_t, lstOf_l, rng1_i, rng2_i, optInt_n, optInt_i, sl_l, sl_t, mapM_nil, mapM_cons, at_1, at_2, at_3, at_4, Option.map_some, List.map_cons, List.map_nil, List.cons_append, List.nil_append, List.append_nil, List.length_cons, List.length_nil, List.set_cons_zero, List.set_cons_succ, List.take_length, List.replicate_succ, List.replicate_zero, sz, decide_eq_true_eq, Nat.zero_add, Nat.reduceAdd, Nat.reduceLeDiff, true_and, and_true, Nat.sub_self, Nat.reduceSub, gl, glVals, List.getElem?_cons_zero, List.getElem?_cons_succ, Bool.not_true, Bool.not_false, List.length_map]
  refine ⟨by omega, ?_⟩
  refine .of_eq (lc_map (fun _ => .bool true) fun x hx => ?_) ?_
  · obtain ⟨r, hi, rfl⟩ := List.mem_map.mp hx
    simp only [↓rSs_cons, ↓rSs_nil, ↓rS_asg, ↓rS_tup, ↓rS_par, ↓rS_bxa, ↓rS_app, ↓rS_set, ↓rS_aug, ↓rS_ret, ↓rS_retN, ↓rS_ife, ↓rS_for, ↓rS_while, ↓rS_pass, ↓rS_brk, ↓rS_cont, ↓rS_expr, ↓rE_var, ↓rE_cst, ↓rE_glb, ↓rE_bin, ↓rE_neg, ↓rE_not, ↓rE_cmp, ↓rE_chain, ↓rE_and, ↓rE_or, ↓rE_ife, ↓rE_call, ↓rE_b1, ↓rE_b2, ↓rE_isi, ↓rE_ix, ↓rE_sl, ↓rE_tup, ↓rE_lst, ↓rE_lc, ↓rEs_nil, ↓rEs_cons, ↓rEo_no, ↓rEo_so, ↓rC_no, ↓rC_so, ↓rI_sq, ↓rI_r1, ↓rI_r2, ↓rI_zip, ↓rI_enu, after_nx, after_rt, after_bk, after_ct, Run.some, Run.none, Run.map, Run.ifn, RunIf.tt, RunIf.ff, RunIf.not_, w_d, R.norm_d, R.norm_w, R.norm_l, peek_d, toD_d, tst_b, tst_i, tst_l, tst_t, tst_n, slot_0, slot_s, mkW_f, mkW_t, toBx_b, toInt_i, augV_a, augV_s, retR_d, retR_rd, retR_f, endOf_d, endOf_rd, endOf_f, endOf_n, geOf_glob, bind_nm, bind_tp, setAll_nil, setAll_cons, wipe_nil, wipe_cons, add_ii, sub_ii, add_ll, add_tt, mul_li, lt_ii, le_ii, gt_ii, ge_ii, eq_ii, ne_ii, eq_ss, ne_ss, Mini.is_none, Mini.isnot_none, len_l, len_t, abs_i, int_i, int_b, tuple_l, tuple_t, list_l, list_t, max_ii, min_ii, isi_int, isi_bool, isi_tup, isi_str, isi_lst, isIntD, isBoolD, isStrD, isTupD, isLstD, ix_l, ix_t, at_0, seq_l, seq_t, lstOf_l, rng1_i, rng2_i, optInt_n, optInt_i, sl_l, sl_t, mapM_nil, mapM_cons, at_1, at_2, at_3, at_4, Option.map_some, List.map_cons, List.map_nil, List.cons_append, List.nil_append, List.append_nil, List.length_cons, List.length_nil, List.set_cons_zero, List.set_cons_succ, List.take_length, List.replicate_succ, List.replicate_zero, sz, decide_eq_true_eq, Nat.zero_add, Nat.reduceAdd, Nat.reduceLeDiff, true_and, and_true, Nat.sub_self, Nat.reduceSub, gl, glVals, List.getElem?_cons_zero, List.getElem?_cons_succ, Bool.not_true, Bool.not_false, at_map0 (f := fun ns => PyData.tuple (ns.map .int)) hr, List.length_map]
    rw [(h.row r hi).1, hw, decide_eq_true rfl]
  simp only [↓rSs_cons, ↓rSs_nil, ↓rS_asg, ↓rS_tup, ↓rS_par, ↓rS_bxa, ↓rS_app, ↓rS_set, ↓rS_aug, ↓rS_ret, ↓rS_retN, ↓rS_ife, ↓rS_for, ↓rS_while, ↓rS_pass, ↓rS_brk, ↓rS_cont, ↓rS_expr, ↓rE_var, ↓rE_cst, ↓rE_glb, ↓rE_bin, ↓rE_neg, ↓rE_not, ↓rE_cmp, ↓rE_chain, ↓rE_and, ↓rE_or, ↓rE_ife, ↓rE_call, ↓rE_b1, ↓rE_b2, ↓rE_isi, ↓rE_ix, ↓rE_sl, ↓rE_tup, ↓rE_lst, ↓rE_lc, ↓rEs_nil, ↓rEs_cons, ↓rEo_no, ↓rEo_so, ↓rC_no, ↓rC_so, ↓rI_sq, ↓rI_r1, ↓rI_r2, ↓rI_zip, ↓rI_enu, after_nx, after_rt, after_bk, after_ct, Run.some, Run.none, Run.map, Run.ifn, RunIf.tt, RunIf.ff, RunIf.not_, w_d, R.norm_d, R.norm_w, R.norm_l, peek_d, toD_d, tst_b, tst_i, tst_l, tst_t, tst_n, slot_0, slot_s, mkW_f, mkW_t, toBx_b, toInt_i, augV_a, augV_s, retR_d, retR_rd, retR_f, endOf_d, endOf_rd, endOf_f, endOf_n, geOf_glob, bind_nm, bind_tp, setAll_nil, setAll_cons, wipe_nil, wipe_cons, add_ii, sub_ii, add_ll, add_tt, mul_li, lt_ii, le_ii, gt_ii, ge_ii, eq_ii, ne_ii, eq_ss, ne_ss, Mini.is_none, Mini.isnot_none, len_l, len_t, abs_i, int_i, int_b, tuple_l, tuple_t, list_l, list_t, max_ii, min_ii, isi_int, isi_bool, isi_tup, isi_str, isi_lst, isIntD, isBoolD, isStrD, isTupD, isLstD, ix_l, ix_t, at_0, seq_l, seq_t, lstOf_l, rng1_i, rng2_i, optInt_n, optInt_i, sl_l, sl_t, mapM_nil, mapM_cons, at_1, at_2, at_3, at_4, Option.map_some, List.map_cons, List.map_nil, List.cons_append, List.nil_append, List.append_nil, List.length_cons, List.length_nil, List.set_cons_zero, List.set_cons_succ, List.take_length, List.replicate_succ, List.replicate_zero, sz, decide_eq_true_eq, Nat.zero_add, Nat.reduceAdd, Nat.reduceLeDiff, true_and, and_true, Nat.sub_self, Nat.reduceSub, gl, glVals, List.getElem?_cons_zero, List.getElem?_cons_succ, Bool.not_true, Bool.not_false, all_tt]
theorem is_table_member_t {w : Nat} (h : Tb rs w) : (G (n + 3)).fn 15 [.d (tabD rs)] μ = some (rd (.bool true), μ) := by
  apply Run.eq
  have h1 := h.len
  have h2 := h.wid
  refine run_fn (bd := b_is_table_member) rfl rfl ?_; unfold b_is_table_member; simp only [List.map_cons, List.map_nil, List.cons_append, List.nil_append, List.append_nil, List.replicate_succ, List.replicate_zero, Nat.reduceSub]
  simp only [↓rSs_cons, ↓rSs_nil, ↓rS_asg, ↓rS_tup, ↓rS_par, ↓rS_bxa, ↓rS_app, ↓rS_set, ↓rS_aug, ↓rS_ret, ↓rS_retN, ↓rS_ife, ↓rS_for, ↓rS_while, ↓rS_pass, ↓rS_brk, ↓rS_cont, ↓rS_expr, ↓rE_var, ↓rE_cst, ↓rE_glb, ↓rE_bin, ↓rE_neg, ↓rE_not, ↓rE_cmp, ↓rE_chain, ↓rE_and, ↓rE_or, ↓rE_ife, ↓rE_call, ↓rE_b1, ↓rE_b2, ↓rE_isi, ↓rE_ix, ↓rE_sl, ↓rE_tup, ↓rE_lst, ↓rE_lc, ↓rEs_nil, ↓rEs_cons, ↓rEo_no, ↓rEo_so, ↓rC_no, ↓rC_so, ↓rI_sq, ↓rI_r1, ↓rI_r2, ↓rI_zip, ↓rI_enu, after_nx, after_rt, after_bk, after_ct, Run.some, Run.none, Run.map, Run.ifn, RunIf.tt, RunIf.ff, RunIf.not_, w_d, R.norm_d, R.norm_w, R.norm_l, peek_d, toD_d, tst_b, tst_i, tst_l, tst_t, tst_n, slot_0, slot_s, mkW_f, mkW_t, toBx_b, toInt_i, augV_a, augV_s, retR_d, retR_rd, retR_f, endOf_d, endOf_rd, endOf_f, endOf_n, geOf_glob, bind_nm, bind_tp, setAll_nil, setAll_cons, wipe_nil, wipe_cons, add_ii, sub_ii, add_ll, add_tt, mul_li, lt_ii, le_ii, gt_ii, ge_ii, eq_ii, ne_ii, eq_ss, ne_ss, Mini.is_none, Mini.isnot_none, len_l, len_t, abs_i, int_i, int_b, tuple_l, tuple_t, list_l, list_t, max_ii, min_ii, isi_int, isi_bool, isi_tup, isi_str, isi_lst, isIntD, isBoolD, isStrD, isTupD, isLstD, ix_l, ix_t, at_0, seq_l, seq_t, lstOf_l, rng1_i, rng2_i, optInt_n, optInt_i, sl_l, sl_t, mapM_nil, mapM_cons, at_1, at_2, at_3, at_4, Option.map_some, List.map_cons, List.map_nil, List.cons_append, List.nil_append, List.append_nil, List.length_cons, List.length_nil, List.set_cons_zero, List.set_cons_succ, List.take_length, List.replicate_succ, List.replicate_zero, sz, decide_eq_true_eq, Nat.zero_add, Nat.reduceAdd, Nat.reduceLeDiff, true_and, and_true, Nat.sub_self, Nat.reduceSub, gl, glVals, List.getElem?_cons_zero, List.getElem?_cons_succ, Bool.not_true, Bool.not_false, is_form_in_t h]
  unfold tabD
  simp only [↓rSs_cons, ↓rSs_nil, ↓rS_asg, ↓rS_tup, ↓rS_par, ↓rS_bxa, ↓rS_app, ↓rS_set, ↓rS_aug, ↓rS_ret, ↓rS_retN, ↓rS_ife, ↓rS_for, ↓rS_while, ↓rS_pass, ↓rS_brk, ↓rS_cont, ↓rS_expr, ↓rE_var, ↓rE_cst, ↓rE_glb, ↓rE_bin, ↓rE_neg, ↓rE_not, ↓rE_cmp, ↓rE_chain, ↓rE_and, ↓rE_or, ↓rE_ife, ↓rE_call, ↓rE_b1, ↓rE_b2, ↓rE_isi, ↓rE_ix, ↓rE_sl, ↓rE_tup, ↓rE_lst, ↓rE_lc, ↓rEs_nil, ↓rEs_cons, ↓rEo_no, ↓rEo_so, ↓rC_no, ↓rC_so, ↓rI_sq, ↓rI_r1, ↓rI_r2, ↓rI_zip, ↓rI_enu, after_nx, after_rt, after_bk, after_ct, Run.some, Run.none, Run.map, Run.ifn, RunIf.tt, RunIf.ff, RunIf.not_, w_d, R.norm_d, R.norm_w, R.norm_l, peek_d, toD_d, tst_b, tst_i, tst_l, tst_t, tst_n, slot_0, slot_s, mkW_f, mkW_t, toBx_b, toInt_i, augV_a, augV_s, retR_d, retR_rd, retR_f, endOf_d, endOf_rd, endOf_f, endOf_n, geOf_glob, bind_nm, bind_tp, setAll_nil, setAll_cons, wipe_nil, wipe_cons, add_ii, sub_ii, add_ll, add_tt, mul_li, lt_ii, le_ii, gt_ii, ge_ii, eq_ii, ne_ii, eq_ss, ne_ss, Mini.is_none, Mini.isnot_none, len_l, len_t, abs_i, int_i, int_b, tuple_l, tuple_t, list_l, list_t, max_ii, min_ii, isi_int, isi_bool, isi_tup, isi_str, isi_lst, isIntD, isBoolD, isStrD, isTupD, isLstD, ix_l, ix_t, at_0, seq_l, seq_t, lstOf_l, rng1_i, rng2_i, optInt_n, optInt_i, sl_l, sl_t, mapM_nil, mapM_cons, at_1, at_2, at_3, at_4, Option.map_some, List.map_cons, List.map_nil, List.cons_append, List.nil_append, List.append_nil, List.length_cons, List.length_nil, List.set_cons_zero, List.set_cons_succ, List.take_length, List.replicate_succ, List.replicate_zero, sz, decide_eq_true_eq, Nat.zero_add, Nat.reduceAdd, Nat.reduceLeDiff, true_and, and_true, Nat.sub_self, Nat.reduceSub, gl, glVals, List.getElem?_cons_zero, List.getElem?_cons_succ, Bool.not_true, Bool.not_false, List.length_map]
  refine ⟨by omega, ?_⟩
  refine .of_eq (lc_map (fun _ => .bool true) fun x hx => ?_) ?_
  · obtain ⟨r, hi, rfl⟩ := List.mem_map.mp hx
    obtain ⟨h3, h4⟩ := h.row r hi
    unfold rowD
    simp only [↓rSs_cons, ↓rSs_nil, ↓rS_asg, ↓rS_tup, ↓rS_par, ↓rS_bxa, ↓rS_app, ↓rS_set, ↓rS_aug, ↓rS_ret, ↓rS_retN, ↓rS_ife, ↓rS_for, ↓rS_while, ↓rS_pass, ↓rS_brk, ↓rS_cont, ↓rS_expr, ↓rE_var, ↓rE_cst, ↓rE_glb, ↓rE_bin, ↓rE_neg, ↓rE_not, ↓rE_cmp, ↓rE_chain, ↓rE_and, ↓rE_or, ↓rE_ife, ↓rE_call, ↓rE_b1, ↓rE_b2, ↓rE_isi, ↓rE_ix, ↓rE_sl, ↓rE_tup, ↓rE_lst, ↓rE_lc, ↓rEs_nil, ↓rEs_cons, ↓rEo_no, ↓rEo_so, ↓rC_no, ↓rC_so, ↓rI_sq, ↓rI_r1, ↓rI_r2, ↓rI_zip, ↓rI_enu, after_nx, after_rt, after_bk, after_ct, Run.some, Run.none, Run.map, Run.ifn, RunIf.tt, RunIf.ff, RunIf.not_, w_d, R.norm_d, R.norm_w, R.norm_l, peek_d, toD_d, tst_b, tst_i, tst_l, tst_t, tst_n, slot_0, slot_s, mkW_f, mkW_t, toBx_b, toInt_i, augV_a, augV_s, retR_d, retR_rd, retR_f, endOf_d, endOf_rd, endOf_f, endOf_n, geOf_glob, bind_nm, bind_tp, setAll_nil, setAll_cons, wipe_nil, wipe_cons, add_ii, sub_ii, add_ll, add_tt, mul_li, lt_ii, le_ii, gt_ii, ge_ii, eq_ii, ne_ii, eq_ss, ne_ss, Mini.is_none, Mini.isnot_none, len_l, len_t, abs_i, int_i, int_b, tuple_l, tuple_t, list_l, list_t, max_ii, min_ii, isi_int, isi_bool, isi_tup, isi_str, isi_lst, isIntD, isBoolD, isStrD, isTupD, isLstD, ix_l, ix_t, at_0, seq_l, seq_t, lstOf_l, rng1_i, rng2_i, optInt_n, optInt_i, sl_l, sl_t, mapM_nil, mapM_cons, at_1, at_2, at_3, at_4, Option.map_some, List.map_cons, List.map_nil, List.cons_append, List.nil_append, List.append_nil, List.length_cons, List.length_nil, List.set_cons_zero, List.set_cons_succ, List.take_length, List.replicate_succ, List.replicate_zero, sz, decide_eq_true_eq, Nat.zero_add, Nat.reduceAdd, Nat.reduceLeDiff, true_and, and_true, Nat.sub_self, Nat.reduceSub, gl, glVals, List.getElem?_cons_zero, List.getElem?_cons_succ, Bool.not_true, Bool.not_false, List.length_map]
    refine ⟨by omega, ?_⟩
    refine .of_eq (lc_map (fun _ => .bool true) fun x hx => ?_) ?_
    · obtain ⟨i, hi, rfl⟩ := List.mem_map.mp hx
      have := h4 i hi
      simp only [↓rSs_cons, ↓rSs_nil, ↓rS_asg, ↓rS_tup, ↓rS_par, ↓rS_bxa, ↓rS_app, ↓rS_set, ↓rS_aug, ↓rS_ret, ↓rS_retN, ↓rS_ife, ↓rS_for, ↓rS_while, ↓rS_pass, ↓rS_brk, ↓rS_cont, ↓rS_expr, ↓rE_var, ↓rE_cst, ↓rE_glb, ↓rE_bin, ↓rE_neg, ↓rE_not, ↓rE_cmp, ↓rE_chain, ↓rE_and, ↓rE_or, ↓rE_ife, ↓rE_call, ↓rE_b1, ↓rE_b2, ↓rE_isi, ↓rE_ix, ↓rE_sl, ↓rE_tup, ↓rE_lst, ↓rE_lc, ↓rEs_nil, ↓rEs_cons, ↓rEo_no, ↓rEo_so, ↓rC_no, ↓rC_so, ↓rI_sq, ↓rI_r1, ↓rI_r2, ↓rI_zip, ↓rI_enu, after_nx, after_rt, after_bk, after_ct, Run.some, Run.none, Run.map, Run.ifn, RunIf.tt, RunIf.ff, RunIf.not_, w_d, R.norm_d, R.norm_w, R.norm_l, peek_d, toD_d, tst_b, tst_i, tst_l, tst_t, tst_n, slot_0, slot_s, mkW_f, mkW_t, toBx_b, toInt_i, augV_a, augV_s, retR_d, retR_rd, retR_f, endOf_d, endOf_rd, endOf_f, endOf_n, geOf_glob, bind_nm, bind_tp, setAll_nil, setAll_cons, wipe_nil, wipe_cons, add_ii, sub_ii, add_ll, add_tt, mul_li, lt_ii, le_ii, gt_ii, ge_ii, eq_ii, ne_ii, eq_ss, ne_ss, Mini.is_none, Mini.isnot_none, len_l, len_t, abs_i, int_i, int_b, tuple_l, tuple_t, list_l, list_t, max_ii, min_ii, isi_int, isi_bool, isi_tup, isi_str, isi_lst, isIntD, isBoolD, isStrD, isTupD, isLstD, ix_l, ix_t, at_0, seq_l, seq_t, lstOf_l, rng1_i, rng2_i, optInt_n, optInt_i, sl_l, sl_t, mapM_nil, mapM_cons, at_1, at_2, at_3, at_4, Option.map_some, List.map_cons, List.map_nil, List.cons_append, List.nil_append, List.append_nil, List.length_cons, List.length_nil, List.set_cons_zero, List.set_cons_succ, List.take_length, List.replicate_succ, List.replicate_zero, sz, decide_eq_true_eq, Nat.zero_add, Nat.reduceAdd, Nat.reduceLeDiff, true_and, and_true, Nat.sub_self, Nat.reduceSub, gl, glVals, List.getElem?_cons_zero, List.getElem?_cons_succ, Bool.not_true, Bool.not_false, is_within_i]
      rw [decide_eq_true (show 0 ≤ i ∧ i ≤ 60 by omega)]
    simp only [↓rSs_cons, ↓rSs_nil, ↓rS_asg, ↓rS_tup, ↓rS_par, ↓rS_bxa, ↓rS_app, ↓rS_set, ↓rS_aug, ↓rS_ret, ↓rS_retN, ↓rS_ife, ↓rS_for, ↓rS_while, ↓rS_pass, ↓rS_brk, ↓rS_cont, ↓rS_expr, ↓rE_var, ↓rE_cst, ↓rE_glb, ↓rE_bin, ↓rE_neg, ↓rE_not, ↓rE_cmp, ↓rE_chain, ↓rE_and, ↓rE_or, ↓rE_ife, ↓rE_call, ↓rE_b1, ↓rE_b2, ↓rE_isi, ↓rE_ix, ↓rE_sl, ↓rE_tup, ↓rE_lst, ↓rE_lc, ↓rEs_nil, ↓rEs_cons, ↓rEo_no, ↓rEo_so, ↓rC_no, ↓rC_so, ↓rI_sq, ↓rI_r1, ↓rI_r2, ↓rI_zip, ↓rI_enu, after_nx, after_rt, after_bk, after_ct, Run.some, Run.none, Run.map, Run.ifn, RunIf.tt, RunIf.ff, RunIf.not_, w_d, R.norm_d, R.norm_w, R.norm_l, peek_d, toD_d, tst_b, tst_i, tst_l, tst_t, tst_n, slot_0, slot_s, mkW_f, mkW_t, toBx_b, toInt_i, augV_a, augV_s, retR_d, retR_rd, retR_f, endOf_d, endOf_rd, endOf_f, endOf_n, geOf_glob, bind_nm, bind_tp, setAll_nil, setAll_cons, wipe_nil, wipe_cons, add_ii, sub_ii, add_ll, add_tt, mul_li, lt_ii, le_ii, gt_ii, ge_ii, eq_ii, ne_ii, eq_ss, ne_ss, Mini.is_none, Mini.isnot_none, len_l, len_t, abs_i, int_i, int_b, tuple_l, tuple_t, list_l, list_t, max_ii, min_ii, isi_int, isi_bool, isi_tup, isi_str, isi_lst, isIntD, isBoolD, isStrD, isTupD, isLstD, ix_l, ix_t, at_0, seq_l, seq_t, lstOf_l, rng1_i, rng2_i, optInt_n, optInt_i, sl_l, sl_t, mapM_nil, mapM_cons, at_1, at_2, at_3, at_4, Option.map_some, List.map_cons, List.map_nil, List.cons_append, List.nil_append, List.append_nil, List.length_cons, List.length_nil, List.set_cons_zero, List.set_cons_succ, List.take_length, List.replicate_succ, List.replicate_zero, sz, decide_eq_true_eq, Nat.zero_add, Nat.reduceAdd, Nat.reduceLeDiff, true_and, and_true, Nat.sub_self, Nat.reduceSub, gl, glVals, List.getElem?_cons_zero, List.getElem?_cons_succ, Bool.not_true, Bool.not_false, all_tt]
  simp only [↓rSs_cons, ↓rSs_nil, ↓rS_asg, ↓rS_tup, ↓rS_par, ↓rS_bxa, ↓rS_app, ↓rS_set, ↓rS_aug, ↓rS_ret, ↓rS_retN, ↓rS_ife, ↓rS_for, ↓rS_while, ↓rS_pass, ↓rS_brk, ↓rS_cont, ↓rS_expr, ↓rE_var, ↓rE_cst, ↓rE_glb, ↓rE_bin, ↓rE_neg, ↓rE_not, ↓rE_cmp, ↓rE_chain, ↓rE_and, ↓rE_or, ↓rE_ife, ↓rE_call, ↓rE_b1, ↓rE_b2, ↓rE_isi, ↓rE_ix, ↓rE_sl, ↓rE_tup, ↓rE_lst, ↓rE_lc, ↓rEs_nil, ↓rEs_cons, ↓rEo_no, ↓rEo_so, ↓rC_no, ↓rC_so, ↓rI_sq, ↓rI_r1, ↓rI_r2, ↓rI_zip, ↓rI_enu, after_nx, after_rt, after_bk, after_ct, Run.some, Run.none, Run.map, Run.ifn, RunIf.tt, RunIf.ff, RunIf.not_, w_d, R.norm_d, R.norm_w, R.norm_l, peek_d, toD_d, tst_b, tst_i, tst_l, tst_t, tst_n, slot_0, slot_s, mkW_f, mkW_t, toBx_b, toInt_i, augV_a, augV_s, retR_d, retR_rd, retR_f, endOf_d, endOf_rd, endOf_f, endOf_n, geOf_glob, bind_nm, bind_tp, setAll_nil, setAll_cons, wipe_nil, wipe_cons, add_ii, sub_ii, add_ll, add_tt, mul_li, lt_ii, le_ii, gt_ii, ge_ii, eq_ii, ne_ii, eq_ss, ne_ss, Mini.is_none, Mini.isnot_none, len_l, len_t, abs_i, int_i, int_b, tuple_l, tuple_t, list_l, list_t, max_ii, min_ii, isi_int, isi_bool, isi_tup, isi_str, isi_lst, isIntD, isBoolD, isStrD, isTupD, isLstD, ix_l, ix_t, at_0, seq_l, seq_t, lstOf_l, rng1_i, rng2_i, optInt_n, optInt_i, sl_l, sl_t, mapM_nil, mapM_cons, at_1, at_2, at_3, at_4, Option.map_some, List.map_cons, List.map_nil, List.cons_append, List.nil_append, List.append_nil, List.length_cons, List.length_nil, List.set_cons_zero, List.set_cons_succ, List.take_length, List.replicate_succ, List.replicate_zero, sz, decide_eq_true_eq, Nat.zero_add, Nat.reduceAdd, Nat.reduceLeDiff, true_and, and_true, Nat.sub_self, Nat.reduceSub, gl, glVals, List.getElem?_cons_zero, List.getElem?_cons_succ, Bool.not_true, Bool.not_false, all_tt]
theorem form_of_r (h : Up 20 ns) (h1 : 1 ≤ ns.length ∧ ns.length ≤ 10) : (G (n + 5)).fn 16 [.d (rowD ns)] μ = some (rd (.tuple [.int ns.length]), μ) := by
  apply Run.eq
  refine run_fn (bd := b_form_of) rfl rfl ?_; unfold b_form_of; simp only [List.map_cons, List.map_nil, List.cons_append, List.nil_append, List.append_nil, List.replicate_succ, List.replicate_zero, Nat.reduceSub]
  simp only [↓rSs_cons, ↓rSs_nil, ↓rS_asg, ↓rS_tup, ↓rS_par, ↓rS_bxa, ↓rS_app, ↓rS_set, ↓rS_aug, ↓rS_ret, ↓rS_retN, ↓rS_ife, ↓rS_for, ↓rS_while, ↓rS_pass, ↓rS_brk, ↓rS_cont, ↓rS_expr, ↓rE_var, ↓rE_cst, ↓rE_glb, ↓rE_bin, ↓rE_neg, ↓rE_not, ↓rE_cmp, ↓rE_chain, ↓rE_and, ↓rE_or, ↓rE_ife, ↓rE_call, ↓rE_b1, ↓rE_b2, ↓rE_isi, ↓rE_ix, ↓rE_sl, ↓rE_tup, ↓rE_lst, ↓rE_lc, ↓rEs_nil, ↓rEs_cons, ↓rEo_no, ↓rEo_so, ↓rC_no, ↓rC_so, ↓rI_sq, ↓rI_r1, ↓rI_r2, ↓rI_zip, ↓rI_enu, after_nx, after_rt, after_bk, after_ct, Run.some, Run.none, Run.map, Run.ifn, RunIf.tt, RunIf.ff, RunIf.not_, w_d, R.norm_d, R.norm_w, R.norm_l, peek_d, toD_d, tst_b, tst_i, tst_l, tst_t, tst_n, slot_0, slot_s, mkW_f, mkW_t, toBx_b, toInt_i, augV_a, augV_s, retR_d, retR_rd, retR_f, endOf_d, endOf_rd, endOf_f, endOf_n, geOf_glob, bind_nm, bind_tp, setAll_nil, setAll_cons, wipe_nil, wipe_cons, add_ii, sub_ii, add_ll, add_tt, mul_li, lt_ii, le_ii, gt_ii, ge_ii, eq_ii, ne_ii, eq_ss, ne_ss, Mini.is_none, Mini.isnot_none, len_l, len_t, abs_i, int_i, int_b, tuple_l, tuple_t, list_l, list_t, max_ii, min_ii, isi_int, isi_bool, isi_tup, isi_str, isi_lst, isIntD, isBoolD, isStrD, isTupD, isLstD, ix_l, ix_t, at_0, seq_l, seq_t, lstOf_l, rng1_i, rng2_i, optInt_n, optInt_i, sl_l, sl_t, mapM_nil, mapM_cons, at_1, at_2, at_3, at_4, Option.map_some, List.map_cons, List.map_nil, List.cons_append, List.nil_append, List.append_nil, List.length_cons, List.length_nil, List.set_cons_zero, List.set_cons_succ, List.take_length, List.replicate_succ, List.replicate_zero, sz, decide_eq_true_eq, Nat.zero_add, Nat.reduceAdd, Nat.reduceLeDiff, true_and, and_true, Nat.sub_self, Nat.reduceSub, gl, glVals, List.getElem?_cons_zero, List.getElem?_cons_succ, Bool.not_true, Bool.not_false, is_seats_member_r h h1]
  unfold rowD
  simp only [↓rSs_cons, ↓rSs_nil, ↓rS_asg, ↓rS_tup, ↓rS_par, ↓rS_bxa, ↓rS_app, ↓rS_set, ↓rS_aug, ↓rS_ret, ↓rS_retN, ↓rS_ife, ↓rS_for, ↓rS_while, ↓rS_pass, ↓rS_brk, ↓rS_cont, ↓rS_expr, ↓rE_var, ↓rE_cst, ↓rE_glb, ↓rE_bin, ↓rE_neg, ↓rE_not, ↓rE_cmp, ↓rE_chain, ↓rE_and, ↓rE_or, ↓rE_ife, ↓rE_call, ↓rE_b1, ↓rE_b2, ↓rE_isi, ↓rE_ix, ↓rE_sl, ↓rE_tup, ↓rE_lst, ↓rE_lc, ↓rEs_nil, ↓rEs_cons, ↓rEo_no, ↓rEo_so, ↓rC_no, ↓rC_so, ↓rI_sq, ↓rI_r1, ↓rI_r2, ↓rI_zip, ↓rI_enu, after_nx, after_rt, after_bk, after_ct, Run.some, Run.none, Run.map, Run.ifn, RunIf.tt, RunIf.ff, RunIf.not_, w_d, R.norm_d, R.norm_w, R.norm_l, peek_d, toD_d, tst_b, tst_i, tst_l, tst_t, tst_n, slot_0, slot_s, mkW_f, mkW_t, toBx_b, toInt_i, augV_a, augV_s, retR_d, retR_rd, retR_f, endOf_d, endOf_rd, endOf_f, endOf_n, geOf_glob, bind_nm, bind_tp, setAll_nil, setAll_cons, wipe_nil, wipe_cons, add_ii, sub_ii, add_ll, add_tt, mul_li, lt_ii, le_ii, gt_ii, ge_ii, eq_ii, ne_ii, eq_ss, ne_ss, Mini.is_none, Mini.isnot_none, len_l, len_t, abs_i, int_i, int_b, tuple_l, tuple_t, list_l, list_t, max_ii, min_ii, isi_int, isi_bool, isi_tup, isi_str, isi_lst, isIntD, isBoolD, isStrD, isTupD, isLstD, ix_l, ix_t, at_0, seq_l, seq_t, lstOf_l, rng1_i, rng2_i, optInt_n, optInt_i, sl_l, sl_t, mapM_nil, mapM_cons, at_1, at_2, at_3, at_4, Option.map_some, List.map_cons, List.map_nil, List.cons_append, List.nil_append, List.append_nil, List.length_cons, List.length_nil, List.set_cons_zero, List.set_cons_succ, List.take_length, List.replicate_succ, List.replicate_zero, sz, decide_eq_true_eq, Nat.zero_add, Nat.reduceAdd, Nat.reduceLeDiff, true_and, and_true, Nat.sub_self, Nat.reduceSub, gl, glVals, List.getElem?_cons_zero, List.getElem?_cons_succ, Bool.not_true, Bool.not_false, List.length_map]
theorem form_of_t {w : Nat} (h : Tb rs w) : (G (n + 5)).fn 16 [.d (tabD rs)] μ = some (rd (.tuple [.int rs.length, .int w]), μ) := by
  apply Run.eq
  obtain ⟨r0, hr, hw⟩ := h.zero
  refine run_fn (bd := b_form_of) rfl rfl ?_; unfold b_form_of; simp only [List.map_cons, List.map_nil, List.cons_append, List.nil_append, List.append_nil, List.replicate_succ, List.replicate_zero, Nat.reduceSub]
  simp only [↓rSs_cons, ↓rSs_nil, ↓rS_asg, ↓rS_tup, ↓rS_par, ↓rS_bxa, ↓rS_app, ↓rS_set, ↓rS_aug, ↓rS_ret, ↓rS_retN, ↓rS_ife, ↓rS_for, ↓rS_while, ↓rS_pass, ↓rS_brk, ↓rS_cont, ↓rS_expr, ↓rE_var, ↓rE_cst, ↓rE_glb, ↓rE_bin, ↓rE_neg, ↓rE_not, ↓rE_cmp, ↓rE_chain, ↓rE_and, ↓rE_or, ↓rE_ife, ↓rE_call, ↓rE_b1, ↓rE_b2, ↓rE_isi, ↓rE_ix, ↓rE_sl, ↓rE_tup, ↓rE_lst, ↓rE_lc, ↓rEs_nil, ↓rEs_cons, ↓rEo_no, ↓rEo_so, ↓rC_no, ↓rC_so, ↓rI_sq, ↓rI_r1, ↓rI_r2, ↓rI_zip, ↓rI_enu, after_nx, after_rt, after_bk, after_ct, Run.some, Run.none, Run.map, Run.ifn, RunIf.tt, RunIf.ff, RunIf.not_, w_d, R.norm_d, R.norm_w, R.norm_l, peek_d, toD_d, tst_b, tst_i, tst_l, tst_t, tst_n, slot_0, slot_s, mkW_f, mkW_t, toBx_b, toInt_i, augV_a, augV_s, retR_d, retR_rd, retR_f, endOf_d, endOf_rd, endOf_f, endOf_n, geOf_glob, bind_nm, bind_tp, setAll_nil, setAll_cons, wipe_nil, wipe_cons, add_ii, sub_ii, add_ll, add_tt, mul_li, lt_ii, le_ii, gt_ii, ge_ii, eq_ii, ne_ii, eq_ss, ne_ss, Mini.is_none, Mini.isnot_none, len_l, len_t, abs_i, int_i, int_b, tuple_l, tuple_t, list_l, list_t, max_ii, min_ii, isi_int, isi_bool, isi_tup, isi_str, isi_lst, isIntD, isBoolD, isStrD, isTupD, isLstD, ix_l, ix_t, at_0, seq_l, seq_t, lstOf_l, rng1_i, rng2_i, optInt_n, optInt_i, sl_l, sl_t, mapM_nil, mapM_cons, at_1, at_2, at_3, at_4, Option.map_some, List.map_cons, List.map_nil, List.cons_append, List.nil_append, List.append_nil, List.length_cons, List.length_nil, List.set_cons_zero, List.set_cons_succ, List.take_length, List.replicate_succ, List.replicate_zero, sz, decide_eq_true_eq, Nat.zero_add, Nat.reduceAdd, Nat.reduceLeDiff, true_and, and_true, Nat.sub_self, Nat.reduceSub, gl, glVals, List.getElem?_cons_zero, List.getElem?_cons_succ, Bool.not_true, Bool.not_false, is_seats_member_t h.len, is_table_member_t h]
  unfold tabD
  simp only [↓rSs_cons, ↓rSs_nil, ↓rS_asg, ↓rS_tup, ↓rS_par, ↓rS_bxa, ↓rS_app, ↓rS_set, ↓rS_aug, ↓rS_ret, ↓rS_retN, ↓rS_ife, ↓rS_for, ↓rS_while, ↓rS_pass, ↓rS_brk, ↓rS_cont, ↓rS_expr, ↓rE_var, ↓rE_cst, ↓rE_glb, ↓rE_bin, ↓rE_neg, ↓rE_not, ↓rE_cmp, ↓rE_chain, ↓rE_and, ↓rE_or, ↓rE_ife, ↓rE_call, ↓rE_b1, ↓rE_b2, ↓rE_isi, ↓rE_ix, ↓rE_sl, ↓rE_tup, ↓rE_lst, ↓rE_lc, ↓rEs_nil, ↓rEs_cons, ↓rEo_no, ↓rEo_so, ↓rC_no, ↓rC_so, ↓rI_sq, ↓rI_r1, ↓rI_r2, ↓rI_zip, ↓rI_enu, after_nx, after_rt, after_bk, after_ct, Run.some, Run.none, Run.map, Run.ifn, RunIf.tt, RunIf.ff, RunIf.not_, w_d, R.norm_d, R.norm_w, R.norm_l, peek_d, toD_d, tst_b, tst_i, tst_l, tst_t, tst_n, slot_0, slot_s, mkW_f, mkW_t, toBx_b, toInt_i, augV_a, augV_s, retR_d, retR_rd, retR_f, endOf_d, endOf_rd, endOf_f, endOf_n, geOf_glob, bind_nm, bind_tp, setAll_nil, setAll_cons, wipe_nil, wipe_cons, add_ii, sub_ii, add_ll, add_tt, mul_li, lt_ii, le_ii, gt_ii, ge_ii, eq_ii, ne_ii, eq_ss, ne_ss, Mini.is_none, Mini.isnot_none, len_l, len_t, abs_i, int_i, int_b, tuple_l, tuple_t, list_l, list_t, max_ii, min_ii, isi_int, isi_bool, isi_tup, isi_str, isi_lst, isIntD, isBoolD, isStrD, isTupD, isLstD, ix_l, ix_t, at_0, seq_l, seq_t, lstOf_l, rng1_i, rng2_i, optInt_n, optInt_i, sl_l, sl_t, mapM_nil, mapM_cons, at_1, at_2, at_3, at_4, Option.map_some, List.map_cons, List.map_nil, List.cons_append, List.nil_append, List.append_nil, List.length_cons, List.length_nil, List.set_cons_zero, List.set_cons_succ, List.take_length, List.replicate_succ, List.replicate_zero, sz, decide_eq_true_eq, Nat.zero_add, Nat.reduceAdd, Nat.reduceLeDiff, true_and, and_true, Nat.sub_self, Nat.reduceSub, gl, glVals, List.getElem?_cons_zero, List.getElem?_cons_succ, Bool.not_true, Bool.not_false, at_map0 hr]
  unfold rowD
  simp only [↓rSs_cons, ↓rSs_nil, ↓rS_asg, ↓rS_tup, ↓rS_par, ↓rS_bxa, ↓rS_app, ↓rS_set, ↓rS_aug, ↓rS_ret, ↓rS_retN, ↓rS_ife, ↓rS_for, ↓rS_while, ↓rS_pass, ↓rS_brk, ↓rS_cont, ↓rS_expr, ↓rE_var, ↓rE_cst, ↓rE_glb, ↓rE_bin, ↓rE_neg, ↓rE_not, ↓rE_cmp, ↓rE_chain, ↓rE_and, ↓rE_or, ↓rE_ife, ↓rE_call, ↓rE_b1, ↓rE_b2, ↓rE_isi, ↓rE_ix, ↓rE_sl, ↓rE_tup, ↓rE_lst, ↓rE_lc, ↓rEs_nil, ↓rEs_cons, ↓rEo_no, ↓rEo_so, ↓rC_no, ↓rC_so, ↓rI_sq, ↓rI_r1, ↓rI_r2, ↓rI_zip, ↓rI_enu, after_nx, after_rt, after_bk, after_ct, Run.some, Run.none, Run.map, Run.ifn, RunIf.tt, RunIf.ff, RunIf.not_, w_d, R.norm_d, R.norm_w, R.norm_l, peek_d, toD_d, tst_b, tst_i, tst_l, tst_t, tst_n, slot_0, slot_s, mkW_f, mkW_t, toBx_b, toInt_i, augV_a, augV_s, retR_d, retR_rd, retR_f, endOf_d, endOf_rd, endOf_f, endOf_n, geOf_glob, bind_nm, bind_tp, setAll_nil, setAll_cons, wipe_nil, wipe_cons, add_ii, sub_ii, add_ll, add_tt, mul_li, lt_ii, le_ii, gt_ii, ge_ii, eq_ii, ne_ii, eq_ss, ne_ss, Mini.is_none, Mini.isnot_none, len_l, len_t, abs_i, int_i, int_b, tuple_l, tuple_t, list_l, list_t, max_ii, min_ii, isi_int, isi_bool, isi_tup, isi_str, isi_lst, isIntD, isBoolD, isStrD, isTupD, isLstD, ix_l, ix_t, at_0, seq_l, seq_t, lstOf_l, rng1_i, rng2_i, optInt_n, optInt_i, sl_l, sl_t, mapM_nil, mapM_cons, at_1, at_2, at_3, at_4, Option.map_some, List.map_cons, List.map_nil, List.cons_append, List.nil_append, List.append_nil, List.length_cons, List.length_nil, List.set_cons_zero, List.set_cons_succ, List.take_length, List.replicate_succ, List.replicate_zero, sz, decide_eq_true_eq, Nat.zero_add, Nat.reduceAdd, Nat.reduceLeDiff, true_and, and_true, Nat.sub_self, Nat.reduceSub, gl, glVals, List.getElem?_cons_zero, List.getElem?_cons_succ, Bool.not_true, Bool.not_false, List.length_map, hw]
end
end K85
end
section
set_option Elab.async false
set_option linter.all false
set_option maxRecDepth 100000
set_option maxHeartbeats 1000000
open Mini PySem
namespace K85
section
variable {n : Nat} {μ : Store}
theorem ldiv_i {a b : Int} (h : Bt 9000 b) : (G (n + 1)).fn 27 [.d (.int a), .d (.int b)] μ = some (rd (.int (Int.gcd a b)), μ) := by
  apply Run.eq
  refine run_fn (bd := b_law_divisor) rfl rfl ?_; unfold b_law_divisor; simp only [List.map_cons, List.map_nil, List.cons_append, List.nil_append, List.append_nil, List.replicate_succ, List.replicate_zero, Nat.reduceSub]
  simp only [↓rSs_cons, ↓rSs_nil, ↓rS_asg, ↓rS_tup, ↓rS_par, ↓rS_bxa, ↓rS_app, ↓rS_set, ↓rS_aug, ↓rS_ret, ↓rS_retN, ↓rS_ife, ↓rS_for, ↓rS_while, ↓rS_pass, ↓rS_brk, ↓rS_cont, ↓rS_expr, ↓rE_var, ↓rE_cst, ↓rE_glb, ↓rE_bin, ↓rE_neg, ↓rE_not, ↓rE_cmp, ↓rE_chain, ↓rE_and, ↓rE_or, ↓rE_ife, ↓rE_call, ↓rE_b1, ↓rE_b2, ↓rE_isi, ↓rE_ix, ↓rE_sl, ↓rE_tup, ↓rE_lst, ↓rE_lc, ↓rEs_nil, ↓rEs_cons, ↓rEo_no, ↓rEo_so, ↓rC_no, ↓rC_so, ↓rI_sq, ↓rI_r1, ↓rI_r2, ↓rI_zip, ↓rI_enu, after_nx, after_rt, after_bk, after_ct, Run.some, Run.none, Run.map, Run.ifn, RunIf.tt, RunIf.ff, RunIf.not_, w_d, R.norm_d, R.norm_w, R.norm_l, peek_d, toD_d, tst_b, tst_i, tst_l, tst_t, tst_n, slot_0, slot_s, mkW_f, mkW_t, toBx_b, toInt_i, augV_a, augV_s, retR_d, retR_rd, retR_f, endOf_d, endOf_rd, endOf_f, endOf_n, geOf_glob, bind_nm, bind_tp, setAll_nil, setAll_cons, wipe_nil, wipe_cons, add_ii, sub_ii, add_ll, add_tt, mul_li, lt_ii, le_ii, gt_ii, ge_ii, eq_ii, ne_ii, eq_ss, ne_ss, Mini.is_none, Mini.isnot_none, len_l, len_t, abs_i, int_i, int_b, tuple_l, tuple_t, list_l, list_t, max_ii, min_ii, isi_int, isi_bool, isi_tup, isi_str, isi_lst, isIntD, isBoolD, isStrD, isTupD, isLstD, ix_l, ix_t, at_0, seq_l, seq_t, lstOf_l, rng1_i, rng2_i, optInt_n, optInt_i, sl_l, sl_t, mapM_nil, mapM_cons, at_1, at_2, at_3, at_4, Option.map_some, List.map_cons, List.map_nil, List.cons_append, List.nil_append, List.append_nil, List.length_cons, List.length_nil, List.set_cons_zero, List.set_cons_succ, List.take_length, List.replicate_succ, List.replicate_zero, sz, decide_eq_true_eq, Nat.zero_add, Nat.reduceAdd, Nat.reduceLeDiff, true_and, and_true, Nat.sub_self, Nat.reduceSub, gl, glVals, List.getElem?_cons_zero, List.getElem?_cons_succ, Bool.not_true, Bool.not_false]
  refine while_inv (fun m ρ μ' => μ' = μ ∧ ∃ l r : Nat, ρ = [some (.d (.int l)), some (.d (.int r))] ∧ Nat.gcd l r = Int.gcd a b ∧ cnt l r ≤ m) (k := 18000) (by decide) ⟨rfl, a.natAbs, b.natAbs, ?_, rfl, ?_⟩ ?_
  · rfl
  · exact cnt_le 9000 _ _ h
  · rintro m ρ μ' ⟨rfl, l, r, rfl, hg, hc⟩
    rw [nB_eq]
    simp only [↓rSs_cons, ↓rSs_nil, ↓rS_asg, ↓rS_tup, ↓rS_par, ↓rS_bxa, ↓rS_app, ↓rS_set, ↓rS_aug, ↓rS_ret, ↓rS_retN, ↓rS_ife, ↓rS_for, ↓rS_while, ↓rS_pass, ↓rS_brk, ↓rS_cont, ↓rS_expr, ↓rE_var, ↓rE_cst, ↓rE_glb, ↓rE_bin, ↓rE_neg, ↓rE_not, ↓rE_cmp, ↓rE_chain, ↓rE_and, ↓rE_or, ↓rE_ife, ↓rE_call, ↓rE_b1, ↓rE_b2, ↓rE_isi, ↓rE_ix, ↓rE_sl, ↓rE_tup, ↓rE_lst, ↓rE_lc, ↓rEs_nil, ↓rEs_cons, ↓rEo_no, ↓rEo_so, ↓rC_no, ↓rC_so, ↓rI_sq, ↓rI_r1, ↓rI_r2, ↓rI_zip, ↓rI_enu, after_nx, after_rt, after_bk, after_ct, Run.some, Run.none, Run.map, Run.ifn, RunIf.tt, RunIf.ff, RunIf.not_, w_d, R.norm_d, R.norm_w, R.norm_l, peek_d, toD_d, tst_b, tst_i, tst_l, tst_t, tst_n, slot_0, slot_s, mkW_f, mkW_t, toBx_b, toInt_i, augV_a, augV_s, retR_d, retR_rd, retR_f, endOf_d, endOf_rd, endOf_f, endOf_n, geOf_glob, bind_nm, bind_tp, setAll_nil, setAll_cons, wipe_nil, wipe_cons, add_ii, sub_ii, add_ll, add_tt, mul_li, lt_ii, le_ii, gt_ii, ge_ii, eq_ii, ne_ii, eq_ss, ne_ss, Mini.is_none, Mini.isnot_none, len_l, len_t, abs_i, int_i, int_b, tuple_l, tuple_t, list_l, list_t, max_ii, min_ii, isi_int, isi_bool, isi_tup, isi_str, isi_lst, isIntD, isBoolD, isStrD, isTupD, isLstD, ix_l, ix_t, at_0, seq_l, seq_t, lstOf_l, rng1_i, rng2_i, optInt_n, optInt_i, sl_l, sl_t, mapM_nil, mapM_cons, at_1, at_2, at_3, at_4, Option.map_some, List.map_cons, List.map_nil, List.cons_append, List.nil_append, List.append_nil, List.length_cons, List.length_nil, List.set_cons_zero, List.set_cons_succ, List.take_length, List.replicate_succ, List.replicate_zero, sz, decide_eq_true_eq, Nat.zero_add, Nat.reduceAdd, Nat.reduceLeDiff, true_and, and_true, Nat.sub_self, Nat.reduceSub, gl, glVals, List.getElem?_cons_zero, List.getElem?_cons_succ, Bool.not_true, Bool.not_false]
    by_cases h0 : r = 0
    · subst h0
      refine .neg (by decide) ?_
      simp only [↓rSs_cons, ↓rSs_nil, ↓rS_asg, ↓rS_tup, ↓rS_par, ↓rS_bxa, ↓rS_app, ↓rS_set, ↓rS_aug, ↓rS_ret, ↓rS_retN, ↓rS_ife, ↓rS_for, ↓rS_while, ↓rS_pass, ↓rS_brk, ↓rS_cont, ↓rS_expr, ↓rE_var, ↓rE_cst, ↓rE_glb, ↓rE_bin, ↓rE_neg, ↓rE_not, ↓rE_cmp, ↓rE_chain, ↓rE_and, ↓rE_or, ↓rE_ife, ↓rE_call, ↓rE_b1, ↓rE_b2, ↓rE_isi, ↓rE_ix, ↓rE_sl, ↓rE_tup, ↓rE_lst, ↓rE_lc, ↓rEs_nil, ↓rEs_cons, ↓rEo_no, ↓rEo_so, ↓rC_no, ↓rC_so, ↓rI_sq, ↓rI_r1, ↓rI_r2, ↓rI_zip, ↓rI_enu, after_nx, after_rt, after_bk, after_ct, Run.some, Run.none, Run.map, Run.ifn, RunIf.tt, RunIf.ff, RunIf.not_, w_d, R.norm_d, R.norm_w, R.norm_l, peek_d, toD_d, tst_b, tst_i, tst_l, tst_t, tst_n, slot_0, slot_s, mkW_f, mkW_t, toBx_b, toInt_i, augV_a, augV_s, retR_d, retR_rd, retR_f, endOf_d, endOf_rd, endOf_f, endOf_n, geOf_glob, bind_nm, bind_tp, setAll_nil, setAll_cons, wipe_nil, wipe_cons, add_ii, sub_ii, add_ll, add_tt, mul_li, lt_ii, le_ii, gt_ii, ge_ii, eq_ii, ne_ii, eq_ss, ne_ss, Mini.is_none, Mini.isnot_none, len_l, len_t, abs_i, int_i, int_b, tuple_l, tuple_t, list_l, list_t, max_ii, min_ii, isi_int, isi_bool, isi_tup, isi_str, isi_lst, isIntD, isBoolD, isStrD, isTupD, isLstD, ix_l, ix_t, at_0, seq_l, seq_t, lstOf_l, rng1_i, rng2_i, optInt_n, optInt_i, sl_l, sl_t, mapM_nil, mapM_cons, at_1, at_2, at_3, at_4, Option.map_some, List.map_cons, List.map_nil, List.cons_append, List.nil_append, List.append_nil, List.length_cons, List.length_nil, List.set_cons_zero, List.set_cons_succ, List.take_length, List.replicate_succ, List.replicate_zero, sz, decide_eq_true_eq, Nat.zero_add, Nat.reduceAdd, Nat.reduceLeDiff, true_and, and_true, Nat.sub_self, Nat.reduceSub, gl, glVals, List.getElem?_cons_zero, List.getElem?_cons_succ, Bool.not_true, Bool.not_false]
      rw [← hg, Nat.gcd_zero_right]
    · rw [cnt_s h0] at hc
      obtain ⟨m', rfl⟩ : ∃ m', m = m' + 1 := ⟨m - 1, by omega⟩
      refine .pos (by omega) ?_
      simp only [↓rSs_cons, ↓rSs_nil, ↓rS_asg, ↓rS_tup, ↓rS_par, ↓rS_bxa, ↓rS_app, ↓rS_set, ↓rS_aug, ↓rS_ret, ↓rS_retN, ↓rS_ife, ↓rS_for, ↓rS_while, ↓rS_pass, ↓rS_brk, ↓rS_cont, ↓rS_expr, ↓rE_var, ↓rE_cst, ↓rE_glb, ↓rE_bin, ↓rE_neg, ↓rE_not, ↓rE_cmp, ↓rE_chain, ↓rE_and, ↓rE_or, ↓rE_ife, ↓rE_call, ↓rE_b1, ↓rE_b2, ↓rE_isi, ↓rE_ix, ↓rE_sl, ↓rE_tup, ↓rE_lst, ↓rE_lc, ↓rEs_nil, ↓rEs_cons, ↓rEo_no, ↓rEo_so, ↓rC_no, ↓rC_so, ↓rI_sq, ↓rI_r1, ↓rI_r2, ↓rI_zip, ↓rI_enu, after_nx, after_rt, after_bk, after_ct, Run.some, Run.none, Run.map, Run.ifn, RunIf.tt, RunIf.ff, RunIf.not_, w_d, R.norm_d, R.norm_w, R.norm_l, peek_d, toD_d, tst_b, tst_i, tst_l, tst_t, tst_n, slot_0, slot_s, mkW_f, mkW_t, toBx_b, toInt_i, augV_a, augV_s, retR_d, retR_rd, retR_f, endOf_d, endOf_rd, endOf_f, endOf_n, geOf_glob, bind_nm, bind_tp, setAll_nil, setAll_cons, wipe_nil, wipe_cons, add_ii, sub_ii, add_ll, add_tt, mul_li, lt_ii, le_ii, gt_ii, ge_ii, eq_ii, ne_ii, eq_ss, ne_ss, Mini.is_none, Mini.isnot_none, len_l, len_t, abs_i, int_i, int_b, tuple_l, tuple_t, list_l, list_t, max_ii, min_ii, isi_int, isi_bool, isi_tup, isi_str, isi_lst, isIntD, isBoolD, isStrD, isTupD, isLstD, ix_l, ix_t, at_0, seq_l, seq_t, lstOf_l, rng1_i, rng2_i, optInt_n, optInt_i, sl_l, sl_t, mapM_nil, mapM_cons, at_1, at_2, at_3, at_4, Option.map_some, List.map_cons, List.map_nil, List.cons_append, List.nil_append, List.append_nil, List.length_cons, List.length_nil, List.set_cons_zero, List.set_cons_succ, List.take_length, List.replicate_succ, List.replicate_zero, sz, decide_eq_true_eq, Nat.zero_add, Nat.reduceAdd, Nat.reduceLeDiff, true_and, and_true, Nat.sub_self, Nat.reduceSub, gl, glVals, List.getElem?_cons_zero, List.getElem?_cons_succ, Bool.not_true, Bool.not_false, mod_pos (show (0 : Int) < r by omega)]
      refine ⟨m', rfl, r, l % r, rfl, ?_, by omega⟩
      rw [← hg, Nat.gcd_comm l r, Nat.gcd_comm r (l % r), ← Nat.gcd_rec]
theorem lfrac_i {a b : Int} (hb : 0 < b) (h : Bt 9000 b) : (G (n + 2)).fn 28 [.d (.int a), .d (.int b)] μ = some (rd (fr a b), μ) := by
  apply Run.eq
  refine run_fn (bd := b_law_fraction) rfl rfl ?_; unfold b_law_fraction; simp only [List.map_cons, List.map_nil, List.cons_append, List.nil_append, List.append_nil, List.replicate_succ, List.replicate_zero, Nat.reduceSub]
  have g := gcd_pos (a := a) hb
  have hg : Bt 9000 (Int.gcd a b : Int) := h.le (by
    have := Int.gcd_le_natAbs_right a (show b ≠ 0 by omega)
    omega)
  simp only [↓rSs_cons, ↓rSs_nil, ↓rS_asg, ↓rS_tup, ↓rS_par, ↓rS_bxa, ↓rS_app, ↓rS_set, ↓rS_aug, ↓rS_ret, ↓rS_retN, ↓rS_ife, ↓rS_for, ↓rS_while, ↓rS_pass, ↓rS_brk, ↓rS_cont, ↓rS_expr, ↓rE_var, ↓rE_cst, ↓rE_glb, ↓rE_bin, ↓rE_neg, ↓rE_not, ↓rE_cmp, ↓rE_chain, ↓rE_and, ↓rE_or, ↓rE_ife, ↓rE_call, ↓rE_b1, ↓rE_b2, ↓rE_isi, ↓rE_ix, ↓rE_sl, ↓rE_tup, ↓rE_lst, ↓rE_lc, ↓rEs_nil, ↓rEs_cons, ↓rEo_no, ↓rEo_so, ↓rC_no, ↓rC_so, ↓rI_sq, ↓rI_r1, ↓rI_r2, ↓rI_zip, ↓rI_enu, after_nx, after_rt, after_bk, after_ct, Run.some, Run.none, Run.map, Run.ifn, RunIf.tt, RunIf.ff, RunIf.not_, w_d, R.norm_d, R.norm_w, R.norm_l, peek_d, toD_d, tst_b, tst_i, tst_l, tst_t, tst_n, slot_0, slot_s, mkW_f, mkW_t, toBx_b, toInt_i, augV_a, augV_s, retR_d, retR_rd, retR_f, endOf_d, endOf_rd, endOf_f, endOf_n, geOf_glob, bind_nm, bind_tp, setAll_nil, setAll_cons, wipe_nil, wipe_cons, add_ii, sub_ii, add_ll, add_tt, mul_li, lt_ii, le_ii, gt_ii, ge_ii, eq_ii, ne_ii, eq_ss, ne_ss, Mini.is_none, Mini.isnot_none, len_l, len_t, abs_i, int_i, int_b, tuple_l, tuple_t, list_l, list_t, max_ii, min_ii, isi_int, isi_bool, isi_tup, isi_str, isi_lst, isIntD, isBoolD, isStrD, isTupD, isLstD, ix_l, ix_t, at_0, seq_l, seq_t, lstOf_l, rng1_i, rng2_i, optInt_n, optInt_i, sl_l, sl_t, mapM_nil, mapM_cons, at_1, at_2, at_3, at_4, Option.map_some, List.map_cons, List.map_nil, List.cons_append, List.nil_append, List.append_nil, List.length_cons, List.length_nil, List.set_cons_zero, List.set_cons_succ, List.take_length, List.replicate_succ, List.replicate_zero, sz, decide_eq_true_eq, Nat.zero_add, Nat.reduceAdd, Nat.reduceLeDiff, true_and, and_true, Nat.sub_self, Nat.reduceSub, gl, glVals, List.getElem?_cons_zero, List.getElem?_cons_succ, Bool.not_true, Bool.not_false, ldiv_i h]
  refine .pos hb ?_
  simp only [↓rSs_cons, ↓rSs_nil, ↓rS_asg, ↓rS_tup, ↓rS_par, ↓rS_bxa, ↓rS_app, ↓rS_set, ↓rS_aug, ↓rS_ret, ↓rS_retN, ↓rS_ife, ↓rS_for, ↓rS_while, ↓rS_pass, ↓rS_brk, ↓rS_cont, ↓rS_expr, ↓rE_var, ↓rE_cst, ↓rE_glb, ↓rE_bin, ↓rE_neg, ↓rE_not, ↓rE_cmp, ↓rE_chain, ↓rE_and, ↓rE_or, ↓rE_ife, ↓rE_call, ↓rE_b1, ↓rE_b2, ↓rE_isi, ↓rE_ix, ↓rE_sl, ↓rE_tup, ↓rE_lst, ↓rE_lc, ↓rEs_nil, ↓rEs_cons, ↓rEo_no, ↓rEo_so, ↓rC_no, ↓rC_so, ↓rI_sq, ↓rI_r1, ↓rI_r2, ↓rI_zip, ↓rI_enu, after_nx, after_rt, after_bk, after_ct, Run.some, Run.none, Run.map, Run.ifn, RunIf.tt, RunIf.ff, RunIf.not_, w_d, R.norm_d, R.norm_w, R.norm_l, peek_d, toD_d, tst_b, tst_i, tst_l, tst_t, tst_n, slot_0, slot_s, mkW_f, mkW_t, toBx_b, toInt_i, augV_a, augV_s, retR_d, retR_rd, retR_f, endOf_d, endOf_rd, endOf_f, endOf_n, geOf_glob, bind_nm, bind_tp, setAll_nil, setAll_cons, wipe_nil, wipe_cons, add_ii, sub_ii, add_ll, add_tt, mul_li, lt_ii, le_ii, gt_ii, ge_ii, eq_ii, ne_ii, eq_ss, ne_ss, Mini.is_none, Mini.isnot_none, len_l, len_t, abs_i, int_i, int_b, tuple_l, tuple_t, list_l, list_t, max_ii, min_ii, isi_int, isi_bool, isi_tup, isi_str, isi_lst, isIntD, isBoolD, isStrD, isTupD, isLstD, ix_l, ix_t, at_0, seq_l, seq_t, lstOf_l, rng1_i, rng2_i, optInt_n, optInt_i, sl_l, sl_t, mapM_nil, mapM_cons, at_1, at_2, at_3, at_4, Option.map_some, List.map_cons, List.map_nil, List.cons_append, List.nil_append, List.append_nil, List.length_cons, List.length_nil, List.set_cons_zero, List.set_cons_succ, List.take_length, List.replicate_succ, List.replicate_zero, sz, decide_eq_true_eq, Nat.zero_add, Nat.reduceAdd, Nat.reduceLeDiff, true_and, and_true, Nat.sub_self, Nat.reduceSub, gl, glVals, List.getElem?_cons_zero, List.getElem?_cons_succ, Bool.not_true, Bool.not_false, mul_bt hg (show Bt 1 1 from (by decide : (1 : Int).natAbs < 2 ^ 1)) (by decide) (by decide) (by decide), Int.mul_one, div_pos g hg]
  unfold fr nm
  rw [Int.gcd_comm b a]
theorem lplus_i {a b c d : Int} (hb : 0 < b) (hd : 0 < d) (ha : Bt 4000 a) (hb' : Bt 4000 b) (hc : Bt 4000 c) (hd' : Bt 4000 d) :
    (G (n + 3)).fn 29 [.d (.tuple [.int a, .int b]), .d (.tuple [.int c, .int d])] μ = some (rd (fr (a * d + c * b) (b * d)), μ) := by
  apply Run.eq
  refine run_fn (bd := b_law_fr_plus) rfl rfl ?_; unfold b_law_fr_plus; simp only [List.map_cons, List.map_nil, List.cons_append, List.nil_append, List.append_nil, List.replicate_succ, List.replicate_zero, Nat.reduceSub]
  simp only [↓rSs_cons, ↓rSs_nil, ↓rS_asg, ↓rS_tup, ↓rS_par, ↓rS_bxa, ↓rS_app, ↓rS_set, ↓rS_aug, ↓rS_ret, ↓rS_retN, ↓rS_ife, ↓rS_for, ↓rS_while, ↓rS_pass, ↓rS_brk, ↓rS_cont, ↓rS_expr, ↓rE_var, ↓rE_cst, ↓rE_glb, ↓rE_bin, ↓rE_neg, ↓rE_not, ↓rE_cmp, ↓rE_chain, ↓rE_and, ↓rE_or, ↓rE_ife, ↓rE_call, ↓rE_b1, ↓rE_b2, ↓rE_isi, ↓rE_ix, ↓rE_sl, ↓rE_tup, ↓rE_lst, ↓rE_lc, ↓rEs_nil, ↓rEs_cons, ↓rEo_no, ↓rEo_so, ↓rC_no, ↓rC_so, ↓rI_sq, ↓rI_r1, ↓rI_r2, ↓rI_zip, ↓rI_enu, after_nx, after_rt, after_bk, after_ct, Run.some, Run.none, Run.map, Run.ifn, RunIf.tt, RunIf.ff, RunIf.not_, w_d, R.norm_d, R.norm_w, R.norm_l, peek_d, toD_d, tst_b, tst_i, tst_l, tst_t, tst_n, slot_0, slot_s, mkW_f, mkW_t, toBx_b, toInt_i, augV_a, augV_s, retR_d, retR_rd, retR_f, endOf_d, endOf_rd, endOf_f, endOf_n, geOf_glob, bind_nm, bind_tp, setAll_nil, setAll_cons, wipe_nil, wipe_cons, add_ii, sub_ii, add_ll, add_tt, mul_li, lt_ii, le_ii, gt_ii, ge_ii, eq_ii, ne_ii, eq_ss, ne_ss, Mini.is_none, Mini.isnot_none, len_l, len_t, abs_i, int_i, int_b, tuple_l, tuple_t, list_l, list_t, max_ii, min_ii, isi_int, isi_bool, isi_tup, isi_str, isi_lst, isIntD, isBoolD, isStrD, isTupD, isLstD, ix_l, ix_t, at_0, seq_l, seq_t, lstOf_l, rng1_i, rng2_i, optInt_n, optInt_i, sl_l, sl_t, mapM_nil, mapM_cons, at_1, at_2, at_3, at_4, Option.map_some, List.map_cons, List.map_nil, List.cons_append, List.nil_append, List.append_nil, List.length_cons, List.length_nil, List.set_cons_zero, List.set_cons_succ, List.take_length, List.replicate_succ, List.replicate_zero, sz, decide_eq_true_eq, Nat.zero_add, Nat.reduceAdd, Nat.reduceLeDiff, true_and, and_true, Nat.sub_self, Nat.reduceSub, gl, glVals, List.getElem?_cons_zero, List.getElem?_cons_succ, Bool.not_true, Bool.not_false, mul_bt ha hd' (by decide) (by decide) (by decide), mul_bt hc hb' (by decide) (by decide) (by decide), mul_bt hb' hd' (by decide) (by decide) (by decide), lfrac_i (Int.mul_pos hb hd) ((hb'.mul hd').mono (by decide))]
theorem ltimes_i {a b c d : Int} (hb : 0 < b) (hd : 0 < d) (ha : Bt 4000 a) (hb' : Bt 4000 b) (hc : Bt 4000 c) (hd' : Bt 4000 d) :
    (G (n + 3)).fn 30 [.d (.tuple [.int a, .int b]), .d (.tuple [.int c, .int d])] μ = some (rd (fr (a * c) (b * d)), μ) := by
  apply Run.eq
  refine run_fn (bd := b_law_fr_times) rfl rfl ?_; unfold b_law_fr_times; simp only [List.map_cons, List.map_nil, List.cons_append, List.nil_append, List.append_nil, List.replicate_succ, List.replicate_zero, Nat.reduceSub]
  simp only [↓rSs_cons, ↓rSs_nil, ↓rS_asg, ↓rS_tup, ↓rS_par, ↓rS_bxa, ↓rS_app, ↓rS_set, ↓rS_aug, ↓rS_ret, ↓rS_retN, ↓rS_ife, ↓rS_for, ↓rS_while, ↓rS_pass, ↓rS_brk, ↓rS_cont, ↓rS_expr, ↓rE_var, ↓rE_cst, ↓rE_glb, ↓rE_bin, ↓rE_neg, ↓rE_not, ↓rE_cmp, ↓rE_chain, ↓rE_and, ↓rE_or, ↓rE_ife, ↓rE_call, ↓rE_b1, ↓rE_b2, ↓rE_isi, ↓rE_ix, ↓rE_sl, ↓rE_tup, ↓rE_lst, ↓rE_lc, ↓rEs_nil, ↓rEs_cons, ↓rEo_no, ↓rEo_so, ↓rC_no, ↓rC_so, ↓rI_sq, ↓rI_r1, ↓rI_r2, ↓rI_zip, ↓rI_enu, after_nx, after_rt, after_bk, after_ct, Run.some, Run.none, Run.map, Run.ifn, RunIf.tt, RunIf.ff, RunIf.not_, w_d, R.norm_d, R.norm_w, R.norm_l, peek_d, toD_d, tst_b, tst_i, tst_l, tst_t, tst_n, slot_0, slot_s, mkW_f, mkW_t, toBx_b, toInt_i, augV_a, augV_s, retR_d, retR_rd, retR_f, endOf_d, endOf_rd, endOf_f, endOf_n, geOf_glob, bind_nm, bind_tp, setAll_nil, setAll_cons, wipe_nil, wipe_cons, add_ii, sub_ii, add_ll, add_tt, mul_li, lt_ii, le_ii, gt_ii, ge_ii, eq_ii, ne_ii, eq_ss, ne_ss, Mini.is_none, Mini.isnot_none, len_l, len_t, abs_i, int_i, int_b, tuple_l, tuple_t, list_l, list_t, max_ii, min_ii, isi_int, isi_bool, isi_tup, isi_str, isi_lst, isIntD, isBoolD, isStrD, isTupD, isLstD, ix_l, ix_t, at_0, seq_l, seq_t, lstOf_l, rng1_i, rng2_i, optInt_n, optInt_i, sl_l, sl_t, mapM_nil, mapM_cons, at_1, at_2, at_3, at_4, Option.map_some, List.map_cons, List.map_nil, List.cons_append, List.nil_append, List.append_nil, List.length_cons, List.length_nil, List.set_cons_zero, List.set_cons_succ, List.take_length, List.replicate_succ, List.replicate_zero, sz, decide_eq_true_eq, Nat.zero_add, Nat.reduceAdd, Nat.reduceLeDiff, true_and, and_true, Nat.sub_self, Nat.reduceSub, gl, glVals, List.getElem?_cons_zero, List.getElem?_cons_succ, Bool.not_true, Bool.not_false, mul_bt ha hc (by decide) (by decide) (by decide), mul_bt hb' hd' (by decide) (by decide) (by decide), lfrac_i (Int.mul_pos hb hd) ((hb'.mul hd').mono (by decide))]
theorem lless_i {a b c d : Int} (ha : Bt 4000 a) (hb' : Bt 4000 b) (hc : Bt 4000 c) (hd' : Bt 4000 d) :
    (G (n + 1)).fn 31 [.d (.tuple [.int a, .int b]), .d (.tuple [.int c, .int d])] μ = some (rd (.bool (decide (a * d < c * b))), μ) := by
  apply Run.eq
  refine run_fn (bd := b_law_fr_less) rfl rfl ?_; unfold b_law_fr_less; simp only [List.map_cons, List.map_nil, List.cons_append, List.nil_append, List.append_nil, List.replicate_succ, List.replicate_zero, Nat.reduceSub]
  simp only [↓rSs_cons, ↓rSs_nil, ↓rS_asg, ↓rS_tup, ↓rS_par, ↓rS_bxa, ↓rS_app, ↓rS_set, ↓rS_aug, ↓rS_ret, ↓rS_retN, ↓rS_ife, ↓rS_for, ↓rS_while, ↓rS_pass, ↓rS_brk, ↓rS_cont, ↓rS_expr, ↓rE_var, ↓rE_cst, ↓rE_glb, ↓rE_bin, ↓rE_neg, ↓rE_not, ↓rE_cmp, ↓rE_chain, ↓rE_and, ↓rE_or, ↓rE_ife, ↓rE_call, ↓rE_b1, ↓rE_b2, ↓rE_isi, ↓rE_ix, ↓rE_sl, ↓rE_tup, ↓rE_lst, ↓rE_lc, ↓rEs_nil, ↓rEs_cons, ↓rEo_no, ↓rEo_so, ↓rC_no, ↓rC_so, ↓rI_sq, ↓rI_r1, ↓rI_r2, ↓rI_zip, ↓rI_enu, after_nx, after_rt, after_bk, after_ct, Run.some, Run.none, Run.map, Run.ifn, RunIf.tt, RunIf.ff, RunIf.not_, w_d, R.norm_d, R.norm_w, R.norm_l, peek_d, toD_d, tst_b, tst_i, tst_l, tst_t, tst_n, slot_0, slot_s, mkW_f, mkW_t, toBx_b, toInt_i, augV_a, augV_s, retR_d, retR_rd, retR_f, endOf_d, endOf_rd, endOf_f, endOf_n, geOf_glob, bind_nm, bind_tp, setAll_nil, setAll_cons, wipe_nil, wipe_cons, add_ii, sub_ii, add_ll, add_tt, mul_li, lt_ii, le_ii, gt_ii, ge_ii, eq_ii, ne_ii, eq_ss, ne_ss, Mini.is_none, Mini.isnot_none, len_l, len_t, abs_i, int_i, int_b, tuple_l, tuple_t, list_l, list_t, max_ii, min_ii, isi_int, isi_bool, isi_tup, isi_str, isi_lst, isIntD, isBoolD, isStrD, isTupD, isLstD, ix_l, ix_t, at_0, seq_l, seq_t, lstOf_l, rng1_i, rng2_i, optInt_n, optInt_i, sl_l, sl_t, mapM_nil, mapM_cons, at_1, at_2, at_3, at_4, Option.map_some, List.map_cons, List.map_nil, List.cons_append, List.nil_append, List.append_nil, List.length_cons, List.length_nil, List.set_cons_zero, List.set_cons_succ, List.take_length, List.replicate_succ, List.replicate_zero, sz, decide_eq_true_eq, Nat.zero_add, Nat.reduceAdd, Nat.reduceLeDiff, true_and, and_true, Nat.sub_self, Nat.reduceSub, gl, glVals, List.getElem?_cons_zero, List.getElem?_cons_succ, Bool.not_true, Bool.not_false, mul_bt ha hd' (by decide) (by decide) (by decide), mul_bt hc hb' (by decide) (by decide) (by decide)]
theorem lplus_f {a b c d : Int} (hb : 0 < b) (hd : 0 < d) (ha : Bt 4000 a) (hb' : Bt 4000 b) (hc : Bt 4000 c) (hd' : Bt 4000 d) :
    (G (n + 3)).fn 29 [.d (fr a b), .d (fr c d)] μ = some (rd (fr (a * d + c * b) (b * d)), μ) := by
  unfold fr
  rw [lplus_i (dn_pos hb) (dn_pos hd) (ha.nm hb) (hb'.dn hb) (hc.nm hd) (hd'.dn hd), fr_add hb hd]
  rfl
theorem lplus_S {a c S : Int} (hS : 0 < S) (ha : Bt 4000 a) (hb' : Bt 4000 S) (hc : Bt 4000 c) : (G (n + 3)).fn 29 [.d (fr a S), .d (fr c S)] μ = some (rd (fr (a + c) S), μ) := by
  rw [lplus_f hS hS ha hb' hc hb', ← Int.add_mul, fr_scale hS]
theorem ltimes_f {a b c d : Int} (hb : 0 < b) (hd : 0 < d) (ha : Bt 4000 a) (hb' : Bt 4000 b) (hc : Bt 4000 c) (hd' : Bt 4000 d) :
    (G (n + 3)).fn 30 [.d (fr a b), .d (fr c d)] μ = some (rd (fr (a * c) (b * d)), μ) := by
  unfold fr
  rw [ltimes_i (dn_pos hb) (dn_pos hd) (ha.nm hb) (hb'.dn hb) (hc.nm hd) (hd'.dn hd), fr_mul hb hd]
  rfl
theorem ltimes_S {a c S : Int} (hS : 0 < S) (ha : Bt 4000 a) (hb' : Bt 4000 S) (hc : Bt 4000 c) : (G (n + 3)).fn 30 [.d (fr a S), .d (.tuple [.int c, .int 1])] μ = some (rd (fr (a * c) S), μ) := by
  rw [← fr_one, ltimes_f hS (by decide) ha hb' hc (show (1 : Int).natAbs < 2 ^ 4000 from Nat.one_lt_two_pow (by decide)), Int.mul_one]
theorem lless_f {a b c d : Int} (hb : 0 < b) (hd : 0 < d) (ha : Bt 4000 a) (hb' : Bt 4000 b) (hc : Bt 4000 c) (hd' : Bt 4000 d) :
    (G (n + 1)).fn 31 [.d (fr a b), .d (fr c d)] μ = some (rd (.bool (decide (a * d < c * b))), μ) := by
  unfold fr
  rw [lless_i (ha.nm hb) (hb'.dn hb) (hc.nm hd) (hd'.dn hd)]
  congr 5
  exact propext (fr_lt hb hd)
end
end K85
end
section
set_option Elab.async false
set_option linter.all false
set_option maxRecDepth 100000
set_option maxHeartbeats 1000000
open Mini PySem
namespace K85
def stp (acc : List Int) (q : Int × List Int) : List Int := (acc.zip q.2).map fun t => t.1 + q.1 * t.2
def accN (w : Nat) (L : List (Int × List Int)) : List Int := L.foldl stp (List.replicate w 0)
def lotR (S : Int) (L : List (Int × List Int)) : List D := L.map fun q => .tuple [fr q.1 S, rowD q.2]
/-- rows with their weights -/
structure Rws (S : Int) (w : Nat) (L : List (Int × List Int)) : Prop where
  ws : Wts S (L.map (·.1))
  row : ∀ q ∈ L, Up 60 q.2 ∧ q.2.length = w
  wid : 1 ≤ w ∧ w ≤ 10
theorem mul_up {p x m : Int} (hp : 0 < p) (hx : 0 ≤ x ∧ x ≤ m) : 0 ≤ p * x ∧ p * x ≤ m * p := by
  refine ⟨Int.mul_nonneg (by omega) hx.1, ?_⟩
  rw [Int.mul_comm m p]
  exact Int.mul_le_mul_of_nonneg_left hx.2 (by omega)
section
variable {S : Int} {w : Nat} {L : List (Int × List Int)}
theorem take_fst {i : Nat} : (L.take i).map (·.1) = (L.map (·.1)).take i := List.map_take
theorem acc_succ {i : Nat} {q : Int × List Int} (h : L[i]? = some q) : accN w (L.take (i + 1)) = stp (accN w (L.take i)) q := by
  unfold accN
  rw [List.take_add_one, h, List.foldl_append]
  rfl
theorem Rws.acc (h : Rws S w L) : ∀ i, (accN w (L.take i)).length = w ∧ ∀ a ∈ accN w (L.take i), 0 ≤ a ∧ a ≤ 60 * ((L.map (·.1)).take i).sum
  | 0 => by
    unfold accN
    refine ⟨by simp, fun a ha => ?_⟩
    have := List.eq_of_mem_replicate (show a ∈ List.replicate w (0 : Int) from ha)
    subst this
    simp
  | i + 1 => by
    obtain ⟨h1, h2⟩ := Rws.acc h i
    cases hq : L[i]? with
    | none =>
      have hl : L.length ≤ i := by
        by_cases z : i < L.length
        · rw [List.getElem?_eq_getElem z] at hq; cases hq
        · omega
      rw [List.take_of_length_le (by omega), List.take_of_length_le (by simp; omega)]
      rw [List.take_of_length_le (by omega), List.take_of_length_le (by simp; omega)] at h2
      rw [List.take_of_length_le (by omega)] at h1
      exact ⟨h1, h2⟩
    | some q =>
      have hm := List.mem_of_getElem? hq
      obtain ⟨h3, h4⟩ := h.row q hm
      have hp : 0 < q.1 := h.ws.pos _ (List.mem_map_of_mem hm)
      rw [acc_succ hq, take_succ_sum (p := q.1) (by rw [List.getElem?_map, hq]; rfl)]
      unfold stp
      refine ⟨by rw [List.length_map, List.length_zip, h1, h4, Nat.min_self], fun a ha => ?_⟩
      obtain ⟨t, ht, rfl⟩ := List.mem_map.mp ha
      have m1 := h2 t.1 (List.of_mem_zip ht).1
      have m2 := mul_up hp (h3 t.2 (List.of_mem_zip ht).2)
      rw [Int.mul_add]
      omega
theorem b60 {a : Int} (h : Wts S (L.map (·.1))) (k : 0 ≤ a ∧ a ≤ 60 * S) : Bt 4000 a := by
  have e : Bt 1006 (60 * S) := Bt.mono ((show Bt 6 60 by unfold Bt; decide).mul h.bt) (by decide)
  have := h.S_pos
  exact (e.le (by omega)).mono (by decide)
theorem Rws.acc_bt (h : Rws S w L) {i : Nat} {a : Int} (ha : a ∈ accN w (L.take i)) : Bt 4000 a := by
  have h1 := (h.acc i).2 a ha
  have h2 := sum_take_le i h.ws.pos
  rw [h.ws.sum] at h2
  exact b60 h.ws (by omega)
theorem len_lotR : (lotR S L).length = L.length := by unfold lotR; rw [List.length_map]
end
section
variable {n : Nat} {μ : Store} {S : Int} {w : Nat} {L : List (Int × List Int)}
theorem mixed_in_x {X : D} (h : Rws S w L) (h1 : seqOf X = some (lotR S L)) (h2 : ixV X (.int 0) = atD (lotR S L) 0) :
    (G (n + 4)).fn 18 [.d X] μ = some (rd (.list ((accN w L).map (fr · S))), μ) := by
  apply Run.eq
  have hS := h.ws.S_pos
  have hl := h.ws.len
  rw [List.length_map] at hl
  have hw := h.wid
  obtain ⟨q0, hq0⟩ : ∃ q0, L[0]? = some q0 := ⟨_, List.getElem?_eq_getElem (by omega)⟩
  have hl0 := (h.row q0 (List.mem_of_getElem? hq0)).2
  unfold lotR rowD at h1 h2
  refine run_fn (bd := b_mixed_in) rfl rfl ?_; unfold b_mixed_in; simp only [List.map_cons, List.map_nil, List.cons_append, List.nil_append, List.append_nil, List.replicate_succ, List.replicate_zero, Nat.reduceSub]
  simp only [↓rSs_cons, ↓rSs_nil, ↓rS_asg, ↓rS_tup, ↓rS_par, ↓rS_bxa, ↓rS_app, ↓rS_set, ↓rS_aug, ↓rS_ret, ↓rS_retN, ↓rS_ife, ↓rS_for, ↓rS_while, ↓rS_pass, ↓rS_brk, ↓rS_cont, ↓rS_expr, ↓rE_var, ↓rE_cst, ↓rE_glb, ↓rE_bin, ↓rE_neg, ↓rE_not, ↓rE_cmp, ↓rE_chain, ↓rE_and, ↓rE_or, ↓rE_ife, ↓rE_call, ↓rE_b1, ↓rE_b2, ↓rE_isi, ↓rE_ix, ↓rE_sl, ↓rE_tup, ↓rE_lst, ↓rE_lc, ↓rEs_nil, ↓rEs_cons, ↓rEo_no, ↓rEo_so, ↓rC_no, ↓rC_so, ↓rI_sq, ↓rI_r1, ↓rI_r2, ↓rI_zip, ↓rI_enu, after_nx, after_rt, after_bk, after_ct, Run.some, Run.none, Run.map, Run.ifn, RunIf.tt, RunIf.ff, RunIf.not_, w_d, R.norm_d, R.norm_w, R.norm_l, peek_d, toD_d, tst_b, tst_i, tst_l, tst_t, tst_n, slot_0, slot_s, mkW_f, mkW_t, toBx_b, toInt_i, augV_a, augV_s, retR_d, retR_rd, retR_f, endOf_d, endOf_rd, endOf_f, endOf_n, geOf_glob, bind_nm, bind_tp, setAll_nil, setAll_cons, wipe_nil, wipe_cons, add_ii, sub_ii, add_ll, add_tt, mul_li, lt_ii, le_ii, gt_ii, ge_ii, eq_ii, ne_ii, eq_ss, ne_ss, Mini.is_none, Mini.isnot_none, len_l, len_t, abs_i, int_i, int_b, tuple_l, tuple_t, list_l, list_t, max_ii, min_ii, isi_int, isi_bool, isi_tup, isi_str, isi_lst, isIntD, isBoolD, isStrD, isTupD, isLstD, ix_l, ix_t, at_0, seq_l, seq_t, lstOf_l, rng1_i, rng2_i, optInt_n, optInt_i, sl_l, sl_t, mapM_nil, mapM_cons, at_1, at_2, at_3, at_4, Option.map_some, List.map_cons, List.map_nil, List.cons_append, List.nil_append, List.append_nil, List.length_cons, List.length_nil, List.set_cons_zero, List.set_cons_succ, List.take_length, List.replicate_succ, List.replicate_zero, sz, decide_eq_true_eq, Nat.zero_add, Nat.reduceAdd, Nat.reduceLeDiff, true_and, and_true, Nat.sub_self, Nat.reduceSub, gl, glVals, List.getElem?_cons_zero, List.getElem?_cons_succ, Bool.not_true, Bool.not_false, h1, h2, at_map0 hq0, List.length_map, hl0, mul_li]
  refine ⟨by simp; omega, ?_⟩
  have e0 : (List.replicate (w : Int).toNat [PyData.tuple [PyData.int 0, PyData.int 1]]).flatten = (accN w (L.take 0)).map (fr · S) := by
    unfold accN
    simp [fr_zero hS]
  rw [e0]
  refine for_inv (fun i ρ μ' => μ' = μ ∧ ∃ x y z u, ρ = [some (.d X), some (.d (.list ((accN w (L.take i)).map (fr · S)))), x, y, z, u]) ⟨rfl, none, none, none, none, rfl⟩ ?_ ?_
  · rintro i x hx ρ μ' ⟨rfl, x1, x2, x3, x4, rfl⟩
    rw [List.getElem?_map] at hx
    obtain ⟨q, hq, rfl⟩ := Option.map_eq_some_iff.mp hx
    have hm := List.mem_of_getElem? hq
    obtain ⟨h3, h4⟩ := h.row q hm
    have hp : 0 < q.1 := h.ws.pos _ (List.mem_map_of_mem hm)
    have hpS := mem_le_sum h.ws.pos (List.mem_map_of_mem hm)
    rw [h.ws.sum] at hpS
    simp only [↓rSs_cons, ↓rSs_nil, ↓rS_asg, ↓rS_tup, ↓rS_par, ↓rS_bxa, ↓rS_app, ↓rS_set, ↓rS_aug, ↓rS_ret, ↓rS_retN, ↓rS_ife, ↓rS_for, ↓rS_while, ↓rS_pass, ↓rS_brk, ↓rS_cont, ↓rS_expr, ↓rE_var, ↓rE_cst, ↓rE_glb, ↓rE_bin, ↓rE_neg, ↓rE_not, ↓rE_cmp, ↓rE_chain, ↓rE_and, ↓rE_or, ↓rE_ife, ↓rE_call, ↓rE_b1, ↓rE_b2, ↓rE_isi, ↓rE_ix, ↓rE_sl, ↓rE_tup, ↓rE_lst, ↓rE_lc, ↓rEs_nil, ↓rEs_cons, ↓rEo_no, ↓rEo_so, ↓rC_no, ↓rC_so, ↓rI_sq, ↓rI_r1, ↓rI_r2, ↓rI_zip, ↓rI_enu, after_nx, after_rt, after_bk, after_ct, Run.some, Run.none, Run.map, Run.ifn, RunIf.tt, RunIf.ff, RunIf.not_, w_d, R.norm_d, R.norm_w, R.norm_l, peek_d, toD_d, tst_b, tst_i, tst_l, tst_t, tst_n, slot_0, slot_s, mkW_f, mkW_t, toBx_b, toInt_i, augV_a, augV_s, retR_d, retR_rd, retR_f, endOf_d, endOf_rd, endOf_f, endOf_n, geOf_glob, bind_nm, bind_tp, setAll_nil, setAll_cons, wipe_nil, wipe_cons, add_ii, sub_ii, add_ll, add_tt, mul_li, lt_ii, le_ii, gt_ii, ge_ii, eq_ii, ne_ii, eq_ss, ne_ss, Mini.is_none, Mini.isnot_none, len_l, len_t, abs_i, int_i, int_b, tuple_l, tuple_t, list_l, list_t, max_ii, min_ii, isi_int, isi_bool, isi_tup, isi_str, isi_lst, isIntD, isBoolD, isStrD, isTupD, isLstD, ix_l, ix_t, at_0, seq_l, seq_t, lstOf_l, rng1_i, rng2_i, optInt_n, optInt_i, sl_l, sl_t, mapM_nil, mapM_cons, at_1, at_2, at_3, at_4, Option.map_some, List.map_cons, List.map_nil, List.cons_append, List.nil_append, List.append_nil, List.length_cons, List.length_nil, List.set_cons_zero, List.set_cons_succ, List.take_length, List.replicate_succ, List.replicate_zero, sz, decide_eq_true_eq, Nat.zero_add, Nat.reduceAdd, Nat.reduceLeDiff, true_and, and_true, Nat.sub_self, Nat.reduceSub, gl, glVals, List.getElem?_cons_zero, List.getElem?_cons_succ, Bool.not_true, Bool.not_false, zip_map, List.length_map, List.length_zip, (h.acc i).1, h4, Nat.min_self]
    refine ⟨by omega, ?_⟩
    refine .of_eq (lc_mapm _ (fun t : Int × Int => fr (t.1 + q.1 * t.2) S) fun t ht => ?_) ?_
    · have m1 := List.of_mem_zip ht
      have m2 := h3 t.2 m1.2
      have m3 := mul_up hp m2
      simp only [↓rSs_cons, ↓rSs_nil, ↓rS_asg, ↓rS_tup, ↓rS_par, ↓rS_bxa, ↓rS_app, ↓rS_set, ↓rS_aug, ↓rS_ret, ↓rS_retN, ↓rS_ife, ↓rS_for, ↓rS_while, ↓rS_pass, ↓rS_brk, ↓rS_cont, ↓rS_expr, ↓rE_var, ↓rE_cst, ↓rE_glb, ↓rE_bin, ↓rE_neg, ↓rE_not, ↓rE_cmp, ↓rE_chain, ↓rE_and, ↓rE_or, ↓rE_ife, ↓rE_call, ↓rE_b1, ↓rE_b2, ↓rE_isi, ↓rE_ix, ↓rE_sl, ↓rE_tup, ↓rE_lst, ↓rE_lc, ↓rEs_nil, ↓rEs_cons, ↓rEo_no, ↓rEo_so, ↓rC_no, ↓rC_so, ↓rI_sq, ↓rI_r1, ↓rI_r2, ↓rI_zip, ↓rI_enu, after_nx, after_rt, after_bk, after_ct, Run.some, Run.none, Run.map, Run.ifn, RunIf.tt, RunIf.ff, RunIf.not_, w_d, R.norm_d, R.norm_w, R.norm_l, peek_d, toD_d, tst_b, tst_i, tst_l, tst_t, tst_n, slot_0, slot_s, mkW_f, mkW_t, toBx_b, toInt_i, augV_a, augV_s, retR_d, retR_rd, retR_f, endOf_d, endOf_rd, endOf_f, endOf_n, geOf_glob, bind_nm, bind_tp, setAll_nil, setAll_cons, wipe_nil, wipe_cons, add_ii, sub_ii, add_ll, add_tt, mul_li, lt_ii, le_ii, gt_ii, ge_ii, eq_ii, ne_ii, eq_ss, ne_ss, Mini.is_none, Mini.isnot_none, len_l, len_t, abs_i, int_i, int_b, tuple_l, tuple_t, list_l, list_t, max_ii, min_ii, isi_int, isi_bool, isi_tup, isi_str, isi_lst, isIntD, isBoolD, isStrD, isTupD, isLstD, ix_l, ix_t, at_0, seq_l, seq_t, lstOf_l, rng1_i, rng2_i, optInt_n, optInt_i, sl_l, sl_t, mapM_nil, mapM_cons, at_1, at_2, at_3, at_4, Option.map_some, List.map_cons, List.map_nil, List.cons_append, List.nil_append, List.append_nil, List.length_cons, List.length_nil, List.set_cons_zero, List.set_cons_succ, List.take_length, List.replicate_succ, List.replicate_zero, sz, decide_eq_true_eq, Nat.zero_add, Nat.reduceAdd, Nat.reduceLeDiff, true_and, and_true, Nat.sub_self, Nat.reduceSub, gl, glVals, List.getElem?_cons_zero, List.getElem?_cons_succ, Bool.not_true, Bool.not_false, times_S hS (b1000 (h.ws.p_bt (List.mem_map_of_mem hm))) (b1000 h.ws.bt) (show Bt 4000 t.2 from Bt.mono (show Bt 6 t.2 by unfold Bt; omega) (by decide)),
        plus_S hS (h.acc_bt m1.1) (b1000 h.ws.bt) (b60 h.ws (show 0 ≤ q.1 * t.2 ∧ q.1 * t.2 ≤ 60 * S by omega))]
    simp only [↓rSs_cons, ↓rSs_nil, ↓rS_asg, ↓rS_tup, ↓rS_par, ↓rS_bxa, ↓rS_app, ↓rS_set, ↓rS_aug, ↓rS_ret, ↓rS_retN, ↓rS_ife, ↓rS_for, ↓rS_while, ↓rS_pass, ↓rS_brk, ↓rS_cont, ↓rS_expr, ↓rE_var, ↓rE_cst, ↓rE_glb, ↓rE_bin, ↓rE_neg, ↓rE_not, ↓rE_cmp, ↓rE_chain, ↓rE_and, ↓rE_or, ↓rE_ife, ↓rE_call, ↓rE_b1, ↓rE_b2, ↓rE_isi, ↓rE_ix, ↓rE_sl, ↓rE_tup, ↓rE_lst, ↓rE_lc, ↓rEs_nil, ↓rEs_cons, ↓rEo_no, ↓rEo_so, ↓rC_no, ↓rC_so, ↓rI_sq, ↓rI_r1, ↓rI_r2, ↓rI_zip, ↓rI_enu, after_nx, after_rt, after_bk, after_ct, Run.some, Run.none, Run.map, Run.ifn, RunIf.tt, RunIf.ff, RunIf.not_, w_d, R.norm_d, R.norm_w, R.norm_l, peek_d, toD_d, tst_b, tst_i, tst_l, tst_t, tst_n, slot_0, slot_s, mkW_f, mkW_t, toBx_b, toInt_i, augV_a, augV_s, retR_d, retR_rd, retR_f, endOf_d, endOf_rd, endOf_f, endOf_n, geOf_glob, bind_nm, bind_tp, setAll_nil, setAll_cons, wipe_nil, wipe_cons, add_ii, sub_ii, add_ll, add_tt, mul_li, lt_ii, le_ii, gt_ii, ge_ii, eq_ii, ne_ii, eq_ss, ne_ss, Mini.is_none, Mini.isnot_none, len_l, len_t, abs_i, int_i, int_b, tuple_l, tuple_t, list_l, list_t, max_ii, min_ii, isi_int, isi_bool, isi_tup, isi_str, isi_lst, isIntD, isBoolD, isStrD, isTupD, isLstD, ix_l, ix_t, at_0, seq_l, seq_t, lstOf_l, rng1_i, rng2_i, optInt_n, optInt_i, sl_l, sl_t, mapM_nil, mapM_cons, at_1, at_2, at_3, at_4, Option.map_some, List.map_cons, List.map_nil, List.cons_append, List.nil_append, List.append_nil, List.length_cons, List.length_nil, List.set_cons_zero, List.set_cons_succ, List.take_length, List.replicate_succ, List.replicate_zero, sz, decide_eq_true_eq, Nat.zero_add, Nat.reduceAdd, Nat.reduceLeDiff, true_and, and_true, Nat.sub_self, Nat.reduceSub, gl, glVals, List.getElem?_cons_zero, List.getElem?_cons_succ, Bool.not_true, Bool.not_false]
    rw [acc_succ hq]
    unfold stp
    rw [List.map_map]
    exact ⟨_, _, _, _, rfl⟩
  · rintro ρ μ' ⟨rfl, x1, x2, x3, x4, rfl⟩
    simp only [↓rSs_cons, ↓rSs_nil, ↓rS_asg, ↓rS_tup, ↓rS_par, ↓rS_bxa, ↓rS_app, ↓rS_set, ↓rS_aug, ↓rS_ret, ↓rS_retN, ↓rS_ife, ↓rS_for, ↓rS_while, ↓rS_pass, ↓rS_brk, ↓rS_cont, ↓rS_expr, ↓rE_var, ↓rE_cst, ↓rE_glb, ↓rE_bin, ↓rE_neg, ↓rE_not, ↓rE_cmp, ↓rE_chain, ↓rE_and, ↓rE_or, ↓rE_ife, ↓rE_call, ↓rE_b1, ↓rE_b2, ↓rE_isi, ↓rE_ix, ↓rE_sl, ↓rE_tup, ↓rE_lst, ↓rE_lc, ↓rEs_nil, ↓rEs_cons, ↓rEo_no, ↓rEo_so, ↓rC_no, ↓rC_so, ↓rI_sq, ↓rI_r1, ↓rI_r2, ↓rI_zip, ↓rI_enu, after_nx, after_rt, after_bk, after_ct, Run.some, Run.none, Run.map, Run.ifn, RunIf.tt, RunIf.ff, RunIf.not_, w_d, R.norm_d, R.norm_w, R.norm_l, peek_d, toD_d, tst_b, tst_i, tst_l, tst_t, tst_n, slot_0, slot_s, mkW_f, mkW_t, toBx_b, toInt_i, augV_a, augV_s, retR_d, retR_rd, retR_f, endOf_d, endOf_rd, endOf_f, endOf_n, geOf_glob, bind_nm, bind_tp, setAll_nil, setAll_cons, wipe_nil, wipe_cons, add_ii, sub_ii, add_ll, add_tt, mul_li, lt_ii, le_ii, gt_ii, ge_ii, eq_ii, ne_ii, eq_ss, ne_ss, Mini.is_none, Mini.isnot_none, len_l, len_t, abs_i, int_i, int_b, tuple_l, tuple_t, list_l, list_t, max_ii, min_ii, isi_int, isi_bool, isi_tup, isi_str, isi_lst, isIntD, isBoolD, isStrD, isTupD, isLstD, ix_l, ix_t, at_0, seq_l, seq_t, lstOf_l, rng1_i, rng2_i, optInt_n, optInt_i, sl_l, sl_t, mapM_nil, mapM_cons, at_1, at_2, at_3, at_4, Option.map_some, List.map_cons, List.map_nil, List.cons_append, List.nil_append, List.append_nil, List.length_cons, List.length_nil, List.set_cons_zero, List.set_cons_succ, List.take_length, List.replicate_succ, List.replicate_zero, sz, decide_eq_true_eq, Nat.zero_add, Nat.reduceAdd, Nat.reduceLeDiff, true_and, and_true, Nat.sub_self, Nat.reduceSub, gl, glVals, List.getElem?_cons_zero, List.getElem?_cons_succ, Bool.not_true, Bool.not_false, List.length_map, List.take_length]
theorem lt_made_x {X : D} (h : Rws S w L) (h1 : seqOf X = some (lotR S L)) :
    (G (n + 4)).fn 32 [.d X, .d (.int w)] μ = some (rd (.list ((accN w L).map (fr · S))), μ) := by
  apply Run.eq
  have hS := h.ws.S_pos
  have hl := h.ws.len
  rw [List.length_map] at hl
  have hw := h.wid
  refine run_fn (bd := b_law_lt_made) rfl rfl ?_; unfold b_law_lt_made; simp only [List.map_cons, List.map_nil, List.cons_append, List.nil_append, List.append_nil, List.replicate_succ, List.replicate_zero, Nat.reduceSub]
  simp only [↓rSs_cons, ↓rSs_nil, ↓rS_asg, ↓rS_tup, ↓rS_par, ↓rS_bxa, ↓rS_app, ↓rS_set, ↓rS_aug, ↓rS_ret, ↓rS_retN, ↓rS_ife, ↓rS_for, ↓rS_while, ↓rS_pass, ↓rS_brk, ↓rS_cont, ↓rS_expr, ↓rE_var, ↓rE_cst, ↓rE_glb, ↓rE_bin, ↓rE_neg, ↓rE_not, ↓rE_cmp, ↓rE_chain, ↓rE_and, ↓rE_or, ↓rE_ife, ↓rE_call, ↓rE_b1, ↓rE_b2, ↓rE_isi, ↓rE_ix, ↓rE_sl, ↓rE_tup, ↓rE_lst, ↓rE_lc, ↓rEs_nil, ↓rEs_cons, ↓rEo_no, ↓rEo_so, ↓rC_no, ↓rC_so, ↓rI_sq, ↓rI_r1, ↓rI_r2, ↓rI_zip, ↓rI_enu, after_nx, after_rt, after_bk, after_ct, Run.some, Run.none, Run.map, Run.ifn, RunIf.tt, RunIf.ff, RunIf.not_, w_d, R.norm_d, R.norm_w, R.norm_l, peek_d, toD_d, tst_b, tst_i, tst_l, tst_t, tst_n, slot_0, slot_s, mkW_f, mkW_t, toBx_b, toInt_i, augV_a, augV_s, retR_d, retR_rd, retR_f, endOf_d, endOf_rd, endOf_f, endOf_n, geOf_glob, bind_nm, bind_tp, setAll_nil, setAll_cons, wipe_nil, wipe_cons, add_ii, sub_ii, add_ll, add_tt, mul_li, lt_ii, le_ii, gt_ii, ge_ii, eq_ii, ne_ii, eq_ss, ne_ss, Mini.is_none, Mini.isnot_none, len_l, len_t, abs_i, int_i, int_b, tuple_l, tuple_t, list_l, list_t, max_ii, min_ii, isi_int, isi_bool, isi_tup, isi_str, isi_lst, isIntD, isBoolD, isStrD, isTupD, isLstD, ix_l, ix_t, at_0, seq_l, seq_t, lstOf_l, rng1_i, rng2_i, optInt_n, optInt_i, sl_l, sl_t, mapM_nil, mapM_cons, at_1, at_2, at_3, at_4, Option.map_some, List.map_cons, List.map_nil, List.cons_append, List.nil_append, List.append_nil, List.length_cons, List.length_nil, List.set_cons_zero, List.set_cons_succ, List.take_length, List.replicate_succ, List.replicate_zero, sz, decide_eq_true_eq, Nat.zero_add, Nat.reduceAdd, Nat.reduceLeDiff, true_and, and_true, Nat.sub_self, Nat.reduceSub, gl, glVals, List.getElem?_cons_zero, List.getElem?_cons_succ, Bool.not_true, Bool.not_false, h1, mul_li]
  refine ⟨by simp; omega, ?_⟩
  have e0 : (List.replicate (w : Int).toNat [PyData.tuple [PyData.int 0, PyData.int 1]]).flatten = (accN w (L.take 0)).map (fr · S) := by
    unfold accN
    simp [fr_zero hS]
  rw [e0]
  unfold lotR rowD
  refine for_inv (fun i ρ μ' => μ' = μ ∧ ∃ x y z u, ρ = [some (.d X), some (.d (.int w)), some (.d (.list ((accN w (L.take i)).map (fr · S)))), x, y, z, u]) ⟨rfl, none, none, none, none, rfl⟩ ?_ ?_
  · rintro i x hx ρ μ' ⟨rfl, x1, x2, x3, x4, rfl⟩
    rw [List.getElem?_map] at hx
    obtain ⟨q, hq, rfl⟩ := Option.map_eq_some_iff.mp hx
    have hm := List.mem_of_getElem? hq
    obtain ⟨h3, h4⟩ := h.row q hm
    have hp : 0 < q.1 := h.ws.pos _ (List.mem_map_of_mem hm)
    have hpS := mem_le_sum h.ws.pos (List.mem_map_of_mem hm)
    rw [h.ws.sum] at hpS
    simp only [↓rSs_cons, ↓rSs_nil, ↓rS_asg, ↓rS_tup, ↓rS_par, ↓rS_bxa, ↓rS_app, ↓rS_set, ↓rS_aug, ↓rS_ret, ↓rS_retN, ↓rS_ife, ↓rS_for, ↓rS_while, ↓rS_pass, ↓rS_brk, ↓rS_cont, ↓rS_expr, ↓rE_var, ↓rE_cst, ↓rE_glb, ↓rE_bin, ↓rE_neg, ↓rE_not, ↓rE_cmp, ↓rE_chain, ↓rE_and, ↓rE_or, ↓rE_ife, ↓rE_call, ↓rE_b1, ↓rE_b2, ↓rE_isi, ↓rE_ix, ↓rE_sl, ↓rE_tup, ↓rE_lst, ↓rE_lc, ↓rEs_nil, ↓rEs_cons, ↓rEo_no, ↓rEo_so, ↓rC_no, ↓rC_so, ↓rI_sq, ↓rI_r1, ↓rI_r2, ↓rI_zip, ↓rI_enu, after_nx, after_rt, after_bk, after_ct, Run.some, Run.none, Run.map, Run.ifn, RunIf.tt, RunIf.ff, RunIf.not_, w_d, R.norm_d, R.norm_w, R.norm_l, peek_d, toD_d, tst_b, tst_i, tst_l, tst_t, tst_n, slot_0, slot_s, mkW_f, mkW_t, toBx_b, toInt_i, augV_a, augV_s, retR_d, retR_rd, retR_f, endOf_d, endOf_rd, endOf_f, endOf_n, geOf_glob, bind_nm, bind_tp, setAll_nil, setAll_cons, wipe_nil, wipe_cons, add_ii, sub_ii, add_ll, add_tt, mul_li, lt_ii, le_ii, gt_ii, ge_ii, eq_ii, ne_ii, eq_ss, ne_ss, Mini.is_none, Mini.isnot_none, len_l, len_t, abs_i, int_i, int_b, tuple_l, tuple_t, list_l, list_t, max_ii, min_ii, isi_int, isi_bool, isi_tup, isi_str, isi_lst, isIntD, isBoolD, isStrD, isTupD, isLstD, ix_l, ix_t, at_0, seq_l, seq_t, lstOf_l, rng1_i, rng2_i, optInt_n, optInt_i, sl_l, sl_t, mapM_nil, mapM_cons, at_1, at_2, at_3, at_4, Option.map_some, List.map_cons, List.map_nil, List.cons_append, List.nil_append, List.append_nil, List.length_cons, List.length_nil, List.set_cons_zero, List.set_cons_succ, List.take_length, List.replicate_succ, List.replicate_zero, sz, decide_eq_true_eq, Nat.zero_add, Nat.reduceAdd, Nat.reduceLeDiff, true_and, and_true, Nat.sub_self, Nat.reduceSub, gl, glVals, List.getElem?_cons_zero, List.getElem?_cons_succ, Bool.not_true, Bool.not_false, zip_map, List.length_map, List.length_zip, (h.acc i).1, h4, Nat.min_self]
    refine ⟨by omega, ?_⟩
    refine .of_eq (lc_mapm _ (fun t : Int × Int => fr (t.1 + q.1 * t.2) S) fun t ht => ?_) ?_
    · have m1 := List.of_mem_zip ht
      have m2 := h3 t.2 m1.2
      have m3 := mul_up hp m2
      simp only [↓rSs_cons, ↓rSs_nil, ↓rS_asg, ↓rS_tup, ↓rS_par, ↓rS_bxa, ↓rS_app, ↓rS_set, ↓rS_aug, ↓rS_ret, ↓rS_retN, ↓rS_ife, ↓rS_for, ↓rS_while, ↓rS_pass, ↓rS_brk, ↓rS_cont, ↓rS_expr, ↓rE_var, ↓rE_cst, ↓rE_glb, ↓rE_bin, ↓rE_neg, ↓rE_not, ↓rE_cmp, ↓rE_chain, ↓rE_and, ↓rE_or, ↓rE_ife, ↓rE_call, ↓rE_b1, ↓rE_b2, ↓rE_isi, ↓rE_ix, ↓rE_sl, ↓rE_tup, ↓rE_lst, ↓rE_lc, ↓rEs_nil, ↓rEs_cons, ↓rEo_no, ↓rEo_so, ↓rC_no, ↓rC_so, ↓rI_sq, ↓rI_r1, ↓rI_r2, ↓rI_zip, ↓rI_enu, after_nx, after_rt, after_bk, after_ct, Run.some, Run.none, Run.map, Run.ifn, RunIf.tt, RunIf.ff, RunIf.not_, w_d, R.norm_d, R.norm_w, R.norm_l, peek_d, toD_d, tst_b, tst_i, tst_l, tst_t, tst_n, slot_0, slot_s, mkW_f, mkW_t, toBx_b, toInt_i, augV_a, augV_s, retR_d, retR_rd, retR_f, endOf_d, endOf_rd, endOf_f, endOf_n, geOf_glob, bind_nm, bind_tp, setAll_nil, setAll_cons, wipe_nil, wipe_cons, add_ii, sub_ii, add_ll, add_tt, mul_li, lt_ii, le_ii, gt_ii, ge_ii, eq_ii, ne_ii, eq_ss, ne_ss, Mini.is_none, Mini.isnot_none, len_l, len_t, abs_i, int_i, int_b, tuple_l, tuple_t, list_l, list_t, max_ii, min_ii, isi_int, isi_bool, isi_tup, isi_str, isi_lst, isIntD, isBoolD, isStrD, isTupD, isLstD, ix_l, ix_t, at_0, seq_l, seq_t, lstOf_l, rng1_i, rng2_i, optInt_n, optInt_i, sl_l, sl_t, mapM_nil, mapM_cons, at_1, at_2, at_3, at_4, Option.map_some, List.map_cons, List.map_nil, List.cons_append, List.nil_append, List.append_nil, List.length_cons, List.length_nil, List.set_cons_zero, List.set_cons_succ, List.take_length, List.replicate_succ, List.replicate_zero, sz, decide_eq_true_eq, Nat.zero_add, Nat.reduceAdd, Nat.reduceLeDiff, true_and, and_true, Nat.sub_self, Nat.reduceSub, gl, glVals, List.getElem?_cons_zero, List.getElem?_cons_succ, Bool.not_true, Bool.not_false, ltimes_S hS (b1000 (h.ws.p_bt (List.mem_map_of_mem hm))) (b1000 h.ws.bt) (show Bt 4000 t.2 from Bt.mono (show Bt 6 t.2 by unfold Bt; omega) (by decide)),
        lplus_S hS (h.acc_bt m1.1) (b1000 h.ws.bt) (b60 h.ws (show 0 ≤ q.1 * t.2 ∧ q.1 * t.2 ≤ 60 * S by omega))]
    simp only [↓rSs_cons, ↓rSs_nil, ↓rS_asg, ↓rS_tup, ↓rS_par, ↓rS_bxa, ↓rS_app, ↓rS_set, ↓rS_aug, ↓rS_ret, ↓rS_retN, ↓rS_ife, ↓rS_for, ↓rS_while, ↓rS_pass, ↓rS_brk, ↓rS_cont, ↓rS_expr, ↓rE_var, ↓rE_cst, ↓rE_glb, ↓rE_bin, ↓rE_neg, ↓rE_not, ↓rE_cmp, ↓rE_chain, ↓rE_and, ↓rE_or, ↓rE_ife, ↓rE_call, ↓rE_b1, ↓rE_b2, ↓rE_isi, ↓rE_ix, ↓rE_sl, ↓rE_tup, ↓rE_lst, ↓rE_lc, ↓rEs_nil, ↓rEs_cons, ↓rEo_no, ↓rEo_so, ↓rC_no, ↓rC_so, ↓rI_sq, ↓rI_r1, ↓rI_r2, ↓rI_zip, ↓rI_enu, after_nx, after_rt, after_bk, after_ct, Run.some, Run.none, Run.map, Run.ifn, RunIf.tt, RunIf.ff, RunIf.not_, w_d, R.norm_d, R.norm_w, R.norm_l, peek_d, toD_d, tst_b, tst_i, tst_l, tst_t, tst_n, slot_0, slot_s, mkW_f, mkW_t, toBx_b, toInt_i, augV_a, augV_s, retR_d, retR_rd, retR_f, endOf_d, endOf_rd, endOf_f, endOf_n, geOf_glob, bind_nm, bind_tp, setAll_nil, setAll_cons, wipe_nil, wipe_cons, add_ii, sub_ii, add_ll, add_tt, mul_li, lt_ii, le_ii, gt_ii, ge_ii, eq_ii, ne_ii, eq_ss, ne_ss, Mini.is_none, Mini.isnot_none, len_l, len_t, abs_i, int_i, int_b, tuple_l, tuple_t, list_l, list_t, max_ii, min_ii, isi_int, isi_bool, isi_tup, isi_str, isi_lst, isIntD, isBoolD, isStrD, isTupD, isLstD, ix_l, ix_t, at_0, seq_l, seq_t, lstOf_l, rng1_i, rng2_i, optInt_n, optInt_i, sl_l, sl_t, mapM_nil, mapM_cons, at_1, at_2, at_3, at_4, Option.map_some, List.map_cons, List.map_nil, List.cons_append, List.nil_append, List.append_nil, List.length_cons, List.length_nil, List.set_cons_zero, List.set_cons_succ, List.take_length, List.replicate_succ, List.replicate_zero, sz, decide_eq_true_eq, Nat.zero_add, Nat.reduceAdd, Nat.reduceLeDiff, true_and, and_true, Nat.sub_self, Nat.reduceSub, gl, glVals, List.getElem?_cons_zero, List.getElem?_cons_succ, Bool.not_true, Bool.not_false]
    rw [acc_succ hq]
    unfold stp
    rw [List.map_map]
    exact ⟨_, _, _, _, rfl⟩
  · rintro ρ μ' ⟨rfl, x1, x2, x3, x4, rfl⟩
    simp only [↓rSs_cons, ↓rSs_nil, ↓rS_asg, ↓rS_tup, ↓rS_par, ↓rS_bxa, ↓rS_app, ↓rS_set, ↓rS_aug, ↓rS_ret, ↓rS_retN, ↓rS_ife, ↓rS_for, ↓rS_while, ↓rS_pass, ↓rS_brk, ↓rS_cont, ↓rS_expr, ↓rE_var, ↓rE_cst, ↓rE_glb, ↓rE_bin, ↓rE_neg, ↓rE_not, ↓rE_cmp, ↓rE_chain, ↓rE_and, ↓rE_or, ↓rE_ife, ↓rE_call, ↓rE_b1, ↓rE_b2, ↓rE_isi, ↓rE_ix, ↓rE_sl, ↓rE_tup, ↓rE_lst, ↓rE_lc, ↓rEs_nil, ↓rEs_cons, ↓rEo_no, ↓rEo_so, ↓rC_no, ↓rC_so, ↓rI_sq, ↓rI_r1, ↓rI_r2, ↓rI_zip, ↓rI_enu, after_nx, after_rt, after_bk, after_ct, Run.some, Run.none, Run.map, Run.ifn, RunIf.tt, RunIf.ff, RunIf.not_, w_d, R.norm_d, R.norm_w, R.norm_l, peek_d, toD_d, tst_b, tst_i, tst_l, tst_t, tst_n, slot_0, slot_s, mkW_f, mkW_t, toBx_b, toInt_i, augV_a, augV_s, retR_d, retR_rd, retR_f, endOf_d, endOf_rd, endOf_f, endOf_n, geOf_glob, bind_nm, bind_tp, setAll_nil, setAll_cons, wipe_nil, wipe_cons, add_ii, sub_ii, add_ll, add_tt, mul_li, lt_ii, le_ii, gt_ii, ge_ii, eq_ii, ne_ii, eq_ss, ne_ss, Mini.is_none, Mini.isnot_none, len_l, len_t, abs_i, int_i, int_b, tuple_l, tuple_t, list_l, list_t, max_ii, min_ii, isi_int, isi_bool, isi_tup, isi_str, isi_lst, isIntD, isBoolD, isStrD, isTupD, isLstD, ix_l, ix_t, at_0, seq_l, seq_t, lstOf_l, rng1_i, rng2_i, optInt_n, optInt_i, sl_l, sl_t, mapM_nil, mapM_cons, at_1, at_2, at_3, at_4, Option.map_some, List.map_cons, List.map_nil, List.cons_append, List.nil_append, List.append_nil, List.length_cons, List.length_nil, List.set_cons_zero, List.set_cons_succ, List.take_length, List.replicate_succ, List.replicate_zero, sz, decide_eq_true_eq, Nat.zero_add, Nat.reduceAdd, Nat.reduceLeDiff, true_and, and_true, Nat.sub_self, Nat.reduceSub, gl, glVals, List.getElem?_cons_zero, List.getElem?_cons_succ, Bool.not_true, Bool.not_false, List.length_map, List.take_length]
end
end K85
end
section
set_option Elab.async false
set_option linter.all false
set_option maxRecDepth 100000
set_option maxHeartbeats 1000000
open Mini PySem
namespace K85
def lotT (S : Int) (M : List (Int × List (List Int))) : List D := M.map fun q => .tuple [fr q.1 S, tabD q.2]
def colR (M : List (Int × List (List Int))) (i : Nat) : List (Int × List Int) := M.map fun q => (q.1, q.2.getD i [])
/-- tables with their weights -/
structure Tbs (S : Int) (r w : Nat) (M : List (Int × List (List Int))) : Prop where
  ws : Wts S (M.map (·.1))
  tb : ∀ q ∈ M, Tb q.2 w ∧ q.2.length = r
  wid : 1 ≤ r ∧ r ≤ 6 ∧ 1 ≤ w ∧ w ≤ 6
theorem Tbs.rows {S : Int} {r w : Nat} {M : List (Int × List (List Int))} (h : Tbs S r w M) {i : Nat} (hi : i < r) : Rws S w (colR M i) := by
  refine ⟨?_, fun q hq => ?_, ?_⟩
  · have : (colR M i).map (·.1) = M.map (·.1) := by unfold colR; rw [List.map_map]; rfl
    rw [this]; exact h.ws
  · obtain ⟨t, ht, rfl⟩ := List.mem_map.mp hq
    obtain ⟨h1, h2⟩ := h.tb t ht
    have hlt : i < t.2.length := by omega
    have e : t.2.getD i [] = t.2[i] := by rw [List.getD_eq_getElem?_getD, List.getElem?_eq_getElem hlt]; rfl
    have := h1.row _ (List.getElem_mem hlt)
    dsimp only
    rw [e]
    exact ⟨this.2, this.1⟩
  · have := h.wid; omega
def madeT (S : Int) (r w : Nat) (M : List (Int × List (List Int))) : List D := (List.range r).map fun i => .tuple ((accN w (colR M i)).map (fr · S))
theorem range_get {r i : Nat} {x : D} (h : (rangeD 0 (r : Int))[i]? = some x) : i < r ∧ x = .int (i : Int) := by
  unfold rangeD at h
  rw [List.getElem?_map] at h
  obtain ⟨j, h1, rfl⟩ := Option.map_eq_some_iff.mp h
  have hl := (List.getElem?_eq_some_iff.mp h1).1
  rw [List.length_range] at hl
  rw [List.getElem?_range hl] at h1
  cases h1
  refine ⟨by omega, by simp⟩
theorem range_len {r : Nat} : (rangeD 0 (r : Int)).length = r := by
  unfold rangeD; simp
section
variable {n : Nat} {μ : Store} {S : Int} {r w : Nat} {L : List (Int × List Int)} {M : List (Int × List (List Int))}
theorem made_in_r (h : Rws S w L) (h20 : ∀ q ∈ L, Up 20 q.2) : (G (n + 5)).fn 19 [.d (.tuple (lotR S L))] μ = some (rd (.tuple ((accN w L).map (fr · S))), μ) := by
  apply Run.eq
  have hl := h.ws.len
  rw [List.length_map] at hl
  have hw := h.wid
  obtain ⟨q0, hq0⟩ : ∃ q0, L[0]? = some q0 := ⟨_, List.getElem?_eq_getElem (by omega)⟩
  have hm := List.mem_of_getElem? hq0
  have hl0 := (h.row q0 hm).2
  have e : atD (lotR S L) 0 = some (.tuple [fr q0.1 S, rowD q0.2]) := by unfold lotR; exact at_map0 hq0
  refine run_fn (bd := b_made_in) rfl rfl ?_; unfold b_made_in; simp only [List.map_cons, List.map_nil, List.cons_append, List.nil_append, List.append_nil, List.replicate_succ, List.replicate_zero, Nat.reduceSub]
  simp only [↓rSs_cons, ↓rSs_nil, ↓rS_asg, ↓rS_tup, ↓rS_par, ↓rS_bxa, ↓rS_app, ↓rS_set, ↓rS_aug, ↓rS_ret, ↓rS_retN, ↓rS_ife, ↓rS_for, ↓rS_while, ↓rS_pass, ↓rS_brk, ↓rS_cont, ↓rS_expr, ↓rE_var, ↓rE_cst, ↓rE_glb, ↓rE_bin, ↓rE_neg, ↓rE_not, ↓rE_cmp, ↓rE_chain, ↓rE_and, ↓rE_or, ↓rE_ife, ↓rE_call, ↓rE_b1, ↓rE_b2, ↓rE_isi, ↓rE_ix, ↓rE_sl, ↓rE_tup, ↓rE_lst, ↓rE_lc, ↓rEs_nil, ↓rEs_cons, ↓rEo_no, ↓rEo_so, ↓rC_no, ↓rC_so, ↓rI_sq, ↓rI_r1, ↓rI_r2, ↓rI_zip, ↓rI_enu, after_nx, after_rt, after_bk, after_ct, Run.some, Run.none, Run.map, Run.ifn, RunIf.tt, RunIf.ff, RunIf.not_, w_d, R.norm_d, R.norm_w, R.norm_l, peek_d, toD_d, tst_b, tst_i, tst_l, tst_t, tst_n, slot_0, slot_s, mkW_f, mkW_t, toBx_b, toInt_i, augV_a, augV_s, retR_d, retR_rd, retR_f, endOf_d, endOf_rd, endOf_f, endOf_n, geOf_glob, retR_b, lstAt_last, set_last, peek_last, foAt_last, take_last, bind_nm, bind_tp, setAll_nil, setAll_cons, wipe_nil, wipe_cons, add_ii, sub_ii, add_ll, add_tt, mul_li, lt_ii, le_ii, gt_ii, ge_ii, eq_ii, ne_ii, eq_ss, ne_ss, Mini.is_none, Mini.isnot_none, len_l, len_t, abs_i, int_i, int_b, tuple_l, tuple_t, list_l, list_t, max_ii, min_ii, isi_int, isi_bool, isi_tup, isi_str, isi_lst, isIntD, isBoolD, isStrD, isTupD, isLstD, ix_l, ix_t, at_0, seq_l, seq_t, lstOf_l, rng1_i, rng2_i, optInt_n, optInt_i, sl_l, sl_t, mapM_nil, mapM_cons, at_1, at_2, at_3, at_4, Option.map_some, List.map_cons, List.map_nil, List.cons_append, List.nil_append, List.append_nil, List.length_cons, List.length_nil, List.set_cons_zero, List.set_cons_succ, List.take_length, List.replicate_succ, List.replicate_zero, sz, decide_eq_true_eq, Nat.zero_add, Nat.reduceAdd, Nat.reduceLeDiff, true_and, and_true, Nat.sub_self, Nat.reduceSub, gl, glVals, List.getElem?_cons_zero, List.getElem?_cons_succ, Bool.not_true, Bool.not_false, e, is_seats_member_r (h20 q0 hm) (show 1 ≤ q0.2.length ∧ q0.2.length ≤ 10 by omega), mixed_in_x (X := .tuple (lotR S L)) h rfl rfl]
theorem lmade_r (h : Rws S w L) : (G (n + 5)).fn 34 [.d (.tuple (lotR S L)), .d (.bool true)] μ = some (rd (.tuple ((accN w L).map (fr · S))), μ) := by
  apply Run.eq
  have hl := h.ws.len
  rw [List.length_map] at hl
  have hw := h.wid
  obtain ⟨q0, hq0⟩ : ∃ q0, L[0]? = some q0 := ⟨_, List.getElem?_eq_getElem (by omega)⟩
  have hm := List.mem_of_getElem? hq0
  have hl0 := (h.row q0 hm).2
  have e : atD (lotR S L) 0 = some (.tuple [fr q0.1 S, .tuple (q0.2.map .int)]) := by unfold lotR; exact at_map0 hq0
  refine run_fn (bd := b_law_made) rfl rfl ?_; unfold b_law_made; simp only [List.map_cons, List.map_nil, List.cons_append, List.nil_append, List.append_nil, List.replicate_succ, List.replicate_zero, Nat.reduceSub]
  simp only [↓rSs_cons, ↓rSs_nil, ↓rS_asg, ↓rS_tup, ↓rS_par, ↓rS_bxa, ↓rS_app, ↓rS_set, ↓rS_aug, ↓rS_ret, ↓rS_retN, ↓rS_ife, ↓rS_for, ↓rS_while, ↓rS_pass, ↓rS_brk, ↓rS_cont, ↓rS_expr, ↓rE_var, ↓rE_cst, ↓rE_glb, ↓rE_bin, ↓rE_neg, ↓rE_not, ↓rE_cmp, ↓rE_chain, ↓rE_and, ↓rE_or, ↓rE_ife, ↓rE_call, ↓rE_b1, ↓rE_b2, ↓rE_isi, ↓rE_ix, ↓rE_sl, ↓rE_tup, ↓rE_lst, ↓rE_lc, ↓rEs_nil, ↓rEs_cons, ↓rEo_no, ↓rEo_so, ↓rC_no, ↓rC_so, ↓rI_sq, ↓rI_r1, ↓rI_r2, ↓rI_zip, ↓rI_enu, after_nx, after_rt, after_bk, after_ct, Run.some, Run.none, Run.map, Run.ifn, RunIf.tt, RunIf.ff, RunIf.not_, w_d, R.norm_d, R.norm_w, R.norm_l, peek_d, toD_d, tst_b, tst_i, tst_l, tst_t, tst_n, slot_0, slot_s, mkW_f, mkW_t, toBx_b, toInt_i, augV_a, augV_s, retR_d, retR_rd, retR_f, endOf_d, endOf_rd, endOf_f, endOf_n, geOf_glob, retR_b, lstAt_last, set_last, peek_last, foAt_last, take_last, bind_nm, bind_tp, setAll_nil, setAll_cons, wipe_nil, wipe_cons, add_ii, sub_ii, add_ll, add_tt, mul_li, lt_ii, le_ii, gt_ii, ge_ii, eq_ii, ne_ii, eq_ss, ne_ss, Mini.is_none, Mini.isnot_none, len_l, len_t, abs_i, int_i, int_b, tuple_l, tuple_t, list_l, list_t, max_ii, min_ii, isi_int, isi_bool, isi_tup, isi_str, isi_lst, isIntD, isBoolD, isStrD, isTupD, isLstD, ix_l, ix_t, at_0, seq_l, seq_t, lstOf_l, rng1_i, rng2_i, optInt_n, optInt_i, sl_l, sl_t, mapM_nil, mapM_cons, at_1, at_2, at_3, at_4, Option.map_some, List.map_cons, List.map_nil, List.cons_append, List.nil_append, List.append_nil, List.length_cons, List.length_nil, List.set_cons_zero, List.set_cons_succ, List.take_length, List.replicate_succ, List.replicate_zero, sz, decide_eq_true_eq, Nat.zero_add, Nat.reduceAdd, Nat.reduceLeDiff, true_and, and_true, Nat.sub_self, Nat.reduceSub, gl, glVals, List.getElem?_cons_zero, List.getElem?_cons_succ, Bool.not_true, Bool.not_false, e, List.length_map, hl0, lt_made_x (X := .tuple (lotR S L)) h rfl]
theorem made_in_t (h : Tbs S r w M) : (G (n + 5)).fn 19 [.d (.tuple (lotT S M))] μ = some (rd (.tuple (madeT S r w M)), μ) := by
  apply Run.eq
  have hl := h.ws.len
  rw [List.length_map] at hl
  have hw := h.wid
  obtain ⟨q0, hq0⟩ : ∃ q0, M[0]? = some q0 := ⟨_, List.getElem?_eq_getElem (by omega)⟩
  have hm := List.mem_of_getElem? hq0
  obtain ⟨ht0, hr0⟩ := h.tb q0 hm
  have e : atD (lotT S M) 0 = some (.tuple [fr q0.1 S, tabD q0.2]) := by unfold lotT; exact at_map0 hq0
  refine run_fn (bd := b_made_in) rfl rfl ?_; unfold b_made_in; simp only [List.map_cons, List.map_nil, List.cons_append, List.nil_append, List.append_nil, List.replicate_succ, List.replicate_zero, Nat.reduceSub]
  simp only [↓rSs_cons, ↓rSs_nil, ↓rS_asg, ↓rS_tup, ↓rS_par, ↓rS_bxa, ↓rS_app, ↓rS_set, ↓rS_aug, ↓rS_ret, ↓rS_retN, ↓rS_ife, ↓rS_for, ↓rS_while, ↓rS_pass, ↓rS_brk, ↓rS_cont, ↓rS_expr, ↓rE_var, ↓rE_cst, ↓rE_glb, ↓rE_bin, ↓rE_neg, ↓rE_not, ↓rE_cmp, ↓rE_chain, ↓rE_and, ↓rE_or, ↓rE_ife, ↓rE_call, ↓rE_b1, ↓rE_b2, ↓rE_isi, ↓rE_ix, ↓rE_sl, ↓rE_tup, ↓rE_lst, ↓rE_lc, ↓rEs_nil, ↓rEs_cons, ↓rEo_no, ↓rEo_so, ↓rC_no, ↓rC_so, ↓rI_sq, ↓rI_r1, ↓rI_r2, ↓rI_zip, ↓rI_enu, after_nx, after_rt, after_bk, after_ct, Run.some, Run.none, Run.map, Run.ifn, RunIf.tt, RunIf.ff, RunIf.not_, w_d, R.norm_d, R.norm_w, R.norm_l, peek_d, toD_d, tst_b, tst_i, tst_l, tst_t, tst_n, slot_0, slot_s, mkW_f, mkW_t, toBx_b, toInt_i, augV_a, augV_s, retR_d, retR_rd, retR_f, endOf_d, endOf_rd, endOf_f, endOf_n, geOf_glob, retR_b, lstAt_last, set_last, peek_last, foAt_last, take_last, bind_nm, bind_tp, setAll_nil, setAll_cons, wipe_nil, wipe_cons, add_ii, sub_ii, add_ll, add_tt, mul_li, lt_ii, le_ii, gt_ii, ge_ii, eq_ii, ne_ii, eq_ss, ne_ss, Mini.is_none, Mini.isnot_none, len_l, len_t, abs_i, int_i, int_b, tuple_l, tuple_t, list_l, list_t, max_ii, min_ii, isi_int, isi_bool, isi_tup, isi_str, isi_lst, isIntD, isBoolD, isStrD, isTupD, isLstD, ix_l, ix_t, at_0, seq_l, seq_t, lstOf_l, rng1_i, rng2_i, optInt_n, optInt_i, sl_l, sl_t, mapM_nil, mapM_cons, at_1, at_2, at_3, at_4, Option.map_some, List.map_cons, List.map_nil, List.cons_append, List.nil_append, List.append_nil, List.length_cons, List.length_nil, List.set_cons_zero, List.set_cons_succ, List.take_length, List.replicate_succ, List.replicate_zero, sz, decide_eq_true_eq, Nat.zero_add, Nat.reduceAdd, Nat.reduceLeDiff, true_and, and_true, Nat.sub_self, Nat.reduceSub, gl, glVals, List.getElem?_cons_zero, List.getElem?_cons_succ, Bool.not_true, Bool.not_false, e, is_seats_member_t ht0.len]
  have e2 : ∀ l, tabD l = .tuple (l.map rowD) := fun _ => rfl
  simp only [↓rSs_cons, ↓rSs_nil, ↓rS_asg, ↓rS_tup, ↓rS_par, ↓rS_bxa, ↓rS_app, ↓rS_set, ↓rS_aug, ↓rS_ret, ↓rS_retN, ↓rS_ife, ↓rS_for, ↓rS_while, ↓rS_pass, ↓rS_brk, ↓rS_cont, ↓rS_expr, ↓rE_var, ↓rE_cst, ↓rE_glb, ↓rE_bin, ↓rE_neg, ↓rE_not, ↓rE_cmp, ↓rE_chain, ↓rE_and, ↓rE_or, ↓rE_ife, ↓rE_call, ↓rE_b1, ↓rE_b2, ↓rE_isi, ↓rE_ix, ↓rE_sl, ↓rE_tup, ↓rE_lst, ↓rE_lc, ↓rEs_nil, ↓rEs_cons, ↓rEo_no, ↓rEo_so, ↓rC_no, ↓rC_so, ↓rI_sq, ↓rI_r1, ↓rI_r2, ↓rI_zip, ↓rI_enu, after_nx, after_rt, after_bk, after_ct, Run.some, Run.none, Run.map, Run.ifn, RunIf.tt, RunIf.ff, RunIf.not_, w_d, R.norm_d, R.norm_w, R.norm_l, peek_d, toD_d, tst_b, tst_i, tst_l, tst_t, tst_n, slot_0, slot_s, mkW_f, mkW_t, toBx_b, toInt_i, augV_a, augV_s, retR_d, retR_rd, retR_f, endOf_d, endOf_rd, endOf_f, endOf_n, geOf_glob, retR_b, lstAt_last, set_last, peek_last, foAt_last, take_last, bind_nm, bind_tp, setAll_nil, setAll_cons, wipe_nil, wipe_cons, add_ii, sub_ii, add_ll, add_tt, mul_li, lt_ii, le_ii, gt_ii, ge_ii, eq_ii, ne_ii, eq_ss, ne_ss, Mini.is_none, Mini.isnot_none, len_l, len_t, abs_i, int_i, int_b, tuple_l, tuple_t, list_l, list_t, max_ii, min_ii, isi_int, isi_bool, isi_tup, isi_str, isi_lst, isIntD, isBoolD, isStrD, isTupD, isLstD, ix_l, ix_t, at_0, seq_l, seq_t, lstOf_l, rng1_i, rng2_i, optInt_n, optInt_i, sl_l, sl_t, mapM_nil, mapM_cons, at_1, at_2, at_3, at_4, Option.map_some, List.map_cons, List.map_nil, List.cons_append, List.nil_append, List.append_nil, List.length_cons, List.length_nil, List.set_cons_zero, List.set_cons_succ, List.take_length, List.replicate_succ, List.replicate_zero, sz, decide_eq_true_eq, Nat.zero_add, Nat.reduceAdd, Nat.reduceLeDiff, true_and, and_true, Nat.sub_self, Nat.reduceSub, gl, glVals, List.getElem?_cons_zero, List.getElem?_cons_succ, Bool.not_true, Bool.not_false, e2, List.length_map, hr0]
  refine ⟨⟨by unfold big; omega, by unfold big; omega⟩, ?_⟩
  refine for_inv (fun i ρ μ' => ∃ x y z, μ' = μ ++ [some (.fo (.lst ((madeT S r w M).take i)))] ∧ ρ = [some (.d (.tuple (lotT S M))), some (.bx μ.length), x, y, z]) ⟨none, none, none, rfl, rfl⟩ ?_ ?_
  · rintro i x hx ρ μ' ⟨x1, x2, x3, rfl, rfl⟩
    obtain ⟨hi, rfl⟩ := range_get hx
    unfold lotT
    simp only [↓rSs_cons, ↓rSs_nil, ↓rS_asg, ↓rS_tup, ↓rS_par, ↓rS_bxa, ↓rS_app, ↓rS_set, ↓rS_aug, ↓rS_ret, ↓rS_retN, ↓rS_ife, ↓rS_for, ↓rS_while, ↓rS_pass, ↓rS_brk, ↓rS_cont, ↓rS_expr, ↓rE_var, ↓rE_cst, ↓rE_glb, ↓rE_bin, ↓rE_neg, ↓rE_not, ↓rE_cmp, ↓rE_chain, ↓rE_and, ↓rE_or, ↓rE_ife, ↓rE_call, ↓rE_b1, ↓rE_b2, ↓rE_isi, ↓rE_ix, ↓rE_sl, ↓rE_tup, ↓rE_lst, ↓rE_lc, ↓rEs_nil, ↓rEs_cons, ↓rEo_no, ↓rEo_so, ↓rC_no, ↓rC_so, ↓rI_sq, ↓rI_r1, ↓rI_r2, ↓rI_zip, ↓rI_enu, after_nx, after_rt, after_bk, after_ct, Run.some, Run.none, Run.map, Run.ifn, RunIf.tt, RunIf.ff, RunIf.not_, w_d, R.norm_d, R.norm_w, R.norm_l, peek_d, toD_d, tst_b, tst_i, tst_l, tst_t, tst_n, slot_0, slot_s, mkW_f, mkW_t, toBx_b, toInt_i, augV_a, augV_s, retR_d, retR_rd, retR_f, endOf_d, endOf_rd, endOf_f, endOf_n, geOf_glob, retR_b, lstAt_last, set_last, peek_last, foAt_last, take_last, bind_nm, bind_tp, setAll_nil, setAll_cons, wipe_nil, wipe_cons, add_ii, sub_ii, add_ll, add_tt, mul_li, lt_ii, le_ii, gt_ii, ge_ii, eq_ii, ne_ii, eq_ss, ne_ss, Mini.is_none, Mini.isnot_none, len_l, len_t, abs_i, int_i, int_b, tuple_l, tuple_t, list_l, list_t, max_ii, min_ii, isi_int, isi_bool, isi_tup, isi_str, isi_lst, isIntD, isBoolD, isStrD, isTupD, isLstD, ix_l, ix_t, at_0, seq_l, seq_t, lstOf_l, rng1_i, rng2_i, optInt_n, optInt_i, sl_l, sl_t, mapM_nil, mapM_cons, at_1, at_2, at_3, at_4, Option.map_some, List.map_cons, List.map_nil, List.cons_append, List.nil_append, List.append_nil, List.length_cons, List.length_nil, List.set_cons_zero, List.set_cons_succ, List.take_length, List.replicate_succ, List.replicate_zero, sz, decide_eq_true_eq, Nat.zero_add, Nat.reduceAdd, Nat.reduceLeDiff, true_and, and_true, Nat.sub_self, Nat.reduceSub, gl, glVals, List.getElem?_cons_zero, List.getElem?_cons_succ, Bool.not_true, Bool.not_false, List.length_map]
    refine ⟨by omega, ?_⟩
    refine .of_eq (lc_mapm _ (fun q : Int × List (List Int) => .tuple [fr q.1 S, rowD (q.2.getD i [])]) fun q hq => ?_) ?_
    · obtain ⟨h3, h4⟩ := h.tb q hq
      have e3 : q.2[i]? = some (q.2.getD i []) := by rw [List.getD_eq_getElem?_getD, List.getElem?_eq_getElem (by omega)]; rfl
      unfold tabD
      simp only [↓rSs_cons, ↓rSs_nil, ↓rS_asg, ↓rS_tup, ↓rS_par, ↓rS_bxa, ↓rS_app, ↓rS_set, ↓rS_aug, ↓rS_ret, ↓rS_retN, ↓rS_ife, ↓rS_for, ↓rS_while, ↓rS_pass, ↓rS_brk, ↓rS_cont, ↓rS_expr, ↓rE_var, ↓rE_cst, ↓rE_glb, ↓rE_bin, ↓rE_neg, ↓rE_not, ↓rE_cmp, ↓rE_chain, ↓rE_and, ↓rE_or, ↓rE_ife, ↓rE_call, ↓rE_b1, ↓rE_b2, ↓rE_isi, ↓rE_ix, ↓rE_sl, ↓rE_tup, ↓rE_lst, ↓rE_lc, ↓rEs_nil, ↓rEs_cons, ↓rEo_no, ↓rEo_so, ↓rC_no, ↓rC_so, ↓rI_sq, ↓rI_r1, ↓rI_r2, ↓rI_zip, ↓rI_enu, after_nx, after_rt, after_bk, after_ct, Run.some, Run.none, Run.map, Run.ifn, RunIf.tt, RunIf.ff, RunIf.not_, w_d, R.norm_d, R.norm_w, R.norm_l, peek_d, toD_d, tst_b, tst_i, tst_l, tst_t, tst_n, slot_0, slot_s, mkW_f, mkW_t, toBx_b, toInt_i, augV_a, augV_s, retR_d, retR_rd, retR_f, endOf_d, endOf_rd, endOf_f, endOf_n, geOf_glob, retR_b, lstAt_last, set_last, peek_last, foAt_last, take_last, bind_nm, bind_tp, setAll_nil, setAll_cons, wipe_nil, wipe_cons, add_ii, sub_ii, add_ll, add_tt, mul_li, lt_ii, le_ii, gt_ii, ge_ii, eq_ii, ne_ii, eq_ss, ne_ss, Mini.is_none, Mini.isnot_none, len_l, len_t, abs_i, int_i, int_b, tuple_l, tuple_t, list_l, list_t, max_ii, min_ii, isi_int, isi_bool, isi_tup, isi_str, isi_lst, isIntD, isBoolD, isStrD, isTupD, isLstD, ix_l, ix_t, at_0, seq_l, seq_t, lstOf_l, rng1_i, rng2_i, optInt_n, optInt_i, sl_l, sl_t, mapM_nil, mapM_cons, at_1, at_2, at_3, at_4, Option.map_some, List.map_cons, List.map_nil, List.cons_append, List.nil_append, List.append_nil, List.length_cons, List.length_nil, List.set_cons_zero, List.set_cons_succ, List.take_length, List.replicate_succ, List.replicate_zero, sz, decide_eq_true_eq, Nat.zero_add, Nat.reduceAdd, Nat.reduceLeDiff, true_and, and_true, Nat.sub_self, Nat.reduceSub, gl, glVals, List.getElem?_cons_zero, List.getElem?_cons_succ, Bool.not_true, Bool.not_false, at_map e3]
    have e4 : (M.map fun q => PyData.tuple [fr q.1 S, rowD (q.2.getD i [])]) = lotR S (colR M i) := by
      unfold lotR colR
      rw [List.map_map]
      rfl
    rw [e4]
    simp only [↓rSs_cons, ↓rSs_nil, ↓rS_asg, ↓rS_tup, ↓rS_par, ↓rS_bxa, ↓rS_app, ↓rS_set, ↓rS_aug, ↓rS_ret, ↓rS_retN, ↓rS_ife, ↓rS_for, ↓rS_while, ↓rS_pass, ↓rS_brk, ↓rS_cont, ↓rS_expr, ↓rE_var, ↓rE_cst, ↓rE_glb, ↓rE_bin, ↓rE_neg, ↓rE_not, ↓rE_cmp, ↓rE_chain, ↓rE_and, ↓rE_or, ↓rE_ife, ↓rE_call, ↓rE_b1, ↓rE_b2, ↓rE_isi, ↓rE_ix, ↓rE_sl, ↓rE_tup, ↓rE_lst, ↓rE_lc, ↓rEs_nil, ↓rEs_cons, ↓rEo_no, ↓rEo_so, ↓rC_no, ↓rC_so, ↓rI_sq, ↓rI_r1, ↓rI_r2, ↓rI_zip, ↓rI_enu, after_nx, after_rt, after_bk, after_ct, Run.some, Run.none, Run.map, Run.ifn, RunIf.tt, RunIf.ff, RunIf.not_, w_d, R.norm_d, R.norm_w, R.norm_l, peek_d, toD_d, tst_b, tst_i, tst_l, tst_t, tst_n, slot_0, slot_s, mkW_f, mkW_t, toBx_b, toInt_i, augV_a, augV_s, retR_d, retR_rd, retR_f, endOf_d, endOf_rd, endOf_f, endOf_n, geOf_glob, retR_b, lstAt_last, set_last, peek_last, foAt_last, take_last, bind_nm, bind_tp, setAll_nil, setAll_cons, wipe_nil, wipe_cons, add_ii, sub_ii, add_ll, add_tt, mul_li, lt_ii, le_ii, gt_ii, ge_ii, eq_ii, ne_ii, eq_ss, ne_ss, Mini.is_none, Mini.isnot_none, len_l, len_t, abs_i, int_i, int_b, tuple_l, tuple_t, list_l, list_t, max_ii, min_ii, isi_int, isi_bool, isi_tup, isi_str, isi_lst, isIntD, isBoolD, isStrD, isTupD, isLstD, ix_l, ix_t, at_0, seq_l, seq_t, lstOf_l, rng1_i, rng2_i, optInt_n, optInt_i, sl_l, sl_t, mapM_nil, mapM_cons, at_1, at_2, at_3, at_4, Option.map_some, List.map_cons, List.map_nil, List.cons_append, List.nil_append, List.append_nil, List.length_cons, List.length_nil, List.set_cons_zero, List.set_cons_succ, List.take_length, List.replicate_succ, List.replicate_zero, sz, decide_eq_true_eq, Nat.zero_add, Nat.reduceAdd, Nat.reduceLeDiff, true_and, and_true, Nat.sub_self, Nat.reduceSub, gl, glVals, List.getElem?_cons_zero, List.getElem?_cons_succ, Bool.not_true, Bool.not_false, mixed_in_x (X := .list (lotR S (colR M i))) (h.rows hi) rfl rfl, List.length_take]
    have hlen : (madeT S r w M).length = r := by unfold madeT; simp
    refine ⟨by omega, _, _, _, ?_, rfl⟩
    have e5 : (madeT S r w M)[i]? = some (.tuple ((accN w (colR M i)).map (fr · S))) := by
      unfold madeT
      rw [List.getElem?_map, List.getElem?_range hi]
      rfl
    rw [List.take_add_one, e5]
    rfl
  · rintro ρ μ' ⟨x1, x2, x3, rfl, rfl⟩
    have hlen : (madeT S r w M).length = r := by unfold madeT; simp
    simp only [↓rSs_cons, ↓rSs_nil, ↓rS_asg, ↓rS_tup, ↓rS_par, ↓rS_bxa, ↓rS_app, ↓rS_set, ↓rS_aug, ↓rS_ret, ↓rS_retN, ↓rS_ife, ↓rS_for, ↓rS_while, ↓rS_pass, ↓rS_brk, ↓rS_cont, ↓rS_expr, ↓rE_var, ↓rE_cst, ↓rE_glb, ↓rE_bin, ↓rE_neg, ↓rE_not, ↓rE_cmp, ↓rE_chain, ↓rE_and, ↓rE_or, ↓rE_ife, ↓rE_call, ↓rE_b1, ↓rE_b2, ↓rE_isi, ↓rE_ix, ↓rE_sl, ↓rE_tup, ↓rE_lst, ↓rE_lc, ↓rEs_nil, ↓rEs_cons, ↓rEo_no, ↓rEo_so, ↓rC_no, ↓rC_so, ↓rI_sq, ↓rI_r1, ↓rI_r2, ↓rI_zip, ↓rI_enu, after_nx, after_rt, after_bk, after_ct, Run.some, Run.none, Run.map, Run.ifn, RunIf.tt, RunIf.ff, RunIf.not_, w_d, R.norm_d, R.norm_w, R.norm_l, peek_d, toD_d, tst_b, tst_i, tst_l, tst_t, tst_n, slot_0, slot_s, mkW_f, mkW_t, toBx_b, toInt_i, augV_a, augV_s, retR_d, retR_rd, retR_f, endOf_d, endOf_rd, endOf_f, endOf_n, geOf_glob, retR_b, lstAt_last, set_last, peek_last, foAt_last, take_last, bind_nm, bind_tp, setAll_nil, setAll_cons, wipe_nil, wipe_cons, add_ii, sub_ii, add_ll, add_tt, mul_li, lt_ii, le_ii, gt_ii, ge_ii, eq_ii, ne_ii, eq_ss, ne_ss, Mini.is_none, Mini.isnot_none, len_l, len_t, abs_i, int_i, int_b, tuple_l, tuple_t, list_l, list_t, max_ii, min_ii, isi_int, isi_bool, isi_tup, isi_str, isi_lst, isIntD, isBoolD, isStrD, isTupD, isLstD, ix_l, ix_t, at_0, seq_l, seq_t, lstOf_l, rng1_i, rng2_i, optInt_n, optInt_i, sl_l, sl_t, mapM_nil, mapM_cons, at_1, at_2, at_3, at_4, Option.map_some, List.map_cons, List.map_nil, List.cons_append, List.nil_append, List.append_nil, List.length_cons, List.length_nil, List.set_cons_zero, List.set_cons_succ, List.take_length, List.replicate_succ, List.replicate_zero, sz, decide_eq_true_eq, Nat.zero_add, Nat.reduceAdd, Nat.reduceLeDiff, true_and, and_true, Nat.sub_self, Nat.reduceSub, gl, glVals, List.getElem?_cons_zero, List.getElem?_cons_succ, Bool.not_true, Bool.not_false]
    rw [range_len, List.take_of_length_le (by omega)]
theorem lmade_t (h : Tbs S r w M) : (G (n + 5)).fn 34 [.d (.tuple (lotT S M)), .d (.bool false)] μ = some (rd (.tuple (madeT S r w M)), μ) := by
  apply Run.eq
  have hl := h.ws.len
  rw [List.length_map] at hl
  have hw := h.wid
  obtain ⟨q0, hq0⟩ : ∃ q0, M[0]? = some q0 := ⟨_, List.getElem?_eq_getElem (by omega)⟩
  have hm := List.mem_of_getElem? hq0
  obtain ⟨ht0, hr0⟩ := h.tb q0 hm
  obtain ⟨r0, hr00, hw0⟩ := ht0.zero
  have e : atD (lotT S M) 0 = some (.tuple [fr q0.1 S, tabD q0.2]) := by unfold lotT; exact at_map0 hq0
  refine run_fn (bd := b_law_made) rfl rfl ?_; unfold b_law_made; simp only [List.map_cons, List.map_nil, List.cons_append, List.nil_append, List.append_nil, List.replicate_succ, List.replicate_zero, Nat.reduceSub]
  simp only [↓rSs_cons, ↓rSs_nil, ↓rS_asg, ↓rS_tup, ↓rS_par, ↓rS_bxa, ↓rS_app, ↓rS_set, ↓rS_aug, ↓rS_ret, ↓rS_retN, ↓rS_ife, ↓rS_for, ↓rS_while, ↓rS_pass, ↓rS_brk, ↓rS_cont, ↓rS_expr, ↓rE_var, ↓rE_cst, ↓rE_glb, ↓rE_bin, ↓rE_neg, ↓rE_not, ↓rE_cmp, ↓rE_chain, ↓rE_and, ↓rE_or, ↓rE_ife, ↓rE_call, ↓rE_b1, ↓rE_b2, ↓rE_isi, ↓rE_ix, ↓rE_sl, ↓rE_tup, ↓rE_lst, ↓rE_lc, ↓rEs_nil, ↓rEs_cons, ↓rEo_no, ↓rEo_so, ↓rC_no, ↓rC_so, ↓rI_sq, ↓rI_r1, ↓rI_r2, ↓rI_zip, ↓rI_enu, after_nx, after_rt, after_bk, after_ct, Run.some, Run.none, Run.map, Run.ifn, RunIf.tt, RunIf.ff, RunIf.not_, w_d, R.norm_d, R.norm_w, R.norm_l, peek_d, toD_d, tst_b, tst_i, tst_l, tst_t, tst_n, slot_0, slot_s, mkW_f, mkW_t, toBx_b, toInt_i, augV_a, augV_s, retR_d, retR_rd, retR_f, endOf_d, endOf_rd, endOf_f, endOf_n, geOf_glob, retR_b, lstAt_last, set_last, peek_last, foAt_last, take_last, bind_nm, bind_tp, setAll_nil, setAll_cons, wipe_nil, wipe_cons, add_ii, sub_ii, add_ll, add_tt, mul_li, lt_ii, le_ii, gt_ii, ge_ii, eq_ii, ne_ii, eq_ss, ne_ss, Mini.is_none, Mini.isnot_none, len_l, len_t, abs_i, int_i, int_b, tuple_l, tuple_t, list_l, list_t, max_ii, min_ii, isi_int, isi_bool, isi_tup, isi_str, isi_lst, isIntD, isBoolD, isStrD, isTupD, isLstD, ix_l, ix_t, at_0, seq_l, seq_t, lstOf_l, rng1_i, rng2_i, optInt_n, optInt_i, sl_l, sl_t, mapM_nil, mapM_cons, at_1, at_2, at_3, at_4, Option.map_some, List.map_cons, List.map_nil, List.cons_append, List.nil_append, List.append_nil, List.length_cons, List.length_nil, List.set_cons_zero, List.set_cons_succ, List.take_length, List.replicate_succ, List.replicate_zero, sz, decide_eq_true_eq, Nat.zero_add, Nat.reduceAdd, Nat.reduceLeDiff, true_and, and_true, Nat.sub_self, Nat.reduceSub, gl, glVals, List.getElem?_cons_zero, List.getElem?_cons_succ, Bool.not_true, Bool.not_false, e]
  have e2 : ∀ l, tabD l = .tuple (l.map rowD) := fun _ => rfl
  simp only [↓rSs_cons, ↓rSs_nil, ↓rS_asg, ↓rS_tup, ↓rS_par, ↓rS_bxa, ↓rS_app, ↓rS_set, ↓rS_aug, ↓rS_ret, ↓rS_retN, ↓rS_ife, ↓rS_for, ↓rS_while, ↓rS_pass, ↓rS_brk, ↓rS_cont, ↓rS_expr, ↓rE_var, ↓rE_cst, ↓rE_glb, ↓rE_bin, ↓rE_neg, ↓rE_not, ↓rE_cmp, ↓rE_chain, ↓rE_and, ↓rE_or, ↓rE_ife, ↓rE_call, ↓rE_b1, ↓rE_b2, ↓rE_isi, ↓rE_ix, ↓rE_sl, ↓rE_tup, ↓rE_lst, ↓rE_lc, ↓rEs_nil, ↓rEs_cons, ↓rEo_no, ↓rEo_so, ↓rC_no, ↓rC_so, ↓rI_sq, ↓rI_r1, ↓rI_r2, ↓rI_zip, ↓rI_enu, after_nx, after_rt, after_bk, after_ct, Run.some, Run.none, Run.map, Run.ifn, RunIf.tt, RunIf.ff, RunIf.not_, w_d, R.norm_d, R.norm_w, R.norm_l, peek_d, toD_d, tst_b, tst_i, tst_l, tst_t, tst_n, slot_0, slot_s, mkW_f, mkW_t, toBx_b, toInt_i, augV_a, augV_s, retR_d, retR_rd, retR_f, endOf_d, endOf_rd, endOf_f, endOf_n, geOf_glob, retR_b, lstAt_last, set_last, peek_last, foAt_last, take_last, bind_nm, bind_tp, setAll_nil, setAll_cons, wipe_nil, wipe_cons, add_ii, sub_ii, add_ll, add_tt, mul_li, lt_ii, le_ii, gt_ii, ge_ii, eq_ii, ne_ii, eq_ss, ne_ss, Mini.is_none, Mini.isnot_none, len_l, len_t, abs_i, int_i, int_b, tuple_l, tuple_t, list_l, list_t, max_ii, min_ii, isi_int, isi_bool, isi_tup, isi_str, isi_lst, isIntD, isBoolD, isStrD, isTupD, isLstD, ix_l, ix_t, at_0, seq_l, seq_t, lstOf_l, rng1_i, rng2_i, optInt_n, optInt_i, sl_l, sl_t, mapM_nil, mapM_cons, at_1, at_2, at_3, at_4, Option.map_some, List.map_cons, List.map_nil, List.cons_append, List.nil_append, List.append_nil, List.length_cons, List.length_nil, List.set_cons_zero, List.set_cons_succ, List.take_length, List.replicate_succ, List.replicate_zero, sz, decide_eq_true_eq, Nat.zero_add, Nat.reduceAdd, Nat.reduceLeDiff, true_and, and_true, Nat.sub_self, Nat.reduceSub, gl, glVals, List.getElem?_cons_zero, List.getElem?_cons_succ, Bool.not_true, Bool.not_false, e2, List.length_map, hr0]
  have e6 : ∀ l, rowD l = .tuple (l.map .int) := fun _ => rfl
  refine ⟨⟨by unfold big; omega, by unfold big; omega⟩, ?_⟩
  refine for_inv (fun i ρ μ' => ∃ x y z, μ' = μ ++ [some (.fo (.lst ((madeT S r w M).take i)))] ∧ ρ = [some (.d (.tuple (lotT S M))), some (.d (.bool false)), some (.bx μ.length), x, y, z]) ⟨none, none, none, rfl, rfl⟩ ?_ ?_
  · rintro i x hx ρ μ' ⟨x1, x2, x3, rfl, rfl⟩
    obtain ⟨hi, rfl⟩ := range_get hx
    unfold lotT
    simp only [↓rSs_cons, ↓rSs_nil, ↓rS_asg, ↓rS_tup, ↓rS_par, ↓rS_bxa, ↓rS_app, ↓rS_set, ↓rS_aug, ↓rS_ret, ↓rS_retN, ↓rS_ife, ↓rS_for, ↓rS_while, ↓rS_pass, ↓rS_brk, ↓rS_cont, ↓rS_expr, ↓rE_var, ↓rE_cst, ↓rE_glb, ↓rE_bin, ↓rE_neg, ↓rE_not, ↓rE_cmp, ↓rE_chain, ↓rE_and, ↓rE_or, ↓rE_ife, ↓rE_call, ↓rE_b1, ↓rE_b2, ↓rE_isi, ↓rE_ix, ↓rE_sl, ↓rE_tup, ↓rE_lst, ↓rE_lc, ↓rEs_nil, ↓rEs_cons, ↓rEo_no, ↓rEo_so, ↓rC_no, ↓rC_so, ↓rI_sq, ↓rI_r1, ↓rI_r2, ↓rI_zip, ↓rI_enu, after_nx, after_rt, after_bk, after_ct, Run.some, Run.none, Run.map, Run.ifn, RunIf.tt, RunIf.ff, RunIf.not_, w_d, R.norm_d, R.norm_w, R.norm_l, peek_d, toD_d, tst_b, tst_i, tst_l, tst_t, tst_n, slot_0, slot_s, mkW_f, mkW_t, toBx_b, toInt_i, augV_a, augV_s, retR_d, retR_rd, retR_f, endOf_d, endOf_rd, endOf_f, endOf_n, geOf_glob, retR_b, lstAt_last, set_last, peek_last, foAt_last, take_last, bind_nm, bind_tp, setAll_nil, setAll_cons, wipe_nil, wipe_cons, add_ii, sub_ii, add_ll, add_tt, mul_li, lt_ii, le_ii, gt_ii, ge_ii, eq_ii, ne_ii, eq_ss, ne_ss, Mini.is_none, Mini.isnot_none, len_l, len_t, abs_i, int_i, int_b, tuple_l, tuple_t, list_l, list_t, max_ii, min_ii, isi_int, isi_bool, isi_tup, isi_str, isi_lst, isIntD, isBoolD, isStrD, isTupD, isLstD, ix_l, ix_t, at_0, seq_l, seq_t, lstOf_l, rng1_i, rng2_i, optInt_n, optInt_i, sl_l, sl_t, mapM_nil, mapM_cons, at_1, at_2, at_3, at_4, Option.map_some, List.map_cons, List.map_nil, List.cons_append, List.nil_append, List.append_nil, List.length_cons, List.length_nil, List.set_cons_zero, List.set_cons_succ, List.take_length, List.replicate_succ, List.replicate_zero, sz, decide_eq_true_eq, Nat.zero_add, Nat.reduceAdd, Nat.reduceLeDiff, true_and, and_true, Nat.sub_self, Nat.reduceSub, gl, glVals, List.getElem?_cons_zero, List.getElem?_cons_succ, Bool.not_true, Bool.not_false, List.length_map]
    refine ⟨by omega, ?_⟩
    refine .of_eq (lc_mapm _ (fun q : Int × List (List Int) => .tuple [fr q.1 S, rowD (q.2.getD i [])]) fun q hq => ?_) ?_
    · obtain ⟨h3, h4⟩ := h.tb q hq
      have e3 : q.2[i]? = some (q.2.getD i []) := by rw [List.getD_eq_getElem?_getD, List.getElem?_eq_getElem (by omega)]; rfl
      unfold tabD
      simp only [↓rSs_cons, ↓rSs_nil, ↓rS_asg, ↓rS_tup, ↓rS_par, ↓rS_bxa, ↓rS_app, ↓rS_set, ↓rS_aug, ↓rS_ret, ↓rS_retN, ↓rS_ife, ↓rS_for, ↓rS_while, ↓rS_pass, ↓rS_brk, ↓rS_cont, ↓rS_expr, ↓rE_var, ↓rE_cst, ↓rE_glb, ↓rE_bin, ↓rE_neg, ↓rE_not, ↓rE_cmp, ↓rE_chain, ↓rE_and, ↓rE_or, ↓rE_ife, ↓rE_call, ↓rE_b1, ↓rE_b2, ↓rE_isi, ↓rE_ix, ↓rE_sl, ↓rE_tup, ↓rE_lst, ↓rE_lc, ↓rEs_nil, ↓rEs_cons, ↓rEo_no, ↓rEo_so, ↓rC_no, ↓rC_so, ↓rI_sq, ↓rI_r1, ↓rI_r2, ↓rI_zip, ↓rI_enu, after_nx, after_rt, after_bk, after_ct, Run.some, Run.none, Run.map, Run.ifn, RunIf.tt, RunIf.ff, RunIf.not_, w_d, R.norm_d, R.norm_w, R.norm_l, peek_d, toD_d, tst_b, tst_i, tst_l, tst_t, tst_n, slot_0, slot_s, mkW_f, mkW_t, toBx_b, toInt_i, augV_a, augV_s, retR_d, retR_rd, retR_f, endOf_d, endOf_rd, endOf_f, endOf_n, geOf_glob, retR_b, lstAt_last, set_last, peek_last, foAt_last, take_last, bind_nm, bind_tp, setAll_nil, setAll_cons, wipe_nil, wipe_cons, add_ii, sub_ii, add_ll, add_tt, mul_li, lt_ii, le_ii, gt_ii, ge_ii, eq_ii, ne_ii, eq_ss, ne_ss, Mini.is_none, Mini.isnot_none, len_l, len_t, abs_i, int_i, int_b, tuple_l, tuple_t, list_l, list_t, max_ii, min_ii, isi_int, isi_bool, isi_tup, isi_str, isi_lst, isIntD, isBoolD, isStrD, isTupD, isLstD, ix_l, ix_t, at_0, seq_l, seq_t, lstOf_l, rng1_i, rng2_i, optInt_n, optInt_i, sl_l, sl_t, mapM_nil, mapM_cons, at_1, at_2, at_3, at_4, Option.map_some, List.map_cons, List.map_nil, List.cons_append, List.nil_append, List.append_nil, List.length_cons, List.length_nil, List.set_cons_zero, List.set_cons_succ, List.take_length, List.replicate_succ, List.replicate_zero, sz, decide_eq_true_eq, Nat.zero_add, Nat.reduceAdd, Nat.reduceLeDiff, true_and, and_true, Nat.sub_self, Nat.reduceSub, gl, glVals, List.getElem?_cons_zero, List.getElem?_cons_succ, Bool.not_true, Bool.not_false, at_map e3]
    have e4 : (M.map fun q => PyData.tuple [fr q.1 S, rowD (q.2.getD i [])]) = lotR S (colR M i) := by
      unfold lotR colR
      rw [List.map_map]
      rfl
    have e : atD (lotR S (colR M i)) 0 = atD (lotR S (colR M i)) 0 := rfl
    have e : atD (M.map fun q => PyData.tuple [fr q.1 S, tabD q.2]) 0 = some (.tuple [fr q0.1 S, tabD q0.2]) := at_map0 hq0
    rw [e4]
    simp only [↓rSs_cons, ↓rSs_nil, ↓rS_asg, ↓rS_tup, ↓rS_par, ↓rS_bxa, ↓rS_app, ↓rS_set, ↓rS_aug, ↓rS_ret, ↓rS_retN, ↓rS_ife, ↓rS_for, ↓rS_while, ↓rS_pass, ↓rS_brk, ↓rS_cont, ↓rS_expr, ↓rE_var, ↓rE_cst, ↓rE_glb, ↓rE_bin, ↓rE_neg, ↓rE_not, ↓rE_cmp, ↓rE_chain, ↓rE_and, ↓rE_or, ↓rE_ife, ↓rE_call, ↓rE_b1, ↓rE_b2, ↓rE_isi, ↓rE_ix, ↓rE_sl, ↓rE_tup, ↓rE_lst, ↓rE_lc, ↓rEs_nil, ↓rEs_cons, ↓rEo_no, ↓rEo_so, ↓rC_no, ↓rC_so, ↓rI_sq, ↓rI_r1, ↓rI_r2, ↓rI_zip, ↓rI_enu, after_nx, after_rt, after_bk, after_ct, Run.some, Run.none, Run.map, Run.ifn, RunIf.tt, RunIf.ff, RunIf.not_, w_d, R.norm_d, R.norm_w, R.norm_l, peek_d, toD_d, tst_b, tst_i, tst_l, tst_t, tst_n, slot_0, slot_s, mkW_f, mkW_t, toBx_b, toInt_i, augV_a, augV_s, retR_d, retR_rd, retR_f, endOf_d, endOf_rd, endOf_f, endOf_n, geOf_glob, retR_b, lstAt_last, set_last, peek_last, foAt_last, take_last, bind_nm, bind_tp, setAll_nil, setAll_cons, wipe_nil, wipe_cons, add_ii, sub_ii, add_ll, add_tt, mul_li, lt_ii, le_ii, gt_ii, ge_ii, eq_ii, ne_ii, eq_ss, ne_ss, Mini.is_none, Mini.isnot_none, len_l, len_t, abs_i, int_i, int_b, tuple_l, tuple_t, list_l, list_t, max_ii, min_ii, isi_int, isi_bool, isi_tup, isi_str, isi_lst, isIntD, isBoolD, isStrD, isTupD, isLstD, ix_l, ix_t, at_0, seq_l, seq_t, lstOf_l, rng1_i, rng2_i, optInt_n, optInt_i, sl_l, sl_t, mapM_nil, mapM_cons, at_1, at_2, at_3, at_4, Option.map_some, List.map_cons, List.map_nil, List.cons_append, List.nil_append, List.append_nil, List.length_cons, List.length_nil, List.set_cons_zero, List.set_cons_succ, List.take_length, List.replicate_succ, List.replicate_zero, sz, decide_eq_true_eq, Nat.zero_add, Nat.reduceAdd, Nat.reduceLeDiff, true_and, and_true, Nat.sub_self, Nat.reduceSub, gl, glVals, List.getElem?_cons_zero, List.getElem?_cons_succ, Bool.not_true, Bool.not_false, lt_made_x (X := .list (lotR S (colR M i))) (h.rows hi) rfl, List.length_take, e, e2 q0.2, at_map0 hr00, e6 r0, List.length_map, hw0]
    have hlen : (madeT S r w M).length = r := by unfold madeT; simp
    refine ⟨by omega, _, _, _, ?_, rfl⟩
    have e5 : (madeT S r w M)[i]? = some (.tuple ((accN w (colR M i)).map (fr · S))) := by
      unfold madeT
      rw [List.getElem?_map, List.getElem?_range hi]
      rfl
    rw [List.take_add_one, e5]
    rfl
  · rintro ρ μ' ⟨x1, x2, x3, rfl, rfl⟩
    have hlen : (madeT S r w M).length = r := by unfold madeT; simp
    simp only [↓rSs_cons, ↓rSs_nil, ↓rS_asg, ↓rS_tup, ↓rS_par, ↓rS_bxa, ↓rS_app, ↓rS_set, ↓rS_aug, ↓rS_ret, ↓rS_retN, ↓rS_ife, ↓rS_for, ↓rS_while, ↓rS_pass, ↓rS_brk, ↓rS_cont, ↓rS_expr, ↓rE_var, ↓rE_cst, ↓rE_glb, ↓rE_bin, ↓rE_neg, ↓rE_not, ↓rE_cmp, ↓rE_chain, ↓rE_and, ↓rE_or, ↓rE_ife, ↓rE_call, ↓rE_b1, ↓rE_b2, ↓rE_isi, ↓rE_ix, ↓rE_sl, ↓rE_tup, ↓rE_lst, ↓rE_lc, ↓rEs_nil, ↓rEs_cons, ↓rEo_no, ↓rEo_so, ↓rC_no, ↓rC_so, ↓rI_sq, ↓rI_r1, ↓rI_r2, ↓rI_zip, ↓rI_enu, after_nx, after_rt, after_bk, after_ct, Run.some, Run.none, Run.map, Run.ifn, RunIf.tt, RunIf.ff, RunIf.not_, w_d, R.norm_d, R.norm_w, R.norm_l, peek_d, toD_d, tst_b, tst_i, tst_l, tst_t, tst_n, slot_0, slot_s, mkW_f, mkW_t, toBx_b, toInt_i, augV_a, augV_s, retR_d, retR_rd, retR_f, endOf_d, endOf_rd, endOf_f, endOf_n, geOf_glob, retR_b, lstAt_last, set_last, peek_last, foAt_last, take_last, bind_nm, bind_tp, setAll_nil, setAll_cons, wipe_nil, wipe_cons, add_ii, sub_ii, add_ll, add_tt, mul_li, lt_ii, le_ii, gt_ii, ge_ii, eq_ii, ne_ii, eq_ss, ne_ss, Mini.is_none, Mini.isnot_none, len_l, len_t, abs_i, int_i, int_b, tuple_l, tuple_t, list_l, list_t, max_ii, min_ii, isi_int, isi_bool, isi_tup, isi_str, isi_lst, isIntD, isBoolD, isStrD, isTupD, isLstD, ix_l, ix_t, at_0, seq_l, seq_t, lstOf_l, rng1_i, rng2_i, optInt_n, optInt_i, sl_l, sl_t, mapM_nil, mapM_cons, at_1, at_2, at_3, at_4, Option.map_some, List.map_cons, List.map_nil, List.cons_append, List.nil_append, List.append_nil, List.length_cons, List.length_nil, List.set_cons_zero, List.set_cons_succ, List.take_length, List.replicate_succ, List.replicate_zero, sz, decide_eq_true_eq, Nat.zero_add, Nat.reduceAdd, Nat.reduceLeDiff, true_and, and_true, Nat.sub_self, Nat.reduceSub, gl, glVals, List.getElem?_cons_zero, List.getElem?_cons_succ, Bool.not_true, Bool.not_false]
    rw [range_len, List.take_of_length_le (by omega)]
end
end K85
end
section
set_option Elab.async false
set_option linter.all false
set_option maxRecDepth 100000
set_option maxHeartbeats 1000000
open Mini PySem
namespace K85
def pick (a b S : Int) : Int → List (Int × D) → Option D
  | _, [] => none
  | T, q :: r => if a * S < (T + q.1) * b then some q.2 else pick a b S (T + q.1) r
theorem pick_some {a b S : Int} (hS : 0 < S) (h : a < b) : ∀ {L : List (Int × D)} {T : Int}, L ≠ [] → T + (L.map (·.1)).sum = S → ∃ m, pick a b S T L = some m
  | [], _, h0, _ => absurd rfl h0
  | q :: r, T, _, hs => by
    unfold pick
    split
    · exact ⟨_, rfl⟩
    · rename_i hn
      rw [List.map_cons, List.sum_cons] at hs
      cases r with
      | nil =>
        simp at hs
        exfalso
        apply hn
        rw [hs, Int.mul_comm S b]
        exact Int.mul_lt_mul_of_pos_right h hS
      | cons q2 r2 => exact pick_some hS h (by simp) (by rw [← hs]; omega)
theorem nm_nonneg {a b : Int} (hb : 0 < b) (ha : 0 ≤ a) : 0 ≤ nm a b := by
  have e := nm_mul (a := a) (b := b)
  have g := gcd_pos (a := a) hb
  rcases Int.lt_or_le (nm a b) 0 with z | z
  · have := Int.mul_neg_of_neg_of_pos z g
    omega
  · exact z
theorem nm_lt {a b : Int} (hb : 0 < b) (h : a < b) : nm a b < nm b a := by
  have e1 := nm_mul (a := a) (b := b)
  have e2 := dn_mul (a := a) (b := b)
  have g := gcd_pos (a := a) hb
  exact Int.lt_of_mul_lt_mul_right (a := (Int.gcd a b : Int)) (by rw [e1, e2]; exact h) (Int.le_of_lt g)
section
variable {n : Nat} {μ : Store} {S a b : Int} {L : List (Int × D)} {m : D}
theorem drawn_in_f (h : Wts S (L.map (·.1))) (hb : 0 < b) (ha : Bt 4000 a) (hb' : Bt 4000 b) (hp : pick a b S 0 L = some m) : (G (n + 4)).fn 20 [.d (.tuple (lotL S L)), .d (fr a b)] μ = some (rd m, μ) := by
  apply Run.eq
  have hS := h.S_pos
  refine run_fn (bd := b_drawn_in) rfl rfl ?_; unfold b_drawn_in; simp only [List.map_cons, List.map_nil, List.cons_append, List.nil_append, List.append_nil, List.replicate_succ, List.replicate_zero, Nat.reduceSub]
  simp only [↓rSs_cons, ↓rSs_nil, ↓rS_asg, ↓rS_tup, ↓rS_par, ↓rS_bxa, ↓rS_app, ↓rS_set, ↓rS_aug, ↓rS_ret, ↓rS_retN, ↓rS_ife, ↓rS_for, ↓rS_while, ↓rS_pass, ↓rS_brk, ↓rS_cont, ↓rS_expr, ↓rE_var, ↓rE_cst, ↓rE_glb, ↓rE_bin, ↓rE_neg, ↓rE_not, ↓rE_cmp, ↓rE_chain, ↓rE_and, ↓rE_or, ↓rE_ife, ↓rE_call, ↓rE_b1, ↓rE_b2, ↓rE_isi, ↓rE_ix, ↓rE_sl, ↓rE_tup, ↓rE_lst, ↓rE_lc, ↓rEs_nil, ↓rEs_cons, ↓rEo_no, ↓rEo_so, ↓rC_no, ↓rC_so, ↓rI_sq, ↓rI_r1, ↓rI_r2, ↓rI_zip, ↓rI_enu, after_nx, after_rt, after_bk, after_ct, Run.some, Run.none, Run.map, Run.ifn, RunIf.tt, RunIf.ff, RunIf.not_, w_d, R.norm_d, R.norm_w, R.norm_l, peek_d, toD_d, tst_b, tst_i, tst_l, tst_t, tst_n, slot_0, slot_s, mkW_f, mkW_t, toBx_b, toInt_i, augV_a, augV_s, retR_d, retR_rd, retR_f, endOf_d, endOf_rd, endOf_f, endOf_n, geOf_glob, retR_b, lstAt_last, set_last, peek_last, foAt_last, take_last, bind_nm, bind_tp, setAll_nil, setAll_cons, wipe_nil, wipe_cons, add_ii, sub_ii, add_ll, add_tt, mul_li, lt_ii, le_ii, gt_ii, ge_ii, eq_ii, ne_ii, eq_ss, ne_ss, Mini.is_none, Mini.isnot_none, len_l, len_t, abs_i, int_i, int_b, tuple_l, tuple_t, list_l, list_t, max_ii, min_ii, isi_int, isi_bool, isi_tup, isi_str, isi_lst, isIntD, isBoolD, isStrD, isTupD, isLstD, ix_l, ix_t, at_0, seq_l, seq_t, lstOf_l, rng1_i, rng2_i, optInt_n, optInt_i, sl_l, sl_t, mapM_nil, mapM_cons, at_1, at_2, at_3, at_4, Option.map_some, List.map_cons, List.map_nil, List.cons_append, List.nil_append, List.append_nil, List.length_cons, List.length_nil, List.set_cons_zero, List.set_cons_succ, List.take_length, List.replicate_succ, List.replicate_zero, sz, decide_eq_true_eq, Nat.zero_add, Nat.reduceAdd, Nat.reduceLeDiff, true_and, and_true, Nat.sub_self, Nat.reduceSub, gl, glVals, List.getElem?_cons_zero, List.getElem?_cons_succ, Bool.not_true, Bool.not_false]
  rw [← fr_zero hS]
  unfold lotL
  refine for_inv (fun i ρ μ' => μ' = μ ∧ ∃ x y, ρ = [some (.d (.tuple (lotL S L))), some (.d (fr a b)), some (.d (fr ((L.map (·.1)).take i).sum S)), x, y] ∧ pick a b S ((L.map (·.1)).take i).sum (L.drop i) = some m) ⟨rfl, none, none, rfl, hp⟩ ?_ ?_
  · rintro i x hx ρ μ' ⟨rfl, x1, x2, rfl, hk⟩
    rw [List.getElem?_map] at hx
    obtain ⟨q, hq, rfl⟩ := Option.map_eq_some_iff.mp hx
    have hm : q.1 ∈ L.map (·.1) := List.mem_map_of_mem (List.mem_of_getElem? hq)
    have hlt := (List.getElem?_eq_some_iff.mp hq).1
    have hq' : L[i] = q := (List.getElem?_eq_some_iff.mp hq).2
    rw [List.drop_eq_getElem_cons hlt, hq'] at hk
    unfold pick at hk
    have ht := take_succ_sum (ps := L.map (·.1)) (i := i) (p := q.1) (by rw [List.getElem?_map, hq]; rfl)
    simp only [↓rSs_cons, ↓rSs_nil, ↓rS_asg, ↓rS_tup, ↓rS_par, ↓rS_bxa, ↓rS_app, ↓rS_set, ↓rS_aug, ↓rS_ret, ↓rS_retN, ↓rS_ife, ↓rS_for, ↓rS_while, ↓rS_pass, ↓rS_brk, ↓rS_cont, ↓rS_expr, ↓rE_var, ↓rE_cst, ↓rE_glb, ↓rE_bin, ↓rE_neg, ↓rE_not, ↓rE_cmp, ↓rE_chain, ↓rE_and, ↓rE_or, ↓rE_ife, ↓rE_call, ↓rE_b1, ↓rE_b2, ↓rE_isi, ↓rE_ix, ↓rE_sl, ↓rE_tup, ↓rE_lst, ↓rE_lc, ↓rEs_nil, ↓rEs_cons, ↓rEo_no, ↓rEo_so, ↓rC_no, ↓rC_so, ↓rI_sq, ↓rI_r1, ↓rI_r2, ↓rI_zip, ↓rI_enu, after_nx, after_rt, after_bk, after_ct, Run.some, Run.none, Run.map, Run.ifn, RunIf.tt, RunIf.ff, RunIf.not_, w_d, R.norm_d, R.norm_w, R.norm_l, peek_d, toD_d, tst_b, tst_i, tst_l, tst_t, tst_n, slot_0, slot_s, mkW_f, mkW_t, toBx_b, toInt_i, augV_a, augV_s, retR_d, retR_rd, retR_f, endOf_d, endOf_rd, endOf_f, endOf_n, geOf_glob, retR_b, lstAt_last, set_last, peek_last, foAt_last, take_last, bind_nm, bind_tp, setAll_nil, setAll_cons, wipe_nil, wipe_cons, add_ii, sub_ii, add_ll, add_tt, mul_li, lt_ii, le_ii, gt_ii, ge_ii, eq_ii, ne_ii, eq_ss, ne_ss, Mini.is_none, Mini.isnot_none, len_l, len_t, abs_i, int_i, int_b, tuple_l, tuple_t, list_l, list_t, max_ii, min_ii, isi_int, isi_bool, isi_tup, isi_str, isi_lst, isIntD, isBoolD, isStrD, isTupD, isLstD, ix_l, ix_t, at_0, seq_l, seq_t, lstOf_l, rng1_i, rng2_i, optInt_n, optInt_i, sl_l, sl_t, mapM_nil, mapM_cons, at_1, at_2, at_3, at_4, Option.map_some, List.map_cons, List.map_nil, List.cons_append, List.nil_append, List.append_nil, List.length_cons, List.length_nil, List.set_cons_zero, List.set_cons_succ, List.take_length, List.replicate_succ, List.replicate_zero, sz, decide_eq_true_eq, Nat.zero_add, Nat.reduceAdd, Nat.reduceLeDiff, true_and, and_true, Nat.sub_self, Nat.reduceSub, gl, glVals, List.getElem?_cons_zero, List.getElem?_cons_succ, Bool.not_true, Bool.not_false, plus_S hS (b1000 (h.t_bt i)) (b1000 h.bt) (b1000 (h.p_bt hm)), ← ht, is_less_f hb hS ha hb' (b1000 (h.t_bt (i + 1))) (b1000 h.bt)]
    refine .dec (fun hc => ?_) fun hc => ?_
    · rw [ht] at hc
      rw [if_pos hc] at hk
      cases hk
      simp only [↓rSs_cons, ↓rSs_nil, ↓rS_asg, ↓rS_tup, ↓rS_par, ↓rS_bxa, ↓rS_app, ↓rS_set, ↓rS_aug, ↓rS_ret, ↓rS_retN, ↓rS_ife, ↓rS_for, ↓rS_while, ↓rS_pass, ↓rS_brk, ↓rS_cont, ↓rS_expr, ↓rE_var, ↓rE_cst, ↓rE_glb, ↓rE_bin, ↓rE_neg, ↓rE_not, ↓rE_cmp, ↓rE_chain, ↓rE_and, ↓rE_or, ↓rE_ife, ↓rE_call, ↓rE_b1, ↓rE_b2, ↓rE_isi, ↓rE_ix, ↓rE_sl, ↓rE_tup, ↓rE_lst, ↓rE_lc, ↓rEs_nil, ↓rEs_cons, ↓rEo_no, ↓rEo_so, ↓rC_no, ↓rC_so, ↓rI_sq, ↓rI_r1, ↓rI_r2, ↓rI_zip, ↓rI_enu, after_nx, after_rt, after_bk, after_ct, Run.some, Run.none, Run.map, Run.ifn, RunIf.tt, RunIf.ff, RunIf.not_, w_d, R.norm_d, R.norm_w, R.norm_l, peek_d, toD_d, tst_b, tst_i, tst_l, tst_t, tst_n, slot_0, slot_s, mkW_f, mkW_t, toBx_b, toInt_i, augV_a, augV_s, retR_d, retR_rd, retR_f, endOf_d, endOf_rd, endOf_f, endOf_n, geOf_glob, retR_b, lstAt_last, set_last, peek_last, foAt_last, take_last, bind_nm, bind_tp, setAll_nil, setAll_cons, wipe_nil, wipe_cons, add_ii, sub_ii, add_ll, add_tt, mul_li, lt_ii, le_ii, gt_ii, ge_ii, eq_ii, ne_ii, eq_ss, ne_ss, Mini.is_none, Mini.isnot_none, len_l, len_t, abs_i, int_i, int_b, tuple_l, tuple_t, list_l, list_t, max_ii, min_ii, isi_int, isi_bool, isi_tup, isi_str, isi_lst, isIntD, isBoolD, isStrD, isTupD, isLstD, ix_l, ix_t, at_0, seq_l, seq_t, lstOf_l, rng1_i, rng2_i, optInt_n, optInt_i, sl_l, sl_t, mapM_nil, mapM_cons, at_1, at_2, at_3, at_4, Option.map_some, List.map_cons, List.map_nil, List.cons_append, List.nil_append, List.append_nil, List.length_cons, List.length_nil, List.set_cons_zero, List.set_cons_succ, List.take_length, List.replicate_succ, List.replicate_zero, sz, decide_eq_true_eq, Nat.zero_add, Nat.reduceAdd, Nat.reduceLeDiff, true_and, and_true, Nat.sub_self, Nat.reduceSub, gl, glVals, List.getElem?_cons_zero, List.getElem?_cons_succ, Bool.not_true, Bool.not_false]
    · rw [ht] at hc
      rw [if_neg hc, ← ht] at hk
      simp only [↓rSs_cons, ↓rSs_nil, ↓rS_asg, ↓rS_tup, ↓rS_par, ↓rS_bxa, ↓rS_app, ↓rS_set, ↓rS_aug, ↓rS_ret, ↓rS_retN, ↓rS_ife, ↓rS_for, ↓rS_while, ↓rS_pass, ↓rS_brk, ↓rS_cont, ↓rS_expr, ↓rE_var, ↓rE_cst, ↓rE_glb, ↓rE_bin, ↓rE_neg, ↓rE_not, ↓rE_cmp, ↓rE_chain, ↓rE_and, ↓rE_or, ↓rE_ife, ↓rE_call, ↓rE_b1, ↓rE_b2, ↓rE_isi, ↓rE_ix, ↓rE_sl, ↓rE_tup, ↓rE_lst, ↓rE_lc, ↓rEs_nil, ↓rEs_cons, ↓rEo_no, ↓rEo_so, ↓rC_no, ↓rC_so, ↓rI_sq, ↓rI_r1, ↓rI_r2, ↓rI_zip, ↓rI_enu, after_nx, after_rt, after_bk, after_ct, Run.some, Run.none, Run.map, Run.ifn, RunIf.tt, RunIf.ff, RunIf.not_, w_d, R.norm_d, R.norm_w, R.norm_l, peek_d, toD_d, tst_b, tst_i, tst_l, tst_t, tst_n, slot_0, slot_s, mkW_f, mkW_t, toBx_b, toInt_i, augV_a, augV_s, retR_d, retR_rd, retR_f, endOf_d, endOf_rd, endOf_f, endOf_n, geOf_glob, retR_b, lstAt_last, set_last, peek_last, foAt_last, take_last, bind_nm, bind_tp, setAll_nil, setAll_cons, wipe_nil, wipe_cons, add_ii, sub_ii, add_ll, add_tt, mul_li, lt_ii, le_ii, gt_ii, ge_ii, eq_ii, ne_ii, eq_ss, ne_ss, Mini.is_none, Mini.isnot_none, len_l, len_t, abs_i, int_i, int_b, tuple_l, tuple_t, list_l, list_t, max_ii, min_ii, isi_int, isi_bool, isi_tup, isi_str, isi_lst, isIntD, isBoolD, isStrD, isTupD, isLstD, ix_l, ix_t, at_0, seq_l, seq_t, lstOf_l, rng1_i, rng2_i, optInt_n, optInt_i, sl_l, sl_t, mapM_nil, mapM_cons, at_1, at_2, at_3, at_4, Option.map_some, List.map_cons, List.map_nil, List.cons_append, List.nil_append, List.append_nil, List.length_cons, List.length_nil, List.set_cons_zero, List.set_cons_succ, List.take_length, List.replicate_succ, List.replicate_zero, sz, decide_eq_true_eq, Nat.zero_add, Nat.reduceAdd, Nat.reduceLeDiff, true_and, and_true, Nat.sub_self, Nat.reduceSub, gl, glVals, List.getElem?_cons_zero, List.getElem?_cons_succ, Bool.not_true, Bool.not_false]
      exact ⟨_, _, rfl, hk⟩
  · rintro ρ μ' ⟨rfl, x1, x2, rfl, hk⟩
    rw [List.length_map, List.drop_of_length_le (Nat.le_refl _)] at hk
    cases hk
theorem ldrawn_f (h : Wts S (L.map (·.1))) (hb : 0 < b) (ha : Bt 4000 a) (hb' : Bt 4000 b) (hp : pick a b S 0 L = some m) : (G (n + 4)).fn 35 [.d (.tuple (lotL S L)), .d (fr a b)] μ = some (rd m, μ) := by
  apply Run.eq
  have hS := h.S_pos
  refine run_fn (bd := b_law_drawn) rfl rfl ?_; unfold b_law_drawn; simp only [List.map_cons, List.map_nil, List.cons_append, List.nil_append, List.append_nil, List.replicate_succ, List.replicate_zero, Nat.reduceSub]
  simp only [↓rSs_cons, ↓rSs_nil, ↓rS_asg, ↓rS_tup, ↓rS_par, ↓rS_bxa, ↓rS_app, ↓rS_set, ↓rS_aug, ↓rS_ret, ↓rS_retN, ↓rS_ife, ↓rS_for, ↓rS_while, ↓rS_pass, ↓rS_brk, ↓rS_cont, ↓rS_expr, ↓rE_var, ↓rE_cst, ↓rE_glb, ↓rE_bin, ↓rE_neg, ↓rE_not, ↓rE_cmp, ↓rE_chain, ↓rE_and, ↓rE_or, ↓rE_ife, ↓rE_call, ↓rE_b1, ↓rE_b2, ↓rE_isi, ↓rE_ix, ↓rE_sl, ↓rE_tup, ↓rE_lst, ↓rE_lc, ↓rEs_nil, ↓rEs_cons, ↓rEo_no, ↓rEo_so, ↓rC_no, ↓rC_so, ↓rI_sq, ↓rI_r1, ↓rI_r2, ↓rI_zip, ↓rI_enu, after_nx, after_rt, after_bk, after_ct, Run.some, Run.none, Run.map, Run.ifn, RunIf.tt, RunIf.ff, RunIf.not_, w_d, R.norm_d, R.norm_w, R.norm_l, peek_d, toD_d, tst_b, tst_i, tst_l, tst_t, tst_n, slot_0, slot_s, mkW_f, mkW_t, toBx_b, toInt_i, augV_a, augV_s, retR_d, retR_rd, retR_f, endOf_d, endOf_rd, endOf_f, endOf_n, geOf_glob, retR_b, lstAt_last, set_last, peek_last, foAt_last, take_last, bind_nm, bind_tp, setAll_nil, setAll_cons, wipe_nil, wipe_cons, add_ii, sub_ii, add_ll, add_tt, mul_li, lt_ii, le_ii, gt_ii, ge_ii, eq_ii, ne_ii, eq_ss, ne_ss, Mini.is_none, Mini.isnot_none, len_l, len_t, abs_i, int_i, int_b, tuple_l, tuple_t, list_l, list_t, max_ii, min_ii, isi_int, isi_bool, isi_tup, isi_str, isi_lst, isIntD, isBoolD, isStrD, isTupD, isLstD, ix_l, ix_t, at_0, seq_l, seq_t, lstOf_l, rng1_i, rng2_i, optInt_n, optInt_i, sl_l, sl_t, mapM_nil, mapM_cons, at_1, at_2, at_3, at_4, Option.map_some, List.map_cons, List.map_nil, List.cons_append, List.nil_append, List.append_nil, List.length_cons, List.length_nil, List.set_cons_zero, List.set_cons_succ, List.take_length, List.replicate_succ, List.replicate_zero, sz, decide_eq_true_eq, Nat.zero_add, Nat.reduceAdd, Nat.reduceLeDiff, true_and, and_true, Nat.sub_self, Nat.reduceSub, gl, glVals, List.getElem?_cons_zero, List.getElem?_cons_succ, Bool.not_true, Bool.not_false]
  rw [← fr_zero hS]
  unfold lotL
  refine for_inv (fun i ρ μ' => μ' = μ ∧ ∃ x y, ρ = [some (.d (.tuple (lotL S L))), some (.d (fr a b)), some (.d (fr ((L.map (·.1)).take i).sum S)), x, y] ∧ pick a b S ((L.map (·.1)).take i).sum (L.drop i) = some m) ⟨rfl, none, none, rfl, hp⟩ ?_ ?_
  · rintro i x hx ρ μ' ⟨rfl, x1, x2, rfl, hk⟩
    rw [List.getElem?_map] at hx
    obtain ⟨q, hq, rfl⟩ := Option.map_eq_some_iff.mp hx
    have hm : q.1 ∈ L.map (·.1) := List.mem_map_of_mem (List.mem_of_getElem? hq)
    have hlt := (List.getElem?_eq_some_iff.mp hq).1
    have hq' : L[i] = q := (List.getElem?_eq_some_iff.mp hq).2
    rw [List.drop_eq_getElem_cons hlt, hq'] at hk
    unfold pick at hk
    have ht := take_succ_sum (ps := L.map (·.1)) (i := i) (p := q.1) (by rw [List.getElem?_map, hq]; rfl)
    simp only [↓rSs_cons, ↓rSs_nil, ↓rS_asg, ↓rS_tup, ↓rS_par, ↓rS_bxa, ↓rS_app, ↓rS_set, ↓rS_aug, ↓rS_ret, ↓rS_retN, ↓rS_ife, ↓rS_for, ↓rS_while, ↓rS_pass, ↓rS_brk, ↓rS_cont, ↓rS_expr, ↓rE_var, ↓rE_cst, ↓rE_glb, ↓rE_bin, ↓rE_neg, ↓rE_not, ↓rE_cmp, ↓rE_chain, ↓rE_and, ↓rE_or, ↓rE_ife, ↓rE_call, ↓rE_b1, ↓rE_b2, ↓rE_isi, ↓rE_ix, ↓rE_sl, ↓rE_tup, ↓rE_lst, ↓rE_lc, ↓rEs_nil, ↓rEs_cons, ↓rEo_no, ↓rEo_so, ↓rC_no, ↓rC_so, ↓rI_sq, ↓rI_r1, ↓rI_r2, ↓rI_zip, ↓rI_enu, after_nx, after_rt, after_bk, after_ct, Run.some, Run.none, Run.map, Run.ifn, RunIf.tt, RunIf.ff, RunIf.not_, w_d, R.norm_d, R.norm_w, R.norm_l, peek_d, toD_d, tst_b, tst_i, tst_l, tst_t, tst_n, slot_0, slot_s, mkW_f, mkW_t, toBx_b, toInt_i, augV_a, augV_s, retR_d, retR_rd, retR_f, endOf_d, endOf_rd, endOf_f, endOf_n, geOf_glob, retR_b, lstAt_last, set_last, peek_last, foAt_last, take_last, bind_nm, bind_tp, setAll_nil, setAll_cons, wipe_nil, wipe_cons, add_ii, sub_ii, add_ll, add_tt, mul_li, lt_ii, le_ii, gt_ii, ge_ii, eq_ii, ne_ii, eq_ss, ne_ss, Mini.is_none, Mini.isnot_none, len_l, len_t, abs_i, int_i, int_b, tuple_l, tuple_t, list_l, list_t, max_ii, min_ii, isi_int, isi_bool, isi_tup, isi_str, isi_lst, isIntD, isBoolD, isStrD, isTupD, isLstD, ix_l, ix_t, at_0, seq_l, seq_t, lstOf_l, rng1_i, rng2_i, optInt_n, optInt_i, sl_l, sl_t, mapM_nil, mapM_cons, at_1, at_2, at_3, at_4, Option.map_some, List.map_cons, List.map_nil, List.cons_append, List.nil_append, List.append_nil, List.length_cons, List.length_nil, List.set_cons_zero, List.set_cons_succ, List.take_length, List.replicate_succ, List.replicate_zero, sz, decide_eq_true_eq, Nat.zero_add, Nat.reduceAdd, Nat.reduceLeDiff, true_and, and_true, Nat.sub_self, Nat.reduceSub, gl, glVals, List.getElem?_cons_zero, List.getElem?_cons_succ, Bool.not_true, Bool.not_false, lplus_S hS (b1000 (h.t_bt i)) (b1000 h.bt) (b1000 (h.p_bt hm)), ← ht, lless_f hb hS ha hb' (b1000 (h.t_bt (i + 1))) (b1000 h.bt)]
    refine .dec (fun hc => ?_) fun hc => ?_
    · rw [ht] at hc
      rw [if_pos hc] at hk
      cases hk
      simp only [↓rSs_cons, ↓rSs_nil, ↓rS_asg, ↓rS_tup, ↓rS_par, ↓rS_bxa, ↓rS_app, ↓rS_set, ↓rS_aug, ↓rS_ret, ↓rS_retN, ↓rS_ife, ↓rS_for, ↓rS_while, ↓rS_pass, ↓rS_brk, ↓rS_cont, ↓rS_expr, ↓rE_var, ↓rE_cst, ↓rE_glb, ↓rE_bin, ↓rE_neg, ↓rE_not, ↓rE_cmp, ↓rE_chain, ↓rE_and, ↓rE_or, ↓rE_ife, ↓rE_call, ↓rE_b1, ↓rE_b2, ↓rE_isi, ↓rE_ix, ↓rE_sl, ↓rE_tup, ↓rE_lst, ↓rE_lc, ↓rEs_nil, ↓rEs_cons, ↓rEo_no, ↓rEo_so, ↓rC_no, ↓rC_so, ↓rI_sq, ↓rI_r1, ↓rI_r2, ↓rI_zip, ↓rI_enu, after_nx, after_rt, after_bk, after_ct, Run.some, Run.none, Run.map, Run.ifn, RunIf.tt, RunIf.ff, RunIf.not_, w_d, R.norm_d, R.norm_w, R.norm_l, peek_d, toD_d, tst_b, tst_i, tst_l, tst_t, tst_n, slot_0, slot_s, mkW_f, mkW_t, toBx_b, toInt_i, augV_a, augV_s, retR_d, retR_rd, retR_f, endOf_d, endOf_rd, endOf_f, endOf_n, geOf_glob, retR_b, lstAt_last, set_last, peek_last, foAt_last, take_last, bind_nm, bind_tp, setAll_nil, setAll_cons, wipe_nil, wipe_cons, add_ii, sub_ii, add_ll, add_tt, mul_li, lt_ii, le_ii, gt_ii, ge_ii, eq_ii, ne_ii, eq_ss, ne_ss, Mini.is_none, Mini.isnot_none, len_l, len_t, abs_i, int_i, int_b, tuple_l, tuple_t, list_l, list_t, max_ii, min_ii, isi_int, isi_bool, isi_tup, isi_str, isi_lst, isIntD, isBoolD, isStrD, isTupD, isLstD, ix_l, ix_t, at_0, seq_l, seq_t, lstOf_l, rng1_i, rng2_i, optInt_n, optInt_i, sl_l, sl_t, mapM_nil, mapM_cons, at_1, at_2, at_3, at_4, Option.map_some, List.map_cons, List.map_nil, List.cons_append, List.nil_append, List.append_nil, List.length_cons, List.length_nil, List.set_cons_zero, List.set_cons_succ, List.take_length, List.replicate_succ, List.replicate_zero, sz, decide_eq_true_eq, Nat.zero_add, Nat.reduceAdd, Nat.reduceLeDiff, true_and, and_true, Nat.sub_self, Nat.reduceSub, gl, glVals, List.getElem?_cons_zero, List.getElem?_cons_succ, Bool.not_true, Bool.not_false]
    · rw [ht] at hc
      rw [if_neg hc, ← ht] at hk
      simp only [↓rSs_cons, ↓rSs_nil, ↓rS_asg, ↓rS_tup, ↓rS_par, ↓rS_bxa, ↓rS_app, ↓rS_set, ↓rS_aug, ↓rS_ret, ↓rS_retN, ↓rS_ife, ↓rS_for, ↓rS_while, ↓rS_pass, ↓rS_brk, ↓rS_cont, ↓rS_expr, ↓rE_var, ↓rE_cst, ↓rE_glb, ↓rE_bin, ↓rE_neg, ↓rE_not, ↓rE_cmp, ↓rE_chain, ↓rE_and, ↓rE_or, ↓rE_ife, ↓rE_call, ↓rE_b1, ↓rE_b2, ↓rE_isi, ↓rE_ix, ↓rE_sl, ↓rE_tup, ↓rE_lst, ↓rE_lc, ↓rEs_nil, ↓rEs_cons, ↓rEo_no, ↓rEo_so, ↓rC_no, ↓rC_so, ↓rI_sq, ↓rI_r1, ↓rI_r2, ↓rI_zip, ↓rI_enu, after_nx, after_rt, after_bk, after_ct, Run.some, Run.none, Run.map, Run.ifn, RunIf.tt, RunIf.ff, RunIf.not_, w_d, R.norm_d, R.norm_w, R.norm_l, peek_d, toD_d, tst_b, tst_i, tst_l, tst_t, tst_n, slot_0, slot_s, mkW_f, mkW_t, toBx_b, toInt_i, augV_a, augV_s, retR_d, retR_rd, retR_f, endOf_d, endOf_rd, endOf_f, endOf_n, geOf_glob, retR_b, lstAt_last, set_last, peek_last, foAt_last, take_last, bind_nm, bind_tp, setAll_nil, setAll_cons, wipe_nil, wipe_cons, add_ii, sub_ii, add_ll, add_tt, mul_li, lt_ii, le_ii, gt_ii, ge_ii, eq_ii, ne_ii, eq_ss, ne_ss, Mini.is_none, Mini.isnot_none, len_l, len_t, abs_i, int_i, int_b, tuple_l, tuple_t, list_l, list_t, max_ii, min_ii, isi_int, isi_bool, isi_tup, isi_str, isi_lst, isIntD, isBoolD, isStrD, isTupD, isLstD, ix_l, ix_t, at_0, seq_l, seq_t, lstOf_l, rng1_i, rng2_i, optInt_n, optInt_i, sl_l, sl_t, mapM_nil, mapM_cons, at_1, at_2, at_3, at_4, Option.map_some, List.map_cons, List.map_nil, List.cons_append, List.nil_append, List.append_nil, List.length_cons, List.length_nil, List.set_cons_zero, List.set_cons_succ, List.take_length, List.replicate_succ, List.replicate_zero, sz, decide_eq_true_eq, Nat.zero_add, Nat.reduceAdd, Nat.reduceLeDiff, true_and, and_true, Nat.sub_self, Nat.reduceSub, gl, glVals, List.getElem?_cons_zero, List.getElem?_cons_succ, Bool.not_true, Bool.not_false]
      exact ⟨_, _, rfl, hk⟩
  · rintro ρ μ' ⟨rfl, x1, x2, rfl, hk⟩
    rw [List.length_map, List.drop_of_length_le (Nat.le_refl _)] at hk
    cases hk
theorem require_drawing_f (hb : 0 < b) (h0 : 0 ≤ a) (h : a < b) (hn : b < 10 ^ 60) : (G (n + 4)).fn 21 [.d (fr a b)] μ = some (rd .none, μ) := by
  apply Run.eq
  have h1 := nm_nonneg hb h0
  have h2 := nm_lt hb h
  have h3 := dn_abs (a := a) hb
  have hB : Bt 9000 b := Bt.mono (p := 200) (by unfold Bt; omega) (by decide)
  refine run_fn (bd := b_require_drawing) rfl rfl ?_; unfold b_require_drawing; simp only [List.map_cons, List.map_nil, List.cons_append, List.nil_append, List.append_nil, List.replicate_succ, List.replicate_zero, Nat.reduceSub]
  simp only [↓rSs_cons, ↓rSs_nil, ↓rS_asg, ↓rS_tup, ↓rS_par, ↓rS_bxa, ↓rS_app, ↓rS_set, ↓rS_aug, ↓rS_ret, ↓rS_retN, ↓rS_ife, ↓rS_for, ↓rS_while, ↓rS_pass, ↓rS_brk, ↓rS_cont, ↓rS_expr, ↓rE_var, ↓rE_cst, ↓rE_glb, ↓rE_bin, ↓rE_neg, ↓rE_not, ↓rE_cmp, ↓rE_chain, ↓rE_and, ↓rE_or, ↓rE_ife, ↓rE_call, ↓rE_b1, ↓rE_b2, ↓rE_isi, ↓rE_ix, ↓rE_sl, ↓rE_tup, ↓rE_lst, ↓rE_lc, ↓rEs_nil, ↓rEs_cons, ↓rEo_no, ↓rEo_so, ↓rC_no, ↓rC_so, ↓rI_sq, ↓rI_r1, ↓rI_r2, ↓rI_zip, ↓rI_enu, after_nx, after_rt, after_bk, after_ct, Run.some, Run.none, Run.map, Run.ifn, RunIf.tt, RunIf.ff, RunIf.not_, w_d, R.norm_d, R.norm_w, R.norm_l, peek_d, toD_d, tst_b, tst_i, tst_l, tst_t, tst_n, slot_0, slot_s, mkW_f, mkW_t, toBx_b, toInt_i, augV_a, augV_s, retR_d, retR_rd, retR_f, endOf_d, endOf_rd, endOf_f, endOf_n, geOf_glob, retR_b, lstAt_last, set_last, peek_last, foAt_last, take_last, bind_nm, bind_tp, setAll_nil, setAll_cons, wipe_nil, wipe_cons, add_ii, sub_ii, add_ll, add_tt, mul_li, lt_ii, le_ii, gt_ii, ge_ii, eq_ii, ne_ii, eq_ss, ne_ss, Mini.is_none, Mini.isnot_none, len_l, len_t, abs_i, int_i, int_b, tuple_l, tuple_t, list_l, list_t, max_ii, min_ii, isi_int, isi_bool, isi_tup, isi_str, isi_lst, isIntD, isBoolD, isStrD, isTupD, isLstD, ix_l, ix_t, at_0, seq_l, seq_t, lstOf_l, rng1_i, rng2_i, optInt_n, optInt_i, sl_l, sl_t, mapM_nil, mapM_cons, at_1, at_2, at_3, at_4, Option.map_some, List.map_cons, List.map_nil, List.cons_append, List.nil_append, List.append_nil, List.length_cons, List.length_nil, List.set_cons_zero, List.set_cons_succ, List.take_length, List.replicate_succ, List.replicate_zero, sz, decide_eq_true_eq, Nat.zero_add, Nat.reduceAdd, Nat.reduceLeDiff, true_and, and_true, Nat.sub_self, Nat.reduceSub, gl, glVals, List.getElem?_cons_zero, List.getElem?_cons_succ, Bool.not_true, Bool.not_false, is_near_fraction_f (a := a) hb hB (by omega) (by omega)]
  unfold fr
  simp only [↓rSs_cons, ↓rSs_nil, ↓rS_asg, ↓rS_tup, ↓rS_par, ↓rS_bxa, ↓rS_app, ↓rS_set, ↓rS_aug, ↓rS_ret, ↓rS_retN, ↓rS_ife, ↓rS_for, ↓rS_while, ↓rS_pass, ↓rS_brk, ↓rS_cont, ↓rS_expr, ↓rE_var, ↓rE_cst, ↓rE_glb, ↓rE_bin, ↓rE_neg, ↓rE_not, ↓rE_cmp, ↓rE_chain, ↓rE_and, ↓rE_or, ↓rE_ife, ↓rE_call, ↓rE_b1, ↓rE_b2, ↓rE_isi, ↓rE_ix, ↓rE_sl, ↓rE_tup, ↓rE_lst, ↓rE_lc, ↓rEs_nil, ↓rEs_cons, ↓rEo_no, ↓rEo_so, ↓rC_no, ↓rC_so, ↓rI_sq, ↓rI_r1, ↓rI_r2, ↓rI_zip, ↓rI_enu, after_nx, after_rt, after_bk, after_ct, Run.some, Run.none, Run.map, Run.ifn, RunIf.tt, RunIf.ff, RunIf.not_, w_d, R.norm_d, R.norm_w, R.norm_l, peek_d, toD_d, tst_b, tst_i, tst_l, tst_t, tst_n, slot_0, slot_s, mkW_f, mkW_t, toBx_b, toInt_i, augV_a, augV_s, retR_d, retR_rd, retR_f, endOf_d, endOf_rd, endOf_f, endOf_n, geOf_glob, retR_b, lstAt_last, set_last, peek_last, foAt_last, take_last, bind_nm, bind_tp, setAll_nil, setAll_cons, wipe_nil, wipe_cons, add_ii, sub_ii, add_ll, add_tt, mul_li, lt_ii, le_ii, gt_ii, ge_ii, eq_ii, ne_ii, eq_ss, ne_ss, Mini.is_none, Mini.isnot_none, len_l, len_t, abs_i, int_i, int_b, tuple_l, tuple_t, list_l, list_t, max_ii, min_ii, isi_int, isi_bool, isi_tup, isi_str, isi_lst, isIntD, isBoolD, isStrD, isTupD, isLstD, ix_l, ix_t, at_0, seq_l, seq_t, lstOf_l, rng1_i, rng2_i, optInt_n, optInt_i, sl_l, sl_t, mapM_nil, mapM_cons, at_1, at_2, at_3, at_4, Option.map_some, List.map_cons, List.map_nil, List.cons_append, List.nil_append, List.append_nil, List.length_cons, List.length_nil, List.set_cons_zero, List.set_cons_succ, List.take_length, List.replicate_succ, List.replicate_zero, sz, decide_eq_true_eq, Nat.zero_add, Nat.reduceAdd, Nat.reduceLeDiff, true_and, and_true, Nat.sub_self, Nat.reduceSub, gl, glVals, List.getElem?_cons_zero, List.getElem?_cons_succ, Bool.not_true, Bool.not_false]
  refine .pos h1 ?_
  simp only [↓rSs_cons, ↓rSs_nil, ↓rS_asg, ↓rS_tup, ↓rS_par, ↓rS_bxa, ↓rS_app, ↓rS_set, ↓rS_aug, ↓rS_ret, ↓rS_retN, ↓rS_ife, ↓rS_for, ↓rS_while, ↓rS_pass, ↓rS_brk, ↓rS_cont, ↓rS_expr, ↓rE_var, ↓rE_cst, ↓rE_glb, ↓rE_bin, ↓rE_neg, ↓rE_not, ↓rE_cmp, ↓rE_chain, ↓rE_and, ↓rE_or, ↓rE_ife, ↓rE_call, ↓rE_b1, ↓rE_b2, ↓rE_isi, ↓rE_ix, ↓rE_sl, ↓rE_tup, ↓rE_lst, ↓rE_lc, ↓rEs_nil, ↓rEs_cons, ↓rEo_no, ↓rEo_so, ↓rC_no, ↓rC_so, ↓rI_sq, ↓rI_r1, ↓rI_r2, ↓rI_zip, ↓rI_enu, after_nx, after_rt, after_bk, after_ct, Run.some, Run.none, Run.map, Run.ifn, RunIf.tt, RunIf.ff, RunIf.not_, w_d, R.norm_d, R.norm_w, R.norm_l, peek_d, toD_d, tst_b, tst_i, tst_l, tst_t, tst_n, slot_0, slot_s, mkW_f, mkW_t, toBx_b, toInt_i, augV_a, augV_s, retR_d, retR_rd, retR_f, endOf_d, endOf_rd, endOf_f, endOf_n, geOf_glob, retR_b, lstAt_last, set_last, peek_last, foAt_last, take_last, bind_nm, bind_tp, setAll_nil, setAll_cons, wipe_nil, wipe_cons, add_ii, sub_ii, add_ll, add_tt, mul_li, lt_ii, le_ii, gt_ii, ge_ii, eq_ii, ne_ii, eq_ss, ne_ss, Mini.is_none, Mini.isnot_none, len_l, len_t, abs_i, int_i, int_b, tuple_l, tuple_t, list_l, list_t, max_ii, min_ii, isi_int, isi_bool, isi_tup, isi_str, isi_lst, isIntD, isBoolD, isStrD, isTupD, isLstD, ix_l, ix_t, at_0, seq_l, seq_t, lstOf_l, rng1_i, rng2_i, optInt_n, optInt_i, sl_l, sl_t, mapM_nil, mapM_cons, at_1, at_2, at_3, at_4, Option.map_some, List.map_cons, List.map_nil, List.cons_append, List.nil_append, List.append_nil, List.length_cons, List.length_nil, List.set_cons_zero, List.set_cons_succ, List.take_length, List.replicate_succ, List.replicate_zero, sz, decide_eq_true_eq, Nat.zero_add, Nat.reduceAdd, Nat.reduceLeDiff, true_and, and_true, Nat.sub_self, Nat.reduceSub, gl, glVals, List.getElem?_cons_zero, List.getElem?_cons_succ, Bool.not_true, Bool.not_false]
  rw [decide_eq_true h2]
  simp only [↓rSs_cons, ↓rSs_nil, ↓rS_asg, ↓rS_tup, ↓rS_par, ↓rS_bxa, ↓rS_app, ↓rS_set, ↓rS_aug, ↓rS_ret, ↓rS_retN, ↓rS_ife, ↓rS_for, ↓rS_while, ↓rS_pass, ↓rS_brk, ↓rS_cont, ↓rS_expr, ↓rE_var, ↓rE_cst, ↓rE_glb, ↓rE_bin, ↓rE_neg, ↓rE_not, ↓rE_cmp, ↓rE_chain, ↓rE_and, ↓rE_or, ↓rE_ife, ↓rE_call, ↓rE_b1, ↓rE_b2, ↓rE_isi, ↓rE_ix, ↓rE_sl, ↓rE_tup, ↓rE_lst, ↓rE_lc, ↓rEs_nil, ↓rEs_cons, ↓rEo_no, ↓rEo_so, ↓rC_no, ↓rC_so, ↓rI_sq, ↓rI_r1, ↓rI_r2, ↓rI_zip, ↓rI_enu, after_nx, after_rt, after_bk, after_ct, Run.some, Run.none, Run.map, Run.ifn, RunIf.tt, RunIf.ff, RunIf.not_, w_d, R.norm_d, R.norm_w, R.norm_l, peek_d, toD_d, tst_b, tst_i, tst_l, tst_t, tst_n, slot_0, slot_s, mkW_f, mkW_t, toBx_b, toInt_i, augV_a, augV_s, retR_d, retR_rd, retR_f, endOf_d, endOf_rd, endOf_f, endOf_n, geOf_glob, retR_b, lstAt_last, set_last, peek_last, foAt_last, take_last, bind_nm, bind_tp, setAll_nil, setAll_cons, wipe_nil, wipe_cons, add_ii, sub_ii, add_ll, add_tt, mul_li, lt_ii, le_ii, gt_ii, ge_ii, eq_ii, ne_ii, eq_ss, ne_ss, Mini.is_none, Mini.isnot_none, len_l, len_t, abs_i, int_i, int_b, tuple_l, tuple_t, list_l, list_t, max_ii, min_ii, isi_int, isi_bool, isi_tup, isi_str, isi_lst, isIntD, isBoolD, isStrD, isTupD, isLstD, ix_l, ix_t, at_0, seq_l, seq_t, lstOf_l, rng1_i, rng2_i, optInt_n, optInt_i, sl_l, sl_t, mapM_nil, mapM_cons, at_1, at_2, at_3, at_4, Option.map_some, List.map_cons, List.map_nil, List.cons_append, List.nil_append, List.append_nil, List.length_cons, List.length_nil, List.set_cons_zero, List.set_cons_succ, List.take_length, List.replicate_succ, List.replicate_zero, sz, decide_eq_true_eq, Nat.zero_add, Nat.reduceAdd, Nat.reduceLeDiff, true_and, and_true, Nat.sub_self, Nat.reduceSub, gl, glVals, List.getElem?_cons_zero, List.getElem?_cons_succ, Bool.not_true, Bool.not_false]
theorem require_lot_of_f {n : Nat} {F : List D} (h : Lot n μ S L F) : (G (n + 6)).fn 22 [.d (.tuple (lotL S L))] μ = some (rd .none, μ) := by
  apply Run.eq
  refine run_fn (bd := b_require_lot_of) rfl rfl ?_; unfold b_require_lot_of; simp only [List.map_cons, List.map_nil, List.cons_append, List.nil_append, List.append_nil, List.replicate_succ, List.replicate_zero, Nat.reduceSub]
  simp only [↓rSs_cons, ↓rSs_nil, ↓rS_asg, ↓rS_tup, ↓rS_par, ↓rS_bxa, ↓rS_app, ↓rS_set, ↓rS_aug, ↓rS_ret, ↓rS_retN, ↓rS_ife, ↓rS_for, ↓rS_while, ↓rS_pass, ↓rS_brk, ↓rS_cont, ↓rS_expr, ↓rE_var, ↓rE_cst, ↓rE_glb, ↓rE_bin, ↓rE_neg, ↓rE_not, ↓rE_cmp, ↓rE_chain, ↓rE_and, ↓rE_or, ↓rE_ife, ↓rE_call, ↓rE_b1, ↓rE_b2, ↓rE_isi, ↓rE_ix, ↓rE_sl, ↓rE_tup, ↓rE_lst, ↓rE_lc, ↓rEs_nil, ↓rEs_cons, ↓rEo_no, ↓rEo_so, ↓rC_no, ↓rC_so, ↓rI_sq, ↓rI_r1, ↓rI_r2, ↓rI_zip, ↓rI_enu, after_nx, after_rt, after_bk, after_ct, Run.some, Run.none, Run.map, Run.ifn, RunIf.tt, RunIf.ff, RunIf.not_, w_d, R.norm_d, R.norm_w, R.norm_l, peek_d, toD_d, tst_b, tst_i, tst_l, tst_t, tst_n, slot_0, slot_s, mkW_f, mkW_t, toBx_b, toInt_i, augV_a, augV_s, retR_d, retR_rd, retR_f, endOf_d, endOf_rd, endOf_f, endOf_n, geOf_glob, retR_b, lstAt_last, set_last, peek_last, foAt_last, take_last, bind_nm, bind_tp, setAll_nil, setAll_cons, wipe_nil, wipe_cons, add_ii, sub_ii, add_ll, add_tt, mul_li, lt_ii, le_ii, gt_ii, ge_ii, eq_ii, ne_ii, eq_ss, ne_ss, Mini.is_none, Mini.isnot_none, len_l, len_t, abs_i, int_i, int_b, tuple_l, tuple_t, list_l, list_t, max_ii, min_ii, isi_int, isi_bool, isi_tup, isi_str, isi_lst, isIntD, isBoolD, isStrD, isTupD, isLstD, ix_l, ix_t, at_0, seq_l, seq_t, lstOf_l, rng1_i, rng2_i, optInt_n, optInt_i, sl_l, sl_t, mapM_nil, mapM_cons, at_1, at_2, at_3, at_4, Option.map_some, List.map_cons, List.map_nil, List.cons_append, List.nil_append, List.append_nil, List.length_cons, List.length_nil, List.set_cons_zero, List.set_cons_succ, List.take_length, List.replicate_succ, List.replicate_zero, sz, decide_eq_true_eq, Nat.zero_add, Nat.reduceAdd, Nat.reduceLeDiff, true_and, and_true, Nat.sub_self, Nat.reduceSub, gl, glVals, List.getElem?_cons_zero, List.getElem?_cons_succ, Bool.not_true, Bool.not_false, is_lot_of_f h]
theorem drawn_f {n : Nat} {F : List D} (h : Lot n μ S L F) (hb : 0 < b) (h0 : 0 ≤ a) (hl : a < b) (hn : b < 10 ^ 60) (hp : pick a b S 0 L = some m) : (G (n + 7)).fn 23 [.d (.tuple (lotL S L)), .d (fr a b)] μ = some (rd m, μ) := by
  apply Run.eq
  have hB : Bt 4000 b := Bt.mono (p := 200) (by unfold Bt; omega) (by decide)
  have hA : Bt 4000 a := Bt.mono (p := 200) (by unfold Bt; omega) (by decide)
  refine run_fn (bd := b_drawn) rfl rfl ?_; unfold b_drawn; simp only [List.map_cons, List.map_nil, List.cons_append, List.nil_append, List.append_nil, List.replicate_succ, List.replicate_zero, Nat.reduceSub]
  simp only [↓rSs_cons, ↓rSs_nil, ↓rS_asg, ↓rS_tup, ↓rS_par, ↓rS_bxa, ↓rS_app, ↓rS_set, ↓rS_aug, ↓rS_ret, ↓rS_retN, ↓rS_ife, ↓rS_for, ↓rS_while, ↓rS_pass, ↓rS_brk, ↓rS_cont, ↓rS_expr, ↓rE_var, ↓rE_cst, ↓rE_glb, ↓rE_bin, ↓rE_neg, ↓rE_not, ↓rE_cmp, ↓rE_chain, ↓rE_and, ↓rE_or, ↓rE_ife, ↓rE_call, ↓rE_b1, ↓rE_b2, ↓rE_isi, ↓rE_ix, ↓rE_sl, ↓rE_tup, ↓rE_lst, ↓rE_lc, ↓rEs_nil, ↓rEs_cons, ↓rEo_no, ↓rEo_so, ↓rC_no, ↓rC_so, ↓rI_sq, ↓rI_r1, ↓rI_r2, ↓rI_zip, ↓rI_enu, after_nx, after_rt, after_bk, after_ct, Run.some, Run.none, Run.map, Run.ifn, RunIf.tt, RunIf.ff, RunIf.not_, w_d, R.norm_d, R.norm_w, R.norm_l, peek_d, toD_d, tst_b, tst_i, tst_l, tst_t, tst_n, slot_0, slot_s, mkW_f, mkW_t, toBx_b, toInt_i, augV_a, augV_s, retR_d, retR_rd, retR_f, endOf_d, endOf_rd, endOf_f, endOf_n, geOf_glob, retR_b, lstAt_last, set_last, peek_last, foAt_last, take_last, bind_nm, bind_tp, setAll_nil, setAll_cons, wipe_nil, wipe_cons, add_ii, sub_ii, add_ll, add_tt, mul_li, lt_ii, le_ii, gt_ii, ge_ii, eq_ii, ne_ii, eq_ss, ne_ss, Mini.is_none, Mini.isnot_none, len_l, len_t, abs_i, int_i, int_b, tuple_l, tuple_t, list_l, list_t, max_ii, min_ii, isi_int, isi_bool, isi_tup, isi_str, isi_lst, isIntD, isBoolD, isStrD, isTupD, isLstD, ix_l, ix_t, at_0, seq_l, seq_t, lstOf_l, rng1_i, rng2_i, optInt_n, optInt_i, sl_l, sl_t, mapM_nil, mapM_cons, at_1, at_2, at_3, at_4, Option.map_some, List.map_cons, List.map_nil, List.cons_append, List.nil_append, List.append_nil, List.length_cons, List.length_nil, List.set_cons_zero, List.set_cons_succ, List.take_length, List.replicate_succ, List.replicate_zero, sz, decide_eq_true_eq, Nat.zero_add, Nat.reduceAdd, Nat.reduceLeDiff, true_and, and_true, Nat.sub_self, Nat.reduceSub, gl, glVals, List.getElem?_cons_zero, List.getElem?_cons_succ, Bool.not_true, Bool.not_false, require_lot_of_f h, require_drawing_f hb h0 hl hn, drawn_in_f h.w hb hA hB hp]
end
end K85
end
section
set_option Elab.async false
set_option linter.all false
set_option maxRecDepth 100000
set_option maxHeartbeats 1000000
open Mini PySem
namespace K85
section
variable {n : Nat} {μ : Store}
theorem bt_lit {p : Nat} {x : Int} (h : x.natAbs < 2 ^ p) : Bt p x := h
theorem roll_i {j k : Nat} {t : Int} (h : Dice k j μ) (hk : 1 ≤ k) (ht : 0 < t) (hB : Bt 8000 t) :
    ∃ v μ', (G (n + 1)).fn 26 [.bx j, .d (.int t)] μ = some (rd (.int v), μ') ∧ 0 ≤ v ∧ v < t ∧ Rolls 1 j k μ μ' := by
  obtain ⟨a, b, c, h1, h2, h3, h4⟩ := h
  have hl := lst_lt h1
  suffices R : Mini.Run ((G (n + 1)).fn 26 [.bx j, .d (.int t)] μ) fun p => ∃ v, p.1 = rd (.int v) ∧ 0 ≤ v ∧ v < t ∧ Rolls 1 j k μ p.2 by
    obtain ⟨⟨r, μ'⟩, e, v, rfl, q⟩ := R
    exact ⟨v, μ', e, q⟩
  refine run_fn (bd := b_law_roll) rfl rfl ?_; unfold b_law_roll; simp only [List.map_cons, List.map_nil, List.cons_append, List.nil_append, List.append_nil, List.replicate_succ, List.replicate_zero, Nat.reduceSub]
  simp only [↓rSs_cons, ↓rSs_nil, ↓rS_asg, ↓rS_tup, ↓rS_par, ↓rS_bxa, ↓rS_app, ↓rS_set, ↓rS_aug, ↓rS_ret, ↓rS_retN, ↓rS_ife, ↓rS_for, ↓rS_while, ↓rS_pass, ↓rS_brk, ↓rS_cont, ↓rS_expr, ↓rE_var, ↓rE_cst, ↓rE_glb, ↓rE_bin, ↓rE_neg, ↓rE_not, ↓rE_cmp, ↓rE_chain, ↓rE_and, ↓rE_or, ↓rE_ife, ↓rE_call, ↓rE_b1, ↓rE_b2, ↓rE_isi, ↓rE_ix, ↓rE_sl, ↓rE_tup, ↓rE_lst, ↓rE_lc, ↓rEs_nil, ↓rEs_cons, ↓rEo_no, ↓rEo_so, ↓rC_no, ↓rC_so, ↓rI_sq, ↓rI_r1, ↓rI_r2, ↓rI_zip, ↓rI_enu, after_nx, after_rt, after_bk, after_ct, Run.some, Run.none, Run.map, Run.ifn, RunIf.tt, RunIf.ff, RunIf.not_, w_d, R.norm_d, R.norm_w, R.norm_l, peek_d, toD_d, tst_b, tst_i, tst_l, tst_t, tst_n, slot_0, slot_s, mkW_f, mkW_t, toBx_b, toInt_i, augV_a, augV_s, retR_d, retR_rd, retR_f, endOf_d, endOf_rd, endOf_f, endOf_n, geOf_glob, retR_b, lstAt_last, set_last, peek_last, foAt_last, take_last, bind_nm, bind_tp, setAll_nil, setAll_cons, wipe_nil, wipe_cons, add_ii, sub_ii, add_ll, add_tt, mul_li, lt_ii, le_ii, gt_ii, ge_ii, eq_ii, ne_ii, eq_ss, ne_ss, Mini.is_none, Mini.isnot_none, len_l, len_t, abs_i, int_i, int_b, tuple_l, tuple_t, list_l, list_t, max_ii, min_ii, isi_int, isi_bool, isi_tup, isi_str, isi_lst, isIntD, isBoolD, isStrD, isTupD, isLstD, ix_l, ix_t, at_0, seq_l, seq_t, lstOf_l, rng1_i, rng2_i, optInt_n, optInt_i, sl_l, sl_t, mapM_nil, mapM_cons, at_1, at_2, at_3, at_4, Option.map_some, List.map_cons, List.map_nil, List.cons_append, List.nil_append, List.append_nil, List.length_cons, List.length_nil, List.set_cons_zero, List.set_cons_succ, List.take_length, List.replicate_succ, List.replicate_zero, sz, decide_eq_true_eq, Nat.zero_add, Nat.reduceAdd, Nat.reduceLeDiff, true_and, and_true, Nat.sub_self, Nat.reduceSub, gl, glVals, List.getElem?_cons_zero, List.getElem?_cons_succ, Bool.not_true, Bool.not_false, lst_peek h1]
  refine .dec (fun hc => ?_) fun hc => ?_
  · simp only [↓rSs_cons, ↓rSs_nil, ↓rS_asg, ↓rS_tup, ↓rS_par, ↓rS_bxa, ↓rS_app, ↓rS_set, ↓rS_aug, ↓rS_ret, ↓rS_retN, ↓rS_ife, ↓rS_for, ↓rS_while, ↓rS_pass, ↓rS_brk, ↓rS_cont, ↓rS_expr, ↓rE_var, ↓rE_cst, ↓rE_glb, ↓rE_bin, ↓rE_neg, ↓rE_not, ↓rE_cmp, ↓rE_chain, ↓rE_and, ↓rE_or, ↓rE_ife, ↓rE_call, ↓rE_b1, ↓rE_b2, ↓rE_isi, ↓rE_ix, ↓rE_sl, ↓rE_tup, ↓rE_lst, ↓rE_lc, ↓rEs_nil, ↓rEs_cons, ↓rEo_no, ↓rEo_so, ↓rC_no, ↓rC_so, ↓rI_sq, ↓rI_r1, ↓rI_r2, ↓rI_zip, ↓rI_enu, after_nx, after_rt, after_bk, after_ct, Run.some, Run.none, Run.map, Run.ifn, RunIf.tt, RunIf.ff, RunIf.not_, w_d, R.norm_d, R.norm_w, R.norm_l, peek_d, toD_d, tst_b, tst_i, tst_l, tst_t, tst_n, slot_0, slot_s, mkW_f, mkW_t, toBx_b, toInt_i, augV_a, augV_s, retR_d, retR_rd, retR_f, endOf_d, endOf_rd, endOf_f, endOf_n, geOf_glob, retR_b, lstAt_last, set_last, peek_last, foAt_last, take_last, bind_nm, bind_tp, setAll_nil, setAll_cons, wipe_nil, wipe_cons, add_ii, sub_ii, add_ll, add_tt, mul_li, lt_ii, le_ii, gt_ii, ge_ii, eq_ii, ne_ii, eq_ss, ne_ss, Mini.is_none, Mini.isnot_none, len_l, len_t, abs_i, int_i, int_b, tuple_l, tuple_t, list_l, list_t, max_ii, min_ii, isi_int, isi_bool, isi_tup, isi_str, isi_lst, isIntD, isBoolD, isStrD, isTupD, isLstD, ix_l, ix_t, at_0, seq_l, seq_t, lstOf_l, rng1_i, rng2_i, optInt_n, optInt_i, sl_l, sl_t, mapM_nil, mapM_cons, at_1, at_2, at_3, at_4, Option.map_some, List.map_cons, List.map_nil, List.cons_append, List.nil_append, List.append_nil, List.length_cons, List.length_nil, List.set_cons_zero, List.set_cons_succ, List.take_length, List.replicate_succ, List.replicate_zero, sz, decide_eq_true_eq, Nat.zero_add, Nat.reduceAdd, Nat.reduceLeDiff, true_and, and_true, Nat.sub_self, Nat.reduceSub, gl, glVals, List.getElem?_cons_zero, List.getElem?_cons_succ, Bool.not_true, Bool.not_false, lst_peek h1, mod_pos ht, div_pos ht (hB.mono (by decide)), h1, show L2.ixN 3 0 = some 0 from rfl, take_set]
    exact ⟨_, rfl, Int.emod_nonneg _ (by omega), Int.emod_lt_of_pos _ ht, ⟨_, _, _, lst_set hl, Int.ediv_nonneg h2 (by omega), h3, by omega⟩, Fm.set⟩
  · have B1 : Bt 101 (c + 1) := by unfold Bt; omega
    have P1 : (0 : Int) < 2305843009213693951 := by decide
    have P2 : (0 : Int) < 2305843009213693907 := by decide
    have M1 := Int.emod_nonneg (b + 15486209 * (c + 1)) (show (2305843009213693951 : Int) ≠ 0 by decide)
    have M2 := Int.emod_lt_of_pos (b + 15486209 * (c + 1)) P1
    have C1 : Bt 61 ((b + 15486209 * (c + 1)) % 2305843009213693951) := by unfold Bt; omega
    have N1 := Int.emod_nonneg ((b + 15486209 * (c + 1)) % 2305843009213693951 * ((b + 15486209 * (c + 1)) % 2305843009213693951) + 199 * (c + 1)) (show (2305843009213693907 : Int) ≠ 0 by decide)
    have N2 := Int.emod_lt_of_pos ((b + 15486209 * (c + 1)) % 2305843009213693951 * ((b + 15486209 * (c + 1)) % 2305843009213693951) + 199 * (c + 1)) P2
    have C2 : Bt 61 (((b + 15486209 * (c + 1)) % 2305843009213693951 * ((b + 15486209 * (c + 1)) % 2305843009213693951) + 199 * (c + 1)) % 2305843009213693907) := by unfold Bt; omega
    simp only [↓rSs_cons, ↓rSs_nil, ↓rS_asg, ↓rS_tup, ↓rS_par, ↓rS_bxa, ↓rS_app, ↓rS_set, ↓rS_aug, ↓rS_ret, ↓rS_retN, ↓rS_ife, ↓rS_for, ↓rS_while, ↓rS_pass, ↓rS_brk, ↓rS_cont, ↓rS_expr, ↓rE_var, ↓rE_cst, ↓rE_glb, ↓rE_bin, ↓rE_neg, ↓rE_not, ↓rE_cmp, ↓rE_chain, ↓rE_and, ↓rE_or, ↓rE_ife, ↓rE_call, ↓rE_b1, ↓rE_b2, ↓rE_isi, ↓rE_ix, ↓rE_sl, ↓rE_tup, ↓rE_lst, ↓rE_lc, ↓rEs_nil, ↓rEs_cons, ↓rEo_no, ↓rEo_so, ↓rC_no, ↓rC_so, ↓rI_sq, ↓rI_r1, ↓rI_r2, ↓rI_zip, ↓rI_enu, after_nx, after_rt, after_bk, after_ct, Run.some, Run.none, Run.map, Run.ifn, RunIf.tt, RunIf.ff, RunIf.not_, w_d, R.norm_d, R.norm_w, R.norm_l, peek_d, toD_d, tst_b, tst_i, tst_l, tst_t, tst_n, slot_0, slot_s, mkW_f, mkW_t, toBx_b, toInt_i, augV_a, augV_s, retR_d, retR_rd, retR_f, endOf_d, endOf_rd, endOf_f, endOf_n, geOf_glob, retR_b, lstAt_last, set_last, peek_last, foAt_last, take_last, bind_nm, bind_tp, setAll_nil, setAll_cons, wipe_nil, wipe_cons, add_ii, sub_ii, add_ll, add_tt, mul_li, lt_ii, le_ii, gt_ii, ge_ii, eq_ii, ne_ii, eq_ss, ne_ss, Mini.is_none, Mini.isnot_none, len_l, len_t, abs_i, int_i, int_b, tuple_l, tuple_t, list_l, list_t, max_ii, min_ii, isi_int, isi_bool, isi_tup, isi_str, isi_lst, isIntD, isBoolD, isStrD, isTupD, isLstD, ix_l, ix_t, at_0, seq_l, seq_t, lstOf_l, rng1_i, rng2_i, optInt_n, optInt_i, sl_l, sl_t, mapM_nil, mapM_cons, at_1, at_2, at_3, at_4, Option.map_some, List.map_cons, List.map_nil, List.cons_append, List.nil_append, List.append_nil, List.length_cons, List.length_nil, List.set_cons_zero, List.set_cons_succ, List.take_length, List.replicate_succ, List.replicate_zero, sz, decide_eq_true_eq, Nat.zero_add, Nat.reduceAdd, Nat.reduceLeDiff, true_and, and_true, Nat.sub_self, Nat.reduceSub, gl, glVals, List.getElem?_cons_zero, List.getElem?_cons_succ, Bool.not_true, Bool.not_false, lst_peek h1, h1, show L2.ixN 3 2 = some 2 from rfl, lst_peek (lst_set (μ := μ) (ds := [.int a, .int b, .int (c + 1)]) hl), mul_bt (bt_lit (p := 30) (x := 15486209) (by decide)) B1 (by decide) (by decide) (by decide), mod_pos P1,
      mul_bt C1 C1 (by decide) (by decide) (by decide), mul_bt (bt_lit (p := 30) (x := 199) (by decide)) B1 (by decide) (by decide) (by decide), mod_pos P2, mul_bt C2 (bt_lit (p := 30) (x := 7368751) (by decide)) (by decide) (by decide) (by decide),
      div_pos (show (0 : Int) < 65536 by decide) (bt_lit (by decide)), mod_pos ht, take_set]
    exact ⟨_, rfl, Int.emod_nonneg _ (by omega), Int.emod_lt_of_pos _ ht, ⟨_, _, _, lst_set hl, h2, by omega, by omega⟩, Fm.set⟩
theorem dice_i {ns : List Int} {j s : Nat} (h : peek μ (.bx j) = some (.list (ns.map .int))) (hs : s ≤ 1000000) :
    ∃ a b : Int, 0 ≤ a ∧ (G (n + 1)).fn 25 [.bx j, .d (.int s)] μ = some (.fr (.lst [.int a, .int b, .int 0]), μ) := by
  suffices R : Mini.Run ((G (n + 1)).fn 25 [.bx j, .d (.int s)] μ) fun p => ∃ a b : Int, 0 ≤ a ∧ p = (.fr (.lst [.int a, .int b, .int 0]), μ) by
    obtain ⟨p, e, a, b, h1, rfl⟩ := R
    exact ⟨a, b, h1, e⟩
  have B1 : Bt 30 (s : Int) := by unfold Bt; omega
  have P1 : (0 : Int) < 1000000000000000000000000000000000000000000000000000000000000 * 1000000000000000000000000000000000000000000000000000000000000 := by decide
  have P2 : (0 : Int) < 1152921504606846737 := by decide
  have e17 : binV .Pow (.int 10) (.int 17) = some (rd (.int 100000000000000000)) := rfl
  have e60 : binV .Pow (.int 10) (.int 60) = some (rd (.int 1000000000000000000000000000000000000000000000000000000000000)) := rfl
  have m60 := mul_bt (bt_lit (p := 200) (x := 1000000000000000000000000000000000000000000000000000000000000) (by decide)) (bt_lit (p := 200) (x := 1000000000000000000000000000000000000000000000000000000000000) (by decide)) (by decide) (by decide) (by decide)
  refine run_fn (bd := b_law_dice) rfl rfl ?_; unfold b_law_dice; simp only [List.map_cons, List.map_nil, List.cons_append, List.nil_append, List.append_nil, List.replicate_succ, List.replicate_zero, Nat.reduceSub]
  simp only [↓rSs_cons, ↓rSs_nil, ↓rS_asg, ↓rS_tup, ↓rS_par, ↓rS_bxa, ↓rS_app, ↓rS_set, ↓rS_aug, ↓rS_ret, ↓rS_retN, ↓rS_ife, ↓rS_for, ↓rS_while, ↓rS_pass, ↓rS_brk, ↓rS_cont, ↓rS_expr, ↓rE_var, ↓rE_cst, ↓rE_glb, ↓rE_bin, ↓rE_neg, ↓rE_not, ↓rE_cmp, ↓rE_chain, ↓rE_and, ↓rE_or, ↓rE_ife, ↓rE_call, ↓rE_b1, ↓rE_b2, ↓rE_isi, ↓rE_ix, ↓rE_sl, ↓rE_tup, ↓rE_lst, ↓rE_lc, ↓rEs_nil, ↓rEs_cons, ↓rEo_no, ↓rEo_so, ↓rC_no, ↓rC_so, ↓rI_sq, ↓rI_r1, ↓rI_r2, ↓rI_zip, ↓rI_enu, after_nx, after_rt, after_bk, after_ct, Run.some, Run.none, Run.map, Run.ifn, RunIf.tt, RunIf.ff, RunIf.not_, w_d, R.norm_d, R.norm_w, R.norm_l, peek_d, toD_d, tst_b, tst_i, tst_l, tst_t, tst_n, slot_0, slot_s, mkW_f, mkW_t, toBx_b, toInt_i, augV_a, augV_s, retR_d, retR_rd, retR_f, endOf_d, endOf_rd, endOf_f, endOf_n, geOf_glob, retR_b, lstAt_last, set_last, peek_last, foAt_last, take_last, bind_nm, bind_tp, setAll_nil, setAll_cons, wipe_nil, wipe_cons, add_ii, sub_ii, add_ll, add_tt, mul_li, lt_ii, le_ii, gt_ii, ge_ii, eq_ii, ne_ii, eq_ss, ne_ss, Mini.is_none, Mini.isnot_none, len_l, len_t, abs_i, int_i, int_b, tuple_l, tuple_t, list_l, list_t, max_ii, min_ii, isi_int, isi_bool, isi_tup, isi_str, isi_lst, isIntD, isBoolD, isStrD, isTupD, isLstD, ix_l, ix_t, at_0, seq_l, seq_t, lstOf_l, rng1_i, rng2_i, optInt_n, optInt_i, sl_l, sl_t, mapM_nil, mapM_cons, at_1, at_2, at_3, at_4, Option.map_some, List.map_cons, List.map_nil, List.cons_append, List.nil_append, List.append_nil, List.length_cons, List.length_nil, List.set_cons_zero, List.set_cons_succ, List.take_length, List.replicate_succ, List.replicate_zero, sz, decide_eq_true_eq, Nat.zero_add, Nat.reduceAdd, Nat.reduceLeDiff, true_and, and_true, Nat.sub_self, Nat.reduceSub, gl, glVals, List.getElem?_cons_zero, List.getElem?_cons_succ, Bool.not_true, Bool.not_false, h, List.length_map]
  refine .dec (fun hc => ?zA) fun hc => ?zB
  case' zA =>
    obtain ⟨c, hc⟩ : ∃ c, ns[s]? = some c := ⟨_, List.getElem?_eq_getElem (by omega)⟩
    simp only [↓rSs_cons, ↓rSs_nil, ↓rS_asg, ↓rS_tup, ↓rS_par, ↓rS_bxa, ↓rS_app, ↓rS_set, ↓rS_aug, ↓rS_ret, ↓rS_retN, ↓rS_ife, ↓rS_for, ↓rS_while, ↓rS_pass, ↓rS_brk, ↓rS_cont, ↓rS_expr, ↓rE_var, ↓rE_cst, ↓rE_glb, ↓rE_bin, ↓rE_neg, ↓rE_not, ↓rE_cmp, ↓rE_chain, ↓rE_and, ↓rE_or, ↓rE_ife, ↓rE_call, ↓rE_b1, ↓rE_b2, ↓rE_isi, ↓rE_ix, ↓rE_sl, ↓rE_tup, ↓rE_lst, ↓rE_lc, ↓rEs_nil, ↓rEs_cons, ↓rEo_no, ↓rEo_so, ↓rC_no, ↓rC_so, ↓rI_sq, ↓rI_r1, ↓rI_r2, ↓rI_zip, ↓rI_enu, after_nx, after_rt, after_bk, after_ct, Run.some, Run.none, Run.map, Run.ifn, RunIf.tt, RunIf.ff, RunIf.not_, w_d, R.norm_d, R.norm_w, R.norm_l, peek_d, toD_d, tst_b, tst_i, tst_l, tst_t, tst_n, slot_0, slot_s, mkW_f, mkW_t, toBx_b, toInt_i, augV_a, augV_s, retR_d, retR_rd, retR_f, endOf_d, endOf_rd, endOf_f, endOf_n, geOf_glob, retR_b, lstAt_last, set_last, peek_last, foAt_last, take_last, bind_nm, bind_tp, setAll_nil, setAll_cons, wipe_nil, wipe_cons, add_ii, sub_ii, add_ll, add_tt, mul_li, lt_ii, le_ii, gt_ii, ge_ii, eq_ii, ne_ii, eq_ss, ne_ss, Mini.is_none, Mini.isnot_none, len_l, len_t, abs_i, int_i, int_b, tuple_l, tuple_t, list_l, list_t, max_ii, min_ii, isi_int, isi_bool, isi_tup, isi_str, isi_lst, isIntD, isBoolD, isStrD, isTupD, isLstD, ix_l, ix_t, at_0, seq_l, seq_t, lstOf_l, rng1_i, rng2_i, optInt_n, optInt_i, sl_l, sl_t, mapM_nil, mapM_cons, at_1, at_2, at_3, at_4, Option.map_some, List.map_cons, List.map_nil, List.cons_append, List.nil_append, List.append_nil, List.length_cons, List.length_nil, List.set_cons_zero, List.set_cons_succ, List.take_length, List.replicate_succ, List.replicate_zero, sz, decide_eq_true_eq, Nat.zero_add, Nat.reduceAdd, Nat.reduceLeDiff, true_and, and_true, Nat.sub_self, Nat.reduceSub, gl, glVals, List.getElem?_cons_zero, List.getElem?_cons_succ, Bool.not_true, Bool.not_false, h, at_map hc]
  case' zB =>
    simp only [↓rSs_cons, ↓rSs_nil, ↓rS_asg, ↓rS_tup, ↓rS_par, ↓rS_bxa, ↓rS_app, ↓rS_set, ↓rS_aug, ↓rS_ret, ↓rS_retN, ↓rS_ife, ↓rS_for, ↓rS_while, ↓rS_pass, ↓rS_brk, ↓rS_cont, ↓rS_expr, ↓rE_var, ↓rE_cst, ↓rE_glb, ↓rE_bin, ↓rE_neg, ↓rE_not, ↓rE_cmp, ↓rE_chain, ↓rE_and, ↓rE_or, ↓rE_ife, ↓rE_call, ↓rE_b1, ↓rE_b2, ↓rE_isi, ↓rE_ix, ↓rE_sl, ↓rE_tup, ↓rE_lst, ↓rE_lc, ↓rEs_nil, ↓rEs_cons, ↓rEo_no, ↓rEo_so, ↓rC_no, ↓rC_so, ↓rI_sq, ↓rI_r1, ↓rI_r2, ↓rI_zip, ↓rI_enu, after_nx, after_rt, after_bk, after_ct, Run.some, Run.none, Run.map, Run.ifn, RunIf.tt, RunIf.ff, RunIf.not_, w_d, R.norm_d, R.norm_w, R.norm_l, peek_d, toD_d, tst_b, tst_i, tst_l, tst_t, tst_n, slot_0, slot_s, mkW_f, mkW_t, toBx_b, toInt_i, augV_a, augV_s, retR_d, retR_rd, retR_f, endOf_d, endOf_rd, endOf_f, endOf_n, geOf_glob, retR_b, lstAt_last, set_last, peek_last, foAt_last, take_last, bind_nm, bind_tp, setAll_nil, setAll_cons, wipe_nil, wipe_cons, add_ii, sub_ii, add_ll, add_tt, mul_li, lt_ii, le_ii, gt_ii, ge_ii, eq_ii, ne_ii, eq_ss, ne_ss, Mini.is_none, Mini.isnot_none, len_l, len_t, abs_i, int_i, int_b, tuple_l, tuple_t, list_l, list_t, max_ii, min_ii, isi_int, isi_bool, isi_tup, isi_str, isi_lst, isIntD, isBoolD, isStrD, isTupD, isLstD, ix_l, ix_t, at_0, seq_l, seq_t, lstOf_l, rng1_i, rng2_i, optInt_n, optInt_i, sl_l, sl_t, mapM_nil, mapM_cons, at_1, at_2, at_3, at_4, Option.map_some, List.map_cons, List.map_nil, List.cons_append, List.nil_append, List.append_nil, List.length_cons, List.length_nil, List.set_cons_zero, List.set_cons_succ, List.take_length, List.replicate_succ, List.replicate_zero, sz, decide_eq_true_eq, Nat.zero_add, Nat.reduceAdd, Nat.reduceLeDiff, true_and, and_true, Nat.sub_self, Nat.reduceSub, gl, glVals, List.getElem?_cons_zero, List.getElem?_cons_succ, Bool.not_true, Bool.not_false, mul_bt (bt_lit (p := 30) (x := 97) (by decide)) B1 (by decide) (by decide) (by decide)]
    generalize 97 * (s : Int) + 43 = c
  all_goals
    have M1 := Int.emod_nonneg (c.natAbs : Int) (show (1152921504606846737 : Int) ≠ 0 by decide)
    have M2 := Int.emod_lt_of_pos (c.natAbs : Int) P2
    have C1 : Bt 61 ((c.natAbs : Int) % 1152921504606846737) := by unfold Bt; omega
    have C2 : Bt 2 (if c < 0 then 1 else 0 : Int) := by
      split <;> (unfold Bt; decide)
    simp only [↓rSs_cons, ↓rSs_nil, ↓rS_asg, ↓rS_tup, ↓rS_par, ↓rS_bxa, ↓rS_app, ↓rS_set, ↓rS_aug, ↓rS_ret, ↓rS_retN, ↓rS_ife, ↓rS_for, ↓rS_while, ↓rS_pass, ↓rS_brk, ↓rS_cont, ↓rS_expr, ↓rE_var, ↓rE_cst, ↓rE_glb, ↓rE_bin, ↓rE_neg, ↓rE_not, ↓rE_cmp, ↓rE_chain, ↓rE_and, ↓rE_or, ↓rE_ife, ↓rE_call, ↓rE_b1, ↓rE_b2, ↓rE_isi, ↓rE_ix, ↓rE_sl, ↓rE_tup, ↓rE_lst, ↓rE_lc, ↓rEs_nil, ↓rEs_cons, ↓rEo_no, ↓rEo_so, ↓rC_no, ↓rC_so, ↓rI_sq, ↓rI_r1, ↓rI_r2, ↓rI_zip, ↓rI_enu, after_nx, after_rt, after_bk, after_ct, Run.some, Run.none, Run.map, Run.ifn, RunIf.tt, RunIf.ff, RunIf.not_, w_d, R.norm_d, R.norm_w, R.norm_l, peek_d, toD_d, tst_b, tst_i, tst_l, tst_t, tst_n, slot_0, slot_s, mkW_f, mkW_t, toBx_b, toInt_i, augV_a, augV_s, retR_d, retR_rd, retR_f, endOf_d, endOf_rd, endOf_f, endOf_n, geOf_glob, retR_b, lstAt_last, set_last, peek_last, foAt_last, take_last, bind_nm, bind_tp, setAll_nil, setAll_cons, wipe_nil, wipe_cons, add_ii, sub_ii, add_ll, add_tt, mul_li, lt_ii, le_ii, gt_ii, ge_ii, eq_ii, ne_ii, eq_ss, ne_ss, Mini.is_none, Mini.isnot_none, len_l, len_t, abs_i, int_i, int_b, tuple_l, tuple_t, list_l, list_t, max_ii, min_ii, isi_int, isi_bool, isi_tup, isi_str, isi_lst, isIntD, isBoolD, isStrD, isTupD, isLstD, ix_l, ix_t, at_0, seq_l, seq_t, lstOf_l, rng1_i, rng2_i, optInt_n, optInt_i, sl_l, sl_t, mapM_nil, mapM_cons, at_1, at_2, at_3, at_4, Option.map_some, List.map_cons, List.map_nil, List.cons_append, List.nil_append, List.append_nil, List.length_cons, List.length_nil, List.set_cons_zero, List.set_cons_succ, List.take_length, List.replicate_succ, List.replicate_zero, sz, decide_eq_true_eq, Nat.zero_add, Nat.reduceAdd, Nat.reduceLeDiff, true_and, and_true, Nat.sub_self, Nat.reduceSub, gl, glVals, List.getElem?_cons_zero, List.getElem?_cons_succ, Bool.not_true, Bool.not_false, e17, e60, m60, mod_pos P1, mod_pos P2, mul_bt C1 (bt_lit (p := 30) (x := 37) (by decide)) (by decide) (by decide) (by decide), mul_bt (bt_lit (p := 30) (x := 859) (by decide)) B1 (by decide) (by decide) (by decide), mul_bt (bt_lit (p := 30) (x := 31) (by decide)) C2 (by decide) (by decide) (by decide)]
    exact ⟨_, _, Int.emod_nonneg _ (by decide), rfl⟩
end
end K85
end
section
set_option Elab.async false
set_option linter.all false
set_option maxRecDepth 100000
set_option maxHeartbeats 1000000
open Mini PySem
namespace K85
section
variable {n : Nat} {μ : Store}
theorem rolls_lc {s d j k N : Nat} {T : Int} {ρ : Rho} (hs : ∀ x, slot ((ρ.set s none).set s (some (.d x))) d = some (.bx j)) (h : Dice k j μ) (hk : N ≤ k) (hT : 0 < T) (hB : Bt 8000 T) :
    ∃ (vs : List Int) (μ' : Store), lcRun (G (n + 1)) [s] (.nm s) .no (.call 26 (.cons (.var d) (.cons (.cst (.int T)) .nil))) ρ (rangeD 0 (N : Int)) μ = some (vs.map .int, μ') ∧ vs.length = N ∧ Up (T - 1) vs ∧ Rolls N j k μ μ' := by
  suffices R : Mini.Run (lcRun (G (n + 1)) [s] (.nm s) .no (.call 26 (.cons (.var d) (.cons (.cst (.int T)) .nil))) ρ (rangeD 0 (N : Int)) μ) fun p => ∃ vs : List Int, p.1 = vs.map .int ∧ vs.length = N ∧ Up (T - 1) vs ∧ Rolls N j k μ p.2 by
    obtain ⟨⟨ys, μ'⟩, e, vs, rfl, q⟩ := R
    exact ⟨vs, μ', e, q⟩
  refine lc_inv (fun i μ' => Rolls i j k μ μ') (fun _ y => ∃ v, y = PyData.int v ∧ 0 ≤ v ∧ v ≤ T - 1) (Rolls.refl h) ?_ ?_
  · intro i x hx μ' hI
    obtain ⟨hi, rfl⟩ := rng_get hx
    obtain ⟨v, μ1, e, h0, h1, hR⟩ := roll_i (n := n) hI.dice (show 1 ≤ k - i by omega) hT hB
    simp only [↓rSs_cons, ↓rSs_nil, ↓rS_asg, ↓rS_tup, ↓rS_par, ↓rS_bxa, ↓rS_app, ↓rS_set, ↓rS_aug, ↓rS_ret, ↓rS_retN, ↓rS_ife, ↓rS_for, ↓rS_while, ↓rS_pass, ↓rS_brk, ↓rS_cont, ↓rS_expr, ↓rE_var, ↓rE_cst, ↓rE_glb, ↓rE_bin, ↓rE_neg, ↓rE_not, ↓rE_cmp, ↓rE_chain, ↓rE_and, ↓rE_or, ↓rE_ife, ↓rE_call, ↓rE_b1, ↓rE_b2, ↓rE_isi, ↓rE_ix, ↓rE_sl, ↓rE_tup, ↓rE_lst, ↓rE_lc, ↓rEs_nil, ↓rEs_cons, ↓rEo_no, ↓rEo_so, ↓rC_no, ↓rC_so, ↓rI_sq, ↓rI_r1, ↓rI_r2, ↓rI_zip, ↓rI_enu, after_nx, after_rt, after_bk, after_ct, Run.some, Run.none, Run.map, Run.ifn, RunIf.tt, RunIf.ff, RunIf.not_, w_d, R.norm_d, R.norm_w, R.norm_l, peek_d, toD_d, tst_b, tst_i, tst_l, tst_t, tst_n, slot_0, slot_s, mkW_f, mkW_t, toBx_b, toInt_i, augV_a, augV_s, retR_d, retR_rd, retR_f, endOf_d, endOf_rd, endOf_f, endOf_n, geOf_glob, retR_b, lstAt_last, set_last, peek_last, foAt_last, take_last, bind_nm, bind_tp, setAll_nil, setAll_cons, wipe_nil, wipe_cons, add_ii, sub_ii, add_ll, add_tt, mul_li, lt_ii, le_ii, gt_ii, ge_ii, eq_ii, ne_ii, eq_ss, ne_ss, Mini.is_none, Mini.isnot_none, len_l, len_t, abs_i, int_i, int_b, tuple_l, tuple_t, list_l, list_t, max_ii, min_ii, isi_int, isi_bool, isi_tup, isi_str, isi_lst, isIntD, isBoolD, isStrD, isTupD, isLstD, ix_l, ix_t, at_0, seq_l, seq_t, lstOf_l, rng1_i, rng2_i, optInt_n, optInt_i, sl_l, sl_t, mapM_nil, mapM_cons, at_1, at_2, at_3, at_4, Option.map_some, List.map_cons, List.map_nil, List.cons_append, List.nil_append, List.append_nil, List.length_cons, List.length_nil, List.set_cons_zero, List.set_cons_succ, List.take_length, List.replicate_succ, List.replicate_zero, sz, decide_eq_true_eq, Nat.zero_add, Nat.reduceAdd, Nat.reduceLeDiff, true_and, and_true, Nat.sub_self, Nat.reduceSub, gl, glVals, List.getElem?_cons_zero, List.getElem?_cons_succ, Bool.not_true, Bool.not_false, hs, e]
    exact ⟨⟨v, rfl, h0, by omega⟩, hI.trans hR rfl⟩
  · intro ys μ' ha hI
    rw [rng_len] at hI
    obtain ⟨vs, rfl, h1, h2⟩ := ha.map
    exact ⟨vs, rfl, by rw [h2, rng_len], h1, hI⟩
/-- what a drawn lot is -/
def Val (val : List D) (flat : Bool) : Prop :=
  (flat = true ∧ ∃ S w L, val = lotR S L ∧ Rws S w L ∧ S ≤ 6000000000 ∧ (∀ q ∈ L, Up 20 q.2) ∧ w ≤ 4 ∧ L.length ≤ 6) ∨
  (flat = false ∧ ∃ S r w M, val = lotT S M ∧ Tbs S r w M ∧ S ≤ 6000000000 ∧ w ≤ 4 ∧ r ≤ 3 ∧ M.length ≤ 6)
theorem some_lot_i {j k : Nat} (h : Dice k j μ) (hk : 200 ≤ k) :
    ∃ val flat μ', (G (n + 3)).fn 33 [.bx j] μ = some (rd (.tuple [.tuple val, .bool flat]), μ') ∧ Rolls 200 j k μ μ' ∧ Val val flat := by
  suffices R : Mini.Run ((G (n + 3)).fn 33 [.bx j] μ) fun p => ∃ val flat, p.1 = rd (.tuple [.tuple val, .bool flat]) ∧ Rolls 200 j k μ p.2 ∧ Val val flat by
    obtain ⟨⟨r, μ'⟩, e, val, flat, rfl, q⟩ := R
    exact ⟨val, flat, μ', e, q⟩
  obtain ⟨v1, μ1, e1, a1, b1, R1⟩ := roll_i (n := n + 1) h (show 1 ≤ k by omega) (show (0 : Int) < 4 by decide) (bt_lit (by decide))
  obtain ⟨v2, μ2, e2, a2, b2, R2'⟩ := roll_i (n := n + 1) R1.dice (show 1 ≤ k - 1 by omega) (show (0 : Int) < 2 by decide) (bt_lit (by decide))
  have R2 := R1.trans R2' rfl
  obtain ⟨v3, μ3, e3, a3, b3, R3'⟩ := roll_i (n := n + 1) R2.dice (show 1 ≤ k - 2 by omega) (show (0 : Int) < 6 by decide) (bt_lit (by decide))
  have R3 := R2.trans R3' rfl
  refine run_fn (bd := b_law_some_lot) rfl rfl ?_; unfold b_law_some_lot; simp only [List.map_cons, List.map_nil, List.cons_append, List.nil_append, List.append_nil, List.replicate_succ, List.replicate_zero, Nat.reduceSub]
  simp only [↓rSs_cons, ↓rSs_nil, ↓rS_asg, ↓rS_tup, ↓rS_par, ↓rS_bxa, ↓rS_app, ↓rS_set, ↓rS_aug, ↓rS_ret, ↓rS_retN, ↓rS_ife, ↓rS_for, ↓rS_while, ↓rS_pass, ↓rS_brk, ↓rS_cont, ↓rS_expr, ↓rE_var, ↓rE_cst, ↓rE_glb, ↓rE_bin, ↓rE_neg, ↓rE_not, ↓rE_cmp, ↓rE_chain, ↓rE_and, ↓rE_or, ↓rE_ife, ↓rE_call, ↓rE_b1, ↓rE_b2, ↓rE_isi, ↓rE_ix, ↓rE_sl, ↓rE_tup, ↓rE_lst, ↓rE_lc, ↓rEs_nil, ↓rEs_cons, ↓rEo_no, ↓rEo_so, ↓rC_no, ↓rC_so, ↓rI_sq, ↓rI_r1, ↓rI_r2, ↓rI_zip, ↓rI_enu, after_nx, after_rt, after_bk, after_ct, Run.some, Run.none, Run.map, Run.ifn, RunIf.tt, RunIf.ff, RunIf.not_, w_d, R.norm_d, R.norm_w, R.norm_l, peek_d, toD_d, tst_b, tst_i, tst_l, tst_t, tst_n, slot_0, slot_s, mkW_f, mkW_t, toBx_b, toInt_i, augV_a, augV_s, retR_d, retR_rd, retR_f, endOf_d, endOf_rd, endOf_f, endOf_n, geOf_glob, retR_b, lstAt_last, set_last, peek_last, foAt_last, take_last, bind_nm, bind_tp, setAll_nil, setAll_cons, wipe_nil, wipe_cons, add_ii, sub_ii, add_ll, add_tt, mul_li, lt_ii, le_ii, gt_ii, ge_ii, eq_ii, ne_ii, eq_ss, ne_ss, Mini.is_none, Mini.isnot_none, len_l, len_t, abs_i, int_i, int_b, tuple_l, tuple_t, list_l, list_t, max_ii, min_ii, isi_int, isi_bool, isi_tup, isi_str, isi_lst, isIntD, isBoolD, isStrD, isTupD, isLstD, ix_l, ix_t, at_0, seq_l, seq_t, lstOf_l, rng1_i, rng2_i, optInt_n, optInt_i, sl_l, sl_t, mapM_nil, mapM_cons, at_1, at_2, at_3, at_4, Option.map_some, List.map_cons, List.map_nil, List.cons_append, List.nil_append, List.append_nil, List.length_cons, List.length_nil, List.set_cons_zero, List.set_cons_succ, List.take_length, List.replicate_succ, List.replicate_zero, sz, decide_eq_true_eq, Nat.zero_add, Nat.reduceAdd, Nat.reduceLeDiff, true_and, and_true, Nat.sub_self, Nat.reduceSub, gl, glVals, List.getElem?_cons_zero, List.getElem?_cons_succ, Bool.not_true, Bool.not_false, e1, e2, eq_ii, e3]
  refine ⟨by unfold big; omega, ?_⟩
  rw [show (1 + v3 : Int) = ((1 + v3).toNat : Int) by omega]
  have hN : (1 + v3).toNat ≤ 6 := by omega
  have hN1 : 1 ≤ (1 + v3).toNat := by omega
  generalize (1 + v3).toNat = N at hN hN1
  simp only [↓rSs_cons, ↓rSs_nil, ↓rS_asg, ↓rS_tup, ↓rS_par, ↓rS_bxa, ↓rS_app, ↓rS_set, ↓rS_aug, ↓rS_ret, ↓rS_retN, ↓rS_ife, ↓rS_for, ↓rS_while, ↓rS_pass, ↓rS_brk, ↓rS_cont, ↓rS_expr, ↓rE_var, ↓rE_cst, ↓rE_glb, ↓rE_bin, ↓rE_neg, ↓rE_not, ↓rE_cmp, ↓rE_chain, ↓rE_and, ↓rE_or, ↓rE_ife, ↓rE_call, ↓rE_b1, ↓rE_b2, ↓rE_isi, ↓rE_ix, ↓rE_sl, ↓rE_tup, ↓rE_lst, ↓rE_lc, ↓rEs_nil, ↓rEs_cons, ↓rEo_no, ↓rEo_so, ↓rC_no, ↓rC_so, ↓rI_sq, ↓rI_r1, ↓rI_r2, ↓rI_zip, ↓rI_enu, after_nx, after_rt, after_bk, after_ct, Run.some, Run.none, Run.map, Run.ifn, RunIf.tt, RunIf.ff, RunIf.not_, w_d, R.norm_d, R.norm_w, R.norm_l, peek_d, toD_d, tst_b, tst_i, tst_l, tst_t, tst_n, slot_0, slot_s, mkW_f, mkW_t, toBx_b, toInt_i, augV_a, augV_s, retR_d, retR_rd, retR_f, endOf_d, endOf_rd, endOf_f, endOf_n, geOf_glob, retR_b, lstAt_last, set_last, peek_last, foAt_last, take_last, bind_nm, bind_tp, setAll_nil, setAll_cons, wipe_nil, wipe_cons, add_ii, sub_ii, add_ll, add_tt, mul_li, lt_ii, le_ii, gt_ii, ge_ii, eq_ii, ne_ii, eq_ss, ne_ss, Mini.is_none, Mini.isnot_none, len_l, len_t, abs_i, int_i, int_b, tuple_l, tuple_t, list_l, list_t, max_ii, min_ii, isi_int, isi_bool, isi_tup, isi_str, isi_lst, isIntD, isBoolD, isStrD, isTupD, isLstD, ix_l, ix_t, at_0, seq_l, seq_t, lstOf_l, rng1_i, rng2_i, optInt_n, optInt_i, sl_l, sl_t, mapM_nil, mapM_cons, at_1, at_2, at_3, at_4, Option.map_some, List.map_cons, List.map_nil, List.cons_append, List.nil_append, List.append_nil, List.length_cons, List.length_nil, List.set_cons_zero, List.set_cons_succ, List.take_length, List.replicate_succ, List.replicate_zero, sz, decide_eq_true_eq, Nat.zero_add, Nat.reduceAdd, Nat.reduceLeDiff, true_and, and_true, Nat.sub_self, Nat.reduceSub, gl, glVals, List.getElem?_cons_zero, List.getElem?_cons_succ, Bool.not_true, Bool.not_false, rng_len]
  refine ⟨by omega, ?_⟩
  refine lc_inv (fun i μ' => Rolls (2 * i) j (k - 3) μ3 μ') (fun _ y => ∃ v, y = PyData.int v ∧ 1 ≤ v ∧ v ≤ 1000000000) (Rolls.refl R3.dice) ?_ ?_
  · intro i x hx μ' hI
    obtain ⟨hi, rfl⟩ := rng_get hx
    obtain ⟨v4, μ4, e4, a4, b4, R4⟩ := roll_i (n := n + 1) hI.dice (show 1 ≤ k - 3 - 2 * i by omega) (show (0 : Int) < 2 by decide) (bt_lit (by decide))
    have e9 : binV .Pow (.int 10) (.int 9) = some (rd (.int 1000000000)) := rfl
    have sel : ∃ t : Int, atD [.int 4, .int 1000000000] v4 = some (.int t) ∧ 0 < t ∧ t ≤ 1000000000 := by
      rcases (show v4 = 0 ∨ v4 = 1 by omega) with rfl | rfl
      · exact ⟨4, at_0, by decide, by decide⟩
      · exact ⟨1000000000, at_1, by decide, by decide⟩
    obtain ⟨t, et, ht0, ht1⟩ := sel
    obtain ⟨v5, μ5, e5, a5, b5, R5⟩ := roll_i (n := n + 1) (R4.dice) (show 1 ≤ k - 3 - 2 * i - 1 by omega) ht0 (Bt.mono (p := 40) (by unfold Bt; omega) (by decide))
    simp only [↓rSs_cons, ↓rSs_nil, ↓rS_asg, ↓rS_tup, ↓rS_par, ↓rS_bxa, ↓rS_app, ↓rS_set, ↓rS_aug, ↓rS_ret, ↓rS_retN, ↓rS_ife, ↓rS_for, ↓rS_while, ↓rS_pass, ↓rS_brk, ↓rS_cont, ↓rS_expr, ↓rE_var, ↓rE_cst, ↓rE_glb, ↓rE_bin, ↓rE_neg, ↓rE_not, ↓rE_cmp, ↓rE_chain, ↓rE_and, ↓rE_or, ↓rE_ife, ↓rE_call, ↓rE_b1, ↓rE_b2, ↓rE_isi, ↓rE_ix, ↓rE_sl, ↓rE_tup, ↓rE_lst, ↓rE_lc, ↓rEs_nil, ↓rEs_cons, ↓rEo_no, ↓rEo_so, ↓rC_no, ↓rC_so, ↓rI_sq, ↓rI_r1, ↓rI_r2, ↓rI_zip, ↓rI_enu, after_nx, after_rt, after_bk, after_ct, Run.some, Run.none, Run.map, Run.ifn, RunIf.tt, RunIf.ff, RunIf.not_, w_d, R.norm_d, R.norm_w, R.norm_l, peek_d, toD_d, tst_b, tst_i, tst_l, tst_t, tst_n, slot_0, slot_s, mkW_f, mkW_t, toBx_b, toInt_i, augV_a, augV_s, retR_d, retR_rd, retR_f, endOf_d, endOf_rd, endOf_f, endOf_n, geOf_glob, retR_b, lstAt_last, set_last, peek_last, foAt_last, take_last, bind_nm, bind_tp, setAll_nil, setAll_cons, wipe_nil, wipe_cons, add_ii, sub_ii, add_ll, add_tt, mul_li, lt_ii, le_ii, gt_ii, ge_ii, eq_ii, ne_ii, eq_ss, ne_ss, Mini.is_none, Mini.isnot_none, len_l, len_t, abs_i, int_i, int_b, tuple_l, tuple_t, list_l, list_t, max_ii, min_ii, isi_int, isi_bool, isi_tup, isi_str, isi_lst, isIntD, isBoolD, isStrD, isTupD, isLstD, ix_l, ix_t, at_0, seq_l, seq_t, lstOf_l, rng1_i, rng2_i, optInt_n, optInt_i, sl_l, sl_t, mapM_nil, mapM_cons, at_1, at_2, at_3, at_4, Option.map_some, List.map_cons, List.map_nil, List.cons_append, List.nil_append, List.append_nil, List.length_cons, List.length_nil, List.set_cons_zero, List.set_cons_succ, List.take_length, List.replicate_succ, List.replicate_zero, sz, decide_eq_true_eq, Nat.zero_add, Nat.reduceAdd, Nat.reduceLeDiff, true_and, and_true, Nat.sub_self, Nat.reduceSub, gl, glVals, List.getElem?_cons_zero, List.getElem?_cons_succ, Bool.not_true, Bool.not_false, e4, e9, et, e5]
    exact ⟨⟨_, rfl, by omega, by omega⟩, (hI.trans (R4.trans R5 rfl) (by omega))⟩
  · intro ys μ4 ha hI
    obtain ⟨ps, rfl, hps, hl⟩ := ha.map
    rw [rng_len] at hI hl
    obtain ⟨v6, μ5, e6, a6, b6, R6⟩ := roll_i (n := n + 1) (μ := μ4 ++ [some (.fo (.lst []))]) (hI.dice.app) (show 1 ≤ k - 3 - 2 * N by omega) (show (0 : Int) < 3 by decide) (bt_lit (by decide))
    have RI := R3.trans hI rfl
    have hjl := h.lt
    have hl4 : μ4.length = μ.length := RI.2.1
    obtain ⟨σ0, rfl, R7⟩ := R6.split (by omega)
    have R8 : Rolls 16 j k μ σ0 := (RI.trans (by rw [← Nat.sub_sub]; exact R7) rfl).up (by omega)
    simp only [↓rSs_cons, ↓rSs_nil, ↓rS_asg, ↓rS_tup, ↓rS_par, ↓rS_bxa, ↓rS_app, ↓rS_set, ↓rS_aug, ↓rS_ret, ↓rS_retN, ↓rS_ife, ↓rS_for, ↓rS_while, ↓rS_pass, ↓rS_brk, ↓rS_cont, ↓rS_expr, ↓rE_var, ↓rE_cst, ↓rE_glb, ↓rE_bin, ↓rE_neg, ↓rE_not, ↓rE_cmp, ↓rE_chain, ↓rE_and, ↓rE_or, ↓rE_ife, ↓rE_call, ↓rE_b1, ↓rE_b2, ↓rE_isi, ↓rE_ix, ↓rE_sl, ↓rE_tup, ↓rE_lst, ↓rE_lc, ↓rEs_nil, ↓rEs_cons, ↓rEo_no, ↓rEo_so, ↓rC_no, ↓rC_so, ↓rI_sq, ↓rI_r1, ↓rI_r2, ↓rI_zip, ↓rI_enu, after_nx, after_rt, after_bk, after_ct, Run.some, Run.none, Run.map, Run.ifn, RunIf.tt, RunIf.ff, RunIf.not_, w_d, R.norm_d, R.norm_w, R.norm_l, peek_d, toD_d, tst_b, tst_i, tst_l, tst_t, tst_n, slot_0, slot_s, mkW_f, mkW_t, toBx_b, toInt_i, augV_a, augV_s, retR_d, retR_rd, retR_f, endOf_d, endOf_rd, endOf_f, endOf_n, geOf_glob, retR_b, lstAt_last, set_last, peek_last, foAt_last, take_last, bind_nm, bind_tp, setAll_nil, setAll_cons, wipe_nil, wipe_cons, add_ii, sub_ii, add_ll, add_tt, mul_li, lt_ii, le_ii, gt_ii, ge_ii, eq_ii, ne_ii, eq_ss, ne_ss, Mini.is_none, Mini.isnot_none, len_l, len_t, abs_i, int_i, int_b, tuple_l, tuple_t, list_l, list_t, max_ii, min_ii, isi_int, isi_bool, isi_tup, isi_str, isi_lst, isIntD, isBoolD, isStrD, isTupD, isLstD, ix_l, ix_t, at_0, seq_l, seq_t, lstOf_l, rng1_i, rng2_i, optInt_n, optInt_i, sl_l, sl_t, mapM_nil, mapM_cons, at_1, at_2, at_3, at_4, Option.map_some, List.map_cons, List.map_nil, List.cons_append, List.nil_append, List.append_nil, List.length_cons, List.length_nil, List.set_cons_zero, List.set_cons_succ, List.take_length, List.replicate_succ, List.replicate_zero, sz, decide_eq_true_eq, Nat.zero_add, Nat.reduceAdd, Nat.reduceLeDiff, true_and, and_true, Nat.sub_self, Nat.reduceSub, gl, glVals, List.getElem?_cons_zero, List.getElem?_cons_succ, Bool.not_true, Bool.not_false, e6, hl4]
    have hS : 0 < ps.sum ∧ ps.sum ≤ 6000000000 ∧ Wts ps.sum ps := by
      have h0 : ∀ p ∈ ps, 0 < p := fun p hp => by have := hps p hp; omega
      have h1 := sum_up (m := 1000000000) (ns := ps) fun p hp => by have := hps p hp; omega
      obtain ⟨p, hp⟩ : ∃ p, p ∈ ps := ⟨ps[0]'(by omega), List.getElem_mem _⟩
      have h2 := mem_le_sum h0 hp
      have h3 := h0 p hp
      have hB : ps.sum ≤ 6000000000 := by
        have : (ps.length : Int) ≤ 6 := by omega
        omega
      exact ⟨by omega, hB, h0, rfl, Bt.mono (p := 40) (by unfold Bt; omega) (by decide), by omega⟩
    obtain ⟨hS0, hS1, hW⟩ := hS
    have hSB : Bt 9000 ps.sum := hW.bt.mono (by decide)
    have hl9 : ∀ σ : Store, Rolls 16 j k μ σ → σ.length = μ.length := fun σ h => h.2.1
    generalize hwe : (1 + v1 : Int) = w1
    obtain ⟨w, rfl⟩ : ∃ w : Nat, w1 = w := ⟨w1.toNat, by omega⟩
    have hw : 1 ≤ w ∧ w ≤ 4 := by omega
    cases hf : decide (v2 = 0) with
    | true =>
      refine for_inv (fun i ρ μ' => ∃ σ Rs x1 x2 x3 x4 x5, μ' = σ ++ [some (.fo (.lst (lotR ps.sum (ps.zip Rs))))] ∧ Rs.length = i ∧ (∀ r ∈ Rs, Up 20 r ∧ r.length = w) ∧ Rolls (16 + 16 * i) j k μ σ ∧
        ρ = [some (.bx j), some (.d (.list (ps.map .int))), x1, some (.d (.int w)), some (.d (.bool true)), some (.bx μ.length), some (.d (.int (1 + v6))), x2, x3, x4, x5]) ⟨σ0, [], _, _, _, _, _, by rw [List.zip_nil_right]; rfl, rfl, (fun _ h => nomatch h), R8, rfl⟩ ?_ ?_
      · rintro i x hx ρ μ' ⟨σ, Rs, x1, x2, x3, x4, x5, rfl, hRl, hRs, RR, rfl⟩
        rw [List.getElem?_map] at hx
        obtain ⟨p, hp, rfl⟩ := Option.map_eq_some_iff.mp hx
        have hip : i < N := by have := (List.getElem?_eq_some_iff.mp hp).1; omega
        have hσ : σ.length = μ.length := RR.2.1
        obtain ⟨vs, μ6, e7, h8, h9, h10⟩ := rolls_lc (n := n + 1) (s := 9) (d := 0) (N := w) (T := 21) (μ := σ ++ [some (.fo (.lst (lotR ps.sum (ps.zip Rs))))])
          (ρ := [some (.bx j), some (.d (.list (ps.map .int))), some (.d (.int p)), some (.d (.int w)), some (.d (.bool true)), some (.bx μ.length), some (.d (.int (1 + v6))), x2, x3, x4, x5]) (fun _ => rfl) (RR.dice.app) (by omega) (by decide) (bt_lit (by decide))
        obtain ⟨σ', rfl, h11⟩ := h10.split (by omega)
        have hσ' : σ'.length = μ.length := (RR.trans h11 rfl).2.1
        simp only [↓rSs_cons, ↓rSs_nil, ↓rS_asg, ↓rS_tup, ↓rS_par, ↓rS_bxa, ↓rS_app, ↓rS_set, ↓rS_aug, ↓rS_ret, ↓rS_retN, ↓rS_ife, ↓rS_for, ↓rS_while, ↓rS_pass, ↓rS_brk, ↓rS_cont, ↓rS_expr, ↓rE_var, ↓rE_cst, ↓rE_glb, ↓rE_bin, ↓rE_neg, ↓rE_not, ↓rE_cmp, ↓rE_chain, ↓rE_and, ↓rE_or, ↓rE_ife, ↓rE_call, ↓rE_b1, ↓rE_b2, ↓rE_isi, ↓rE_ix, ↓rE_sl, ↓rE_tup, ↓rE_lst, ↓rE_lc, ↓rEs_nil, ↓rEs_cons, ↓rEo_no, ↓rEo_so, ↓rC_no, ↓rC_so, ↓rI_sq, ↓rI_r1, ↓rI_r2, ↓rI_zip, ↓rI_enu, after_nx, after_rt, after_bk, after_ct, Run.some, Run.none, Run.map, Run.ifn, RunIf.tt, RunIf.ff, RunIf.not_, w_d, R.norm_d, R.norm_w, R.norm_l, peek_d, toD_d, tst_b, tst_i, tst_l, tst_t, tst_n, slot_0, slot_s, mkW_f, mkW_t, toBx_b, toInt_i, augV_a, augV_s, retR_d, retR_rd, retR_f, endOf_d, endOf_rd, endOf_f, endOf_n, geOf_glob, retR_b, lstAt_last, set_last, peek_last, foAt_last, take_last, bind_nm, bind_tp, setAll_nil, setAll_cons, wipe_nil, wipe_cons, add_ii, sub_ii, add_ll, add_tt, mul_li, lt_ii, le_ii, gt_ii, ge_ii, eq_ii, ne_ii, eq_ss, ne_ss, Mini.is_none, Mini.isnot_none, len_l, len_t, abs_i, int_i, int_b, tuple_l, tuple_t, list_l, list_t, max_ii, min_ii, isi_int, isi_bool, isi_tup, isi_str, isi_lst, isIntD, isBoolD, isStrD, isTupD, isLstD, ix_l, ix_t, at_0, seq_l, seq_t, lstOf_l, rng1_i, rng2_i, optInt_n, optInt_i, sl_l, sl_t, mapM_nil, mapM_cons, at_1, at_2, at_3, at_4, Option.map_some, List.map_cons, List.map_nil, List.cons_append, List.nil_append, List.append_nil, List.length_cons, List.length_nil, List.set_cons_zero, List.set_cons_succ, List.take_length, List.replicate_succ, List.replicate_zero, sz, decide_eq_true_eq, Nat.zero_add, Nat.reduceAdd, Nat.reduceLeDiff, true_and, and_true, Nat.sub_self, Nat.reduceSub, gl, glVals, List.getElem?_cons_zero, List.getElem?_cons_succ, Bool.not_true, Bool.not_false, rng_len]
        refine ⟨⟨by unfold big; omega, by unfold big; omega⟩, by omega, ?_⟩
        refine .of_eq e7 ?_
        simp only [↓rSs_cons, ↓rSs_nil, ↓rS_asg, ↓rS_tup, ↓rS_par, ↓rS_bxa, ↓rS_app, ↓rS_set, ↓rS_aug, ↓rS_ret, ↓rS_retN, ↓rS_ife, ↓rS_for, ↓rS_while, ↓rS_pass, ↓rS_brk, ↓rS_cont, ↓rS_expr, ↓rE_var, ↓rE_cst, ↓rE_glb, ↓rE_bin, ↓rE_neg, ↓rE_not, ↓rE_cmp, ↓rE_chain, ↓rE_and, ↓rE_or, ↓rE_ife, ↓rE_call, ↓rE_b1, ↓rE_b2, ↓rE_isi, ↓rE_ix, ↓rE_sl, ↓rE_tup, ↓rE_lst, ↓rE_lc, ↓rEs_nil, ↓rEs_cons, ↓rEo_no, ↓rEo_so, ↓rC_no, ↓rC_so, ↓rI_sq, ↓rI_r1, ↓rI_r2, ↓rI_zip, ↓rI_enu, after_nx, after_rt, after_bk, after_ct, Run.some, Run.none, Run.map, Run.ifn, RunIf.tt, RunIf.ff, RunIf.not_, w_d, R.norm_d, R.norm_w, R.norm_l, peek_d, toD_d, tst_b, tst_i, tst_l, tst_t, tst_n, slot_0, slot_s, mkW_f, mkW_t, toBx_b, toInt_i, augV_a, augV_s, retR_d, retR_rd, retR_f, endOf_d, endOf_rd, endOf_f, endOf_n, geOf_glob, retR_b, lstAt_last, set_last, peek_last, foAt_last, take_last, bind_nm, bind_tp, setAll_nil, setAll_cons, wipe_nil, wipe_cons, add_ii, sub_ii, add_ll, add_tt, mul_li, lt_ii, le_ii, gt_ii, ge_ii, eq_ii, ne_ii, eq_ss, ne_ss, Mini.is_none, Mini.isnot_none, len_l, len_t, abs_i, int_i, int_b, tuple_l, tuple_t, list_l, list_t, max_ii, min_ii, isi_int, isi_bool, isi_tup, isi_str, isi_lst, isIntD, isBoolD, isStrD, isTupD, isLstD, ix_l, ix_t, at_0, seq_l, seq_t, lstOf_l, rng1_i, rng2_i, optInt_n, optInt_i, sl_l, sl_t, mapM_nil, mapM_cons, at_1, at_2, at_3, at_4, Option.map_some, List.map_cons, List.map_nil, List.cons_append, List.nil_append, List.append_nil, List.length_cons, List.length_nil, List.set_cons_zero, List.set_cons_succ, List.take_length, List.replicate_succ, List.replicate_zero, sz, decide_eq_true_eq, Nat.zero_add, Nat.reduceAdd, Nat.reduceLeDiff, true_and, and_true, Nat.sub_self, Nat.reduceSub, gl, glVals, List.getElem?_cons_zero, List.getElem?_cons_succ, Bool.not_true, Bool.not_false, lstAt_at hσ, lstAt_at hσ', sum_l, intsOf_map, lfrac_i hS0 hSB]
        refine ⟨by rw [len_lotR, List.length_zip]; omega, σ', Rs ++ [vs], _, _, _, _, _, ?_, by rw [List.length_append, hRl]; rfl, ?_, (RR.trans (h11.up (show w ≤ 16 by omega)) (by omega)), rfl⟩
        · rw [set_at hσ', zip_snoc (p := p) (by rw [hRl]; exact hp)]
          unfold lotR
          rw [List.map_append]
          rfl
        · intro r hr
          rcases List.mem_append.mp hr with hr | hr
          · exact hRs r hr
          · rw [List.mem_singleton] at hr
            subst hr
            exact ⟨h9, h8⟩
      · rintro ρ μ' ⟨σ, Rs, x1, x2, x3, x4, x5, rfl, hRl, hRs, RR, rfl⟩
        rw [List.length_map] at hRl RR
        have hσ : σ.length = μ.length := RR.2.1
        simp only [↓rSs_cons, ↓rSs_nil, ↓rS_asg, ↓rS_tup, ↓rS_par, ↓rS_bxa, ↓rS_app, ↓rS_set, ↓rS_aug, ↓rS_ret, ↓rS_retN, ↓rS_ife, ↓rS_for, ↓rS_while, ↓rS_pass, ↓rS_brk, ↓rS_cont, ↓rS_expr, ↓rE_var, ↓rE_cst, ↓rE_glb, ↓rE_bin, ↓rE_neg, ↓rE_not, ↓rE_cmp, ↓rE_chain, ↓rE_and, ↓rE_or, ↓rE_ife, ↓rE_call, ↓rE_b1, ↓rE_b2, ↓rE_isi, ↓rE_ix, ↓rE_sl, ↓rE_tup, ↓rE_lst, ↓rE_lc, ↓rEs_nil, ↓rEs_cons, ↓rEo_no, ↓rEo_so, ↓rC_no, ↓rC_so, ↓rI_sq, ↓rI_r1, ↓rI_r2, ↓rI_zip, ↓rI_enu, after_nx, after_rt, after_bk, after_ct, Run.some, Run.none, Run.map, Run.ifn, RunIf.tt, RunIf.ff, RunIf.not_, w_d, R.norm_d, R.norm_w, R.norm_l, peek_d, toD_d, tst_b, tst_i, tst_l, tst_t, tst_n, slot_0, slot_s, mkW_f, mkW_t, toBx_b, toInt_i, augV_a, augV_s, retR_d, retR_rd, retR_f, endOf_d, endOf_rd, endOf_f, endOf_n, geOf_glob, retR_b, lstAt_last, set_last, peek_last, foAt_last, take_last, bind_nm, bind_tp, setAll_nil, setAll_cons, wipe_nil, wipe_cons, add_ii, sub_ii, add_ll, add_tt, mul_li, lt_ii, le_ii, gt_ii, ge_ii, eq_ii, ne_ii, eq_ss, ne_ss, Mini.is_none, Mini.isnot_none, len_l, len_t, abs_i, int_i, int_b, tuple_l, tuple_t, list_l, list_t, max_ii, min_ii, isi_int, isi_bool, isi_tup, isi_str, isi_lst, isIntD, isBoolD, isStrD, isTupD, isLstD, ix_l, ix_t, at_0, seq_l, seq_t, lstOf_l, rng1_i, rng2_i, optInt_n, optInt_i, sl_l, sl_t, mapM_nil, mapM_cons, at_1, at_2, at_3, at_4, Option.map_some, List.map_cons, List.map_nil, List.cons_append, List.nil_append, List.append_nil, List.length_cons, List.length_nil, List.set_cons_zero, List.set_cons_succ, List.take_length, List.replicate_succ, List.replicate_zero, sz, decide_eq_true_eq, Nat.zero_add, Nat.reduceAdd, Nat.reduceLeDiff, true_and, and_true, Nat.sub_self, Nat.reduceSub, gl, glVals, List.getElem?_cons_zero, List.getElem?_cons_succ, Bool.not_true, Bool.not_false, peek_at hσ, take_at hσ]
        refine ⟨_, _, rfl, RR.up (by omega), .inl ⟨rfl, ps.sum, w, ps.zip Rs, rfl, ⟨?_, ?_, by omega⟩, hS1, ?_, hw.2, by rw [List.length_zip]; omega⟩⟩
        · rw [zip_fst hRl]; exact hW
        · intro q hq
          obtain ⟨h1, h2⟩ := hRs q.2 (List.of_mem_zip hq).2
          exact ⟨fun x hx => by have := h1 x hx; omega, h2⟩
        · intro q hq
          exact (hRs q.2 (List.of_mem_zip hq).2).1
    | false =>
      generalize hre : (1 + v6 : Int) = r1
      obtain ⟨r, rfl⟩ : ∃ r : Nat, r1 = r := ⟨r1.toNat, by omega⟩
      have hr : 1 ≤ r ∧ r ≤ 3 := by omega
      refine for_inv (fun i ρ μ' => ∃ σ Rs x1 x2 x3 x4 x5, μ' = σ ++ [some (.fo (.lst (lotT ps.sum (ps.zip Rs))))] ∧ Rs.length = i ∧ (∀ r' ∈ Rs, Tb r' w ∧ r'.length = r) ∧ Rolls (16 + 16 * i) j k μ σ ∧
        ρ = [some (.bx j), some (.d (.list (ps.map .int))), x1, some (.d (.int w)), some (.d (.bool false)), some (.bx μ.length), some (.d (.int r)), x2, x3, x4, x5]) ⟨σ0, [], _, _, _, _, _, by rw [List.zip_nil_right]; rfl, rfl, (fun _ h => nomatch h), R8, rfl⟩ ?_ ?_
      · rintro i x hx ρ μ' ⟨σ, Rs, x1, x2, x3, x4, x5, rfl, hRl, hRs, RR, rfl⟩
        rw [List.getElem?_map] at hx
        obtain ⟨p, hp, rfl⟩ := Option.map_eq_some_iff.mp hx
        have hip : i < N := by have := (List.getElem?_eq_some_iff.mp hp).1; omega
        have hσ : σ.length = μ.length := RR.2.1
        obtain ⟨vs, μ6, e7, h8, h9, h10⟩ := rolls_lc (n := n + 1) (s := 9) (d := 0) (N := w) (T := 21) (μ := σ ++ [some (.fo (.lst (lotT ps.sum (ps.zip Rs))))])
          (ρ := [some (.bx j), some (.d (.list (ps.map .int))), some (.d (.int p)), some (.d (.int w)), some (.d (.bool false)), some (.bx μ.length), some (.d (.int r)), x2, x3, x4, x5]) (fun _ => rfl) (RR.dice.app) (by omega) (by decide) (bt_lit (by decide))
        obtain ⟨σ', rfl, h11⟩ := h10.split (by omega)
        have RR1 := RR.trans h11 rfl
        have hσ' : σ'.length = μ.length := RR1.2.1
        simp only [↓rSs_cons, ↓rSs_nil, ↓rS_asg, ↓rS_tup, ↓rS_par, ↓rS_bxa, ↓rS_app, ↓rS_set, ↓rS_aug, ↓rS_ret, ↓rS_retN, ↓rS_ife, ↓rS_for, ↓rS_while, ↓rS_pass, ↓rS_brk, ↓rS_cont, ↓rS_expr, ↓rE_var, ↓rE_cst, ↓rE_glb, ↓rE_bin, ↓rE_neg, ↓rE_not, ↓rE_cmp, ↓rE_chain, ↓rE_and, ↓rE_or, ↓rE_ife, ↓rE_call, ↓rE_b1, ↓rE_b2, ↓rE_isi, ↓rE_ix, ↓rE_sl, ↓rE_tup, ↓rE_lst, ↓rE_lc, ↓rEs_nil, ↓rEs_cons, ↓rEo_no, ↓rEo_so, ↓rC_no, ↓rC_so, ↓rI_sq, ↓rI_r1, ↓rI_r2, ↓rI_zip, ↓rI_enu, after_nx, after_rt, after_bk, after_ct, Run.some, Run.none, Run.map, Run.ifn, RunIf.tt, RunIf.ff, RunIf.not_, w_d, R.norm_d, R.norm_w, R.norm_l, peek_d, toD_d, tst_b, tst_i, tst_l, tst_t, tst_n, slot_0, slot_s, mkW_f, mkW_t, toBx_b, toInt_i, augV_a, augV_s, retR_d, retR_rd, retR_f, endOf_d, endOf_rd, endOf_f, endOf_n, geOf_glob, retR_b, lstAt_last, set_last, peek_last, foAt_last, take_last, bind_nm, bind_tp, setAll_nil, setAll_cons, wipe_nil, wipe_cons, add_ii, sub_ii, add_ll, add_tt, mul_li, lt_ii, le_ii, gt_ii, ge_ii, eq_ii, ne_ii, eq_ss, ne_ss, Mini.is_none, Mini.isnot_none, len_l, len_t, abs_i, int_i, int_b, tuple_l, tuple_t, list_l, list_t, max_ii, min_ii, isi_int, isi_bool, isi_tup, isi_str, isi_lst, isIntD, isBoolD, isStrD, isTupD, isLstD, ix_l, ix_t, at_0, seq_l, seq_t, lstOf_l, rng1_i, rng2_i, optInt_n, optInt_i, sl_l, sl_t, mapM_nil, mapM_cons, at_1, at_2, at_3, at_4, Option.map_some, List.map_cons, List.map_nil, List.cons_append, List.nil_append, List.append_nil, List.length_cons, List.length_nil, List.set_cons_zero, List.set_cons_succ, List.take_length, List.replicate_succ, List.replicate_zero, sz, decide_eq_true_eq, Nat.zero_add, Nat.reduceAdd, Nat.reduceLeDiff, true_and, and_true, Nat.sub_self, Nat.reduceSub, gl, glVals, List.getElem?_cons_zero, List.getElem?_cons_succ, Bool.not_true, Bool.not_false, rng_len]
        refine ⟨⟨by unfold big; omega, by unfold big; omega⟩, by omega, ?_⟩
        refine .of_eq e7 ?_
        simp only [↓rSs_cons, ↓rSs_nil, ↓rS_asg, ↓rS_tup, ↓rS_par, ↓rS_bxa, ↓rS_app, ↓rS_set, ↓rS_aug, ↓rS_ret, ↓rS_retN, ↓rS_ife, ↓rS_for, ↓rS_while, ↓rS_pass, ↓rS_brk, ↓rS_cont, ↓rS_expr, ↓rE_var, ↓rE_cst, ↓rE_glb, ↓rE_bin, ↓rE_neg, ↓rE_not, ↓rE_cmp, ↓rE_chain, ↓rE_and, ↓rE_or, ↓rE_ife, ↓rE_call, ↓rE_b1, ↓rE_b2, ↓rE_isi, ↓rE_ix, ↓rE_sl, ↓rE_tup, ↓rE_lst, ↓rE_lc, ↓rEs_nil, ↓rEs_cons, ↓rEo_no, ↓rEo_so, ↓rC_no, ↓rC_so, ↓rI_sq, ↓rI_r1, ↓rI_r2, ↓rI_zip, ↓rI_enu, after_nx, after_rt, after_bk, after_ct, Run.some, Run.none, Run.map, Run.ifn, RunIf.tt, RunIf.ff, RunIf.not_, w_d, R.norm_d, R.norm_w, R.norm_l, peek_d, toD_d, tst_b, tst_i, tst_l, tst_t, tst_n, slot_0, slot_s, mkW_f, mkW_t, toBx_b, toInt_i, augV_a, augV_s, retR_d, retR_rd, retR_f, endOf_d, endOf_rd, endOf_f, endOf_n, geOf_glob, retR_b, lstAt_last, set_last, peek_last, foAt_last, take_last, bind_nm, bind_tp, setAll_nil, setAll_cons, wipe_nil, wipe_cons, add_ii, sub_ii, add_ll, add_tt, mul_li, lt_ii, le_ii, gt_ii, ge_ii, eq_ii, ne_ii, eq_ss, ne_ss, Mini.is_none, Mini.isnot_none, len_l, len_t, abs_i, int_i, int_b, tuple_l, tuple_t, list_l, list_t, max_ii, min_ii, isi_int, isi_bool, isi_tup, isi_str, isi_lst, isIntD, isBoolD, isStrD, isTupD, isLstD, ix_l, ix_t, at_0, seq_l, seq_t, lstOf_l, rng1_i, rng2_i, optInt_n, optInt_i, sl_l, sl_t, mapM_nil, mapM_cons, at_1, at_2, at_3, at_4, Option.map_some, List.map_cons, List.map_nil, List.cons_append, List.nil_append, List.append_nil, List.length_cons, List.length_nil, List.set_cons_zero, List.set_cons_succ, List.take_length, List.replicate_succ, List.replicate_zero, sz, decide_eq_true_eq, Nat.zero_add, Nat.reduceAdd, Nat.reduceLeDiff, true_and, and_true, Nat.sub_self, Nat.reduceSub, gl, glVals, List.getElem?_cons_zero, List.getElem?_cons_succ, Bool.not_true, Bool.not_false, rng_len]
        refine ⟨⟨by unfold big; omega, by unfold big; omega⟩, by omega, ?_⟩
        refine lc_inv (fun i2 μ' => ∃ σ2, μ' = σ2 ++ [some (.fo (.lst (lotT ps.sum (ps.zip Rs))))] ∧ Rolls (w * i2) j (k - (16 + 16 * i + w)) σ' σ2) (fun _ y => ∃ v : List Int, y = rowD v ∧ v.length = w ∧ Up 60 v) ⟨σ', rfl, Rolls.refl RR1.dice⟩ ?_ ?_
        · rintro i2 x hx μ' ⟨σ2, rfl, R9⟩
          obtain ⟨hi2, rfl⟩ := rng_get hx
          have hm : w * i2 + w ≤ 12 := by
            have : w * i2 ≤ 4 * i2 := Nat.mul_le_mul_right _ hw.2
            omega
          obtain ⟨vs2, μ7, e8, g8, g9, g10⟩ := rolls_lc (n := n + 1) (s := 9) (d := 0) (N := w) (T := 61) (μ := σ2 ++ [some (.fo (.lst (lotT ps.sum (ps.zip Rs))))])
            (ρ := [some (.bx j), some (.d (.list (ps.map .int))), some (.d (.int p)), some (.d (.int w)), some (.d (.bool false)), some (.bx μ.length), some (.d (.int r)), some (.d (.tuple (vs.map .int))), x3, x4, some (.d (.int i2))]) (fun _ => rfl) (R9.dice.app) (by omega) (by decide) (bt_lit (by decide))
          obtain ⟨σ3, rfl, g11⟩ := g10.split (by have := R9.2.1; omega)
          simp only [↓rSs_cons, ↓rSs_nil, ↓rS_asg, ↓rS_tup, ↓rS_par, ↓rS_bxa, ↓rS_app, ↓rS_set, ↓rS_aug, ↓rS_ret, ↓rS_retN, ↓rS_ife, ↓rS_for, ↓rS_while, ↓rS_pass, ↓rS_brk, ↓rS_cont, ↓rS_expr, ↓rE_var, ↓rE_cst, ↓rE_glb, ↓rE_bin, ↓rE_neg, ↓rE_not, ↓rE_cmp, ↓rE_chain, ↓rE_and, ↓rE_or, ↓rE_ife, ↓rE_call, ↓rE_b1, ↓rE_b2, ↓rE_isi, ↓rE_ix, ↓rE_sl, ↓rE_tup, ↓rE_lst, ↓rE_lc, ↓rEs_nil, ↓rEs_cons, ↓rEo_no, ↓rEo_so, ↓rC_no, ↓rC_so, ↓rI_sq, ↓rI_r1, ↓rI_r2, ↓rI_zip, ↓rI_enu, after_nx, after_rt, after_bk, after_ct, Run.some, Run.none, Run.map, Run.ifn, RunIf.tt, RunIf.ff, RunIf.not_, w_d, R.norm_d, R.norm_w, R.norm_l, peek_d, toD_d, tst_b, tst_i, tst_l, tst_t, tst_n, slot_0, slot_s, mkW_f, mkW_t, toBx_b, toInt_i, augV_a, augV_s, retR_d, retR_rd, retR_f, endOf_d, endOf_rd, endOf_f, endOf_n, geOf_glob, retR_b, lstAt_last, set_last, peek_last, foAt_last, take_last, bind_nm, bind_tp, setAll_nil, setAll_cons, wipe_nil, wipe_cons, add_ii, sub_ii, add_ll, add_tt, mul_li, lt_ii, le_ii, gt_ii, ge_ii, eq_ii, ne_ii, eq_ss, ne_ss, Mini.is_none, Mini.isnot_none, len_l, len_t, abs_i, int_i, int_b, tuple_l, tuple_t, list_l, list_t, max_ii, min_ii, isi_int, isi_bool, isi_tup, isi_str, isi_lst, isIntD, isBoolD, isStrD, isTupD, isLstD, ix_l, ix_t, at_0, seq_l, seq_t, lstOf_l, rng1_i, rng2_i, optInt_n, optInt_i, sl_l, sl_t, mapM_nil, mapM_cons, at_1, at_2, at_3, at_4, Option.map_some, List.map_cons, List.map_nil, List.cons_append, List.nil_append, List.append_nil, List.length_cons, List.length_nil, List.set_cons_zero, List.set_cons_succ, List.take_length, List.replicate_succ, List.replicate_zero, sz, decide_eq_true_eq, Nat.zero_add, Nat.reduceAdd, Nat.reduceLeDiff, true_and, and_true, Nat.sub_self, Nat.reduceSub, gl, glVals, List.getElem?_cons_zero, List.getElem?_cons_succ, Bool.not_true, Bool.not_false, rng_len]
          refine ⟨⟨by unfold big; omega, by unfold big; omega⟩, by omega, ?_⟩
          refine .of_eq e8 ?_
          simp only [↓rSs_cons, ↓rSs_nil, ↓rS_asg, ↓rS_tup, ↓rS_par, ↓rS_bxa, ↓rS_app, ↓rS_set, ↓rS_aug, ↓rS_ret, ↓rS_retN, ↓rS_ife, ↓rS_for, ↓rS_while, ↓rS_pass, ↓rS_brk, ↓rS_cont, ↓rS_expr, ↓rE_var, ↓rE_cst, ↓rE_glb, ↓rE_bin, ↓rE_neg, ↓rE_not, ↓rE_cmp, ↓rE_chain, ↓rE_and, ↓rE_or, ↓rE_ife, ↓rE_call, ↓rE_b1, ↓rE_b2, ↓rE_isi, ↓rE_ix, ↓rE_sl, ↓rE_tup, ↓rE_lst, ↓rE_lc, ↓rEs_nil, ↓rEs_cons, ↓rEo_no, ↓rEo_so, ↓rC_no, ↓rC_so, ↓rI_sq, ↓rI_r1, ↓rI_r2, ↓rI_zip, ↓rI_enu, after_nx, after_rt, after_bk, after_ct, Run.some, Run.none, Run.map, Run.ifn, RunIf.tt, RunIf.ff, RunIf.not_, w_d, R.norm_d, R.norm_w, R.norm_l, peek_d, toD_d, tst_b, tst_i, tst_l, tst_t, tst_n, slot_0, slot_s, mkW_f, mkW_t, toBx_b, toInt_i, augV_a, augV_s, retR_d, retR_rd, retR_f, endOf_d, endOf_rd, endOf_f, endOf_n, geOf_glob, retR_b, lstAt_last, set_last, peek_last, foAt_last, take_last, bind_nm, bind_tp, setAll_nil, setAll_cons, wipe_nil, wipe_cons, add_ii, sub_ii, add_ll, add_tt, mul_li, lt_ii, le_ii, gt_ii, ge_ii, eq_ii, ne_ii, eq_ss, ne_ss, Mini.is_none, Mini.isnot_none, len_l, len_t, abs_i, int_i, int_b, tuple_l, tuple_t, list_l, list_t, max_ii, min_ii, isi_int, isi_bool, isi_tup, isi_str, isi_lst, isIntD, isBoolD, isStrD, isTupD, isLstD, ix_l, ix_t, at_0, seq_l, seq_t, lstOf_l, rng1_i, rng2_i, optInt_n, optInt_i, sl_l, sl_t, mapM_nil, mapM_cons, at_1, at_2, at_3, at_4, Option.map_some, List.map_cons, List.map_nil, List.cons_append, List.nil_append, List.append_nil, List.length_cons, List.length_nil, List.set_cons_zero, List.set_cons_succ, List.take_length, List.replicate_succ, List.replicate_zero, sz, decide_eq_true_eq, Nat.zero_add, Nat.reduceAdd, Nat.reduceLeDiff, true_and, and_true, Nat.sub_self, Nat.reduceSub, gl, glVals, List.getElem?_cons_zero, List.getElem?_cons_succ, Bool.not_true, Bool.not_false]
          exact ⟨⟨vs2, rfl, g8, g9⟩, σ3, rfl, R9.trans g11 (by rw [Nat.mul_add, Nat.mul_one])⟩
        · rintro ys μ' hy ⟨σ2, rfl, R9⟩
          obtain ⟨ts, rfl, ht1, ht2⟩ := hy.map
          rw [rng_len] at ht2 R9
          have hm : w * r ≤ 12 := Nat.mul_le_mul hw.2 hr.2
          have RR2 := RR1.trans (by rw [Nat.add_assoc] at *; exact R9) rfl
          have hσ2 : σ2.length = μ.length := RR2.2.1
          simp only [↓rSs_cons, ↓rSs_nil, ↓rS_asg, ↓rS_tup, ↓rS_par, ↓rS_bxa, ↓rS_app, ↓rS_set, ↓rS_aug, ↓rS_ret, ↓rS_retN, ↓rS_ife, ↓rS_for, ↓rS_while, ↓rS_pass, ↓rS_brk, ↓rS_cont, ↓rS_expr, ↓rE_var, ↓rE_cst, ↓rE_glb, ↓rE_bin, ↓rE_neg, ↓rE_not, ↓rE_cmp, ↓rE_chain, ↓rE_and, ↓rE_or, ↓rE_ife, ↓rE_call, ↓rE_b1, ↓rE_b2, ↓rE_isi, ↓rE_ix, ↓rE_sl, ↓rE_tup, ↓rE_lst, ↓rE_lc, ↓rEs_nil, ↓rEs_cons, ↓rEo_no, ↓rEo_so, ↓rC_no, ↓rC_so, ↓rI_sq, ↓rI_r1, ↓rI_r2, ↓rI_zip, ↓rI_enu, after_nx, after_rt, after_bk, after_ct, Run.some, Run.none, Run.map, Run.ifn, RunIf.tt, RunIf.ff, RunIf.not_, w_d, R.norm_d, R.norm_w, R.norm_l, peek_d, toD_d, tst_b, tst_i, tst_l, tst_t, tst_n, slot_0, slot_s, mkW_f, mkW_t, toBx_b, toInt_i, augV_a, augV_s, retR_d, retR_rd, retR_f, endOf_d, endOf_rd, endOf_f, endOf_n, geOf_glob, retR_b, lstAt_last, set_last, peek_last, foAt_last, take_last, bind_nm, bind_tp, setAll_nil, setAll_cons, wipe_nil, wipe_cons, add_ii, sub_ii, add_ll, add_tt, mul_li, lt_ii, le_ii, gt_ii, ge_ii, eq_ii, ne_ii, eq_ss, ne_ss, Mini.is_none, Mini.isnot_none, len_l, len_t, abs_i, int_i, int_b, tuple_l, tuple_t, list_l, list_t, max_ii, min_ii, isi_int, isi_bool, isi_tup, isi_str, isi_lst, isIntD, isBoolD, isStrD, isTupD, isLstD, ix_l, ix_t, at_0, seq_l, seq_t, lstOf_l, rng1_i, rng2_i, optInt_n, optInt_i, sl_l, sl_t, mapM_nil, mapM_cons, at_1, at_2, at_3, at_4, Option.map_some, List.map_cons, List.map_nil, List.cons_append, List.nil_append, List.append_nil, List.length_cons, List.length_nil, List.set_cons_zero, List.set_cons_succ, List.take_length, List.replicate_succ, List.replicate_zero, sz, decide_eq_true_eq, Nat.zero_add, Nat.reduceAdd, Nat.reduceLeDiff, true_and, and_true, Nat.sub_self, Nat.reduceSub, gl, glVals, List.getElem?_cons_zero, List.getElem?_cons_succ, Bool.not_true, Bool.not_false, lstAt_at hσ', lstAt_at hσ2, sum_l, intsOf_map, lfrac_i hS0 hSB]
          refine ⟨by unfold lotT; rw [List.length_map, List.length_zip]; omega, σ2, Rs ++ [ts], _, _, _, _, _, ?_, by rw [List.length_append, hRl]; rfl, ?_, (RR2.up (by omega)), rfl⟩
          · rw [set_at hσ2, zip_snoc (p := p) (by rw [hRl]; exact hp)]
            unfold lotT
            rw [List.map_append]
            rfl
          · intro t ht
            rcases List.mem_append.mp ht with ht | ht
            · exact hRs t ht
            · rw [List.mem_singleton] at ht
              subst ht
              exact ⟨⟨by omega, by omega, ht1⟩, ht2⟩
      · rintro ρ μ' ⟨σ, Rs, x1, x2, x3, x4, x5, rfl, hRl, hRs, RR, rfl⟩
        rw [List.length_map] at hRl RR
        have hσ : σ.length = μ.length := RR.2.1
        simp only [↓rSs_cons, ↓rSs_nil, ↓rS_asg, ↓rS_tup, ↓rS_par, ↓rS_bxa, ↓rS_app, ↓rS_set, ↓rS_aug, ↓rS_ret, ↓rS_retN, ↓rS_ife, ↓rS_for, ↓rS_while, ↓rS_pass, ↓rS_brk, ↓rS_cont, ↓rS_expr, ↓rE_var, ↓rE_cst, ↓rE_glb, ↓rE_bin, ↓rE_neg, ↓rE_not, ↓rE_cmp, ↓rE_chain, ↓rE_and, ↓rE_or, ↓rE_ife, ↓rE_call, ↓rE_b1, ↓rE_b2, ↓rE_isi, ↓rE_ix, ↓rE_sl, ↓rE_tup, ↓rE_lst, ↓rE_lc, ↓rEs_nil, ↓rEs_cons, ↓rEo_no, ↓rEo_so, ↓rC_no, ↓rC_so, ↓rI_sq, ↓rI_r1, ↓rI_r2, ↓rI_zip, ↓rI_enu, after_nx, after_rt, after_bk, after_ct, Run.some, Run.none, Run.map, Run.ifn, RunIf.tt, RunIf.ff, RunIf.not_, w_d, R.norm_d, R.norm_w, R.norm_l, peek_d, toD_d, tst_b, tst_i, tst_l, tst_t, tst_n, slot_0, slot_s, mkW_f, mkW_t, toBx_b, toInt_i, augV_a, augV_s, retR_d, retR_rd, retR_f, endOf_d, endOf_rd, endOf_f, endOf_n, geOf_glob, retR_b, lstAt_last, set_last, peek_last, foAt_last, take_last, bind_nm, bind_tp, setAll_nil, setAll_cons, wipe_nil, wipe_cons, add_ii, sub_ii, add_ll, add_tt, mul_li, lt_ii, le_ii, gt_ii, ge_ii, eq_ii, ne_ii, eq_ss, ne_ss, Mini.is_none, Mini.isnot_none, len_l, len_t, abs_i, int_i, int_b, tuple_l, tuple_t, list_l, list_t, max_ii, min_ii, isi_int, isi_bool, isi_tup, isi_str, isi_lst, isIntD, isBoolD, isStrD, isTupD, isLstD, ix_l, ix_t, at_0, seq_l, seq_t, lstOf_l, rng1_i, rng2_i, optInt_n, optInt_i, sl_l, sl_t, mapM_nil, mapM_cons, at_1, at_2, at_3, at_4, Option.map_some, List.map_cons, List.map_nil, List.cons_append, List.nil_append, List.append_nil, List.length_cons, List.length_nil, List.set_cons_zero, List.set_cons_succ, List.take_length, List.replicate_succ, List.replicate_zero, sz, decide_eq_true_eq, Nat.zero_add, Nat.reduceAdd, Nat.reduceLeDiff, true_and, and_true, Nat.sub_self, Nat.reduceSub, gl, glVals, List.getElem?_cons_zero, List.getElem?_cons_succ, Bool.not_true, Bool.not_false, peek_at hσ, take_at hσ]
        refine ⟨_, _, rfl, RR.up (by omega), .inr ⟨rfl, ps.sum, r, w, ps.zip Rs, rfl, ⟨?_, ?_, by omega⟩, hS1, hw.2, hr.2, by rw [List.length_zip]; omega⟩⟩
        · rw [zip_fst hRl]; exact hW
        · intro q hq
          exact hRs q.2 (List.of_mem_zip hq).2
end
end K85
end
section
set_option Elab.async false
set_option linter.all false
set_option maxRecDepth 100000
set_option maxHeartbeats 1000000
open Mini PySem
namespace K85
theorem lotR_L {S : Int} {L : List (Int × List Int)} : lotR S L = lotL S (L.map fun q => (q.1, rowD q.2)) := by
  unfold lotR lotL; rw [List.map_map]; rfl
theorem lotT_L {S : Int} {M : List (Int × List (List Int))} : lotT S M = lotL S (M.map fun q => (q.1, tabD q.2)) := by
  unfold lotT lotL; rw [List.map_map]; rfl
theorem p70 : (100000000000000000000 : Nat) < 10 ^ 70 := by decide
theorem row_repr {r : List Int} {w : Nat} (h : Up 60 r) (hl : r.length = w) (hw : w ≤ 10) : nice 70 (rowD r) = true ∧ (rowD r).depth ≤ 1 ∧ wt 70 (rowD r) ≤ 733 := by
  refine ⟨?_, ?_, ?_⟩
  · unfold rowD
    simp only [nice]
    rw [niceAll_iff]
    intro x hx
    obtain ⟨i, hi, rfl⟩ := List.mem_map.mp hx
    have := h i hi
    simp only [nice, decide_eq_true_eq]
    exact Nat.lt_trans (show i.natAbs < 100000000000000000000 by omega) p70
  · unfold rowD
    simp only [PyData.depth]
    have := depthAll_le (k := 0) (l := r.map .int) (fun x hx => by
      obtain ⟨i, hi, rfl⟩ := List.mem_map.mp hx
      simp [PyData.depth])
    omega
  · unfold rowD
    simp only [wt]
    have := wtAll_le (k := 70) (c := 71) (xs := r.map .int) (fun x hx => by
      obtain ⟨i, hi, rfl⟩ := List.mem_map.mp hx
      simp [wt])
    rw [List.length_map] at this
    omega
theorem fr_repr {a S : Int} (hS : 0 < S) (hS' : S ≤ 6000000000) (h : 0 ≤ a ∧ a ≤ 60 * S) : nice 70 (fr a S) = true ∧ (fr a S).depth ≤ 1 ∧ wt 70 (fr a S) ≤ 149 := by
  have h1 := nm_abs (a := a) hS
  have h2 := dn_abs (a := a) hS
  unfold fr
  refine ⟨?_, ?_, ?_⟩
  · simp only [nice, niceAll, Bool.and_eq_true, decide_eq_true_eq]
    exact ⟨Nat.lt_trans (show (nm a S).natAbs < 100000000000000000000 by omega) p70, Nat.lt_trans (show (nm S a).natAbs < 100000000000000000000 by omega) p70, trivial⟩
  · simp [PyData.depth, PyData.depthAll]
  · simp [wt, wtAll]
theorem acc_repr {S : Int} {w : Nat} {L : List (Int × List Int)} (h : Rws S w L) (hS' : S ≤ 6000000000) : nice 70 (.tuple ((accN w L).map (fr · S))) = true ∧ (PyData.tuple ((accN w L).map (fr · S))).depth ≤ 2 ∧ wt 70 (.tuple ((accN w L).map (fr · S))) ≤ 1513 := by
  have hS := h.ws.S_pos
  have hw := h.wid
  obtain ⟨h1, h2⟩ := h.acc L.length
  rw [List.take_of_length_le (Nat.le_refl _)] at h1 h2
  rw [List.take_of_length_le (by rw [List.length_map]; exact Nat.le_refl _), h.ws.sum] at h2
  refine ⟨?_, ?_, ?_⟩
  · simp only [nice]
    rw [niceAll_iff]
    intro x hx
    obtain ⟨a, ha, rfl⟩ := List.mem_map.mp hx
    exact (fr_repr hS hS' (h2 a ha)).1
  · simp only [PyData.depth]
    have := depthAll_le (k := 1) (l := (accN w L).map (fr · S)) (fun x hx => by
      obtain ⟨a, ha, rfl⟩ := List.mem_map.mp hx
      exact (fr_repr hS hS' (h2 a ha)).2.1)
    omega
  · simp only [wt]
    have := wtAll_le (k := 70) (c := 149) (xs := (accN w L).map (fr · S)) (fun x hx => by
      obtain ⟨a, ha, rfl⟩ := List.mem_map.mp hx
      exact (fr_repr hS hS' (h2 a ha)).2.2)
    rw [List.length_map, h1] at this
    omega
/-- what is asked of a drawn value -/
structure VOk (val : List D) (flat : Bool) (S : Int) (L : List (Int × D)) (F made : List D) : Prop where
  eq : val = lotL S L
  lot : ∀ n μ, Lot (n + 1) μ S L F
  S_le : S ≤ 6000000000
  len : L.length ≤ 6
  made1 : ∀ n μ, (G (n + 5)).fn 19 [.d (.tuple val)] μ = some (rd (.tuple made), μ)
  made2 : ∀ n μ, (G (n + 5)).fn 34 [.d (.tuple val), .d (.bool flat)] μ = some (rd (.tuple made), μ)
  r1 : ReprOk (.tuple made)
  r2 : ∀ q ∈ L, ReprOk q.2
theorem val_ok {val : List D} {flat : Bool} (h : Val val flat) : ∃ S L F made, VOk val flat S L F made := by
  rcases h with ⟨rfl, S, w, L, rfl, hR, hS, h20, hw, hl⟩ | ⟨rfl, S, r, w, M, rfl, hT, hS, hw, hr, hl⟩
  · refine ⟨S, L.map fun q => (q.1, rowD q.2), [.int w], (accN w L).map (fr · S), lotR_L, fun n μ => ⟨?_, ?_, ?_, ?_⟩, hS, by rw [List.length_map]; exact hl, fun n μ => made_in_r hR h20, fun n μ => lmade_r hR, ?_, ?_⟩
    · rw [List.map_map]; exact hR.ws
    · intro q hq
      obtain ⟨q', hq', rfl⟩ := List.mem_map.mp hq
      have h2 := (hR.row q' hq').2
      have h3 := hR.wid
      have := form_of_r (n := n) (μ := μ) (h20 q' hq') (by omega)
      rw [h2] at this
      exact this
    · have := hR.wid; simp [nice, niceAll]; omega
    · simp [PyData.depth, PyData.depthAll]
    · obtain ⟨g1, g2, g3⟩ := acc_repr hR hS
      exact ⟨_, rfl, g1, by omega, by omega⟩
    · intro q hq
      obtain ⟨q', hq', rfl⟩ := List.mem_map.mp hq
      obtain ⟨h1, h2⟩ := hR.row q' hq'
      have h3 := hR.wid
      obtain ⟨g1, g2, g3⟩ := row_repr h1 h2 (by omega)
      exact ⟨_, rfl, g1, Nat.le_trans g2 (by decide), Nat.le_trans g3 (by decide)⟩
  · have hwid := hT.wid
    refine ⟨S, M.map fun q => (q.1, tabD q.2), [.int r, .int w], madeT S r w M, lotT_L, fun n μ => ⟨?_, ?_, ?_, ?_⟩, hS, by rw [List.length_map]; exact hl, fun n μ => made_in_t hT, fun n μ => lmade_t hT, ?_, ?_⟩
    · rw [List.map_map]; exact hT.ws
    · intro q hq
      obtain ⟨q', hq', rfl⟩ := List.mem_map.mp hq
      obtain ⟨h1, h2⟩ := hT.tb q' hq'
      have := form_of_t (n := n) (μ := μ) h1
      rw [h2] at this
      exact this
    · simp [nice, niceAll]; omega
    · simp [PyData.depth, PyData.depthAll]
    · have key : ∀ x ∈ madeT S r w M, nice 70 x = true ∧ x.depth ≤ 2 ∧ wt 70 x ≤ 1513 := by
        intro x hx
        obtain ⟨i, hi, rfl⟩ := List.mem_map.mp hx
        rw [List.mem_range] at hi
        exact acc_repr (hT.rows hi) hS
      refine ⟨_, rfl, ?_, ?_, ?_⟩
      · simp only [nice]
        rw [niceAll_iff]
        exact fun x hx => (key x hx).1
      · simp only [PyData.depth]
        have := depthAll_le (k := 2) fun x hx => (key x hx).2.1
        omega
      · simp only [wt]
        have := wtAll_le (k := 70) (c := 1513) fun x hx => (key x hx).2.2
        have hlen : (madeT S r w M).length = r := by unfold madeT; simp
        rw [hlen] at this
        omega
    · intro q hq
      obtain ⟨q', hq', rfl⟩ := List.mem_map.mp hq
      obtain ⟨h1, h2⟩ := hT.tb q' hq'
      have key : ∀ x ∈ q'.2.map rowD, nice 70 x = true ∧ x.depth ≤ 1 ∧ wt 70 x ≤ 733 := by
        intro x hx
        obtain ⟨rr, hr', rfl⟩ := List.mem_map.mp hx
        exact row_repr (h1.row rr hr').2 (h1.row rr hr').1 (by omega)
      refine ⟨_, rfl, ?_, ?_, ?_⟩
      · unfold tabD
        simp only [nice]
        rw [niceAll_iff]
        exact fun x hx => (key x hx).1
      · unfold tabD
        simp only [PyData.depth]
        have := depthAll_le (k := 1) fun x hx => (key x hx).2.1
        omega
      · unfold tabD
        simp only [wt]
        have := wtAll_le (k := 70) (c := 733) fun x hx => (key x hx).2.2
        rw [List.length_map] at this
        omega
end K85
end
section
set_option Elab.async false
set_option linter.all false
set_option maxRecDepth 100000
set_option maxHeartbeats 1000000
open Mini PySem
namespace K85
/-- a drawing from 0, below 1 -/
def End (u : D) : Prop := ∃ a b, u = fr a b ∧ 0 < b ∧ b < 10 ^ 60 ∧ 0 ≤ a ∧ a < b
theorem pick_mem {a b S : Int} {m : D} : ∀ {L : List (Int × D)} {T : Int}, pick a b S T L = some m → ∃ q ∈ L, m = q.2
  | [], _, h => by cases h
  | q :: r, T, h => by
    unfold pick at h
    split at h
    · cases h; exact ⟨q, .head _, rfl⟩
    · obtain ⟨q', h1, h2⟩ := pick_mem h
      exact ⟨q', .tail _ h1, h2⟩
theorem take_lt {ps : List Int} (h : ∀ p ∈ ps, 0 < p) {i : Nat} (hi : i < ps.length) : (ps.take i).sum < ps.sum := by
  have h1 := sum_take_le (i + 1) h
  have h2 := take_succ_sum (List.getElem?_eq_getElem hi)
  have h3 := h _ (List.getElem_mem hi)
  omega
theorem fr_m1 {b : Int} : fr (-1) b = .tuple [.int (-1), .int b] := by
  unfold fr nm
  rw [Int.neg_gcd, Int.gcd_neg, Int.gcd_one_left, Int.gcd_one_right]
  simp
section
variable {n : Nat} {μ : Store}
theorem made_by_f {val : List D} {flat : Bool} {S : Int} {L : List (Int × D)} {F made : List D} (h : VOk val flat S L F made) : (G (n + 8)).fn 24 [.d (.tuple val)] μ = some (rd (.tuple made), μ) := by
  apply Run.eq
  have e := h.eq
  refine run_fn (bd := b_made_by) rfl rfl ?_; unfold b_made_by; simp only [List.map_cons, List.map_nil, List.cons_append, List.nil_append, List.append_nil, List.replicate_succ, List.replicate_zero, Nat.reduceSub]
  rw [e]
  simp only [↓rSs_cons, ↓rSs_nil, ↓rS_asg, ↓rS_tup, ↓rS_par, ↓rS_bxa, ↓rS_app, ↓rS_set, ↓rS_aug, ↓rS_ret, ↓rS_retN, ↓rS_ife, ↓rS_for, ↓rS_while, ↓rS_pass, ↓rS_brk, ↓rS_cont, ↓rS_expr, ↓rE_var, ↓rE_cst, ↓rE_glb, ↓rE_bin, ↓rE_neg, ↓rE_not, ↓rE_cmp, ↓rE_chain, ↓rE_and, ↓rE_or, ↓rE_ife, ↓rE_call, ↓rE_b1, ↓rE_b2, ↓rE_isi, ↓rE_ix, ↓rE_sl, ↓rE_tup, ↓rE_lst, ↓rE_lc, ↓rEs_nil, ↓rEs_cons, ↓rEo_no, ↓rEo_so, ↓rC_no, ↓rC_so, ↓rI_sq, ↓rI_r1, ↓rI_r2, ↓rI_zip, ↓rI_enu, after_nx, after_rt, after_bk, after_ct, Run.some, Run.none, Run.map, Run.ifn, RunIf.tt, RunIf.ff, RunIf.not_, w_d, R.norm_d, R.norm_w, R.norm_l, peek_d, toD_d, tst_b, tst_i, tst_l, tst_t, tst_n, slot_0, slot_s, mkW_f, mkW_t, toBx_b, toInt_i, augV_a, augV_s, retR_d, retR_rd, retR_f, endOf_d, endOf_rd, endOf_f, endOf_n, geOf_glob, retR_b, lstAt_last, set_last, peek_last, foAt_last, take_last, bind_nm, bind_tp, setAll_nil, setAll_cons, wipe_nil, wipe_cons, add_ii, sub_ii, add_ll, add_tt, mul_li, lt_ii, le_ii, gt_ii, ge_ii, eq_ii, ne_ii, eq_ss, ne_ss, Mini.is_none, Mini.isnot_none, len_l, len_t, abs_i, int_i, int_b, tuple_l, tuple_t, list_l, list_t, max_ii, min_ii, isi_int, isi_bool, isi_tup, isi_str, isi_lst, isIntD, isBoolD, isStrD, isTupD, isLstD, ix_l, ix_t, at_0, seq_l, seq_t, lstOf_l, rng1_i, rng2_i, optInt_n, optInt_i, sl_l, sl_t, mapM_nil, mapM_cons, at_1, at_2, at_3, at_4, Option.map_some, List.map_cons, List.map_nil, List.cons_append, List.nil_append, List.append_nil, List.length_cons, List.length_nil, List.set_cons_zero, List.set_cons_succ, List.take_length, List.replicate_succ, List.replicate_zero, sz, decide_eq_true_eq, Nat.zero_add, Nat.reduceAdd, Nat.reduceLeDiff, true_and, and_true, Nat.sub_self, Nat.reduceSub, gl, glVals, List.getElem?_cons_zero, List.getElem?_cons_succ, Bool.not_true, Bool.not_false, require_lot_of_f (h.lot n μ)]
  rw [← e]
  simp only [↓rSs_cons, ↓rSs_nil, ↓rS_asg, ↓rS_tup, ↓rS_par, ↓rS_bxa, ↓rS_app, ↓rS_set, ↓rS_aug, ↓rS_ret, ↓rS_retN, ↓rS_ife, ↓rS_for, ↓rS_while, ↓rS_pass, ↓rS_brk, ↓rS_cont, ↓rS_expr, ↓rE_var, ↓rE_cst, ↓rE_glb, ↓rE_bin, ↓rE_neg, ↓rE_not, ↓rE_cmp, ↓rE_chain, ↓rE_and, ↓rE_or, ↓rE_ife, ↓rE_call, ↓rE_b1, ↓rE_b2, ↓rE_isi, ↓rE_ix, ↓rE_sl, ↓rE_tup, ↓rE_lst, ↓rE_lc, ↓rEs_nil, ↓rEs_cons, ↓rEo_no, ↓rEo_so, ↓rC_no, ↓rC_so, ↓rI_sq, ↓rI_r1, ↓rI_r2, ↓rI_zip, ↓rI_enu, after_nx, after_rt, after_bk, after_ct, Run.some, Run.none, Run.map, Run.ifn, RunIf.tt, RunIf.ff, RunIf.not_, w_d, R.norm_d, R.norm_w, R.norm_l, peek_d, toD_d, tst_b, tst_i, tst_l, tst_t, tst_n, slot_0, slot_s, mkW_f, mkW_t, toBx_b, toInt_i, augV_a, augV_s, retR_d, retR_rd, retR_f, endOf_d, endOf_rd, endOf_f, endOf_n, geOf_glob, retR_b, lstAt_last, set_last, peek_last, foAt_last, take_last, bind_nm, bind_tp, setAll_nil, setAll_cons, wipe_nil, wipe_cons, add_ii, sub_ii, add_ll, add_tt, mul_li, lt_ii, le_ii, gt_ii, ge_ii, eq_ii, ne_ii, eq_ss, ne_ss, Mini.is_none, Mini.isnot_none, len_l, len_t, abs_i, int_i, int_b, tuple_l, tuple_t, list_l, list_t, max_ii, min_ii, isi_int, isi_bool, isi_tup, isi_str, isi_lst, isIntD, isBoolD, isStrD, isTupD, isLstD, ix_l, ix_t, at_0, seq_l, seq_t, lstOf_l, rng1_i, rng2_i, optInt_n, optInt_i, sl_l, sl_t, mapM_nil, mapM_cons, at_1, at_2, at_3, at_4, Option.map_some, List.map_cons, List.map_nil, List.cons_append, List.nil_append, List.append_nil, List.length_cons, List.length_nil, List.set_cons_zero, List.set_cons_succ, List.take_length, List.replicate_succ, List.replicate_zero, sz, decide_eq_true_eq, Nat.zero_add, Nat.reduceAdd, Nat.reduceLeDiff, true_and, and_true, Nat.sub_self, Nat.reduceSub, gl, glVals, List.getElem?_cons_zero, List.getElem?_cons_succ, Bool.not_true, Bool.not_false, h.made1 (n + 2) μ]
theorem right_i {j k : Nat} (h : Dice k j μ) (hk : 300 ≤ k) : ∃ μ', (G (n + 10)).fn 36 [.bx j] μ = some (rd (.bool true), μ') ∧ Rolls 300 j k μ μ' := by
  suffices R : Mini.Run ((G (n + 10)).fn 36 [.bx j] μ) fun p => p.1 = rd (.bool true) ∧ Rolls 300 j k μ p.2 by
    obtain ⟨⟨r, μ'⟩, e, rfl, q⟩ := R
    exact ⟨μ', e, q⟩
  obtain ⟨val, flat, μ1, e1, R1, hv⟩ := some_lot_i (n := n + 6) h (by omega)
  obtain ⟨S, L, F, made, V⟩ := val_ok hv
  have hW := (V.lot 0 []).w
  have hS := hW.S_pos
  have hSle := V.S_le
  have hlen := V.len
  have hlen0 := (V.lot 0 []).len
  have eV := V.eq
  have e30 : binV .Pow (.int 10) (.int 30) = some (rd (.int 1000000000000000000000000000000)) := rfl
  have e40 : binV .Pow (.int 10) (.int 40) = some (rd (.int 10000000000000000000000000000000000000000)) := rfl
  refine run_fn (bd := b_law_right) rfl rfl ?_; unfold b_law_right; simp only [List.map_cons, List.map_nil, List.cons_append, List.nil_append, List.append_nil, List.replicate_succ, List.replicate_zero, Nat.reduceSub]
  simp only [↓rSs_cons, ↓rSs_nil, ↓rS_asg, ↓rS_tup, ↓rS_par, ↓rS_bxa, ↓rS_app, ↓rS_set, ↓rS_aug, ↓rS_ret, ↓rS_retN, ↓rS_ife, ↓rS_for, ↓rS_while, ↓rS_pass, ↓rS_brk, ↓rS_cont, ↓rS_expr, ↓rE_var, ↓rE_cst, ↓rE_glb, ↓rE_bin, ↓rE_neg, ↓rE_not, ↓rE_cmp, ↓rE_chain, ↓rE_and, ↓rE_or, ↓rE_ife, ↓rE_call, ↓rE_b1, ↓rE_b2, ↓rE_isi, ↓rE_ix, ↓rE_sl, ↓rE_tup, ↓rE_lst, ↓rE_lc, ↓rEs_nil, ↓rEs_cons, ↓rEo_no, ↓rEo_so, ↓rC_no, ↓rC_so, ↓rI_sq, ↓rI_r1, ↓rI_r2, ↓rI_zip, ↓rI_enu, after_nx, after_rt, after_bk, after_ct, Run.some, Run.none, Run.map, Run.ifn, RunIf.tt, RunIf.ff, RunIf.not_, w_d, R.norm_d, R.norm_w, R.norm_l, peek_d, toD_d, tst_b, tst_i, tst_l, tst_t, tst_n, slot_0, slot_s, mkW_f, mkW_t, toBx_b, toInt_i, augV_a, augV_s, retR_d, retR_rd, retR_f, endOf_d, endOf_rd, endOf_f, endOf_n, geOf_glob, retR_b, lstAt_last, set_last, peek_last, foAt_last, take_last, bind_nm, bind_tp, setAll_nil, setAll_cons, wipe_nil, wipe_cons, add_ii, sub_ii, add_ll, add_tt, mul_li, lt_ii, le_ii, gt_ii, ge_ii, eq_ii, ne_ii, eq_ss, ne_ss, Mini.is_none, Mini.isnot_none, len_l, len_t, abs_i, int_i, int_b, tuple_l, tuple_t, list_l, list_t, max_ii, min_ii, isi_int, isi_bool, isi_tup, isi_str, isi_lst, isIntD, isBoolD, isStrD, isTupD, isLstD, ix_l, ix_t, at_0, seq_l, seq_t, lstOf_l, rng1_i, rng2_i, optInt_n, optInt_i, sl_l, sl_t, mapM_nil, mapM_cons, at_1, at_2, at_3, at_4, Option.map_some, List.map_cons, List.map_nil, List.cons_append, List.nil_append, List.append_nil, List.length_cons, List.length_nil, List.set_cons_zero, List.set_cons_succ, List.take_length, List.replicate_succ, List.replicate_zero, sz, decide_eq_true_eq, Nat.zero_add, Nat.reduceAdd, Nat.reduceLeDiff, true_and, and_true, Nat.sub_self, Nat.reduceSub, gl, glVals, List.getElem?_cons_zero, List.getElem?_cons_succ, Bool.not_true, Bool.not_false, e1, made_by_f V, V.r1.repr, V.made2 (n + 4) μ1, cut_init]
  subst eV
  rw [← fr_zero hS]
  refine for_inv (fun i ρ μ' => μ' = μ1 ∧ ∃ es x y z, ρ = [some (.bx j), some (.d (.list es)), some (.d (.tuple (lotL S L))), some (.d (.bool flat)), some (.d (fr ((L.map (·.1)).take i).sum S)), x, y, z] ∧ es.length ≤ 1 + 2 * i ∧ ∀ u ∈ es, End u)
    ⟨rfl, _, _, _, _, rfl, Nat.le_refl _, ?_⟩ ?_ ?_
  · intro u hu
    rw [List.mem_singleton] at hu
    subst hu
    exact ⟨0, S, rfl, hS, by omega, by omega, hS⟩
  · rintro i x hx ρ μ' ⟨rfl, es, x1, x2, x3, rfl, hes, hE⟩
    have hi : i < L.length - 1 := by
      have := (List.getElem?_eq_some_iff.mp hx).1
      rw [List.length_take, len_lot] at this
      omega
    rw [List.getElem?_take_of_lt (by rw [len_lot]; omega)] at hx
    unfold lotL at hx
    rw [List.getElem?_map] at hx
    obtain ⟨q, hq, rfl⟩ := Option.map_eq_some_iff.mp hx
    have hm : q.1 ∈ L.map (·.1) := List.mem_map_of_mem (List.mem_of_getElem? hq)
    have ht := take_succ_sum (ps := L.map (·.1)) (i := i) (p := q.1) (by rw [List.getElem?_map, hq]; rfl)
    have hT0 := (sum_take_le i hW.pos).1
    have hp0 := hW.pos _ hm
    have hT1 := take_lt hW.pos (i := i + 1) (by rw [List.length_map]; omega)
    rw [hW.sum, ht] at hT1
    have hTb := hW.t_bt (i + 1)
    rw [ht] at hTb
    simp only [↓rSs_cons, ↓rSs_nil, ↓rS_asg, ↓rS_tup, ↓rS_par, ↓rS_bxa, ↓rS_app, ↓rS_set, ↓rS_aug, ↓rS_ret, ↓rS_retN, ↓rS_ife, ↓rS_for, ↓rS_while, ↓rS_pass, ↓rS_brk, ↓rS_cont, ↓rS_expr, ↓rE_var, ↓rE_cst, ↓rE_glb, ↓rE_bin, ↓rE_neg, ↓rE_not, ↓rE_cmp, ↓rE_chain, ↓rE_and, ↓rE_or, ↓rE_ife, ↓rE_call, ↓rE_b1, ↓rE_b2, ↓rE_isi, ↓rE_ix, ↓rE_sl, ↓rE_tup, ↓rE_lst, ↓rE_lc, ↓rEs_nil, ↓rEs_cons, ↓rEo_no, ↓rEo_so, ↓rC_no, ↓rC_so, ↓rI_sq, ↓rI_r1, ↓rI_r2, ↓rI_zip, ↓rI_enu, after_nx, after_rt, after_bk, after_ct, Run.some, Run.none, Run.map, Run.ifn, RunIf.tt, RunIf.ff, RunIf.not_, w_d, R.norm_d, R.norm_w, R.norm_l, peek_d, toD_d, tst_b, tst_i, tst_l, tst_t, tst_n, slot_0, slot_s, mkW_f, mkW_t, toBx_b, toInt_i, augV_a, augV_s, retR_d, retR_rd, retR_f, endOf_d, endOf_rd, endOf_f, endOf_n, geOf_glob, retR_b, lstAt_last, set_last, peek_last, foAt_last, take_last, bind_nm, bind_tp, setAll_nil, setAll_cons, wipe_nil, wipe_cons, add_ii, sub_ii, add_ll, add_tt, mul_li, lt_ii, le_ii, gt_ii, ge_ii, eq_ii, ne_ii, eq_ss, ne_ss, Mini.is_none, Mini.isnot_none, len_l, len_t, abs_i, int_i, int_b, tuple_l, tuple_t, list_l, list_t, max_ii, min_ii, isi_int, isi_bool, isi_tup, isi_str, isi_lst, isIntD, isBoolD, isStrD, isTupD, isLstD, ix_l, ix_t, at_0, seq_l, seq_t, lstOf_l, rng1_i, rng2_i, optInt_n, optInt_i, sl_l, sl_t, mapM_nil, mapM_cons, at_1, at_2, at_3, at_4, Option.map_some, List.map_cons, List.map_nil, List.cons_append, List.nil_append, List.append_nil, List.length_cons, List.length_nil, List.set_cons_zero, List.set_cons_succ, List.take_length, List.replicate_succ, List.replicate_zero, sz, decide_eq_true_eq, Nat.zero_add, Nat.reduceAdd, Nat.reduceLeDiff, true_and, and_true, Nat.sub_self, Nat.reduceSub, gl, glVals, List.getElem?_cons_zero, List.getElem?_cons_succ, Bool.not_true, Bool.not_false, lplus_S hS (b1000 (hW.t_bt i)) (b1000 hW.bt) (b1000 (hW.p_bt hm)), e30]
    rw [← fr_m1]
    simp only [↓rSs_cons, ↓rSs_nil, ↓rS_asg, ↓rS_tup, ↓rS_par, ↓rS_bxa, ↓rS_app, ↓rS_set, ↓rS_aug, ↓rS_ret, ↓rS_retN, ↓rS_ife, ↓rS_for, ↓rS_while, ↓rS_pass, ↓rS_brk, ↓rS_cont, ↓rS_expr, ↓rE_var, ↓rE_cst, ↓rE_glb, ↓rE_bin, ↓rE_neg, ↓rE_not, ↓rE_cmp, ↓rE_chain, ↓rE_and, ↓rE_or, ↓rE_ife, ↓rE_call, ↓rE_b1, ↓rE_b2, ↓rE_isi, ↓rE_ix, ↓rE_sl, ↓rE_tup, ↓rE_lst, ↓rE_lc, ↓rEs_nil, ↓rEs_cons, ↓rEo_no, ↓rEo_so, ↓rC_no, ↓rC_so, ↓rI_sq, ↓rI_r1, ↓rI_r2, ↓rI_zip, ↓rI_enu, after_nx, after_rt, after_bk, after_ct, Run.some, Run.none, Run.map, Run.ifn, RunIf.tt, RunIf.ff, RunIf.not_, w_d, R.norm_d, R.norm_w, R.norm_l, peek_d, toD_d, tst_b, tst_i, tst_l, tst_t, tst_n, slot_0, slot_s, mkW_f, mkW_t, toBx_b, toInt_i, augV_a, augV_s, retR_d, retR_rd, retR_f, endOf_d, endOf_rd, endOf_f, endOf_n, geOf_glob, retR_b, lstAt_last, set_last, peek_last, foAt_last, take_last, bind_nm, bind_tp, setAll_nil, setAll_cons, wipe_nil, wipe_cons, add_ii, sub_ii, add_ll, add_tt, mul_li, lt_ii, le_ii, gt_ii, ge_ii, eq_ii, ne_ii, eq_ss, ne_ss, Mini.is_none, Mini.isnot_none, len_l, len_t, abs_i, int_i, int_b, tuple_l, tuple_t, list_l, list_t, max_ii, min_ii, isi_int, isi_bool, isi_tup, isi_str, isi_lst, isIntD, isBoolD, isStrD, isTupD, isLstD, ix_l, ix_t, at_0, seq_l, seq_t, lstOf_l, rng1_i, rng2_i, optInt_n, optInt_i, sl_l, sl_t, mapM_nil, mapM_cons, at_1, at_2, at_3, at_4, Option.map_some, List.map_cons, List.map_nil, List.cons_append, List.nil_append, List.append_nil, List.length_cons, List.length_nil, List.set_cons_zero, List.set_cons_succ, List.take_length, List.replicate_succ, List.replicate_zero, sz, decide_eq_true_eq, Nat.zero_add, Nat.reduceAdd, Nat.reduceLeDiff, true_and, and_true, Nat.sub_self, Nat.reduceSub, gl, glVals, List.getElem?_cons_zero, List.getElem?_cons_succ, Bool.not_true, Bool.not_false, lplus_f (a := ((L.map (·.1)).take i).sum + q.1) (c := -1) hS (show (0 : Int) < 1000000000000000000000000000000 by decide) (b1000 hTb) (b1000 hW.bt) (bt_lit (by decide)) (bt_lit (by decide)), add_ll]
    refine ⟨by simp; omega, _, _, _, _, by rw [ht], ?_, ?_⟩
    · rw [List.length_append, List.length_cons, List.length_cons, List.length_nil]; omega
    · intro u hu
      rcases List.mem_append.mp hu with hu | hu
      · exact hE u hu
      · rcases List.mem_cons.mp hu with rfl | hu
        · exact ⟨_, S, rfl, hS, by omega, by omega, hT1⟩
        · rw [List.mem_singleton] at hu
          subst hu
          exact ⟨_, _, rfl, by omega, by omega, by omega, by omega⟩
  · rintro ρ μ' ⟨rfl, es, x1, x2, x3, rfl, hes, hE⟩
    rw [List.length_take, len_lot] at hes
    obtain ⟨v, μ2, e2, a2, b2, R2⟩ := roll_i (n := n + 8) R1.dice (show 1 ≤ k - 200 by omega) (show (0 : Int) < 50 by decide) (bt_lit (by decide))
    have c40 : (0 : Int) < 10000000000000000000000000000000000000000 := by decide
    simp only [↓rSs_cons, ↓rSs_nil, ↓rS_asg, ↓rS_tup, ↓rS_par, ↓rS_bxa, ↓rS_app, ↓rS_set, ↓rS_aug, ↓rS_ret, ↓rS_retN, ↓rS_ife, ↓rS_for, ↓rS_while, ↓rS_pass, ↓rS_brk, ↓rS_cont, ↓rS_expr, ↓rE_var, ↓rE_cst, ↓rE_glb, ↓rE_bin, ↓rE_neg, ↓rE_not, ↓rE_cmp, ↓rE_chain, ↓rE_and, ↓rE_or, ↓rE_ife, ↓rE_call, ↓rE_b1, ↓rE_b2, ↓rE_isi, ↓rE_ix, ↓rE_sl, ↓rE_tup, ↓rE_lst, ↓rE_lc, ↓rEs_nil, ↓rEs_cons, ↓rEo_no, ↓rEo_so, ↓rC_no, ↓rC_so, ↓rI_sq, ↓rI_r1, ↓rI_r2, ↓rI_zip, ↓rI_enu, after_nx, after_rt, after_bk, after_ct, Run.some, Run.none, Run.map, Run.ifn, RunIf.tt, RunIf.ff, RunIf.not_, w_d, R.norm_d, R.norm_w, R.norm_l, peek_d, toD_d, tst_b, tst_i, tst_l, tst_t, tst_n, slot_0, slot_s, mkW_f, mkW_t, toBx_b, toInt_i, augV_a, augV_s, retR_d, retR_rd, retR_f, endOf_d, endOf_rd, endOf_f, endOf_n, geOf_glob, retR_b, lstAt_last, set_last, peek_last, foAt_last, take_last, bind_nm, bind_tp, setAll_nil, setAll_cons, wipe_nil, wipe_cons, add_ii, sub_ii, add_ll, add_tt, mul_li, lt_ii, le_ii, gt_ii, ge_ii, eq_ii, ne_ii, eq_ss, ne_ss, Mini.is_none, Mini.isnot_none, len_l, len_t, abs_i, int_i, int_b, tuple_l, tuple_t, list_l, list_t, max_ii, min_ii, isi_int, isi_bool, isi_tup, isi_str, isi_lst, isIntD, isBoolD, isStrD, isTupD, isLstD, ix_l, ix_t, at_0, seq_l, seq_t, lstOf_l, rng1_i, rng2_i, optInt_n, optInt_i, sl_l, sl_t, mapM_nil, mapM_cons, at_1, at_2, at_3, at_4, Option.map_some, List.map_cons, List.map_nil, List.cons_append, List.nil_append, List.append_nil, List.length_cons, List.length_nil, List.set_cons_zero, List.set_cons_succ, List.take_length, List.replicate_succ, List.replicate_zero, sz, decide_eq_true_eq, Nat.zero_add, Nat.reduceAdd, Nat.reduceLeDiff, true_and, and_true, Nat.sub_self, Nat.reduceSub, gl, glVals, List.getElem?_cons_zero, List.getElem?_cons_succ, Bool.not_true, Bool.not_false, e2, e40, lfrac_i (a := v) (show (0 : Int) < 50 by decide) (bt_lit (by decide)), lfrac_i (a := 10000000000000000000000000000000000000000 - 1) c40 (Bt.mono (p := 200) (bt_lit (by decide)) (by decide)), add_ll]
    refine ⟨by simp; omega, ?_⟩
    rw [List.length_append, List.length_cons, List.length_cons, List.length_nil]
    refine ⟨by omega, ?_⟩
    have hE2 : ∀ u ∈ es ++ [fr v 50, fr (10000000000000000000000000000000000000000 - 1) 10000000000000000000000000000000000000000], End u := by
      intro u hu
      rcases List.mem_append.mp hu with hu | hu
      · exact hE u hu
      · rcases List.mem_cons.mp hu with rfl | hu
        · exact ⟨v, 50, rfl, by decide, by decide, a2, b2⟩
        · rw [List.mem_singleton] at hu
          subst hu
          exact ⟨_, _, rfl, by decide, by decide, by decide, by decide⟩
    refine .of_eq (lc_filter (fun _ => false) (fun x => x) fun u hu => ?_) ?_
    · obtain ⟨a, b, rfl, hb, hb60, ha0, hab⟩ := hE2 u hu
      obtain ⟨m, hm⟩ := pick_some (a := a) (b := b) hS hab (L := L) (T := 0) (by intro e; rw [e] at hlen0; simp at hlen0) (by rw [hW.sum]; omega)
      obtain ⟨q, hq, rfl⟩ := pick_mem hm
      have hB : Bt 4000 b := Bt.mono (p := 200) (by unfold Bt; omega) (by decide)
      have hA : Bt 4000 a := Bt.mono (p := 200) (by unfold Bt; omega) (by decide)
      simp only [↓rSs_cons, ↓rSs_nil, ↓rS_asg, ↓rS_tup, ↓rS_par, ↓rS_bxa, ↓rS_app, ↓rS_set, ↓rS_aug, ↓rS_ret, ↓rS_retN, ↓rS_ife, ↓rS_for, ↓rS_while, ↓rS_pass, ↓rS_brk, ↓rS_cont, ↓rS_expr, ↓rE_var, ↓rE_cst, ↓rE_glb, ↓rE_bin, ↓rE_neg, ↓rE_not, ↓rE_cmp, ↓rE_chain, ↓rE_and, ↓rE_or, ↓rE_ife, ↓rE_call, ↓rE_b1, ↓rE_b2, ↓rE_isi, ↓rE_ix, ↓rE_sl, ↓rE_tup, ↓rE_lst, ↓rE_lc, ↓rEs_nil, ↓rEs_cons, ↓rEo_no, ↓rEo_so, ↓rC_no, ↓rC_so, ↓rI_sq, ↓rI_r1, ↓rI_r2, ↓rI_zip, ↓rI_enu, after_nx, after_rt, after_bk, after_ct, Run.some, Run.none, Run.map, Run.ifn, RunIf.tt, RunIf.ff, RunIf.not_, w_d, R.norm_d, R.norm_w, R.norm_l, peek_d, toD_d, tst_b, tst_i, tst_l, tst_t, tst_n, slot_0, slot_s, mkW_f, mkW_t, toBx_b, toInt_i, augV_a, augV_s, retR_d, retR_rd, retR_f, endOf_d, endOf_rd, endOf_f, endOf_n, geOf_glob, retR_b, lstAt_last, set_last, peek_last, foAt_last, take_last, bind_nm, bind_tp, setAll_nil, setAll_cons, wipe_nil, wipe_cons, add_ii, sub_ii, add_ll, add_tt, mul_li, lt_ii, le_ii, gt_ii, ge_ii, eq_ii, ne_ii, eq_ss, ne_ss, Mini.is_none, Mini.isnot_none, len_l, len_t, abs_i, int_i, int_b, tuple_l, tuple_t, list_l, list_t, max_ii, min_ii, isi_int, isi_bool, isi_tup, isi_str, isi_lst, isIntD, isBoolD, isStrD, isTupD, isLstD, ix_l, ix_t, at_0, seq_l, seq_t, lstOf_l, rng1_i, rng2_i, optInt_n, optInt_i, sl_l, sl_t, mapM_nil, mapM_cons, at_1, at_2, at_3, at_4, Option.map_some, List.map_cons, List.map_nil, List.cons_append, List.nil_append, List.append_nil, List.length_cons, List.length_nil, List.set_cons_zero, List.set_cons_succ, List.take_length, List.replicate_succ, List.replicate_zero, sz, decide_eq_true_eq, Nat.zero_add, Nat.reduceAdd, Nat.reduceLeDiff, true_and, and_true, Nat.sub_self, Nat.reduceSub, gl, glVals, List.getElem?_cons_zero, List.getElem?_cons_succ, Bool.not_true, Bool.not_false, drawn_f (V.lot (n + 1) μ2) hb ha0 hab hb60 hm, ldrawn_f (n := n + 5) (μ := μ2) hW hb hA hB hm, (V.r2 q hq).repr]
      exact fun h => nomatch h
    · have e0 : ∀ l : List D, l.filter (fun _ => false) = [] := fun l => List.filter_eq_nil_iff.mpr (fun _ _ => Bool.false_ne_true)
      have RR := R1.trans R2 rfl
      simp only [↓rSs_cons, ↓rSs_nil, ↓rS_asg, ↓rS_tup, ↓rS_par, ↓rS_bxa, ↓rS_app, ↓rS_set, ↓rS_aug, ↓rS_ret, ↓rS_retN, ↓rS_ife, ↓rS_for, ↓rS_while, ↓rS_pass, ↓rS_brk, ↓rS_cont, ↓rS_expr, ↓rE_var, ↓rE_cst, ↓rE_glb, ↓rE_bin, ↓rE_neg, ↓rE_not, ↓rE_cmp, ↓rE_chain, ↓rE_and, ↓rE_or, ↓rE_ife, ↓rE_call, ↓rE_b1, ↓rE_b2, ↓rE_isi, ↓rE_ix, ↓rE_sl, ↓rE_tup, ↓rE_lst, ↓rE_lc, ↓rEs_nil, ↓rEs_cons, ↓rEo_no, ↓rEo_so, ↓rC_no, ↓rC_so, ↓rI_sq, ↓rI_r1, ↓rI_r2, ↓rI_zip, ↓rI_enu, after_nx, after_rt, after_bk, after_ct, Run.some, Run.none, Run.map, Run.ifn, RunIf.tt, RunIf.ff, RunIf.not_, w_d, R.norm_d, R.norm_w, R.norm_l, peek_d, toD_d, tst_b, tst_i, tst_l, tst_t, tst_n, slot_0, slot_s, mkW_f, mkW_t, toBx_b, toInt_i, augV_a, augV_s, retR_d, retR_rd, retR_f, endOf_d, endOf_rd, endOf_f, endOf_n, geOf_glob, retR_b, lstAt_last, set_last, peek_last, foAt_last, take_last, bind_nm, bind_tp, setAll_nil, setAll_cons, wipe_nil, wipe_cons, add_ii, sub_ii, add_ll, add_tt, mul_li, lt_ii, le_ii, gt_ii, ge_ii, eq_ii, ne_ii, eq_ss, ne_ss, Mini.is_none, Mini.isnot_none, len_l, len_t, abs_i, int_i, int_b, tuple_l, tuple_t, list_l, list_t, max_ii, min_ii, isi_int, isi_bool, isi_tup, isi_str, isi_lst, isIntD, isBoolD, isStrD, isTupD, isLstD, ix_l, ix_t, at_0, seq_l, seq_t, lstOf_l, rng1_i, rng2_i, optInt_n, optInt_i, sl_l, sl_t, mapM_nil, mapM_cons, at_1, at_2, at_3, at_4, Option.map_some, List.map_cons, List.map_nil, List.cons_append, List.nil_append, List.append_nil, List.length_cons, List.length_nil, List.set_cons_zero, List.set_cons_succ, List.take_length, List.replicate_succ, List.replicate_zero, sz, decide_eq_true_eq, Nat.zero_add, Nat.reduceAdd, Nat.reduceLeDiff, true_and, and_true, Nat.sub_self, Nat.reduceSub, gl, glVals, List.getElem?_cons_zero, List.getElem?_cons_succ, Bool.not_true, Bool.not_false, e0, eq_nil]
      rw [List.take_of_length_le (by rw [RR.2.1]; exact Nat.le_refl _)]
      exact RR.up (by decide)
theorem lot0 {n : Nat} {μ : Store} : Rws 3 2 [(1, [1, 0]), (2, [0, 1])] ∧ (∀ q ∈ ([(1, [1, 0]), (2, [0, 1])] : List (Int × List Int)), Up 20 q.2) ∧ Lot (n + 1) μ 3 [(1, rowD [1, 0]), (2, rowD [0, 1])] [.int 2] := by
  have u1 : Up 20 [1, 0] := fun x hx => by simp at hx; omega
  have u2 : Up 20 [0, 1] := fun x hx => by simp at hx; omega
  have hW : Wts 3 [1, 2] := ⟨fun p hp => by simp at hp; omega, rfl, bt_lit (Nat.lt_of_lt_of_le (show 3 < 2 ^ 2 by decide) (Nat.pow_le_pow_right (by decide) (by decide))), by decide⟩
  refine ⟨⟨hW, fun q hq => ?_, by decide⟩, fun q hq => ?_, ⟨hW, fun q hq => ?_, rfl, by simp [PyData.depth, PyData.depthAll]⟩⟩
  · rcases List.mem_cons.mp hq with rfl | hq
    · exact ⟨fun x hx => by have := u1 x hx; omega, rfl⟩
    · rw [List.mem_singleton] at hq; subst hq; exact ⟨fun x hx => by have := u2 x hx; omega, rfl⟩
  · rcases List.mem_cons.mp hq with rfl | hq
    · exact u1
    · rw [List.mem_singleton] at hq; subst hq; exact u2
  · rcases List.mem_cons.mp hq with rfl | hq
    · exact form_of_r u1 (by decide)
    · rw [List.mem_singleton] at hq; subst hq; exact form_of_r u2 (by decide)
theorem law_f {ns : List Int} : ∃ μ', (G (n + 11)).fn 37 [.bx 0] [some (.fz (ns.map .int))] = some (rd (.bool true), μ') := by
  suffices R : Mini.Run ((G (n + 11)).fn 37 [.bx 0] [some (.fz (ns.map .int))]) fun p => p.1 = rd (.bool true) by
    obtain ⟨⟨r, μ'⟩, e, rfl⟩ := R
    exact ⟨μ', e⟩
  have hp : peek [some (.fz (ns.map .int))] (.bx 0) = some (.list (ns.map .int)) := rfl
  refine run_fn (bd := b_law) rfl rfl ?_; unfold b_law; simp only [List.map_cons, List.map_nil, List.cons_append, List.nil_append, List.append_nil, List.replicate_succ, List.replicate_zero, Nat.reduceSub]
  simp only [↓rSs_cons, ↓rSs_nil, ↓rS_asg, ↓rS_tup, ↓rS_par, ↓rS_bxa, ↓rS_app, ↓rS_set, ↓rS_aug, ↓rS_ret, ↓rS_retN, ↓rS_ife, ↓rS_for, ↓rS_while, ↓rS_pass, ↓rS_brk, ↓rS_cont, ↓rS_expr, ↓rE_var, ↓rE_cst, ↓rE_glb, ↓rE_bin, ↓rE_neg, ↓rE_not, ↓rE_cmp, ↓rE_chain, ↓rE_and, ↓rE_or, ↓rE_ife, ↓rE_call, ↓rE_b1, ↓rE_b2, ↓rE_isi, ↓rE_ix, ↓rE_sl, ↓rE_tup, ↓rE_lst, ↓rE_lc, ↓rEs_nil, ↓rEs_cons, ↓rEo_no, ↓rEo_so, ↓rC_no, ↓rC_so, ↓rI_sq, ↓rI_r1, ↓rI_r2, ↓rI_zip, ↓rI_enu, after_nx, after_rt, after_bk, after_ct, Run.some, Run.none, Run.map, Run.ifn, RunIf.tt, RunIf.ff, RunIf.not_, w_d, R.norm_d, R.norm_w, R.norm_l, peek_d, toD_d, tst_b, tst_i, tst_l, tst_t, tst_n, slot_0, slot_s, mkW_f, mkW_t, toBx_b, toInt_i, augV_a, augV_s, retR_d, retR_rd, retR_f, endOf_d, endOf_rd, endOf_f, endOf_n, geOf_glob, retR_b, lstAt_last, set_last, peek_last, foAt_last, take_last, bind_nm, bind_tp, setAll_nil, setAll_cons, wipe_nil, wipe_cons, add_ii, sub_ii, add_ll, add_tt, mul_li, lt_ii, le_ii, gt_ii, ge_ii, eq_ii, ne_ii, eq_ss, ne_ss, Mini.is_none, Mini.isnot_none, len_l, len_t, abs_i, int_i, int_b, tuple_l, tuple_t, list_l, list_t, max_ii, min_ii, isi_int, isi_bool, isi_tup, isi_str, isi_lst, isIntD, isBoolD, isStrD, isTupD, isLstD, ix_l, ix_t, at_0, seq_l, seq_t, lstOf_l, rng1_i, rng2_i, optInt_n, optInt_i, sl_l, sl_t, mapM_nil, mapM_cons, at_1, at_2, at_3, at_4, Option.map_some, List.map_cons, List.map_nil, List.cons_append, List.nil_append, List.append_nil, List.length_cons, List.length_nil, List.set_cons_zero, List.set_cons_succ, List.take_length, List.replicate_succ, List.replicate_zero, sz, decide_eq_true_eq, Nat.zero_add, Nat.reduceAdd, Nat.reduceLeDiff, true_and, and_true, Nat.sub_self, Nat.reduceSub, gl, glVals, List.getElem?_cons_zero, List.getElem?_cons_succ, Bool.not_true, Bool.not_false, hp, List.length_map]
  refine ⟨⟨by unfold big; split <;> split <;> omega, by unfold big; split <;> split <;> omega⟩, ?_⟩
  have hN : ∃ N : Nat, (if (if (ns.length : Int) < 5 then (ns.length : Int) else 5) > 1 then if (ns.length : Int) < 5 then (ns.length : Int) else 5 else 1) = N ∧ N ≤ 5 := by
    refine ⟨(if (if (ns.length : Int) < 5 then (ns.length : Int) else 5) > 1 then if (ns.length : Int) < 5 then (ns.length : Int) else 5 else 1 : Int).toNat, ?_, ?_⟩
    · split <;> split <;> omega
    · split <;> split <;> omega
  obtain ⟨N, hN, hN5⟩ := hN
  rw [hN]
  refine for_inv (fun i ρ μ' => ∃ x y z, ρ = [some (.bx 0), x, none, y, z] ∧ μ'[0]? = some (some (.fz (ns.map .int)))) ⟨_, _, _, rfl, rfl⟩ ?_ ?_
  · rintro i x hx ρ μ' ⟨x1, x2, x3, rfl, h0⟩
    obtain ⟨hi, rfl⟩ := rng_get hx
    have hp' : peek μ' (.bx 0) = some (.list (ns.map .int)) := by
      unfold peek
      dsimp only
      rw [h0]
      rfl
    have hl := (List.getElem?_eq_some_iff.mp h0).1
    obtain ⟨a, b, ha, ed⟩ := dice_i (n := n + 9) (s := i) hp' (by omega)
    simp only [↓rSs_cons, ↓rSs_nil, ↓rS_asg, ↓rS_tup, ↓rS_par, ↓rS_bxa, ↓rS_app, ↓rS_set, ↓rS_aug, ↓rS_ret, ↓rS_retN, ↓rS_ife, ↓rS_for, ↓rS_while, ↓rS_pass, ↓rS_brk, ↓rS_cont, ↓rS_expr, ↓rE_var, ↓rE_cst, ↓rE_glb, ↓rE_bin, ↓rE_neg, ↓rE_not, ↓rE_cmp, ↓rE_chain, ↓rE_and, ↓rE_or, ↓rE_ife, ↓rE_call, ↓rE_b1, ↓rE_b2, ↓rE_isi, ↓rE_ix, ↓rE_sl, ↓rE_tup, ↓rE_lst, ↓rE_lc, ↓rEs_nil, ↓rEs_cons, ↓rEo_no, ↓rEo_so, ↓rC_no, ↓rC_so, ↓rI_sq, ↓rI_r1, ↓rI_r2, ↓rI_zip, ↓rI_enu, after_nx, after_rt, after_bk, after_ct, Run.some, Run.none, Run.map, Run.ifn, RunIf.tt, RunIf.ff, RunIf.not_, w_d, R.norm_d, R.norm_w, R.norm_l, peek_d, toD_d, tst_b, tst_i, tst_l, tst_t, tst_n, slot_0, slot_s, mkW_f, mkW_t, toBx_b, toInt_i, augV_a, augV_s, retR_d, retR_rd, retR_f, endOf_d, endOf_rd, endOf_f, endOf_n, geOf_glob, retR_b, lstAt_last, set_last, peek_last, foAt_last, take_last, bind_nm, bind_tp, setAll_nil, setAll_cons, wipe_nil, wipe_cons, add_ii, sub_ii, add_ll, add_tt, mul_li, lt_ii, le_ii, gt_ii, ge_ii, eq_ii, ne_ii, eq_ss, ne_ss, Mini.is_none, Mini.isnot_none, len_l, len_t, abs_i, int_i, int_b, tuple_l, tuple_t, list_l, list_t, max_ii, min_ii, isi_int, isi_bool, isi_tup, isi_str, isi_lst, isIntD, isBoolD, isStrD, isTupD, isLstD, ix_l, ix_t, at_0, seq_l, seq_t, lstOf_l, rng1_i, rng2_i, optInt_n, optInt_i, sl_l, sl_t, mapM_nil, mapM_cons, at_1, at_2, at_3, at_4, Option.map_some, List.map_cons, List.map_nil, List.cons_append, List.nil_append, List.append_nil, List.length_cons, List.length_nil, List.set_cons_zero, List.set_cons_succ, List.take_length, List.replicate_succ, List.replicate_zero, sz, decide_eq_true_eq, Nat.zero_add, Nat.reduceAdd, Nat.reduceLeDiff, true_and, and_true, Nat.sub_self, Nat.reduceSub, gl, glVals, List.getElem?_cons_zero, List.getElem?_cons_succ, Bool.not_true, Bool.not_false, ed]
    refine ⟨by unfold big; decide, ?_⟩
    refine for_inv (fun i2 ρ μ2 => ∃ x, ρ = [some (.bx 0), some (.d (.int i)), none, some (.bx μ'.length), x] ∧ Dice (1500 - 300 * i2) μ'.length μ2 ∧ μ2[0]? = some (some (.fz (ns.map .int)))) ⟨_, rfl, ⟨a, b, 0, lstAt_last, ha, by decide, by decide⟩, by rw [List.getElem?_append_left hl]; exact h0⟩ ?_ ?_
    · rintro i2 x hx ρ μ2 ⟨x1, rfl, hD, h2⟩
      have hi2 : i2 < 5 := by
        have := (List.getElem?_eq_some_iff.mp hx).1
        rw [rng_leni (by decide)] at this
        exact this
      obtain ⟨μ3, e3, R3⟩ := right_i (n := n) hD (by omega)
      simp only [↓rSs_cons, ↓rSs_nil, ↓rS_asg, ↓rS_tup, ↓rS_par, ↓rS_bxa, ↓rS_app, ↓rS_set, ↓rS_aug, ↓rS_ret, ↓rS_retN, ↓rS_ife, ↓rS_for, ↓rS_while, ↓rS_pass, ↓rS_brk, ↓rS_cont, ↓rS_expr, ↓rE_var, ↓rE_cst, ↓rE_glb, ↓rE_bin, ↓rE_neg, ↓rE_not, ↓rE_cmp, ↓rE_chain, ↓rE_and, ↓rE_or, ↓rE_ife, ↓rE_call, ↓rE_b1, ↓rE_b2, ↓rE_isi, ↓rE_ix, ↓rE_sl, ↓rE_tup, ↓rE_lst, ↓rE_lc, ↓rEs_nil, ↓rEs_cons, ↓rEo_no, ↓rEo_so, ↓rC_no, ↓rC_so, ↓rI_sq, ↓rI_r1, ↓rI_r2, ↓rI_zip, ↓rI_enu, after_nx, after_rt, after_bk, after_ct, Run.some, Run.none, Run.map, Run.ifn, RunIf.tt, RunIf.ff, RunIf.not_, w_d, R.norm_d, R.norm_w, R.norm_l, peek_d, toD_d, tst_b, tst_i, tst_l, tst_t, tst_n, slot_0, slot_s, mkW_f, mkW_t, toBx_b, toInt_i, augV_a, augV_s, retR_d, retR_rd, retR_f, endOf_d, endOf_rd, endOf_f, endOf_n, geOf_glob, retR_b, lstAt_last, set_last, peek_last, foAt_last, take_last, bind_nm, bind_tp, setAll_nil, setAll_cons, wipe_nil, wipe_cons, add_ii, sub_ii, add_ll, add_tt, mul_li, lt_ii, le_ii, gt_ii, ge_ii, eq_ii, ne_ii, eq_ss, ne_ss, Mini.is_none, Mini.isnot_none, len_l, len_t, abs_i, int_i, int_b, tuple_l, tuple_t, list_l, list_t, max_ii, min_ii, isi_int, isi_bool, isi_tup, isi_str, isi_lst, isIntD, isBoolD, isStrD, isTupD, isLstD, ix_l, ix_t, at_0, seq_l, seq_t, lstOf_l, rng1_i, rng2_i, optInt_n, optInt_i, sl_l, sl_t, mapM_nil, mapM_cons, at_1, at_2, at_3, at_4, Option.map_some, List.map_cons, List.map_nil, List.cons_append, List.nil_append, List.append_nil, List.length_cons, List.length_nil, List.set_cons_zero, List.set_cons_succ, List.take_length, List.replicate_succ, List.replicate_zero, sz, decide_eq_true_eq, Nat.zero_add, Nat.reduceAdd, Nat.reduceLeDiff, true_and, and_true, Nat.sub_self, Nat.reduceSub, gl, glVals, List.getElem?_cons_zero, List.getElem?_cons_succ, Bool.not_true, Bool.not_false, e3]
      exact ⟨_, rfl, by have := R3.1; rwa [Nat.sub_sub] at this, by rw [R3.2.2 0 (by omega)]; exact h2⟩
    · rintro ρ μ2 ⟨x1, rfl, hD, h2⟩
      simp only [↓rSs_cons, ↓rSs_nil, ↓rS_asg, ↓rS_tup, ↓rS_par, ↓rS_bxa, ↓rS_app, ↓rS_set, ↓rS_aug, ↓rS_ret, ↓rS_retN, ↓rS_ife, ↓rS_for, ↓rS_while, ↓rS_pass, ↓rS_brk, ↓rS_cont, ↓rS_expr, ↓rE_var, ↓rE_cst, ↓rE_glb, ↓rE_bin, ↓rE_neg, ↓rE_not, ↓rE_cmp, ↓rE_chain, ↓rE_and, ↓rE_or, ↓rE_ife, ↓rE_call, ↓rE_b1, ↓rE_b2, ↓rE_isi, ↓rE_ix, ↓rE_sl, ↓rE_tup, ↓rE_lst, ↓rE_lc, ↓rEs_nil, ↓rEs_cons, ↓rEo_no, ↓rEo_so, ↓rC_no, ↓rC_so, ↓rI_sq, ↓rI_r1, ↓rI_r2, ↓rI_zip, ↓rI_enu, after_nx, after_rt, after_bk, after_ct, Run.some, Run.none, Run.map, Run.ifn, RunIf.tt, RunIf.ff, RunIf.not_, w_d, R.norm_d, R.norm_w, R.norm_l, peek_d, toD_d, tst_b, tst_i, tst_l, tst_t, tst_n, slot_0, slot_s, mkW_f, mkW_t, toBx_b, toInt_i, augV_a, augV_s, retR_d, retR_rd, retR_f, endOf_d, endOf_rd, endOf_f, endOf_n, geOf_glob, retR_b, lstAt_last, set_last, peek_last, foAt_last, take_last, bind_nm, bind_tp, setAll_nil, setAll_cons, wipe_nil, wipe_cons, add_ii, sub_ii, add_ll, add_tt, mul_li, lt_ii, le_ii, gt_ii, ge_ii, eq_ii, ne_ii, eq_ss, ne_ss, Mini.is_none, Mini.isnot_none, len_l, len_t, abs_i, int_i, int_b, tuple_l, tuple_t, list_l, list_t, max_ii, min_ii, isi_int, isi_bool, isi_tup, isi_str, isi_lst, isIntD, isBoolD, isStrD, isTupD, isLstD, ix_l, ix_t, at_0, seq_l, seq_t, lstOf_l, rng1_i, rng2_i, optInt_n, optInt_i, sl_l, sl_t, mapM_nil, mapM_cons, at_1, at_2, at_3, at_4, Option.map_some, List.map_cons, List.map_nil, List.cons_append, List.nil_append, List.append_nil, List.length_cons, List.length_nil, List.set_cons_zero, List.set_cons_succ, List.take_length, List.replicate_succ, List.replicate_zero, sz, decide_eq_true_eq, Nat.zero_add, Nat.reduceAdd, Nat.reduceLeDiff, true_and, and_true, Nat.sub_self, Nat.reduceSub, gl, glVals, List.getElem?_cons_zero, List.getElem?_cons_succ, Bool.not_true, Bool.not_false]
      exact ⟨_, _, _, rfl, h2⟩
  · rintro ρ μ' ⟨x1, x2, x3, rfl, h0⟩
    have hR := (lot0 (n := 0) (μ := [])).1
    have h20 := (lot0 (n := 0) (μ := [])).2.1
    have eT : PyData.tuple (lotL 3 [(1, rowD [1, 0]), (2, rowD [0, 1])]) = .tuple [.tuple [.tuple [.int 1, .int 3], .tuple [.int 1, .int 0]], .tuple [.tuple [.int 2, .int 3], .tuple [.int 0, .int 1]]] := by rfl
    have d1 := drawn_f (a := 1) (b := 3) (lot0 (n := n + 2) (μ := μ')).2.2 (by decide) (by decide) (by decide) (by decide) (m := rowD [0, 1]) rfl
    have d2 := drawn_f (a := 0) (b := 1) (lot0 (n := n + 2) (μ := μ')).2.2 (by decide) (by decide) (by decide) (by decide) (m := rowD [1, 0]) rfl
    have f1 : fr 1 3 = .tuple [.int 1, .int 3] := by rfl
    have f2 : fr 0 1 = .tuple [.int 0, .int 1] := by rfl
    rw [eT, f1] at d1
    rw [eT, f2] at d2
    have d3 : (G (n + 10)).fn 24 [.d (.tuple [.tuple [.tuple [.int 1, .int 3], .tuple [.int 1, .int 0]], .tuple [.tuple [.int 2, .int 3], .tuple [.int 0, .int 1]]])] μ' = some (rd (.tuple [.tuple [.int 1, .int 3], .tuple [.int 2, .int 3]]), μ') := by
      apply Run.eq
      have r1 := require_lot_of_f (lot0 (n := n + 2) (μ := μ')).2.2
      have r2 := made_in_r (n := n + 4) (μ := μ') hR h20
      rw [eT] at r1
      rw [lotR_L] at r2
      have eT2 : PyData.tuple (lotL 3 (([(1, [1, 0]), (2, [0, 1])] : List (Int × List Int)).map fun q => (q.1, rowD q.2))) = .tuple [.tuple [.tuple [.int 1, .int 3], .tuple [.int 1, .int 0]], .tuple [.tuple [.int 2, .int 3], .tuple [.int 0, .int 1]]] := by rfl
      rw [eT2] at r2
      refine run_fn (bd := b_made_by) rfl rfl ?_; unfold b_made_by; simp only [List.map_cons, List.map_nil, List.cons_append, List.nil_append, List.append_nil, List.replicate_succ, List.replicate_zero, Nat.reduceSub]
      simp only [↓rSs_cons, ↓rSs_nil, ↓rS_asg, ↓rS_tup, ↓rS_par, ↓rS_bxa, ↓rS_app, ↓rS_set, ↓rS_aug, ↓rS_ret, ↓rS_retN, ↓rS_ife, ↓rS_for, ↓rS_while, ↓rS_pass, ↓rS_brk, ↓rS_cont, ↓rS_expr, ↓rE_var, ↓rE_cst, ↓rE_glb, ↓rE_bin, ↓rE_neg, ↓rE_not, ↓rE_cmp, ↓rE_chain, ↓rE_and, ↓rE_or, ↓rE_ife, ↓rE_call, ↓rE_b1, ↓rE_b2, ↓rE_isi, ↓rE_ix, ↓rE_sl, ↓rE_tup, ↓rE_lst, ↓rE_lc, ↓rEs_nil, ↓rEs_cons, ↓rEo_no, ↓rEo_so, ↓rC_no, ↓rC_so, ↓rI_sq, ↓rI_r1, ↓rI_r2, ↓rI_zip, ↓rI_enu, after_nx, after_rt, after_bk, after_ct, Run.some, Run.none, Run.map, Run.ifn, RunIf.tt, RunIf.ff, RunIf.not_, w_d, R.norm_d, R.norm_w, R.norm_l, peek_d, toD_d, tst_b, tst_i, tst_l, tst_t, tst_n, slot_0, slot_s, mkW_f, mkW_t, toBx_b, toInt_i, augV_a, augV_s, retR_d, retR_rd, retR_f, endOf_d, endOf_rd, endOf_f, endOf_n, geOf_glob, retR_b, lstAt_last, set_last, peek_last, foAt_last, take_last, bind_nm, bind_tp, setAll_nil, setAll_cons, wipe_nil, wipe_cons, add_ii, sub_ii, add_ll, add_tt, mul_li, lt_ii, le_ii, gt_ii, ge_ii, eq_ii, ne_ii, eq_ss, ne_ss, Mini.is_none, Mini.isnot_none, len_l, len_t, abs_i, int_i, int_b, tuple_l, tuple_t, list_l, list_t, max_ii, min_ii, isi_int, isi_bool, isi_tup, isi_str, isi_lst, isIntD, isBoolD, isStrD, isTupD, isLstD, ix_l, ix_t, at_0, seq_l, seq_t, lstOf_l, rng1_i, rng2_i, optInt_n, optInt_i, sl_l, sl_t, mapM_nil, mapM_cons, at_1, at_2, at_3, at_4, Option.map_some, List.map_cons, List.map_nil, List.cons_append, List.nil_append, List.append_nil, List.length_cons, List.length_nil, List.set_cons_zero, List.set_cons_succ, List.take_length, List.replicate_succ, List.replicate_zero, sz, decide_eq_true_eq, Nat.zero_add, Nat.reduceAdd, Nat.reduceLeDiff, true_and, and_true, Nat.sub_self, Nat.reduceSub, gl, glVals, List.getElem?_cons_zero, List.getElem?_cons_succ, Bool.not_true, Bool.not_false, r1, r2]
      rfl
    simp only [↓rSs_cons, ↓rSs_nil, ↓rS_asg, ↓rS_tup, ↓rS_par, ↓rS_bxa, ↓rS_app, ↓rS_set, ↓rS_aug, ↓rS_ret, ↓rS_retN, ↓rS_ife, ↓rS_for, ↓rS_while, ↓rS_pass, ↓rS_brk, ↓rS_cont, ↓rS_expr, ↓rE_var, ↓rE_cst, ↓rE_glb, ↓rE_bin, ↓rE_neg, ↓rE_not, ↓rE_cmp, ↓rE_chain, ↓rE_and, ↓rE_or, ↓rE_ife, ↓rE_call, ↓rE_b1, ↓rE_b2, ↓rE_isi, ↓rE_ix, ↓rE_sl, ↓rE_tup, ↓rE_lst, ↓rE_lc, ↓rEs_nil, ↓rEs_cons, ↓rEo_no, ↓rEo_so, ↓rC_no, ↓rC_so, ↓rI_sq, ↓rI_r1, ↓rI_r2, ↓rI_zip, ↓rI_enu, after_nx, after_rt, after_bk, after_ct, Run.some, Run.none, Run.map, Run.ifn, RunIf.tt, RunIf.ff, RunIf.not_, w_d, R.norm_d, R.norm_w, R.norm_l, peek_d, toD_d, tst_b, tst_i, tst_l, tst_t, tst_n, slot_0, slot_s, mkW_f, mkW_t, toBx_b, toInt_i, augV_a, augV_s, retR_d, retR_rd, retR_f, endOf_d, endOf_rd, endOf_f, endOf_n, geOf_glob, retR_b, lstAt_last, set_last, peek_last, foAt_last, take_last, bind_nm, bind_tp, setAll_nil, setAll_cons, wipe_nil, wipe_cons, add_ii, sub_ii, add_ll, add_tt, mul_li, lt_ii, le_ii, gt_ii, ge_ii, eq_ii, ne_ii, eq_ss, ne_ss, Mini.is_none, Mini.isnot_none, len_l, len_t, abs_i, int_i, int_b, tuple_l, tuple_t, list_l, list_t, max_ii, min_ii, isi_int, isi_bool, isi_tup, isi_str, isi_lst, isIntD, isBoolD, isStrD, isTupD, isLstD, ix_l, ix_t, at_0, seq_l, seq_t, lstOf_l, rng1_i, rng2_i, optInt_n, optInt_i, sl_l, sl_t, mapM_nil, mapM_cons, at_1, at_2, at_3, at_4, Option.map_some, List.map_cons, List.map_nil, List.cons_append, List.nil_append, List.append_nil, List.length_cons, List.length_nil, List.set_cons_zero, List.set_cons_succ, List.take_length, List.replicate_succ, List.replicate_zero, sz, decide_eq_true_eq, Nat.zero_add, Nat.reduceAdd, Nat.reduceLeDiff, true_and, and_true, Nat.sub_self, Nat.reduceSub, gl, glVals, List.getElem?_cons_zero, List.getElem?_cons_succ, Bool.not_true, Bool.not_false, d1, d2, d3]
    have eq1 : cmpV .Eq (PyData.list [rowD [0, 1], rowD [1, 0], .tuple [.tuple [.int 1, .int 3], .tuple [.int 2, .int 3]]]) (PyData.list [.tuple [.int 0, .int 1], .tuple [.int 1, .int 0], .tuple [.tuple [.int 1, .int 3], .tuple [.int 2, .int 3]]]) = some true := by
      rw [eqD_of (by decide) (by decide)]
      rfl
    simp only [↓rSs_cons, ↓rSs_nil, ↓rS_asg, ↓rS_tup, ↓rS_par, ↓rS_bxa, ↓rS_app, ↓rS_set, ↓rS_aug, ↓rS_ret, ↓rS_retN, ↓rS_ife, ↓rS_for, ↓rS_while, ↓rS_pass, ↓rS_brk, ↓rS_cont, ↓rS_expr, ↓rE_var, ↓rE_cst, ↓rE_glb, ↓rE_bin, ↓rE_neg, ↓rE_not, ↓rE_cmp, ↓rE_chain, ↓rE_and, ↓rE_or, ↓rE_ife, ↓rE_call, ↓rE_b1, ↓rE_b2, ↓rE_isi, ↓rE_ix, ↓rE_sl, ↓rE_tup, ↓rE_lst, ↓rE_lc, ↓rEs_nil, ↓rEs_cons, ↓rEo_no, ↓rEo_so, ↓rC_no, ↓rC_so, ↓rI_sq, ↓rI_r1, ↓rI_r2, ↓rI_zip, ↓rI_enu, after_nx, after_rt, after_bk, after_ct, Run.some, Run.none, Run.map, Run.ifn, RunIf.tt, RunIf.ff, RunIf.not_, w_d, R.norm_d, R.norm_w, R.norm_l, peek_d, toD_d, tst_b, tst_i, tst_l, tst_t, tst_n, slot_0, slot_s, mkW_f, mkW_t, toBx_b, toInt_i, augV_a, augV_s, retR_d, retR_rd, retR_f, endOf_d, endOf_rd, endOf_f, endOf_n, geOf_glob, retR_b, lstAt_last, set_last, peek_last, foAt_last, take_last, bind_nm, bind_tp, setAll_nil, setAll_cons, wipe_nil, wipe_cons, add_ii, sub_ii, add_ll, add_tt, mul_li, lt_ii, le_ii, gt_ii, ge_ii, eq_ii, ne_ii, eq_ss, ne_ss, Mini.is_none, Mini.isnot_none, len_l, len_t, abs_i, int_i, int_b, tuple_l, tuple_t, list_l, list_t, max_ii, min_ii, isi_int, isi_bool, isi_tup, isi_str, isi_lst, isIntD, isBoolD, isStrD, isTupD, isLstD, ix_l, ix_t, at_0, seq_l, seq_t, lstOf_l, rng1_i, rng2_i, optInt_n, optInt_i, sl_l, sl_t, mapM_nil, mapM_cons, at_1, at_2, at_3, at_4, Option.map_some, List.map_cons, List.map_nil, List.cons_append, List.nil_append, List.append_nil, List.length_cons, List.length_nil, List.set_cons_zero, List.set_cons_succ, List.take_length, List.replicate_succ, List.replicate_zero, sz, decide_eq_true_eq, Nat.zero_add, Nat.reduceAdd, Nat.reduceLeDiff, true_and, and_true, Nat.sub_self, Nat.reduceSub, gl, glVals, List.getElem?_cons_zero, List.getElem?_cons_succ, Bool.not_true, Bool.not_false, eq1]
theorem run (ns : List Int) (hl : ns.length ≤ 63) : ∃ μ', (geOf table gl 40).fn 37 [.bx 0] [some (.fz (ns.map .int))] = some (rd (.bool true), μ') := law_f (n := 29)
end
end K85
end
set_option Elab.async false
set_option linter.all false
set_option maxRecDepth 100000
open PySem PySem.W PyProof.Rows
set_option maxHeartbeats 0 in
theorem PySem.Challenge.cw_seatsdue_k85_whole_drawn_and_made_holds : PySem.Challenge.rw_seatsdue_k85_whole_drawn_and_made.Holds := by
  w_on; o_law; k_head; (case hw => w_witness2)
  k_fill
  refine Mini.walk_tab (n := 63) (k := 40) (d := _) (gc := K85.gc) (T := K85.table) (gl := K85.gl) (li := 37) rfl (by decide) rfl ⟨rfl, by decide, by decide⟩ (fun w h Y => PySem.W.kIn_of Y) rfl ?F (fun ns hl => K85.run ns hl)
  case F =>
    intro w mg h KX G XPh
    refine' Mini.tab_of (gc := K85.gc) (gv := K85.glVals) ?E ?G ?B
    case E =>
      refine' Mini.Ents.cons (K85.e_is_whole KX G ?zza0 ?zzl0 ?zzc0 ?zzk0) ?zzr0; (case zza0 => k_is); (case zzl0 => k_is); (case zzc0 => k_is); (case zzk0 => k_is)
      refine' Mini.Ents.cons (K85.e_is_near KX G ?zza1 ?zzl1 ?zzc1 ?zzk1) ?zzr1; (case zza1 => k_is); (case zzl1 => k_is); (case zzc1 => k_is); (case zzk1 => k_is)
      refine' Mini.Ents.cons (K85.e_is_within KX G ?zza2 ?zzl2 ?zzc2 ?zzk2) ?zzr2; (case zza2 => k_is); (case zzl2 => k_is); (case zzc2 => k_is); (case zzk2 => k_is)
      refine' Mini.Ents.cons (K85.e_is_pair KX G ?zza3 ?zzl3 ?zzc3 ?zzk3) ?zzr3; (case zza3 => k_is); (case zzl3 => k_is); (case zzc3 => k_is); (case zzk3 => k_is)
      refine' Mini.Ents.cons (K85.e_common_divisor KX G ?zza4 ?zzl4 ?zzc4 ?zzk4) ?zzr4; (case zza4 => k_is); (case zzl4 => k_is); (case zzc4 => k_is); (case zzk4 => k_is)
      refine' Mini.Ents.cons (K85.e_fraction KX G ?zza5 ?zzl5 ?zzc5 ?zzk5) ?zzr5; (case zza5 => k_is); (case zzl5 => k_is); (case zzc5 => k_is); (case zzk5 => k_is)
      refine' Mini.Ents.cons (K85.e_plus KX G ?zza6 ?zzl6 ?zzc6 ?zzk6) ?zzr6; (case zza6 => k_is); (case zzl6 => k_is); (case zzc6 => k_is); (case zzk6 => k_is)
      refine' Mini.Ents.cons (K85.e_times KX G ?zza7 ?zzl7 ?zzc7 ?zzk7) ?zzr7; (case zza7 => k_is); (case zzl7 => k_is); (case zzc7 => k_is); (case zzk7 => k_is)
      refine' Mini.Ents.cons (K85.e_is_less KX G ?zza8 ?zzl8 ?zzc8 ?zzk8) ?zzr8; (case zza8 => k_is); (case zzl8 => k_is); (case zzc8 => k_is); (case zzk8 => k_is)
      refine' Mini.Ents.cons (K85.e_is_fraction KX G ?zza9 ?zzl9 ?zzc9 ?zzk9) ?zzr9; (case zza9 => k_is); (case zzl9 => k_is); (case zzc9 => k_is); (case zzk9 => k_is)
      refine' Mini.Ents.cons (K85.e_is_near_fraction KX G ?zza10 ?zzl10 ?zzc10 ?zzk10) ?zzr10; (case zza10 => k_is); (case zzl10 => k_is); (case zzc10 => k_is); (case zzk10 => k_is)
      refine' Mini.Ents.cons (K85.e_added KX G ?zza11 ?zzl11 ?zzc11 ?zzk11) ?zzr11; (case zza11 => k_is); (case zzl11 => k_is); (case zzc11 => k_is); (case zzk11 => k_is)
      refine' Mini.Ents.cons (K85.e_is_form_in KX G ?zza12 ?zzl12 ?zzc12 ?zzk12) ?zzr12; (case zza12 => k_is); (case zzl12 => k_is); (case zzc12 => k_is); (case zzk12 => k_is)
      refine' Mini.Ents.cons (K85.e_is_seats_in KX G ?zza13 ?zzl13 ?zzc13 ?zzk13) ?zzr13; (case zza13 => k_is); (case zzl13 => k_is); (case zzc13 => k_is); (case zzk13 => k_is)
      refine' Mini.Ents.cons (K85.e_is_seats_member KX G ?zza14 ?zzl14 ?zzc14 ?zzk14) ?zzr14; (case zza14 => k_is); (case zzl14 => k_is); (case zzc14 => k_is); (case zzk14 => k_is)
      refine' Mini.Ents.cons (K85.e_is_table_member KX G ?zza15 ?zzl15 ?zzc15 ?zzk15) ?zzr15; (case zza15 => k_is); (case zzl15 => k_is); (case zzc15 => k_is); (case zzk15 => k_is)
      refine' Mini.Ents.cons (K85.e_form_of KX G ?zza16 ?zzl16 ?zzc16 ?zzk16) ?zzr16; (case zza16 => k_is); (case zzl16 => k_is); (case zzc16 => k_is); (case zzk16 => k_is)
      refine' Mini.Ents.cons (K85.e_is_lot_of KX G ?zza17 ?zzl17 ?zzc17 ?zzk17) ?zzr17; (case zza17 => k_is); (case zzl17 => k_is); (case zzc17 => k_is); (case zzk17 => k_is)
      refine' Mini.Ents.cons (K85.e_mixed_in KX G ?zza18 ?zzl18 ?zzc18 ?zzk18) ?zzr18; (case zza18 => k_is); (case zzl18 => k_is); (case zzc18 => k_is); (case zzk18 => k_is)
      refine' Mini.Ents.cons (K85.e_made_in KX G ?zza19 ?zzl19 ?zzc19 ?zzk19) ?zzr19; (case zza19 => k_is); (case zzl19 => k_is); (case zzc19 => k_is); (case zzk19 => k_is)
      refine' Mini.Ents.cons (K85.e_drawn_in KX G ?zza20 ?zzl20 ?zzc20 ?zzk20) ?zzr20; (case zza20 => k_is); (case zzl20 => k_is); (case zzc20 => k_is); (case zzk20 => k_is)
      refine' Mini.Ents.cons (K85.e_require_drawing KX G ?zza21 ?zzl21 ?zzc21 ?zzk21) ?zzr21; (case zza21 => k_is); (case zzl21 => k_is); (case zzc21 => k_is); (case zzk21 => k_is)
      refine' Mini.Ents.cons (K85.e_require_lot_of KX G ?zza22 ?zzl22 ?zzc22 ?zzk22) ?zzr22; (case zza22 => k_is); (case zzl22 => k_is); (case zzc22 => k_is); (case zzk22 => k_is)
      refine' Mini.Ents.cons (K85.e_drawn KX G ?zza23 ?zzl23 ?zzc23 ?zzk23) ?zzr23; (case zza23 => k_is); (case zzl23 => k_is); (case zzc23 => k_is); (case zzk23 => k_is)
      refine' Mini.Ents.cons (K85.e_made_by KX G ?zza24 ?zzl24 ?zzc24 ?zzk24) ?zzr24; (case zza24 => k_is); (case zzl24 => k_is); (case zzc24 => k_is); (case zzk24 => k_is)
      refine' Mini.Ents.cons (K85.e_law_dice KX G ?zza25 ?zzl25 ?zzc25 ?zzk25) ?zzr25; (case zza25 => k_is); (case zzl25 => k_is); (case zzc25 => k_is); (case zzk25 => k_is)
      refine' Mini.Ents.cons (K85.e_law_roll KX G ?zza26 ?zzl26 ?zzc26 ?zzk26) ?zzr26; (case zza26 => k_is); (case zzl26 => k_is); (case zzc26 => k_is); (case zzk26 => k_is)
      refine' Mini.Ents.cons (K85.e_law_divisor KX G ?zza27 ?zzl27 ?zzc27 ?zzk27) ?zzr27; (case zza27 => k_is); (case zzl27 => k_is); (case zzc27 => k_is); (case zzk27 => k_is)
      refine' Mini.Ents.cons (K85.e_law_fraction KX G ?zza28 ?zzl28 ?zzc28 ?zzk28) ?zzr28; (case zza28 => k_is); (case zzl28 => k_is); (case zzc28 => k_is); (case zzk28 => k_is)
      refine' Mini.Ents.cons (K85.e_law_fr_plus KX G ?zza29 ?zzl29 ?zzc29 ?zzk29) ?zzr29; (case zza29 => k_is); (case zzl29 => k_is); (case zzc29 => k_is); (case zzk29 => k_is)
      refine' Mini.Ents.cons (K85.e_law_fr_times KX G ?zza30 ?zzl30 ?zzc30 ?zzk30) ?zzr30; (case zza30 => k_is); (case zzl30 => k_is); (case zzc30 => k_is); (case zzk30 => k_is)
      refine' Mini.Ents.cons (K85.e_law_fr_less KX G ?zza31 ?zzl31 ?zzc31 ?zzk31) ?zzr31; (case zza31 => k_is); (case zzl31 => k_is); (case zzc31 => k_is); (case zzk31 => k_is)
      refine' Mini.Ents.cons (K85.e_law_lt_made KX G ?zza32 ?zzl32 ?zzc32 ?zzk32) ?zzr32; (case zza32 => k_is); (case zzl32 => k_is); (case zzc32 => k_is); (case zzk32 => k_is)
      refine' Mini.Ents.cons (K85.e_law_some_lot KX G ?zza33 ?zzl33 ?zzc33 ?zzk33) ?zzr33; (case zza33 => k_is); (case zzl33 => k_is); (case zzc33 => k_is); (case zzk33 => k_is)
      refine' Mini.Ents.cons (K85.e_law_made KX G ?zza34 ?zzl34 ?zzc34 ?zzk34) ?zzr34; (case zza34 => k_is); (case zzl34 => k_is); (case zzc34 => k_is); (case zzk34 => k_is)
      refine' Mini.Ents.cons (K85.e_law_drawn KX G ?zza35 ?zzl35 ?zzc35 ?zzk35) ?zzr35; (case zza35 => k_is); (case zzl35 => k_is); (case zzc35 => k_is); (case zzk35 => k_is)
      refine' Mini.Ents.cons (K85.e_law_right KX G ?zza36 ?zzl36 ?zzc36 ?zzk36) ?zzr36; (case zza36 => k_is); (case zzl36 => k_is); (case zzc36 => k_is); (case zzk36 => k_is)
      refine' Mini.Ents.cons (K85.e_law KX G ?zza37 ?zzl37 ?zzc37 ?zzk37) ?zzr37; (case zza37 => k_is); (case zzl37 => k_is); (case zzc37 => k_is); (case zzk37 => k_is)
      exact Mini.Ents.nil
    case G =>
      refine' Mini.Gls.cons ?zzg0 ?zzs0; (case zzg0 => first | exact Mini.glob_loose XPh rfl | (refine' Mini.glob_of KX G ?zzb0 ?zzt0; (case zzb0 => k_is); (case zzt0 => exact .int _ _)))
      refine' Mini.Gls.cons ?zzg1 ?zzs1; (case zzg1 => first | exact Mini.glob_loose XPh rfl | (refine' Mini.glob_of KX G ?zzb1 ?zzt1; (case zzb1 => k_is); (case zzt1 => exact .int _ _)))
      refine' Mini.Gls.cons ?zzg2 ?zzs2; (case zzg2 => first | exact Mini.glob_loose XPh rfl | (refine' Mini.glob_of KX G ?zzb2 ?zzt2; (case zzb2 => k_is); (case zzt2 => exact .int _ _)))
      refine' Mini.Gls.cons ?zzg3 ?zzs3; (case zzg3 => first | exact Mini.glob_loose XPh rfl | (refine' Mini.glob_of KX G ?zzb3 ?zzt3; (case zzb3 => k_is); (case zzt3 => exact .int _ _)))
      refine' Mini.Gls.cons ?zzg4 ?zzs4; (case zzg4 => first | exact Mini.glob_loose XPh rfl | (refine' Mini.glob_of KX G ?zzb4 ?zzt4; (case zzb4 => k_is); (case zzt4 => exact .int _ _)))
      refine' Mini.Gls.cons ?zzg5 ?zzs5; (case zzg5 => first | exact Mini.glob_loose XPh rfl | (refine' Mini.glob_of KX G ?zzb5 ?zzt5; (case zzb5 => k_is); (case zzt5 => exact .int _ _)))
      refine' Mini.Gls.cons ?zzg6 ?zzs6; (case zzg6 => first | exact Mini.glob_loose XPh rfl | (refine' Mini.glob_of KX G ?zzb6 ?zzt6; (case zzb6 => k_is); (case zzt6 => exact .int _ _)))
      refine' Mini.Gls.cons ?zzg7 ?zzs7; (case zzg7 => first | exact Mini.glob_loose XPh rfl | (refine' Mini.glob_of KX G ?zzb7 ?zzt7; (case zzb7 => k_is); (case zzt7 => (refine' .tup ?zzlx3 ?zzsx3 ?zzex3 ?zzrx3; (case zzlx3 => k_is); (case zzsx3 => decide); (case zzex3 => rfl); (case zzrx3 => (refine' .cons ?zzhx2 ?zztx2; (case zzhx2 => exact .int _ _); (case zztx2 => (refine' .cons ?zzhx1 ?zztx1; (case zzhx1 => exact .int _ _); (case zztx1 => exact .nil)))))))))
      refine' Mini.Gls.cons ?zzg8 ?zzs8; (case zzg8 => first | exact Mini.glob_loose XPh rfl | (refine' Mini.glob_of KX G ?zzb8 ?zzt8; (case zzb8 => k_is); (case zzt8 => (refine' .tup ?zzlx6 ?zzsx6 ?zzex6 ?zzrx6; (case zzlx6 => k_is); (case zzsx6 => decide); (case zzex6 => rfl); (case zzrx6 => (refine' .cons ?zzhx5 ?zztx5; (case zzhx5 => exact .int _ _); (case zztx5 => (refine' .cons ?zzhx4 ?zztx4; (case zzhx4 => exact .int _ _); (case zztx4 => exact .nil)))))))))
      exact Mini.Gls.nil
    case B =>
      refine' Mini.Bls.cons (Mini.bl_of KX G ?zzd0) ?zzu0; (case zzd0 => k_is)
      refine' Mini.Bls.cons (Mini.bl_of KX G ?zzd1) ?zzu1; (case zzd1 => k_is)
      refine' Mini.Bls.cons (Mini.bl_of KX G ?zzd2) ?zzu2; (case zzd2 => k_is)
      refine' Mini.Bls.cons (Mini.bl_of KX G ?zzd3) ?zzu3; (case zzd3 => k_is)
      refine' Mini.Bls.cons (Mini.bl_of KX G ?zzd4) ?zzu4; (case zzd4 => k_is)
      refine' Mini.Bls.cons (Mini.bl_of KX G ?zzd5) ?zzu5; (case zzd5 => k_is)
      refine' Mini.Bls.cons (Mini.bl_of KX G ?zzd6) ?zzu6; (case zzd6 => k_is)
      refine' Mini.Bls.cons (Mini.bl_of KX G ?zzd7) ?zzu7; (case zzd7 => k_is)
      refine' Mini.Bls.cons (Mini.bl_of KX G ?zzd8) ?zzu8; (case zzd8 => k_is)
      refine' Mini.Bls.cons (Mini.bl_of KX G ?zzd9) ?zzu9; (case zzd9 => k_is)
      refine' Mini.Bls.cons (Mini.bl_of KX G ?zzd10) ?zzu10; (case zzd10 => k_is)
      refine' Mini.Bls.cons (Mini.bl_of KX G ?zzd11) ?zzu11; (case zzd11 => k_is)
      refine' Mini.Bls.cons (Mini.bl_of KX G ?zzd12) ?zzu12; (case zzd12 => k_is)
      exact Mini.Bls.nil
