import PyProof.Rows.All
import Wide.All
import OpenK.AllK
import Wide.FinOn
import KE.KIsAll
import KE.KIntText
import PySem.Challenge.RW_uf010019_02
set_option Elab.async false
set_option autoImplicit false
set_option genSizeOf false
set_option bootstrap.genMatcherCode false
set_option linter.unusedSimpArgs false
set_option linter.unusedVariables false
namespace Mine
open PySem

inductive V where
  | d (x : PyData)
  | ref (k : Nat)
  | tup (vs : List V)
  | ty (t : String)
  | cls (c : Nat)
  | exc (c : Nat)
  deriving Inhabited

inductive O where
  | list (vs : List V)
  | dead
  deriving Inhabited

abbrev Store := List O
abbrev Vars := List (Option V)

inductive Res (α : Type) where
  | ok (a : α) (σ : Store)
  | exc (c : Nat) (σ : Store)
  | bad

noncomputable def Res.bind {α β : Type} (r : Res α) (f : α → Store → Res β) : Res β :=
  match r with
  | .ok a σ => f a σ
  | .exc c σ => .exc c σ
  | .bad => .bad

inductive Meth where
  | append | join | clear | partition | find | split
  deriving DecidableEq

inductive Bi where
  | len | ord | sorted | min | isinstance | list | str | all | int
  deriving DecidableEq

inductive Mode where
  | iso | frz | shared
  deriving DecidableEq

set_option genInjectivity false
mutual
inductive E where
  | cst (x : PyData)
  | var (i : Nat)
  | ty (t : String)
  | cls (c : Nat)
  | glo (x : PyData)
  | bin (fz : Bool) (op : Operator) (a b : E)
  | neg (a : E)
  | not (a : E)
  | bop (op : BoolOp) (es : List E)
  | cmp (op : CmpOp) (a b : E)
  | tup (es : List E)
  | lst (fz : Bool) (es : List E)
  | sub (a i : E)
  | slc (fz : Bool) (a : E) (lo hi : Option E)
  | bcall (b : Bi) (fz : Bool) (args : List E)
  | fcall (m : Mode) (f : Nat) (args : List E)
  | meth (m : Meth) (fz : Bool) (o : E) (args : List E)
  | comp (fz : Bool) (elt : E) (ts : List Nat) (it : It) (ifs : List E)
inductive It where
  | of (e : E)
  | range (args : List E)
  | zip (a b : E)
  | enum (a : E)
end

inductive S where
  | asg (x : Nat) (e : E)
  | unp (xs : List Nat) (e : E)
  | swp (xs : List Nat) (es : List E)
  | set (o i v : E)
  | exp (e : E)
  | ite (c : E) (a b : List S)
  | for_ (ts : List Nat) (it : It) (body : List S)
  | ret (e : E)
  | raise (c : Nat) (args : List E)
  | try_ (body : List S) (hs : List (Nat × Option Nat × List S))
set_option genInjectivity true

noncomputable def allD : List V → Option (List PyData)
  | [] => some []
  | .d x :: r => match allD r with | some xs => some (x :: xs) | none => none
  | _ :: _ => none

noncomputable def mkTup (vs : List V) : V := match allD vs with | some xs => .d (.tuple xs) | none => .tup vs

noncomputable def line : Nat := 16777216

noncomputable def mkList (fz : Bool) (vs : List V) (σ : Store) : Res V :=
  if vs.length ≤ line then
    (match fz with
      | true => (match allD vs with | some xs => .ok (.d (.list xs)) σ | none => .bad)
      | false => .ok (.ref σ.length) (σ ++ [.list vs]))
  else .bad

noncomputable def lstOf (σ : Store) : V → Option (List V)
  | .d (.list xs) => some (xs.map .d)
  | .ref k => match σ[k]? with | some (.list vs) => some vs | _ => none
  | _ => none
noncomputable def seqOf (σ : Store) : V → Option (List V)
  | .d (.list xs) => some (xs.map .d)
  | .d (.tuple xs) => some (xs.map .d)
  | .tup vs => some vs
  | .ref k => match σ[k]? with | some (.list vs) => some vs | _ => none
  | _ => none

noncomputable def snapL (f : V → Option PyData) : List V → Option (List PyData)
  | [] => some []
  | v :: r => match f v with
    | some x => (match snapL f r with | some xs => some (x :: xs) | none => none)
    | none => none
noncomputable def snapO (f : V → Option PyData) (o : Option O) : Option PyData :=
  match o with
  | some o => (match o with | .list vs => (match snapL f vs with | some xs => some (.list xs) | none => none) | .dead => none)
  | none => none
noncomputable def snap (σ : Store) : Nat → V → Option PyData
  | 0, v => (match v with | .d x => some x | _ => none)
  | n + 1, v => (match v with
    | .d x => some x
    | .ref k => snapO (snap σ n) σ[k]?
    | .tup vs => (match snapL (snap σ n) vs with | some xs => some (.tuple xs) | none => none)
    | _ => none)

noncomputable def strOf (n : Int) : Str := Str.ofString (toString n)

noncomputable def eqLeaf (a b : PyData) : Option Bool :=
  match a with
  | .none => (match b with | .none => some true | .str _ => some false | .tuple _ => some false | _ => none)
  | .bool x => (match b with | .bool y => some (x == y) | _ => none)
  | .int x => (match b with | .int y => some (x == y) | _ => none)
  | .str x => (match b with | .str y => some (x == y) | .none => some false | _ => none)
  | .tuple _ => (match b with | .none => some false | _ => none)
  | _ => none
noncomputable def eqNsW (f : PyData → PyData → Option Bool) : List PyData → List PyData → Option Bool
  | [], ys => (match ys with | [] => some true | _ :: _ => some false)
  | x :: xs, ys => (match ys with
    | [] => some false
    | y :: ys => (match f x y with
      | some a => (match eqNsW f xs ys with | some b => some (a && b) | none => none)
      | none => none))
noncomputable def eqSeq (f : PyData → PyData → Option Bool) (a b : PyData) : Option Bool :=
  match a with
  | .list xs => (match b with | .list ys => if xs.length = ys.length then eqNsW f xs ys else some false | _ => none)
  | .tuple xs => (match b with | .tuple ys => eqNsW f xs ys | _ => eqLeaf a b)
  | _ => eqLeaf a b
noncomputable def eqN : Nat → PyData → PyData → Option Bool
  | 0, a, b => eqLeaf a b
  | n + 1, a, b => eqSeq (eqN n) a b
noncomputable def eqNs (n : Nat) (xs ys : List PyData) : Option Bool := eqNsW (eqN n) xs ys

noncomputable def small (i : Int) : Bool := decide (-9223372036854775808 < i) && decide (i < 9223372036854775808)

noncomputable def catS (a b : Str) : Str := a ++ b

noncomputable def cutAt {α : Type} (lo hi : Option Int) (xs : List α) : List α :=
  (xs.drop (lo.elim 0 (clipAt xs.length))).take (hi.elim xs.length (clipAt xs.length) - lo.elim 0 (clipAt xs.length))

noncomputable def cutS (lo hi : Option Int) (x : Str) : Str := ⟨(cutAt lo hi x.cps.toList).toArray⟩
noncomputable def chr1 (c : Nat) : Str := ⟨#[c]⟩

noncomputable def truthD : PyData → Option Bool
  | .none => some false
  | .bool b => some b
  | .int i => some (i != 0)
  | .str s => some (s.cps.size != 0)
  | .list xs => some (!xs.isEmpty)
  | .tuple xs => some (!xs.isEmpty)
  | .dict _ => none
noncomputable def truth (σ : Store) : V → Option Bool
  | .d x => truthD x
  | .ref k => match σ[k]? with | some (.list vs) => some (!vs.isEmpty) | _ => none
  | _ => none
noncomputable def isIntV : V → Option Int
  | .d (.int i) => some i
  | _ => none
noncomputable def isStrV : V → Option Str
  | .d (.str x) => some x
  | _ => none

noncomputable def isTupV : V → Option (List PyData)
  | .d (.tuple xs) => some xs
  | _ => none
noncomputable def lstAdd (fz : Bool) (a b : V) (σ : Store) : Res V :=
  match lstOf σ a with
  | some xs => (match lstOf σ b with | some ys => mkList fz (xs ++ ys) σ | none => .bad)
  | none => .bad
noncomputable def binAdd (fz : Bool) (a b : V) (σ : Store) : Res V :=
  match isIntV a with
  | some i => (match isIntV b with | some j => .ok (.d (.int (i + j))) σ | none => .bad)
  | none => (match isStrV a with
    | some x => (match isStrV b with | some y => if x.length + y.length ≤ line then .ok (.d (.str (x ++ y))) σ else .bad | none => .bad)
    | none => (match isTupV a with
      | some xs => (match isTupV b with | some ys => if xs.length + ys.length ≤ line then .ok (.d (.tuple (xs ++ ys))) σ else .bad | none => .bad)
      | none => lstAdd fz a b σ))
noncomputable def binMul (fz : Bool) (a : V) (j : Int) (σ : Store) : Res V :=
  match isIntV a with
  | some i => if small i || small j then .ok (.d (.int (i * j))) σ else .bad
  | none => .bad
noncomputable def binop (fz : Bool) (op : Operator) (a b : V) (σ : Store) : Res V :=
  match op with
  | .Add => binAdd fz a b σ
  | .Sub => (match isIntV a, isIntV b with | some i, some j => .ok (.d (.int (i - j))) σ | _, _ => .bad)
  | .Mult => (match isIntV b with | some j => binMul fz a j σ | none => .bad)
  | .FloorDiv => (match isIntV a, isIntV b with | some i, some j => if j = 0 then .bad else .ok (.d (.int (i.fdiv j))) σ | _, _ => .bad)
  | .Mod => (match isIntV a, isIntV b with | some i, some j => if j = 0 then .bad else .ok (.d (.int (i.fmod j))) σ | _, _ => .bad)
  | _ => .bad

noncomputable def ltStr (a b : Str) : Bool := decide (a.cps.toList < b.cps.toList)

noncomputable def eqDepth : Nat := 40

noncomputable def inD (x : PyData) : List PyData → Option Bool
  | [] => some false
  | y :: r => match eqN eqDepth y x, inD x r with | some a, some b => some (a || b) | _, _ => none

noncomputable def notO : Option Bool → Option Bool
  | some b => some (!b)
  | none => none

noncomputable def eqV (σ : Store) (a b : V) : Option Bool :=
  match snap σ eqDepth a, snap σ eqDepth b with
  | some x, some y => eqN eqDepth x y
  | _, _ => none

noncomputable def inSeqD (x d : PyData) : Option Bool :=
  match d with
  | .list ys => inD x ys
  | .tuple ys => inD x ys
  | _ => none
noncomputable def inSeq (σ : Store) (a b : V) : Option Bool :=
  match snap σ eqDepth a with
  | some x => (match snap σ eqDepth b with | some d => inSeqD x d | none => none)
  | none => none
noncomputable def inV (σ : Store) (a b : V) : Option Bool :=
  match isStrV a with
  | some x => (match isStrV b with | some y => some (Txt.contains y x) | none => inSeq σ a b)
  | none => inSeq σ a b

noncomputable def isV : V → V → Option Bool
  | a, .d .none => (match a with
    | .d .none => some true
    | .d _ => some false
    | .ref _ => some false
    | .tup _ => some false
    | .exc _ => some false
    | .ty _ => none
    | .cls _ => none)
  | _, _ => none

noncomputable def ltV : V → V → Option Bool
  | .d (.int i), .d (.int j) => some (decide (i < j))
  | .d (.str x), .d (.str y) => some (ltStr x y)
  | _, _ => none
noncomputable def leV : V → V → Option Bool
  | .d (.int i), .d (.int j) => some (decide (i ≤ j))
  | .d (.str x), .d (.str y) => some (!ltStr y x)
  | _, _ => none
noncomputable def gtV : V → V → Option Bool
  | .d (.int i), .d (.int j) => some (decide (i > j))
  | .d (.str x), .d (.str y) => some (ltStr y x)
  | _, _ => none
noncomputable def geV : V → V → Option Bool
  | .d (.int i), .d (.int j) => some (decide (i ≥ j))
  | .d (.str x), .d (.str y) => some (!ltStr x y)
  | _, _ => none

noncomputable def cmpop (op : CmpOp) (a b : V) (σ : Store) : Option Bool :=
  match op with
  | .Eq => eqV σ a b
  | .NotEq => notO (eqV σ a b)
  | .In => inV σ a b
  | .NotIn => notO (inV σ a b)
  | .Is => isV a b
  | .IsNot => notO (isV a b)
  | .Lt => ltV a b
  | .LtE => leV a b
  | .Gt => gtV a b
  | .GtE => geV a b

noncomputable def subscr (a i : V) (σ : Store) : Option V :=
  match i with
  | .d (.int k) => if small k then (match a with
    | .d (.str x) => (match Txt.charAt x k with | some c => some (.d (.str (chr1 c))) | none => none)
    | a => (match seqOf σ a with | some vs => (match seqIndex? k vs.length with | some j => vs[j]? | none => none) | none => none)) else none
  | _ => none

noncomputable def endOf : Option V → Option (Option Int)
  | none => some none
  | some (.d (.int i)) => if small i then some (some i) else none
  | some _ => none

noncomputable def sliceTup (xs : List PyData) (l h : Option Int) : Option (List PyData) :=
  match l with
  | some a => (match h with | none => if 1 ≤ a ∧ a ≤ xs.length then some (xs.drop a.toNat) else none | some _ => none)
  | none => none
noncomputable def sliceAt (fz : Bool) (a : V) (l h : Option Int) (σ : Store) : Res V :=
  match isStrV a with
  | some x => .ok (.d (.str (cutS l h x))) σ
  | none => (match isTupV a with
    | some xs => (match sliceTup xs l h with | some ys => .ok (.d (.tuple ys)) σ | none => .bad)
    | none => (match lstOf σ a with
      | some xs => mkList fz (cutAt l h xs) σ
      | none => .bad))
noncomputable def slice (fz : Bool) (a : V) (lo hi : Option V) (σ : Store) : Res V :=
  match endOf lo with
  | some l => (match endOf hi with | some h => sliceAt fz a l h σ | none => .bad)
  | none => .bad

noncomputable def strsD : List PyData → Option (List Str)
  | [] => some []
  | .str x :: r => match strsD r with | some xs => some (x :: xs) | none => none
  | _ :: _ => none
noncomputable def strsV : List V → Option (List Str)
  | [] => some []
  | v :: r => (match isStrV v with
    | some x => (match strsV r with | some xs => some (x :: xs) | none => none)
    | none => none)

noncomputable def insStr (x : Str) : List Str → List Str
  | [] => [x]
  | y :: r => if ltStr x y then x :: y :: r else y :: insStr x r
noncomputable def sortStr : List Str → List Str
  | [] => []
  | x :: r => insStr x (sortStr r)

noncomputable def isListO (o : Option O) : Bool :=
  match o with
  | some o => (match o with | .list _ => true | .dead => false)
  | none => false
noncomputable def isTyD (x : PyData) (t : String) : Option Bool :=
  match x with
  | .tuple _ => if t = "tuple" then some true else none
  | .list _ => if t = "list" then some true else none
  | .str _ => if t = "str" then some true else none
  | .int _ => if t = "int" then some true else if t = "bool" then some false else none
  | .bool _ => if t = "bool" then some true else none
  | _ => none
noncomputable def isTy (σ : Store) (v : V) (t : String) : Option Bool :=
  match v with
  | .d x => isTyD x t
  | .tup _ => if t = "tuple" then some true else none
  | .ref k => if isListO σ[k]? = true ∧ t = "list" then some true else none
  | _ => none
noncomputable def isBoolV : V → Option Bool
  | .d (.bool b) => some b
  | _ => none
noncomputable def boolsV : List V → Option (List Bool)
  | [] => some []
  | v :: r => (match isBoolV v with
    | some b => (match boolsV r with | some bs => some (b :: bs) | none => none)
    | none => none)
noncomputable def bAll (hd : Bool) (v : V) (σ : Store) : Res V :=
  match lstOf σ v with
  | some xs => (match boolsV xs with | some bs => if hd = false then .ok (.d (.bool (bs.all id))) σ else .bad | none => .bad)
  | none => .bad
noncomputable def bInt (v : V) (σ : Store) : Res V :=
  match isStrV v with
  | some x => (match intText? x with | some n => if x.length ≤ 640 then .ok (.d (.int n)) σ else .bad | none => .bad)
  | none => .bad
noncomputable def bLen (v : V) (σ : Store) : Res V :=
  match v with
  | .d (.str x) => .ok (.d (.int x.cps.size)) σ
  | v => (match seqOf σ v with | some xs => .ok (.d (.int xs.length)) σ | none => .bad)
noncomputable def bOrd (v : V) (σ : Store) : Res V :=
  match v with
  | .d (.str x) => (match x.cps.toList with | [c] => .ok (.d (.int c)) σ | _ => .bad)
  | _ => .bad
noncomputable def bSort (fz : Bool) (v : V) (σ : Store) : Res V :=
  match lstOf σ v with
  | some xs => (match strsV xs with | some ss => if ss.length < 64 then mkList fz ((sortStr ss).map fun s => .d (.str s)) σ else .bad | none => .bad)
  | none => .bad
noncomputable def bIsi (isExc : Nat → Nat → Option Bool) (v w : V) (σ : Store) : Res V :=
  match w with
  | .cls x => (match v with | .exc c => (match isExc c x with | some b => .ok (.d (.bool b)) σ | none => .bad) | _ => .bad)
  | .ty t => (match isTy σ v t with | some b => .ok (.d (.bool b)) σ | none => .bad)
  | _ => .bad
noncomputable def bcall1 (hd : Bool) (b : Bi) (fz : Bool) (v : V) (σ : Store) : Res V :=
  match b with
  | .len => bLen v σ
  | .ord => bOrd v σ
  | .str => (match isIntV v with | some i => if i.natAbs < 1000000000000 then .ok (.d (.str (strOf i))) σ else .bad | none => .bad)
  | .list => (match lstOf σ v with | some xs => mkList fz xs σ | none => .bad)
  | .sorted => bSort fz v σ
  | .all => bAll hd v σ
  | .int => bInt v σ
  | _ => .bad
noncomputable def bcall2 (isExc : Nat → Nat → Option Bool) (hd : Bool) (b : Bi) (v w : V) (σ : Store) : Res V :=
  match b with
  | .min => (match isIntV v, isIntV w with | some i, some j => if hd then .bad else .ok (.d (.int (if j < i then j else i))) σ | _, _ => .bad)
  | .isinstance => bIsi isExc v w σ
  | _ => .bad
noncomputable def bcall (isExc : Nat → Nat → Option Bool) (hd : Bool) (b : Bi) (fz : Bool) (vs : List V) (σ : Store) : Res V :=
  match vs with
  | [v] => bcall1 hd b fz v σ
  | [v, w] => bcall2 isExc hd b v w σ
  | _ => .bad

noncomputable def appendTo (k : Nat) (v : V) (σ : Store) (o : Option O) : Res V :=
  match o with
  | some o => (match o with
    | .list xs => if xs.length < line then .ok (.d .none) (σ.set k (.list (xs ++ [v]))) else .bad
    | .dead => .bad)
  | none => .bad
noncomputable def joinBy (x : Str) (v : V) (σ : Store) : Res V :=
  match lstOf σ v with
  | some xs => (match strsV xs with
    | some ss => if JoinOk x ss then .ok (.d (.str (Txt.join x ss))) σ else .bad
    | none => .bad)
  | none => .bad
noncomputable def clearAt (k : Nat) (σ : Store) (o : Option O) : Res V :=
  match o with
  | some o => (match o with | .list _ => .ok (.d .none) (σ.set k (.list [])) | .dead => .bad)
  | none => .bad
noncomputable def findIn2 (x y : Str) (σ : Store) : Res V := .ok (.d (.int (Txt.find x y))) σ
noncomputable def partIn (x y : Str) (σ : Store) : Res V :=
  if (y.length == 0) = false then .ok (.d (.tuple [.str (Txt.partition x y).1, .str (Txt.partition x y).2.1, .str (Txt.partition x y).2.2])) σ else .bad
noncomputable def splitIn (fz : Bool) (x y : Str) (σ : Store) : Res V :=
  if (y.length == 0) = false ∧ x.length + 2 ≤ line then mkList fz ((Txt.split x y).map fun p => .d (.str p)) σ else .bad
noncomputable def strMeth (m : Meth) (fz : Bool) (x y : Str) (σ : Store) : Res V :=
  match m with
  | .find => findIn2 x y σ
  | .partition => partIn x y σ
  | .split => splitIn fz x y σ
  | _ => .bad
noncomputable def methcall1 (m : Meth) (fz : Bool) (o v : V) (σ : Store) : Res V :=
  match m with
  | .append => (match o with | .ref k => appendTo k v σ σ[k]? | _ => .bad)
  | .join => (match isStrV o with | some x => joinBy x v σ | none => .bad)
  | m => (match isStrV o with | some x => (match isStrV v with | some y => strMeth m fz x y σ | none => .bad) | none => .bad)
noncomputable def methcall0 (m : Meth) (o : V) (σ : Store) : Res V :=
  match m with
  | .clear => (match o with | .ref k => clearAt k σ σ[k]? | _ => .bad)
  | _ => .bad
noncomputable def methcall (m : Meth) (fz : Bool) (o : V) (vs : List V) (σ : Store) : Res V :=
  match vs with
  | [] => methcall0 m o σ
  | [v] => methcall1 m fz o v σ
  | _ => .bad

noncomputable def methPre (m : Meth) (o : V) (σ : Store) : Bool :=
  match m with
  | .append => (match o with | .ref k => isListO σ[k]? | _ => false)
  | .clear => (match o with | .ref k => isListO σ[k]? | _ => false)
  | _ => (match isStrV o with | some _ => true | none => false)

noncomputable def rangeV (lo : Int) : Nat → List V
  | 0 => []
  | n + 1 => .d (.int lo) :: rangeV (lo + 1) n

noncomputable def rangeOf (hd : Bool) (vs : List V) : Option (List V) :=
  match vs with
  | [v] => (match isIntV v with
    | some n => if n ≤ 1000000 ∧ -1000000 ≤ n ∧ hd = false then some (rangeV 0 n.toNat) else none
    | none => none)
  | _ => none

noncomputable def zipV : List V → List V → List V
  | x :: xs, y :: ys => mkTup [x, y] :: zipV xs ys
  | _, _ => []
noncomputable def enumV (k : Nat) : List V → List V
  | [] => []
  | x :: xs => mkTup [.d (.int k), x] :: enumV (k + 1) xs

noncomputable def tupOf : V → Option (List V)
  | .d (.tuple xs) => some (xs.map .d)
  | .tup vs => some vs
  | _ => none
noncomputable def setTs : Vars → List Nat → List V → Vars
  | ρ, i :: is, v :: vs => setTs (ρ.set i (some v)) is vs
  | ρ, _, _ => ρ
noncomputable def bindTs (hd : Bool) (ρ : Vars) (ts : List Nat) (v : V) : Option Vars :=
  match ts with
  | [i] => some (ρ.set i (some v))
  | ts => if hd then none else match tupOf v with
    | some vs => if vs.length = ts.length then some (setTs ρ ts vs) else none
    | none => none
noncomputable def clearTs (ρ : Vars) (ts : List Nat) : Vars := ts.foldl (fun r i => r.set i none) ρ

inductive Src where
  | items (vs : List V)
  | lref (k i : Nat)
noncomputable def nextAt (k i : Nat) (o : Option O) : Option (Option (V × Src)) :=
  match o with
  | some o => (match o with
    | .list ws => (match ws[i]? with | some v => some (some (v, .lref k (i + 1))) | none => some none)
    | .dead => none)
  | none => none
noncomputable def Src.next (σ : Store) (s : Src) : Option (Option (V × Src)) :=
  match s with
  | .items vs => (match vs with | [] => some none | v :: r => some (some (v, .items r)))
  | .lref k i => nextAt k i σ[k]?
noncomputable def Src.fuel (σ : Store) (s : Src) : Nat :=
  match s with
  | .items vs => vs.length + 1
  | .lref k _ => (match lstOf σ (.ref k) with | some ws => ws.length + 1 | none => 0)
noncomputable def itemsOf (hd : Bool) (σ : Store) : V → Option Src
  | .d (.list xs) => some (.items (xs.map .d))
  | .d (.tuple xs) => if hd then none else some (.items (xs.map .d))
  | .d (.str x) => if hd then none else some (.items (x.cps.toList.map fun c => .d (.str (chr1 c))))
  | .ref k => if isListO σ[k]? = true then some (.lref k 0) else none
  | _ => none
noncomputable def dlist (hd : Bool) : V → Option (List V)
  | .d (.list xs) => if hd then none else some (xs.map .d)
  | _ => none

noncomputable def compGo (f : V → Store → Res (Option V)) : List V → Store → Res (List V)
  | [], σ => .ok [] σ
  | v :: r, σ => (match f v σ with
      | .ok x σ => (match compGo f r σ with | .ok xs σ => .ok (match x with | some y => y :: xs | none => xs) σ | _ => .bad)
      | _ => .bad)

noncomputable def compOne (go : Src → Store → Res (List V)) (f : V → Store → Res (Option V)) (σ : Store) (o : Option (Option (V × Src))) : Res (List V) :=
  match o with
  | some o => (match o with
    | some p => (match f p.1 σ with
      | .ok x σ => (match go p.2 σ with | .ok xs σ => .ok (match x with | some y => y :: xs | none => xs) σ | _ => .bad)
      | _ => .bad)
    | none => .ok [] σ)
  | none => .bad
noncomputable def compS (f : V → Store → Res (Option V)) : Nat → Src → Store → Res (List V)
  | 0, _, _ => .bad
  | n + 1, src, σ => compOne (compS f n) f σ (src.next σ)
noncomputable def compStep (hd : Bool) (ρ : Vars) (ts : List Nat) (tests : Vars → Store → Res Bool) (elt : Vars → Store → Res V) (v : V) (σ : Store) : Res (Option V) :=
  match bindTs hd (clearTs ρ ts) ts v with
  | some ρ' => (tests ρ' σ).bind fun b σ => (match b with
    | true => (elt ρ' σ).bind fun y σ => .ok (some y) σ
    | false => .ok none σ)
  | none => .bad

abbrev CF := Bool → Mode → Nat → List V → Store → Res V

structure Cfg where
  cf : CF
  isExc : Nat → Nat → Option Bool
  fuel : Nat
  hd : Bool

mutual
noncomputable def evalE (C : Cfg) : E → Vars → Store → Res V
  | .cst x, _, σ => .ok (.d x) σ
  | .glo x, _, σ => .ok (.d x) σ
  | .cls c, _, σ => .ok (.cls c) σ
  | .ty t, _, σ => .ok (.ty t) σ
  | .var i, ρ, σ => (match ρ[i]? with | some (some v) => .ok v σ | _ => .bad)
  | .bin fz op a b, ρ, σ => (evalE C a ρ σ).bind fun x σ => (evalE C b ρ σ).bind fun y σ => binop fz op x y σ
  | .neg a, ρ, σ => (evalE C a ρ σ).bind fun x σ => (match x with | .d (.int i) => .ok (.d (.int (-i))) σ | _ => .bad)
  | .not a, ρ, σ => (evalE C a ρ σ).bind fun x σ => (match truth σ x with | some b => .ok (.d (.bool (!b))) σ | none => .bad)
  | .bop op es, ρ, σ => evalB C op es ρ σ
  | .cmp op a b, ρ, σ => (evalE C a ρ σ).bind fun x σ => (evalE C b ρ σ).bind fun y σ => (match cmpop op x y σ with | some b => .ok (.d (.bool b)) σ | none => .bad)
  | .tup es, ρ, σ => (evalEs C es ρ σ).bind fun vs σ => if vs.length ≤ line then .ok (mkTup vs) σ else .bad
  | .lst fz es, ρ, σ => (evalEs C es ρ σ).bind fun vs σ => mkList fz vs σ
  | .sub a i, ρ, σ => (evalE C a ρ σ).bind fun x σ => (evalE C i ρ σ).bind fun y σ => (match subscr x y σ with | some v => .ok v σ | none => .bad)
  | .slc fz a lo hi, ρ, σ => (evalE C a ρ σ).bind fun x σ => (evalO C lo ρ σ).bind fun l σ => (evalO C hi ρ σ).bind fun h σ => slice fz x l h σ
  | .bcall b fz es, ρ, σ => (evalEs C es ρ σ).bind fun vs σ => bcall C.isExc C.hd b fz vs σ
  | .fcall m f es, ρ, σ => (evalEs C es ρ σ).bind fun vs σ => C.cf C.hd m f vs σ
  | .meth m fz o es, ρ, σ => (evalE C o ρ σ).bind fun x σ => if methPre m x σ then (evalEs C es ρ σ).bind fun vs σ => methcall m fz x vs σ else .bad
  | .comp fz elt ts it ifs, ρ, σ => (evalIt C it ρ σ).bind fun vs σ =>
      (compS (compStep C.hd ρ ts (fun ρ σ => evalIfs C ifs ρ σ) (fun ρ σ => evalE C elt ρ σ)) (vs.fuel σ) vs σ).bind fun ys σ => mkList fz ys σ
noncomputable def evalEs (C : Cfg) : List E → Vars → Store → Res (List V)
  | [], _, σ => .ok [] σ
  | e :: r, ρ, σ => (evalE C e ρ σ).bind fun v σ => (evalEs C r ρ σ).bind fun vs σ => .ok (v :: vs) σ
noncomputable def evalO (C : Cfg) : Option E → Vars → Store → Res (Option V)
  | none, _, σ => .ok none σ
  | some e, ρ, σ => (evalE C e ρ σ).bind fun v σ => .ok (some v) σ
noncomputable def evalB (C : Cfg) (op : BoolOp) : List E → Vars → Store → Res V
  | [], _, _ => .bad
  | [e], ρ, σ => evalE C e ρ σ
  | e :: e' :: r, ρ, σ => (evalE C e ρ σ).bind fun v σ => (match truth σ v, op with
      | some false, .And => .ok v σ
      | some true, .Or => .ok v σ
      | some _, _ => evalB C op (e' :: r) ρ σ
      | none, _ => .bad)
noncomputable def evalIfs (C : Cfg) : List E → Vars → Store → Res Bool
  | [], _, σ => .ok true σ
  | e :: r, ρ, σ => (evalE C e ρ σ).bind fun v σ => (match truth σ v with
      | some true => evalIfs C r ρ σ
      | some false => .ok false σ
      | none => .bad)
noncomputable def evalIt (C : Cfg) : It → Vars → Store → Res Src
  | .range es, ρ, σ => (evalEs C es ρ σ).bind fun vs σ => (match rangeOf C.hd vs with | some xs => .ok (.items xs) σ | none => .bad)
  | .zip a b, ρ, σ => (evalE C a ρ σ).bind fun x σ => (evalE C b ρ σ).bind fun y σ => (match dlist C.hd x, dlist C.hd y with | some xs, some ys => .ok (.items (zipV xs ys)) σ | _, _ => .bad)
  | .enum a, ρ, σ => (evalE C a ρ σ).bind fun x σ => (match dlist C.hd x with | some xs => .ok (.items (enumV 0 xs)) σ | none => .bad)
  | .of e, ρ, σ => (evalE C e ρ σ).bind fun x σ => (match itemsOf C.hd σ x with | some xs => .ok xs σ | none => .bad)
end

inductive Fl where
  | next (ρ : Vars)
  | ret (v : V)

noncomputable def forStep (hd : Bool) (ts : List Nat) (body : Vars → Store → Res Fl) (v : V) (ρ : Vars) (σ : Store) : Res Fl :=
  match bindTs hd ρ ts v with
  | some ρ' => body ρ' σ
  | none => .bad

noncomputable def forGo (f : V → Vars → Store → Res Fl) : List V → Vars → Store → Res Fl
  | [], ρ, σ => .ok (.next ρ) σ
  | v :: r, ρ, σ => (f v ρ σ).bind fun x σ => (match x with | .next ρ => forGo f r ρ σ | .ret y => .ok (.ret y) σ)

noncomputable def forOne (go : Src → Vars → Store → Res Fl) (f : V → Vars → Store → Res Fl) (ρ : Vars) (σ : Store) (o : Option (Option (V × Src))) : Res Fl :=
  match o with
  | some o => (match o with
    | some p => (f p.1 ρ σ).bind fun x σ => (match x with | .next ρ => go p.2 ρ σ | .ret y => .ok (.ret y) σ)
    | none => .ok (.next ρ) σ)
  | none => .bad
noncomputable def forS (f : V → Vars → Store → Res Fl) : Nat → Src → Vars → Store → Res Fl
  | 0, _, _, _ => .bad
  | n + 1, src, ρ, σ => forOne (forS f n) f ρ σ (src.next σ)

noncomputable def setAt (k : Nat) (j : Int) (v : V) (σ : Store) (o : Option O) : Res Fl :=
  match o with
  | some o => (match o with
    | .list xs => if 0 ≤ j ∧ j < xs.length then .ok (.next []) (σ.set k (.list (xs.set j.toNat v))) else .bad
    | .dead => .bad)
  | none => .bad
noncomputable def setItemV (o i v : V) (σ : Store) : Res Fl :=
  match o with
  | .ref k => (match isIntV i with | some j => setAt k j v σ σ[k]? | none => .bad)
  | _ => .bad

mutual
noncomputable def asgs : S → List Nat
  | .asg x _ => [x]
  | .unp xs _ => xs
  | .swp xs _ => xs
  | .ite _ a b => asgAll a ++ asgAll b
  | .for_ ts _ body => ts ++ asgAll body
  | .try_ body hs => asgAll body ++ asgHs hs
  | _ => []
noncomputable def asgAll : List S → List Nat
  | [] => []
  | s :: r => asgs s ++ asgAll r
noncomputable def asgHs : List (Nat × Option Nat × List S) → List Nat
  | [] => []
  | (_, n, body) :: r => (match n with | some x => [x] | none => []) ++ asgAll body ++ asgHs r
end

mutual
noncomputable def execS (C : Cfg) : S → Vars → Store → Res Fl
  | .asg x e, ρ, σ => (evalE C e ρ σ).bind fun v σ => .ok (.next (ρ.set x (some v))) σ
  | .unp xs e, ρ, σ => (evalE C e ρ σ).bind fun v σ => (match bindTs C.hd ρ xs v with | some ρ => .ok (.next ρ) σ | none => .bad)
  | .swp xs es, ρ, σ => (evalEs C es ρ σ).bind fun vs σ =>
      if vs.length = xs.length ∧ C.hd = false then .ok (.next (setTs ρ xs vs)) σ else .bad
  | .set o i v, ρ, σ => (evalE C v ρ σ).bind fun x σ => (evalE C o ρ σ).bind fun y σ => (evalE C i ρ σ).bind fun z σ => (setItemV y z x σ).bind fun _ σ => .ok (.next ρ) σ
  | .exp e, ρ, σ => (evalE C e ρ σ).bind fun _ σ => .ok (.next ρ) σ
  | .ite c a b, ρ, σ => (evalE C c ρ σ).bind fun v σ => (match truth σ v with
      | some true => execSs C a ρ σ
      | some false => execSs C b ρ σ
      | none => .bad)
  | .for_ ts it body, ρ, σ => (evalIt C it ρ σ).bind fun vs σ =>
      forS (forStep C.hd ts (fun ρ σ => execSs C body ρ σ)) (vs.fuel σ) vs ρ σ
  | .ret e, ρ, σ => (evalE C e ρ σ).bind fun v σ => .ok (.ret v) σ
  | .raise c es, ρ, σ => if C.hd then .bad else (evalEs C es ρ σ).bind fun _ σ => .exc c σ
  | .try_ body hs, ρ, σ => (match execSs C body ρ σ with
      | .ok f σ => .ok f σ
      | .bad => .bad
      | .exc _ _ => .bad)
noncomputable def execSs (C : Cfg) : List S → Vars → Store → Res Fl
  | [], ρ, σ => .ok (.next ρ) σ
  | s :: r, ρ, σ => (execS C s ρ σ).bind fun f σ => (match f with | .next ρ => execSs C r ρ σ | .ret v => .ok (.ret v) σ)

end

structure Fn where
  nparams : Nat
  nvars : Nat
  body : List S

noncomputable def noList : PyData → Bool
  | .none => true
  | .bool _ => true
  | .int _ => true
  | .str _ => true
  | _ => false

noncomputable def runFn (C : Cfg) (fn : Fn) (vs : List V) (σ : Store) : Res V :=
  if vs.length = fn.nparams then
    (execSs C fn.body (vs.map some ++ List.replicate (fn.nvars - fn.nparams) none) σ).bind fun f σ => (match f with | .ret v => .ok v σ | .next _ => .ok (.d .none) σ)
  else .bad

noncomputable def fresh (σ : Store) : Nat → V → Option PyData
  | 0, v => (match v with | .d x => if noList x = true then some x else none | _ => none)
  | n + 1, v => (match v with
    | .d x => if noList x = true then some x else none
    | .ref k => snapO (fresh σ n) σ[k]?
    | _ => none)
noncomputable def ansOf1 (flat : Bool) (σ : Store) (v : V) : Option PyData := match flat with | true => fresh σ 8 v | false => snap σ 8 v

noncomputable def isoCall (run : List V → Store → Res V) (xs : List V) (flat : Bool) (σ : Store) : Res V :=
  match run xs [] with
  | .ok v σ' => (match ansOf1 flat σ' v with | some y => .ok (.d y) σ | none => .bad)
  | .exc c _ => .exc c σ
  | .bad => .bad

noncomputable def inert : List V → Bool
  | [] => true
  | .d _ :: r => inert r
  | .exc _ :: r => inert r
  | .cls _ :: r => inert r
  | _ :: _ => false
noncomputable def lent (σ : Store) : List V → Option (List V)
  | [] => some []
  | .exc c :: r => (match lent σ r with | some xs => some (.exc c :: xs) | none => none)
  | v :: r => (match snap σ 8 v, lent σ r with | some x, some xs => some (.d x :: xs) | _, _ => none)

noncomputable def callF (P : Nat → Option Fn) (isExc : Nat → Nat → Option Bool) (fuel : Nat) : Nat → CF
  | 0, _, _, _, _, _ => .bad
  | n + 1, hd, m, f, vs, σ => (match P f with
    | none => .bad
    | some fn => (match m with
      | .shared => runFn ⟨callF P isExc fuel n, isExc, fuel, hd⟩ fn vs σ
      | .iso => .bad
      | .frz => (match inert vs with
        | true => isoCall (runFn ⟨callF P isExc fuel n, isExc, fuel, hd⟩ fn) vs false σ
        | false => (match lent σ vs with
          | some xs => isoCall (runFn ⟨callF P isExc fuel n, isExc, fuel, hd⟩ fn) xs true σ
          | none => .bad))))

theorem eA_1 {C : Cfg} {x : _} {w1 : _} {σ : _} : evalE C (.cst x) w1 σ = .ok (.d x) σ := rfl
theorem eA_2 {C : Cfg} {x : _} {w1 : _} {σ : _} : evalE C (.glo x) w1 σ = .ok (.d x) σ := rfl
theorem eA_3 {C : Cfg} {x : _} {w1 : _} {σ : _} : evalE C (.ty x) w1 σ = .ok (.ty x) σ := rfl
theorem eA_4 {C : Cfg} {c : _} {w1 : _} {σ : _} : evalE C (.cls c) w1 σ = .ok (.cls c) σ := rfl
theorem eA_5 {C : Cfg} {i : _} {ρ : _} {σ : _} : evalE C (.var i) ρ σ = (match ρ[i]? with | some (some v) => .ok v σ | _ => .bad) := rfl
theorem eA_6 {C : Cfg} {fz : _} {op : _} {a : _} {b : _} {ρ : _} {σ : _} : evalE C (.bin fz op a b) ρ σ = (evalE C a ρ σ).bind fun x σ => (evalE C b ρ σ).bind fun y σ => binop fz op x y σ := rfl
theorem eA_7 {C : Cfg} {a : _} {ρ : _} {σ : _} : evalE C (.neg a) ρ σ = (evalE C a ρ σ).bind fun x σ => (match x with | .d (.int i) => .ok (.d (.int (-i))) σ | _ => .bad) := rfl
theorem eA_8 {C : Cfg} {a : _} {ρ : _} {σ : _} : evalE C (.not a) ρ σ = (evalE C a ρ σ).bind fun x σ => (match truth σ x with | some b => .ok (.d (.bool (!b))) σ | none => .bad) := rfl
theorem eA_9 {C : Cfg} {op : _} {es : _} {ρ : _} {σ : _} : evalE C (.bop op es) ρ σ = evalB C op es ρ σ := rfl
theorem eA_10 {C : Cfg} {op : _} {a : _} {b : _} {ρ : _} {σ : _} : evalE C (.cmp op a b) ρ σ = (evalE C a ρ σ).bind fun x σ => (evalE C b ρ σ).bind fun y σ => (match cmpop op x y σ with | some b => .ok (.d (.bool b)) σ | none => .bad) := rfl

theorem eA_12 {C : Cfg} {es : _} {ρ : _} {σ : _} : evalE C (.tup es) ρ σ = (evalEs C es ρ σ).bind fun vs σ => if vs.length ≤ line then .ok (mkTup vs) σ else .bad := rfl
theorem eA_13 {C : Cfg} {fz : _} {es : _} {ρ : _} {σ : _} : evalE C (.lst fz es) ρ σ = (evalEs C es ρ σ).bind fun vs σ => mkList fz vs σ := rfl
theorem eA_15 {C : Cfg} {a : _} {i : _} {ρ : _} {σ : _} : evalE C (.sub a i) ρ σ = (evalE C a ρ σ).bind fun x σ => (evalE C i ρ σ).bind fun y σ => (match subscr x y σ with | some v => .ok v σ | none => .bad) := rfl
theorem eA_16 {C : Cfg} {fz : _} {a : _} {lo : _} {hi : _} {ρ : _} {σ : _} : evalE C (.slc fz a lo hi) ρ σ = (evalE C a ρ σ).bind fun x σ => (evalO C lo ρ σ).bind fun l σ => (evalO C hi ρ σ).bind fun h σ => slice fz x l h σ := rfl
theorem eA_17 {C : Cfg} {b : _} {fz : _} {es : _} {ρ : _} {σ : _} : evalE C (.bcall b fz es) ρ σ = (evalEs C es ρ σ).bind fun vs σ => bcall C.isExc C.hd b fz vs σ := rfl
theorem eA_18 {C : Cfg} {m : _} {f : _} {es : _} {ρ : _} {σ : _} : evalE C (.fcall m f es) ρ σ = (evalEs C es ρ σ).bind fun vs σ => C.cf C.hd m f vs σ := rfl
theorem eA_19 {C : Cfg} {m : _} {fz : _} {o : _} {es : _} {ρ : _} {σ : _} : evalE C (.meth m fz o es) ρ σ = (evalE C o ρ σ).bind fun x σ => if methPre m x σ then (evalEs C es ρ σ).bind fun vs σ => methcall m fz x vs σ else .bad := rfl
theorem eA_20 {C : Cfg} {fz : _} {elt : _} {ts : _} {it : _} {ifs : _} {ρ : _} {σ : _} : evalE C (.comp fz elt ts it ifs) ρ σ = (evalIt C it ρ σ).bind fun vs σ =>
      (compS (compStep C.hd ρ ts (fun ρ σ => evalIfs C ifs ρ σ) (fun ρ σ => evalE C elt ρ σ)) (vs.fuel σ) vs σ).bind fun ys σ => mkList fz ys σ := rfl
theorem eB_1 {C : Cfg} {w1 : _} {σ : _} : evalEs C [] w1 σ = .ok [] σ := rfl
theorem eB_2 {C : Cfg} {e : _} {r : _} {ρ : _} {σ : _} : evalEs C (e :: r) ρ σ = (evalE C e ρ σ).bind fun v σ => (evalEs C r ρ σ).bind fun vs σ => .ok (v :: vs) σ := rfl
theorem eO_1 {C : Cfg} {w1 : _} {σ : _} : evalO C none w1 σ = .ok none σ := rfl
theorem eO_2 {C : Cfg} {e : _} {ρ : _} {σ : _} : evalO C (some e) ρ σ = (evalE C e ρ σ).bind fun v σ => .ok (some v) σ := rfl
theorem eC_1 {C : Cfg} {op : BoolOp} {w1 : _} {w2 : _} : evalB C op [] w1 w2 = .bad := rfl
theorem eC_2 {C : Cfg} {op : BoolOp} {e : _} {ρ : _} {σ : _} : evalB C op [e] ρ σ = evalE C e ρ σ := rfl
theorem eC_3 {C : Cfg} {op : BoolOp} {e : _} {e' : _} {r : _} {ρ : _} {σ : _} : evalB C op (e :: e' :: r) ρ σ = (evalE C e ρ σ).bind fun v σ => (match truth σ v, op with
      | some false, .And => .ok v σ
      | some true, .Or => .ok v σ
      | some _, _ => evalB C op (e' :: r) ρ σ
      | none, _ => .bad) := rfl
theorem eF_1 {C : Cfg} {w1 : _} {σ : _} : evalIfs C [] w1 σ = .ok true σ := rfl
theorem eF_2 {C : Cfg} {e : _} {r : _} {ρ : _} {σ : _} : evalIfs C (e :: r) ρ σ = (evalE C e ρ σ).bind fun v σ => (match truth σ v with
      | some true => evalIfs C r ρ σ
      | some false => .ok false σ
      | none => .bad) := rfl
theorem eI_1 {C : Cfg} {es : _} {ρ : _} {σ : _} : evalIt C (.range es) ρ σ = (evalEs C es ρ σ).bind fun vs σ => (match rangeOf C.hd vs with | some xs => .ok (.items xs) σ | none => .bad) := rfl
theorem eI_2 {C : Cfg} {a : _} {b : _} {ρ : _} {σ : _} : evalIt C (.zip a b) ρ σ = (evalE C a ρ σ).bind fun x σ => (evalE C b ρ σ).bind fun y σ => (match dlist C.hd x, dlist C.hd y with | some xs, some ys => .ok (.items (zipV xs ys)) σ | _, _ => .bad) := rfl
theorem eI_3 {C : Cfg} {a : _} {ρ : _} {σ : _} : evalIt C (.enum a) ρ σ = (evalE C a ρ σ).bind fun x σ => (match dlist C.hd x with | some xs => .ok (.items (enumV 0 xs)) σ | none => .bad) := rfl
theorem eI_4 {C : Cfg} {e : _} {ρ : _} {σ : _} : evalIt C (.of e) ρ σ = (evalE C e ρ σ).bind fun x σ => (match itemsOf C.hd σ x with | some xs => .ok xs σ | none => .bad) := rfl
theorem xA_1 {C : Cfg} {x : _} {e : _} {ρ : _} {σ : _} : execS C (.asg x e) ρ σ = (evalE C e ρ σ).bind fun v σ => .ok (.next (ρ.set x (some v))) σ := rfl
theorem xA_2 {C : Cfg} {xs : _} {e : _} {ρ : _} {σ : _} : execS C (.unp xs e) ρ σ = (evalE C e ρ σ).bind fun v σ => (match bindTs C.hd ρ xs v with | some ρ => .ok (.next ρ) σ | none => .bad) := rfl
theorem xA_3 {C : Cfg} {xs : _} {es : _} {ρ : _} {σ : _} : execS C (.swp xs es) ρ σ = (evalEs C es ρ σ).bind fun vs σ =>
      if vs.length = xs.length ∧ C.hd = false then .ok (.next (setTs ρ xs vs)) σ else .bad := rfl
theorem xA_4 {C : Cfg} {o : _} {i : _} {v : _} {ρ : _} {σ : _} : execS C (.set o i v) ρ σ = (evalE C v ρ σ).bind fun x σ => (evalE C o ρ σ).bind fun y σ => (evalE C i ρ σ).bind fun z σ => (setItemV y z x σ).bind fun _ σ => .ok (.next ρ) σ := rfl
theorem xA_6 {C : Cfg} {e : _} {ρ : _} {σ : _} : execS C (.exp e) ρ σ = (evalE C e ρ σ).bind fun _ σ => .ok (.next ρ) σ := rfl
theorem xA_7 {C : Cfg} {c : _} {a : _} {b : _} {ρ : _} {σ : _} : execS C (.ite c a b) ρ σ = (evalE C c ρ σ).bind fun v σ => (match truth σ v with
      | some true => execSs C a ρ σ
      | some false => execSs C b ρ σ
      | none => .bad) := rfl
theorem xA_8 {C : Cfg} {ts : _} {it : _} {body : _} {ρ : _} {σ : _} : execS C (.for_ ts it body) ρ σ = (evalIt C it ρ σ).bind fun vs σ =>
      forS (forStep C.hd ts (fun ρ σ => execSs C body ρ σ)) (vs.fuel σ) vs ρ σ := rfl
theorem xA_10 {C : Cfg} {e : _} {ρ : _} {σ : _} : execS C (.ret e) ρ σ = (evalE C e ρ σ).bind fun v σ => .ok (.ret v) σ := rfl
theorem xA_11 {C : Cfg} {c : _} {es : _} {ρ : _} {σ : _} : execS C (.raise c es) ρ σ = if C.hd then .bad else (evalEs C es ρ σ).bind fun _ σ => .exc c σ := rfl
theorem xA_12 {C : Cfg} {body : _} {hs : _} {ρ : _} {σ : _} : execS C (.try_ body hs) ρ σ = (match execSs C body ρ σ with
      | .ok f σ => .ok f σ
      | .bad => .bad
      | .exc _ _ => .bad) := rfl
theorem xB_1 {C : Cfg} {ρ : _} {σ : _} : execSs C [] ρ σ = .ok (.next ρ) σ := rfl
theorem xB_2 {C : Cfg} {s : _} {r : _} {ρ : _} {σ : _} : execSs C (s :: r) ρ σ = (execS C s ρ σ).bind fun f σ => (match f with | .next ρ => execSs C r ρ σ | .ret v => .ok (.ret v) σ) := rfl

end Mine

namespace Mine
open PySem

structure Top where
  prog : Program
  w : World
  h0 : Heap
  cls : Nat → Option Value
  fn : Nat → Option Addr

inductive SeqIs (fz : Addr → Option Obj) (cl : String) (x : Value) (P : List Value → Prop) (n : Nat) : Prop
  | mk (a : Addr) (o : Obj) (vs : Array Value) (m : Nat) (e : x = .ref a) (hf : fz a = some o) (hc : o.cls = .type cl) (hd : o.data = .seq vs m) (hr : P vs.toList) (hl : n ≤ line) : SeqIs fz cl x P n
mutual
noncomputable def RepD (fz : Addr → Option Obj) : PyData → Value → Prop
  | .none, x => x = .none
  | .bool b, x => x = .bool b
  | .int i, x => ∃ t, x = .int i t
  | .str s, x => ∃ t, x = .str s t ∧ s.length ≤ line
  | .list ds, x => SeqIs fz "list" x (fun vs => RepDs fz ds vs) ds.length
  | .tuple ds, x => SeqIs fz "tuple" x (fun vs => RepDs fz ds vs) ds.length
  | .dict _, _ => False
noncomputable def RepDs (fz : Addr → Option Obj) : List PyData → List Value → Prop
  | [], [] => True
  | d :: ds, v :: vs => RepD fz d v ∧ RepDs fz ds vs
  | _, _ => False
end

structure G where
  fz : Addr → Option Obj
  mu : List Addr

inductive ExcIs (T : Top) (fz : Addr → Option Obj) (c : Nat) (v : Value) : Prop
  | mk (a : Addr) (o : Obj) (e : v = .ref a) (hf : fz a = some o) (hc : T.cls c = some o.cls ∧ o.dict = none ∧ ∃ ws, o.data = .fields ws) : ExcIs T fz c v
mutual
noncomputable def RepV (T : Top) (g : G) : V → Value → Prop
  | .d x, v => RepD g.fz x v
  | .ref k, v => ∃ a, g.mu[k]? = some a ∧ v = .ref a
  | .tup ws, v => SeqIs g.fz "tuple" v (fun xs => RepVs T g ws xs) ws.length
  | .ty t, v => v = .type t
  | .cls c, v => T.cls c = some v
  | .exc c, v => ExcIs T g.fz c v
noncomputable def RepVs (T : Top) (g : G) : List V → List Value → Prop
  | [], [] => True
  | w :: ws, v :: vs => RepV T g w v ∧ RepVs T g ws vs
  | _, _ => False
end

inductive ListIs (o : Obj) (P : List Value → Prop) (n : Nat) : Prop
  | mk (xs : Array Value) (m : Nat) (e : o = { cls := .type "list", dict := none, data := .seq xs m, slots := #[] }) (hr : P xs.toList) (hl : n ≤ line) : ListIs o P n
noncomputable def RepO (T : Top) (g : G) : O → Obj → Prop
  | .list vs, o => ListIs o (fun xs => RepVs T g vs xs) vs.length
  | .dead, _ => True

noncomputable def FzLe (f f' : Addr → Option Obj) : Prop := ∀ a o, f a = some o → f' a = some o
structure G.le (g g' : G) : Prop where
  fz : FzLe g.fz g'.fz
  mu : ∀ (k : Nat) (a : Addr), g.mu[k]? = some a → g'.mu[k]? = some a

theorem G.le.refl (g : G) : G.le g g := ⟨fun _ _ e => e, fun _ _ e => e⟩
theorem G.le.trans {g g' g'' : G} (x : G.le g g') (y : G.le g' g'') : G.le g g'' := ⟨fun a o e => y.fz a o (x.fz a o e), fun k a e => y.mu k a (x.mu k a e)⟩

mutual
theorem RepD.mono {f f' : Addr → Option Obj} (h : FzLe f f') : ∀ (d : PyData) (v : Value), RepD f d v → RepD f' d v
  | .none, _, x => x
  | .bool _, _, x => x
  | .int _, _, x => x
  | .str _, _, x => x
  | .list ds, _, x => by
    obtain ⟨a, o, vs, n, e, hf, hc, hd, hr, hl⟩ := x
    exact ⟨a, o, vs, n, e, h a o hf, hc, hd, RepDs.mono h ds vs.toList hr, hl⟩
  | .tuple ds, _, x => by
    obtain ⟨a, o, vs, n, e, hf, hc, hd, hr, hl⟩ := x
    exact ⟨a, o, vs, n, e, h a o hf, hc, hd, RepDs.mono h ds vs.toList hr, hl⟩
  | .dict _, _, x => x
theorem RepDs.mono {f f' : Addr → Option Obj} (h : FzLe f f') : ∀ (ds : List PyData) (vs : List Value), RepDs f ds vs → RepDs f' ds vs
  | [], [], _ => trivial
  | d :: ds, v :: vs, x => ⟨RepD.mono h d v x.1, RepDs.mono h ds vs x.2⟩
  | [], _ :: _, x => x
  | _ :: _, [], x => x
end

mutual
theorem RepV.mono {T : Top} {g g' : G} (h : G.le g g') : ∀ (w : V) (v : Value), RepV T g w v → RepV T g' w v
  | .d x, v, r => RepD.mono h.fz x v r
  | .ref k, v, r => by obtain ⟨a, e, q⟩ := r; exact ⟨a, h.mu k a e, q⟩
  | .tup ws, v, r => by
    obtain ⟨a, o, xs, n, e, hf, hc, hd, hr, hl⟩ := r
    exact ⟨a, o, xs, n, e, h.fz a o hf, hc, hd, RepVs.mono h ws xs.toList hr, hl⟩
  | .ty _, _, r => r
  | .cls _, _, r => r
  | .exc c, v, r => by obtain ⟨a, o, e, hf, hc⟩ := r; exact ⟨a, o, e, h.fz a o hf, hc⟩
theorem RepVs.mono {T : Top} {g g' : G} (h : G.le g g') : ∀ (ws : List V) (vs : List Value), RepVs T g ws vs → RepVs T g' ws vs
  | [], [], _ => trivial
  | w :: ws, v :: vs, x => ⟨RepV.mono h w v x.1, RepVs.mono h ws vs x.2⟩
  | [], _ :: _, x => x
  | _ :: _, [], x => x
end

theorem RepO.mono {T : Top} {g g' : G} (h : G.le g g') : ∀ (o : O) (x : Obj), RepO T g o x → RepO T g' o x
  | .list vs, _, ⟨xs, n, hd, hr, hl⟩ => ⟨xs, n, hd, RepVs.mono h vs xs.toList hr, hl⟩
  | .dead, _, x => x

theorem RepVs.length {T : Top} {g : G} : ∀ {ws : List V} {vs : List Value}, RepVs T g ws vs → ws.length = vs.length
  | [], [], _ => rfl
  | _ :: _, _ :: _, x => congrArg (· + 1) (RepVs.length x.2)
  | [], _ :: _, x => x.elim
  | _ :: _, [], x => x.elim
theorem RepDs.length {fz : Addr → Option Obj} : ∀ {ws : List PyData} {vs : List Value}, RepDs fz ws vs → ws.length = vs.length
  | [], [], _ => rfl
  | _ :: _, _ :: _, x => congrArg (· + 1) (RepDs.length x.2)
  | [], _ :: _, x => x.elim
  | _ :: _, [], x => x.elim
theorem RepVs.get {T : Top} {g : G} : ∀ {ws : List V} {vs : List Value}, RepVs T g ws vs → ∀ {k : Nat} {w : V}, ws[k]? = some w → ∃ v, vs[k]? = some v ∧ RepV T g w v
  | w :: _, v :: _, x, 0, _, e => by cases e; exact ⟨v, rfl, x.1⟩
  | _ :: _, _ :: _, x, k + 1, w, e => RepVs.get x.2 (k := k) (w := w) (by simpa using e)
  | [], [], _, _, _, e => by simp at e
  | [], _ :: _, x, _, _, _ => x.elim
  | _ :: _, [], x, _, _, _ => x.elim
theorem RepVs.append {T : Top} {g : G} : ∀ {ws ws' : List V} {vs vs' : List Value}, RepVs T g ws vs → RepVs T g ws' vs' → RepVs T g (ws ++ ws') (vs ++ vs')
  | [], _, [], _, _, y => y
  | _ :: _, _, _ :: _, _, x, y => ⟨x.1, RepVs.append x.2 y⟩
  | [], _, _ :: _, _, x, _ => x.elim
  | _ :: _, _, [], _, x, _ => x.elim
theorem RepVs.ofD {T : Top} {g : G} : ∀ {ds : List PyData} {vs : List Value}, RepDs g.fz ds vs → RepVs T g (ds.map .d) vs
  | [], [], _ => trivial
  | _ :: _, _ :: _, x => ⟨x.1, RepVs.ofD x.2⟩
  | [], _ :: _, x => x.elim
  | _ :: _, [], x => x.elim
theorem RepDs.ofV {T : Top} {g : G} : ∀ {ws : List V} {vs : List Value} {ds : List PyData}, RepVs T g ws vs → allD ws = some ds → RepDs g.fz ds vs
  | [], [], ds, _, e => by simp only [allD, Option.some.injEq] at e; subst e; exact trivial
  | .d x :: ws, v :: vs, ds, r, e => by
    simp only [allD] at e
    cases h : allD ws with
    | none => rw [h] at e; cases e
    | some xs => rw [h] at e; simp only [Option.some.injEq] at e; subst e; exact ⟨r.1, RepDs.ofV r.2 h⟩
  | .ref _ :: _, _ :: _, _, _, e => by simp [allD] at e
  | .tup _ :: _, _ :: _, _, _, e => by simp [allD] at e
  | .ty _ :: _, _ :: _, _, _, e => by simp [allD] at e
  | .cls _ :: _, _ :: _, _, _, e => by simp [allD] at e
  | .exc _ :: _, _ :: _, _, _, e => by simp [allD] at e
  | [], _ :: _, _, x, _ => x.elim
  | _ :: _, [], _, x, _ => x.elim

structure St (T : Top) (g : G) (σ : Store) (h : Heap) : Prop where
  fz : ∀ a o, g.fz a = some o → h.get? a = some o
  len : g.mu.length = σ.length
  nd : g.mu.Nodup
  ap : ∀ a, a ∈ g.mu → g.fz a = none
  ob : ∀ (k : Nat) (a : Addr) (o : O), g.mu[k]? = some a → σ[k]? = some o → ∃ x, h.get? a = some x ∧ RepO T g o x
  base : ∀ a o, T.h0.get? a = some o → g.fz a = some o

structure Kept (X fs : List Addr) (h h' : Heap) : Prop where
  alive : ∀ b o, h.get? b = some o → ∃ o', h'.get? b = some o'
  same : ∀ b o, h.get? b = some o → b ∉ X → b ∉ fs → h'.get? b = some o
  slots : ∀ b o, h.get? b = some o → b ∉ X → b ∈ fs → ∃ sl, h'.get? b = some { o with slots := sl }

theorem Kept.refl (X fs : List Addr) (h : Heap) : Kept X fs h h := ⟨fun _ o e => ⟨o, e⟩, fun _ _ e _ _ => e, fun _ o e _ _ => ⟨o.slots, e⟩⟩
theorem Kept.of_keeps {X fs : List Addr} {h h' : Heap} (k : ∀ b o, h.get? b = some o → h'.get? b = some o) : Kept X fs h h' :=
  ⟨fun b o e => ⟨o, k b o e⟩, fun b o e _ _ => k b o e, fun b o e _ _ => ⟨o.slots, k b o e⟩⟩
theorem Kept.dead {X fs : List Addr} {h h' : Heap} (k : Kept X fs h h') {a : Addr} (e : h'.get? a = none) : h.get? a = none := by
  cases q : h.get? a with
  | none => rfl
  | some o => obtain ⟨o', e'⟩ := k.alive a o q; rw [e] at e'; cases e'

structure New (g g' : G) (h : Heap) : Prop where
  mu : ∀ a, a ∈ g'.mu → a ∈ g.mu ∨ h.get? a = none
  fz : ∀ a o, g'.fz a = some o → g.fz a = some o ∨ h.get? a = none ∨ a ∈ g.mu

theorem New.refl (g : G) (h : Heap) : New g g h := ⟨fun _ h => .inl h, fun _ _ h => .inl h⟩
theorem New.trans {g g' g'' : G} {h h' : Heap} (x : New g g' h) (y : New g' g'' h') (hn : ∀ a, h'.get? a = none → h.get? a = none) : New g g'' h :=
  ⟨fun a e => (y.mu a e).elim (fun q => x.mu a q) fun q => .inr (hn a q),
   fun a o e => (y.fz a o e).elim (fun q => x.fz a o q) fun q => q.elim (fun q => .inr (.inl (hn a q))) fun q => (x.mu a q).elim (fun q => .inr (.inr q)) fun q => .inr (.inl q)⟩

structure Step (T : Top) (X fs : List Addr) (g : G) (s : Shared) (g' : G) (σ' : Store) (s' : Shared) : Prop where
  le : G.le g g'
  st : St T g' σ' s'.heap
  kept : Kept X fs s.heap s'.heap
  new : New g g' s.heap
  gens : s'.gens = s.gens
  os : s'.os = s.os

theorem Kept.trans {X X' fs : List Addr} {h h' h'' : Heap} (x : Kept X fs h h') (y : Kept X' fs h' h'') (hX : ∀ a, a ∈ X' → a ∈ X ∨ h.get? a = none) : Kept X fs h h'' := by
  have nx : ∀ b o, h.get? b = some o → b ∉ X → b ∉ X' := fun b o e nb q => (hX b q).elim nb fun q => by rw [q] at e; cases e
  refine ⟨fun b o e => ?_, fun b o e nb nf => y.same b o (x.same b o e nb nf) (nx b o e nb) nf, fun b o e nb hf => ?_⟩
  · obtain ⟨o', e'⟩ := x.alive b o e
    exact y.alive b o' e'
  · obtain ⟨sl, e1⟩ := x.slots b o e nb hf
    obtain ⟨sl', e2⟩ := y.slots b _ e1 (nx b o e nb) hf
    exact ⟨sl', e2⟩

theorem Step.trans {T : Top} {fs : List Addr} {g g' g'' : G} {s s' s'' : Shared} {σ' σ'' : Store} (x : Step T g.mu fs g s g' σ' s') (y : Step T g'.mu fs g' s' g'' σ'' s'') : Step T g.mu fs g s g'' σ'' s'' :=
  ⟨x.le.trans y.le, y.st, x.kept.trans y.kept x.new.mu, x.new.trans y.new fun _ e => x.kept.dead e, y.gens.trans x.gens, y.os.trans x.os⟩

theorem Step.refl {T : Top} {X fs : List Addr} {g : G} {σ : Store} {s : Shared} (h : St T g σ s.heap) : Step T X fs g s g σ s :=
  ⟨.refl g, h, .refl .., .refl .., rfl, rfl⟩

end Mine

namespace Mine
open PySem

noncomputable def frsOf (fe : List Env) : List Addr := fe.filterMap (·.frame)

structure AOk (fe : List Env) (hd : Bool) (n : Nat) (A : Around) : Prop where
  frames : A.frames = some fe
  depth : A.depth + n ≤ 600
  units : A.units + 100 * n ≤ 9000
  handled : hd = false → A.handled = none

inductive FrAt (g : G) (h : Heap) (e : Env) : Prop
  | mk (L : Addr) (o : Obj) (hf : e.frame = some L) (ho : h.get? L = some o) (hd : ∀ vs, o.data ≠ .fields vs) (h1 : g.fz L = none) (h2 : L ∉ g.mu) : FrAt g h e
noncomputable def FrOk (g : G) (h : Heap) : List Env → Prop
  | [] => True
  | e :: r => (e.scope.kind ≠ .module ∧ e.scope.isGenerator = false ∧ e.scope.isCoroutine = false ∧ e.builtins = builtinsNs ∧ e.globals = mainGlobals) ∧ FrAt g h e ∧ FrOk g h r

noncomputable def Apart (g : G) (h : Heap) (a : Addr) : Prop := g.fz a = none ∧ a ∉ g.mu ∧ ∃ o, h.get? a = some o

theorem Apart.step {T : Top} {X fs : List Addr} {g g' : G} {s s' : Shared} {σ' : Store} {a : Addr} (x : Step T X fs g s g' σ' s') (h : Apart g s.heap a) : Apart g' s'.heap a := by
  obtain ⟨h1, h2, o, h3⟩ := h
  refine ⟨?_, fun q => (x.new.mu a q).elim h2 (fun q => by rw [h3] at q; cases q), x.kept.alive a o h3⟩
  cases e : g'.fz a with
  | none => rfl
  | some o =>
    rcases x.new.fz a o e with q | q | q
    · rw [h1] at q; cases q
    · rw [h3] at q; cases q
    · exact absurd q h2

theorem Step.keepsData {T : Top} {fs : List Addr} {g g' : G} {s s' : Shared} {σ' : Store} {a : Addr} {o : Obj} (x : Step T g.mu fs g s g' σ' s') (h : s.heap.get? a = some o) (ha : a ∉ g.mu) :
    ∃ sl, s'.heap.get? a = some { o with slots := sl } := by
  by_cases hf : a ∈ fs
  · exact x.kept.slots a o h ha hf
  · exact ⟨o.slots, x.kept.same a o h ha hf⟩

theorem FrOk.step {T : Top} {fs : List Addr} {g g' : G} {s s' : Shared} {σ' : Store} (x : Step T g.mu fs g s g' σ' s') : ∀ {l : List Env}, FrOk g s.heap l → FrOk g' s'.heap l
  | [], _ => trivial
  | _ :: _, ⟨k, ⟨L, o, hf, ho, hd, h1, h2⟩, r⟩ => by
    obtain ⟨sl, e⟩ := x.keepsData ho h2
    have ap := Apart.step x ⟨h1, h2, o, ho⟩
    exact ⟨k, ⟨L, _, hf, e, hd, ap.1, ap.2.1⟩, FrOk.step x r⟩

structure OwnOk (g : G) (env : Env) (h : Heap) : Prop where
  kind : env.scope.kind = .function
  glob : env.globals = mainGlobals
  blt : env.builtins = builtinsNs
  loc : Apart g h env.locals
  ns : ∃ m, h.Ns env.locals m
  cell : ∀ n, env.kindOf n = some .cell ∨ env.kindOf n = some .free → ∃ c v, env.cells.lookup n = some c ∧ h.IsCell c v ∧ Apart g h c
  cinj : ∀ n n' c, env.cells.lookup n = some c → env.cells.lookup n' = some c → n = n'

noncomputable def Sees (T : Top) (g : G) (env : Env) (vars : List Str) (ρ : Vars) (h : Heap) : Prop :=
  ∀ (i : Nat) (n : Str) (v : V), vars[i]? = some n → ρ[i]? = some (some v) →
    (env.kindOf n = some .local → ∃ m x, h.Ns env.locals m ∧ m n = some x ∧ RepV T g v x) ∧
    (env.kindOf n = some .cell ∨ env.kindOf n = some .free → ∃ c x, env.cells.lookup n = some c ∧ h.IsCell c (some x) ∧ RepV T g v x)

structure Inv (T : Top) (fe : List Env) (own : List Addr) (wr : List Str) (env : Env) (vars : List Str) (ρ : Vars) (g : G) (σ : Store) (h : Heap) : Prop where
  st : St T g σ h
  fr : FrOk g h fe
  top : ∃ e r, fe = e :: r ∧ e.frame = env.frame
  blk : OwnOk g env h
  sees : Sees T g env vars ρ h
  nd : vars.Nodup
  oloc : env.locals ∈ own
  ocell : ∀ n, n ∈ wr → ∀ c, env.kindOf n = some .cell → env.cells.lookup n = some c → c ∈ own
  oap : ∀ a, a ∈ own → Apart g h a

theorem ns_slots {h h' : Heap} {a : Addr} {m : Str → Option Value} (hn : h.Ns a m) (k : ∀ o, h.get? a = some o → ∃ sl, h'.get? a = some { o with slots := sl }) : h'.Ns a m := by
  obtain ⟨o, es, ep, ho, hd, r⟩ := hn
  obtain ⟨sl, e⟩ := k o ho
  exact ⟨_, es, ep, e, hd, r⟩
theorem cell_slots {h h' : Heap} {a : Addr} {v : Option Value} (hn : h.IsCell a v) (k : ∀ o, h.get? a = some o → ∃ sl, h'.get? a = some { o with slots := sl }) : h'.IsCell a v := by
  obtain ⟨o, ho, hd⟩ := hn
  obtain ⟨sl, e⟩ := k o ho
  exact ⟨_, e, hd⟩

section
variable {T : Top} {fs : List Addr} {g g' : G} {s s' : Shared} {σ σ' : Store} {fe : List Env} {env : Env} {vars : List Str} {ρ : Vars}
theorem OwnOk.step (x : Step T g.mu fs g s g' σ' s') (o : OwnOk g env s.heap) : OwnOk g' env s'.heap := by
  refine ⟨o.kind, o.glob, o.blt, o.loc.step x, ?_, fun n hn => ?_, o.cinj⟩
  · obtain ⟨m, hm⟩ := o.ns
    exact ⟨m, ns_slots hm fun ob ho => x.keepsData ho o.loc.2.1⟩
  · obtain ⟨c, v, h1, h2, h3⟩ := o.cell n hn
    exact ⟨c, v, h1, cell_slots h2 fun ob ho => x.keepsData ho h3.2.1, h3.step x⟩
theorem Sees.step (x : Step T g.mu fs g s g' σ' s') (o : OwnOk g env s.heap) (v : Sees T g env vars ρ s.heap) : Sees T g' env vars ρ s'.heap := by
  intro i n w hi hw
  obtain ⟨h1, h2⟩ := v i n w hi hw
  refine ⟨fun hk => ?_, fun hk => ?_⟩
  · obtain ⟨m, y, hm, hy, hr⟩ := h1 hk
    exact ⟨m, y, ns_slots hm fun ob ho => x.keepsData ho o.loc.2.1, hy, RepV.mono x.le _ _ hr⟩
  · obtain ⟨c, y, hc, hy, hr⟩ := h2 hk
    obtain ⟨c', v', e1, e2, e3⟩ := o.cell n hk
    rw [hc] at e1; cases e1
    exact ⟨c, y, hc, cell_slots hy fun ob ho => x.keepsData ho e3.2.1, RepV.mono x.le _ _ hr⟩
theorem Inv.step {own : List Addr} {wr : List Str} (x : Step T g.mu fs g s g' σ' s') (i : Inv T fe own wr env vars ρ g σ s.heap) : Inv T fe own wr env vars ρ g' σ' s'.heap :=
  ⟨x.st, i.fr.step x, i.top, i.blk.step x, i.sees.step x i.blk, i.nd, i.oloc, i.ocell, fun a h => (i.oap a h).step x⟩
end

inductive TbIs (g : G) (h h₀ : Heap) (e : Addr) (v : Option Value) (P : Option Value → Prop) : Prop
  | mk (tb : Addr) (ot : Obj) (ts : Array Value) (k1 : v = some (.ref tb)) (k2 : h.get? tb = some ot) (k3 : ot.data = .fields ts) (k4 : tb ≠ e) (k5 : g.fz tb = none) (k6 : tb ∉ g.mu) (k7 : h₀.get? tb = none) (k8 : P ts[3]?) : TbIs g h h₀ e v P
inductive Fly (T : Top) (g : G) (h h₀ : Heap) (L : Option Addr) (c : Nat) (x : Value) : Prop
  | mk (e : Addr) (oe : Obj) (vs : Array Value) (q1 : x = .ref e) (q2 : h.get? e = some oe) (q3 : T.cls c = some oe.cls ∧ oe.dict = none) (q4 : oe.data = .fields vs) (q5 : g.fz e = none) (q6 : e ∉ g.mu) (q7 : h₀.get? e = none) (q8 : vs[2]? = some .none)
    (q9 : vs[1]? = some .none ∨ TbIs g h h₀ e vs[1]? (fun f => f = some .none ∨ ∃ l, L = some l ∧ f = some (rawInt l))) : Fly T g h h₀ L c x

theorem Fly.le {T : Top} {g : G} {h h₀ h₁ : Heap} {L : Option Addr} {c : Nat} {x : Value} (f : Fly T g h h₁ L c x) (hn : ∀ a, h₁.get? a = none → h₀.get? a = none) : Fly T g h h₀ L c x := by
  obtain ⟨e, oe, vs, q1, q2, q3, q4, q5, q6, q7, q8, q9⟩ := f
  refine ⟨e, oe, vs, q1, q2, q3, q4, q5, q6, hn _ q7, q8, q9.imp id ?_⟩
  rintro ⟨tb, ot, ts, k1, k2, k3, k4, k5, k6, k7, k8⟩
  exact ⟨tb, ot, ts, k1, k2, k3, k4, k5, k6, hn _ k7, k8⟩

inductive OkR {α β : Type} (T : Top) (fs : List Addr) (g : G) (s : Shared) (rep : G → β → α → Prop) (r : Res β) (x : α) (s' : Shared) : Prop
  | mk (b : β) (σ' : Store) (g' : G) (e : r = .ok b σ') (st : Step T g.mu fs g s g' σ' s') (rv : rep g' b x) : OkR T fs g s rep r x s'
inductive ExR {β : Type} (T : Top) (fs : List Addr) (L : Option Addr) (g : G) (s : Shared) (r : Res β) (x : Value) (s' : Shared) : Prop
  | mk (c : Nat) (σ' : Store) (g' : G) (e : r = .exc c σ') (st : Step T g.mu fs g s g' σ' s') (fl : Fly T g' s'.heap s.heap L c x) : ExR T fs L g s r x s'
theorem OkR.after {α β : Type} {T : Top} {fs : List Addr} {g g₁ : G} {s s₁ s' : Shared} {σ₁ : Store} {rep : G → β → α → Prop} {r : Res β} {x : α} (st : Step T g.mu fs g s g₁ σ₁ s₁) (h : OkR T fs g₁ s₁ rep r x s') : OkR T fs g s rep r x s' := by
  cases h with | mk b σ' g' e st' rv => exact ⟨b, σ', g', e, st.trans st', rv⟩
theorem ExR.after {β : Type} {T : Top} {fs : List Addr} {L : Option Addr} {g g₁ : G} {s s₁ s' : Shared} {σ₁ : Store} {r : Res β} {x : Value} (st : Step T g.mu fs g s g₁ σ₁ s₁) (h : ExR T fs L g₁ s₁ r x s') : ExR T fs L g s r x s' := by
  cases h with | mk c σ' g' e st' fl => exact ⟨c, σ', g', e, st.trans st', fl.le fun _ e => st.kept.dead e⟩
theorem ExR.bind {β γ : Type} {T : Top} {fs : List Addr} {L : Option Addr} {g : G} {s s' : Shared} {r : Res β} {x : Value} {f : β → Store → Res γ} (h : ExR T fs L g s r x s') : ExR T fs L g s (r.bind f) x s' := by
  cases h with | mk c σ' g' e st' fl => exact ⟨c, σ', g', by rw [e]; rfl, st', fl⟩
theorem bind_ne {β γ : Type} {r : Res β} {f : β → Store → Res γ} (h : r.bind f ≠ .bad) : r ≠ .bad := fun q => h (by rw [q]; rfl)
noncomputable def Sim {α β : Type} (T : Top) (fs : List Addr) (L : Option Addr) (A : Around) (g : G) (s : Shared) (m : Sem α) (rep : G → β → α → Prop) (r : Res β) : Prop :=
  r ≠ .bad → wpAny (model T.prog T.w) A m
    (OkR T fs g s rep r)
    (ExR T fs L g s r) s

section
variable {α β γ δ : Type} {T : Top} {fs : List Addr} {L : Option Addr} {A : Around} {g : G} {s : Shared}

theorem Sim.bad {m : Sem α} {rep : G → β → α → Prop} : Sim T fs L A g s m rep .bad := fun h => absurd rfl h

theorem Sim.of {m : Sem α} {rep : G → β → α → Prop} {b : β} {σ' : Store} (h : wpAny (model T.prog T.w) A m (fun x s' => ∃ g', Step T g.mu fs g s g' σ' s' ∧ rep g' b x) (fun _ _ => False) s) :
    Sim T fs L A g s m rep (.ok b σ') := fun _ =>
  wpAny_mono h (fun _ _ ⟨g', h1, h2⟩ => ⟨b, σ', g', rfl, h1, h2⟩) fun _ _ x => x.elim

theorem Sim.pure {x : α} {rep : G → β → α → Prop} {b : β} {σ : Store} (st : St T g σ s.heap) (h : rep g b x) : Sim T fs L A g s (pure x) rep (.ok b σ) :=
  Sim.of (wpAny_pure ⟨g, .refl st, h⟩)

theorem Sim.use {m : Sem α} {rep : G → β → α → Prop} {r : Res β} {f : β → Store → Res δ} {rep' : G → δ → γ → Prop} {k : α → Sem γ} (h : Sim T fs L A g s m rep r)
    (hk : ∀ x b σ' g' s', r = .ok b σ' → Step T g.mu fs g s g' σ' s' → rep g' b x → Sim T fs L A g' s' (k x) rep' (f b σ')) (hr : r.bind f ≠ .bad) :
    wpAny (model T.prog T.w) A m (fun x s' => wpAny (model T.prog T.w) A (k x)
      (OkR T fs g s rep' (r.bind f))
      (ExR T fs L g s (r.bind f)) s')
      (ExR T fs L g s (r.bind f)) s := by
  have hr' : r ≠ .bad := fun e => hr (by rw [e]; rfl)
  refine wpAny_mono (h hr') (fun x s' ⟨b, σ', g', e, st, rp⟩ => ?_) fun x s' ⟨c, σ', g', e, st, fl⟩ => ⟨c, σ', g', by rw [e]; rfl, st, fl⟩
  have hk' := hk x b σ' g' s' e st rp (by rw [e] at hr; exact hr)
  refine wpAny_mono hk' (fun y s'' ⟨b', σ'', g'', e', st', rp'⟩ => ⟨b', σ'', g'', by rw [e]; exact e', st.trans st', rp'⟩) fun y s'' ⟨c, σ'', g'', e', st', fl⟩ => ⟨c, σ'', g'', by rw [e]; exact e', st.trans st', fl.le fun _ e => st.kept.dead e⟩

theorem Sim.bind {m : Sem α} {rep : G → β → α → Prop} {r : Res β} {f : β → Store → Res δ} {rep' : G → δ → γ → Prop} {k : α → Sem γ} (h : Sim T fs L A g s m rep r)
    (hk : ∀ x b σ' g' s', r = .ok b σ' → Step T g.mu fs g s g' σ' s' → rep g' b x → Sim T fs L A g' s' (k x) rep' (f b σ')) : Sim T fs L A g s (m >>= k) rep' (r.bind f) :=
  fun hr => wpAny_bind (h.use hk hr)

theorem Sim.holding {vs : List Value} {m : Sem α} {rep : G → β → α → Prop} {r : Res β} (h : Sim T fs L A g s m rep r) : Sim T fs L A g s (holding vs m) rep r :=
  fun hr => wpAny_holding (h hr)
theorem Sim.standAt {pos : Pos} {k : Unit → Sem α} {rep : G → β → α → Prop} {r : Res β} (h : Sim T fs L A g s (k ()) rep r) : Sim T fs L A g s (standAt pos >>= k) rep r :=
  fun hr => wpAny_bind (wpAny_standAt (h hr))
theorem Sim.operate {vs : List Value} {m : Sem Value} {rep : G → β → Value → Prop} {r : Res β} (h : Sim T fs L A g s m rep r) : Sim T fs L A g s (operate vs m) rep r :=
  fun hr => wpAny_operating (h hr)
end

end Mine

namespace Mine
open PySem

section
variable {T : Top} {X fs : List Addr} {g : G} {σ : Store} {s s' : Shared}

theorem Step.heapEq (st : St T g σ s.heap) (h : s'.heap = s.heap := by rfl) (hg : s'.gens = s.gens := by rfl) (ho : s'.os = s.os := by rfl) : Step T X fs g s g σ s' :=
  ⟨.refl g, h ▸ st, h ▸ .refl .., .refl .., hg, ho⟩

theorem St.fz_none (st : St T g σ s.heap) {a : Addr} (h : s.heap.get? a = none) : g.fz a = none := by
  cases e : g.fz a with
  | none => rfl
  | some o => have := st.fz a o e; rw [h] at this; cases this
theorem St.mu_alive (st : St T g σ s.heap) {a : Addr} (h : a ∈ g.mu) : ∃ o, s.heap.get? a = some o := by
  obtain ⟨k, hk, e⟩ := List.mem_iff_getElem.mp h
  have hσ : k < σ.length := st.len ▸ hk
  obtain ⟨x, hx, _⟩ := st.ob k a σ[k] (by rw [List.getElem?_eq_getElem hk, e]) (List.getElem?_eq_getElem hσ)
  exact ⟨x, hx⟩
theorem St.mu_none (st : St T g σ s.heap) {a : Addr} (h : s.heap.get? a = none) : a ∉ g.mu := fun q => by
  obtain ⟨o, e⟩ := st.mu_alive q
  rw [h] at e; cases e
theorem atSize (h : Heap) : h.get? h.objs.size = none := Heap.get?_none_of_le (Nat.le_refl _)

theorem Step.grow (st : St T g σ s.heap) (hk : ∀ b x, s.heap.get? b = some x → s'.heap.get? b = some x) (hg : s'.gens = s.gens := by rfl) (ho : s'.os = s.os := by rfl) : Step T X fs g s g σ s' := by
  refine ⟨.refl g, ⟨fun a o e => hk _ _ (st.fz a o e), st.len, st.nd, st.ap, fun k a o e1 e2 => ?_, st.base⟩, .of_keeps hk, .refl .., hg, ho⟩
  obtain ⟨x, h1, h2⟩ := st.ob k a o e1 e2
  exact ⟨x, hk _ _ h1, h2⟩

noncomputable def G.put (g : G) (a : Addr) (o : Obj) : G := ⟨fun b => if b = a then some o else g.fz b, g.mu⟩
theorem G.le.put {g : G} {a : Addr} {o : Obj} (h : g.fz a = none) : G.le g (g.put a o) :=
  ⟨fun b x e => by show (if b = a then some o else g.fz b) = some x; rw [if_neg (fun q => by rw [q, h] at e; cases e)]; exact e, fun _ _ e => e⟩
theorem G.put_self {g : G} {a : Addr} {o : Obj} : (g.put a o).fz a = some o := if_pos rfl

theorem St.put (st : St T g σ s.heap) {h' : Heap} {a : Addr} {o : Obj} (hk : ∀ b x, s.heap.get? b = some x → h'.get? b = some x) (ha : h'.get? a = some o) (hn : s.heap.get? a = none) : St T (g.put a o) σ h' := by
  have le : G.le g (g.put a o) := .put (st.fz_none hn)
  refine ⟨fun b x e => ?_, st.len, st.nd, fun b hb => ?_, fun k b x e1 e2 => ?_, fun b x e => le.fz b x (st.base b x e)⟩
  · by_cases q : b = a
    · subst q
      have e' : (if b = b then some o else g.fz b) = some x := e
      rw [if_pos rfl] at e'
      cases e'; exact ha
    · have e' : (if b = a then some o else g.fz b) = some x := e
      rw [if_neg q] at e'
      exact hk _ _ (st.fz b x e')
  · show (if b = a then some o else g.fz b) = none
    rw [if_neg (fun (q : b = a) => st.mu_none hn (q ▸ hb))]
    exact st.ap b hb
  · obtain ⟨y, h1, h2⟩ := st.ob k b x e1 e2
    exact ⟨y, hk _ _ h1, RepO.mono le _ _ h2⟩

theorem Step.put (st : St T g σ s.heap) {a : Addr} {o : Obj} (hk : ∀ b x, s.heap.get? b = some x → s'.heap.get? b = some x) (ha : s'.heap.get? a = some o) (hn : s.heap.get? a = none)
    (hg : s'.gens = s.gens := by rfl) (ho : s'.os = s.os := by rfl) : Step T X fs g s (g.put a o) σ s' := by
  refine ⟨.put (st.fz_none hn), st.put hk ha hn, .of_keeps hk, ⟨fun _ h => .inl h, fun b x e => ?_⟩, hg, ho⟩
  by_cases q : b = a
  · exact .inr (.inl (q ▸ hn))
  · have e' : (if b = a then some o else g.fz b) = some x := e
    rw [if_neg q] at e'
    exact .inl e'

noncomputable def G.add (g : G) (a : Addr) : G := ⟨g.fz, g.mu ++ [a]⟩
theorem G.le.add {g : G} {a : Addr} : G.le g (g.add a) :=
  ⟨fun _ _ e => e, fun k b e => by show (g.mu ++ [a])[k]? = some b; rw [List.getElem?_append_left (List.getElem?_eq_some_iff.mp e).1]; exact e⟩

theorem Step.add (st : St T g σ s.heap) {a : Addr} {x : Obj} {o : O} (hk : ∀ b x, s.heap.get? b = some x → s'.heap.get? b = some x) (ha : s'.heap.get? a = some x) (hn : s.heap.get? a = none) (hr : RepO T (g.add a) o x)
    (hg : s'.gens = s.gens := by rfl) (ho : s'.os = s.os := by rfl) : Step T X fs g s (g.add a) (σ ++ [o]) s' := by
  have hna : a ∉ g.mu := st.mu_none hn
  refine ⟨.add, ⟨fun b y e => hk _ _ (st.fz b y e), by simp [G.add, st.len], ?_, fun b hb => ?_, fun k b y e1 e2 => ?_, st.base⟩, .of_keeps hk, ⟨fun b hb => ?_, fun _ _ e => .inl e⟩, hg, ho⟩
  · show (g.mu ++ [a]).Nodup
    rw [List.nodup_append]
    exact ⟨st.nd, by simp, fun x hx y hy q => hna (by simp only [List.mem_singleton] at hy; rw [← hy, ← q]; exact hx)⟩
  · rcases List.mem_append.mp (show b ∈ g.mu ++ [a] from hb) with q | q
    · exact st.ap b q
    · rw [List.mem_singleton.mp q]; exact st.fz_none hn
  · have e1' : (g.mu ++ [a])[k]? = some b := e1
    by_cases hkl : k < g.mu.length
    · rw [List.getElem?_append_left hkl] at e1'
      rw [List.getElem?_append_left (st.len ▸ hkl)] at e2
      obtain ⟨z, h1, h2⟩ := st.ob k b y e1' e2
      exact ⟨z, hk _ _ h1, RepO.mono .add _ _ h2⟩
    · have hk' : k = g.mu.length := by
        have := (List.getElem?_eq_some_iff.mp e1').1
        simp at this; omega
      subst hk'
      rw [List.getElem?_append_right (Nat.le_refl _)] at e1'
      rw [st.len, List.getElem?_append_right (Nat.le_refl _)] at e2
      simp only [Nat.sub_self, List.getElem?_cons_zero, Option.some.injEq] at e1' e2
      subst e1' e2
      exact ⟨x, ha, hr⟩
  · rcases List.mem_append.mp (show b ∈ g.mu ++ [a] from hb) with q | q
    · exact .inl q
    · exact .inr (by rw [List.mem_singleton.mp q]; exact hn)
end

theorem line_eq : line = sizeLine := by unfold sizeLine; rfl

theorem made_list {T : Top} {fs : List Addr} {g : G} {σ : Store} {s s' : Shared} {a : Addr} {xs : Array Value} {n : Nat} {vs : List V} {fz : Bool} (st : St T g σ s.heap)
    (hk : ∀ b x, s.heap.get? b = some x → s'.heap.get? b = some x) (ha : s'.heap.get? a = some { cls := .type "list", dict := none, data := .seq xs n, slots := #[] }) (hn : s.heap.get? a = none) (hr : RepVs T g vs xs.toList)
    (hb : mkList fz vs σ ≠ .bad) (hg : s'.gens = s.gens := by rfl) (ho : s'.os = s.os := by rfl) :
    OkR T fs g s (RepV T) (mkList fz vs σ) (.ref a) s' := by
  unfold mkList at hb ⊢
  by_cases hl : vs.length ≤ line
  · rw [if_pos hl] at hb ⊢
    cases fz with
    | true =>
      cases hd : allD vs with
      | none => rw [hd] at hb; exact absurd rfl hb
      | some ds =>
        refine ⟨_, σ, g.put a _, rfl, .put st hk ha hn hg ho, ⟨a, _, xs, n, rfl, G.put_self, rfl, rfl, RepDs.mono (G.le.put (st.fz_none hn)).fz _ _ (RepDs.ofV hr hd), by rw [(RepDs.ofV hr hd).length, ← hr.length]; exact hl⟩⟩
    | false =>
      refine ⟨_, _, g.add a, rfl, .add st hk ha hn ⟨xs, n, rfl, RepVs.mono .add _ _ hr, hl⟩ hg ho, ⟨a, ?_, rfl⟩⟩
      show (g.mu ++ [a])[σ.length]? = some a
      rw [← st.len, List.getElem?_append_right (Nat.le_refl _), Nat.sub_self]; rfl
  · rw [if_neg hl] at hb; exact absurd rfl hb

theorem made_tuple {T : Top} {fs : List Addr} {g : G} {σ : Store} {s s' : Shared} {a : Addr} {o : Obj} {xs : Array Value} {n : Nat} {vs : List V} (st : St T g σ s.heap)
    (hk : ∀ b x, s.heap.get? b = some x → s'.heap.get? b = some x) (ha : s'.heap.get? a = some o) (hc : o.cls = .type "tuple") (hd : o.data = .seq xs n) (hn : s.heap.get? a = none) (hr : RepVs T g vs xs.toList) (hl : vs.length ≤ line)
    (hg : s'.gens = s.gens := by rfl) (ho : s'.os = s.os := by rfl) :
    ∃ g', Step T g.mu fs g s g' σ s' ∧ RepV T g' (mkTup vs) (.ref a) := by
  refine ⟨g.put a o, .put st hk ha hn hg ho, ?_⟩
  have le : G.le g (g.put a o) := .put (st.fz_none hn)
  unfold mkTup
  cases hd' : allD vs with
  | none => exact ⟨a, o, xs, n, rfl, G.put_self, hc, hd, RepVs.mono le _ _ hr, hl⟩
  | some ds => exact ⟨a, o, xs, n, rfl, G.put_self, hc, hd, RepDs.mono le.fz _ _ (RepDs.ofV hr hd'), by rw [(RepDs.ofV hr hd').length, ← hr.length]; exact hl⟩

theorem lstOf_rep {T : Top} {g : G} {σ : Store} {h : Heap} (st : St T g σ h) {v : V} {x : Value} {vs : List V} (r : RepV T g v x) (e : lstOf σ v = some vs) :
    ∃ a xs, x = .ref a ∧ h.IsList a xs ∧ RepVs T g vs xs.toList ∧ xs.size ≤ line := by
  cases v with
  | d y =>
    cases y with
    | list ds =>
      simp only [lstOf, Option.some.injEq] at e
      subst e
      obtain ⟨a, o, ws, n, e1, e2, e3, e4, e5, e6⟩ := r
      exact ⟨a, ws, e1, ⟨o, st.fz _ _ e2, e3, n, e4⟩, RepVs.ofD e5, by have := e5.length; simp at this; omega⟩
    | _ => simp [lstOf] at e
  | ref k =>
    obtain ⟨a, e1, e2⟩ := r
    simp only [lstOf] at e
    cases ho : σ[k]? with
    | none => rw [ho] at e; simp at e
    | some o =>
      rw [ho] at e
      cases o with
      | list ws =>
        simp only [Option.some.injEq] at e
        subst e
        obtain ⟨y, hy, xs, n, q, hr, hl⟩ := st.ob k a _ e1 ho
        subst q
        exact ⟨a, xs, e2, ⟨_, hy, rfl, n, rfl⟩, hr, by have := hr.length; simp at this; omega⟩
      | _ => simp at e
  | _ => simp [lstOf] at e

theorem seqOf_rep {T : Top} {g : G} {σ : Store} {h : Heap} (st : St T g σ h) {v : V} {x : Value} {vs : List V} (r : RepV T g v x) (e : seqOf σ v = some vs) :
    ∃ a o xs n, x = .ref a ∧ h.get? a = some o ∧ (o.cls = .type "list" ∨ o.cls = .type "tuple") ∧ o.data = .seq xs n ∧ RepVs T g vs xs.toList ∧ xs.size ≤ line := by
  cases v with
  | d y =>
    cases y with
    | list ds =>
      simp only [seqOf, Option.some.injEq] at e
      subst e
      obtain ⟨a, o, ws, n, e1, e2, e3, e4, e5, e6⟩ := r
      exact ⟨a, o, ws, n, e1, st.fz _ _ e2, .inl e3, e4, RepVs.ofD e5, by have := e5.length; simp at this; omega⟩
    | tuple ds =>
      simp only [seqOf, Option.some.injEq] at e
      subst e
      obtain ⟨a, o, ws, n, e1, e2, e3, e4, e5, e6⟩ := r
      exact ⟨a, o, ws, n, e1, st.fz _ _ e2, .inr e3, e4, RepVs.ofD e5, by have := e5.length; simp at this; omega⟩
    | _ => simp [seqOf] at e
  | tup ws =>
    simp only [seqOf, Option.some.injEq] at e
    subst e
    obtain ⟨a, o, xs, n, e1, e2, e3, e4, e5, e6⟩ := r
    exact ⟨a, o, xs, n, e1, st.fz _ _ e2, .inr e3, e4, e5, by have := e5.length; simp at this; omega⟩
  | ref k =>
    obtain ⟨a, e1, e2⟩ := r
    simp only [seqOf] at e
    cases ho : σ[k]? with
    | none => rw [ho] at e; simp at e
    | some o =>
      rw [ho] at e
      cases o with
      | list ws =>
        simp only [Option.some.injEq] at e
        subst e
        obtain ⟨y, hy, xs, n, q, hr, hl⟩ := st.ob k a _ e1 ho
        subst q
        exact ⟨a, _, xs, n, e2, hy, .inl rfl, rfl, hr, by have := hr.length; simp at this; omega⟩
      | _ => simp at e
  | _ => simp [seqOf] at e

end Mine

namespace Mine
open PySem PySem.Calls

structure TopOk (T : Top) : Prop where
  nolimit : T.h0.NoLimit
  seer : T.h0.NoSeer
  tree : T.prog.given.tree = none

section
variable {T : Top} {fe : List Env} {L : Option Addr} {A : Around} {g : G} {σ : Store} {s : Shared} {hd : Bool} {n : Nat}

theorem St.keepsBase (st : St T g σ s.heap) : ∀ b o, T.h0.get? b = some o → s.heap.get? b = some o := fun b o e => st.fz b o (st.base b o e)

theorem Sim.tok {α : Type} {m : Sem Value} {b : V} {fs : List Addr} (st : St T g σ s.heap) (h : ∀ Q : Value → Shared → Prop, (∀ x k, RepV T g b x → Q x { s with toks := k }) → wpAny (model T.prog T.w) A m Q (fun _ _ => False) s) :
    Sim T fs L A g s m (RepV T) (.ok b σ) :=
  Sim.of (h _ fun x k r => ⟨g, .heapEq st, r⟩)

theorem room_pylong (ok : TopOk T) (st : St T g σ s.heap) (fr : FrOk g s.heap fe) (ha : AOk fe hd n A) (hne : fe ≠ []) : PylongRoom (model T.prog T.w) A s := by
  cases fe with
  | nil => exact absurd rfl hne
  | cons e r =>
    obtain ⟨⟨k1, k2, k3, k4, k5⟩, _⟩ := fr
    refine PylongRoom.of (ok.nolimit.keeps st.keepsBase) (by have := ha.depth; show A.depth + 100 < 1000; omega) (SeerAt.of (ok.seer.keeps st.keepsBase) ok.tree ha.frames k2 k3 k4 k5)

theorem small_bits {i : Int} (h : small i = true) : Builtin.Int.intBits i ≤ 64 := by
  simp only [small, Bool.and_eq_true, decide_eq_true_eq] at h
  exact intBits_le_64 (by omega) (by omega)

theorem RepDs.append {fz : Addr → Option Obj} : ∀ {ws ws' : List PyData} {vs vs' : List Value}, RepDs fz ws vs → RepDs fz ws' vs' → RepDs fz (ws ++ ws') (vs ++ vs')
  | [], _, [], _, _, y => y
  | _ :: _, _, _ :: _, _, x, y => ⟨x.1, RepDs.append x.2 y⟩
  | [], _, _ :: _, _, x, _ => x.elim
  | _ :: _, _, [], _, x, _ => x.elim

theorem list_obj {h : Heap} {a : Addr} {xs : Array Value} (x : h.IsList a xs) : ∃ n dd sl, h.get? a = some { cls := .type "list", dict := dd, data := .seq xs n, slots := sl } := by
  obtain ⟨⟨c, dd, data, sl⟩, ho, hc, n, hd⟩ := x
  simp only at hc hd
  subst hc hd
  exact ⟨n, dd, sl, ho⟩

theorem none_ne {α : Type} {x : α} {P : Prop} (h : none = some x) : P := nomatch h
theorem isIntV_rep {v : V} {x : Value} {i : Int} (r : RepV T g v x) (h : isIntV v = some i) : ∃ t, x = .int i t := by
  cases v with
  | d y => cases y with
    | int j => cases h; exact r
    | _ => exact none_ne h
  | _ => exact none_ne h
theorem isTupV_rep {v : V} {x : Value} {xs : List PyData} (r : RepV T g v x) (h : isTupV v = some xs) : SeqIs g.fz "tuple" x (fun vs => RepDs g.fz xs vs) xs.length := by
  cases v with
  | d y => cases y with
    | tuple j => cases h; exact r
    | _ => exact none_ne h
  | _ => exact none_ne h
theorem isStrV_rep {v : V} {x : Value} {i : Str} (r : RepV T g v x) (h : isStrV v = some i) : ∃ t, x = .str i t ∧ i.length ≤ line := by
  cases v with
  | d y => cases y with
    | str j => cases h; exact r
    | _ => exact none_ne h
  | _ => exact none_ne h
theorem sim_binop (ok : TopOk T) (fz : Bool) (op : Operator) {a b : V} {x y : Value} (st : St T g σ s.heap) (fr : FrOk g s.heap fe) (ha : AOk fe hd n A) (hne : fe ≠ []) (ra : RepV T g a x) (rb : RepV T g b y) :
    Sim T (frsOf fe) L A g s (binaryOp op x y) (RepV T) (binop fz op a b σ) := by
  have twoI : ∀ {f : Int → Int → Res V}, (∀ i j t u, x = .int i t → y = .int j u → Sim T (frsOf fe) L A g s (binaryOp op x y) (RepV T) (f i j)) → Sim T (frsOf fe) L A g s (binaryOp op x y) (RepV T) (match isIntV a, isIntV b with | some i, some j => f i j | _, _ => .bad) := fun {f} h => by
    cases e1 : isIntV a with
    | none => exact Sim.bad
    | some i => cases e2 : isIntV b with
      | none => exact Sim.bad
      | some j =>
        obtain ⟨t, q1⟩ := isIntV_rep ra e1
        obtain ⟨u, q2⟩ := isIntV_rep rb e2
        exact h i j t u q1 q2
  cases op with
  | Add =>
    show Sim _ _ _ _ _ _ _ _ (binAdd fz a b σ)
    unfold binAdd
    cases ea : isIntV a with
    | some i => cases eb : isIntV b with
      | none => exact Sim.bad
      | some j =>
        obtain ⟨t, rfl⟩ := isIntV_rep ra ea; obtain ⟨u, rfl⟩ := isIntV_rep rb eb
        exact Sim.tok (α := Unit) st fun Q h => P.add_int (h _ _ ⟨_, rfl⟩)
    | none => cases ea : isStrV a with
      | some i => cases eb : isStrV b with
        | none => exact Sim.bad
        | some j =>
          obtain ⟨t, rfl, _⟩ := isStrV_rep ra ea; obtain ⟨u, rfl, _⟩ := isStrV_rep rb eb
          show Sim _ _ _ _ _ _ _ _ (if i.length + j.length ≤ line then _ else _)
          split
          · rename_i hl
            exact Sim.tok (α := Unit) st fun Q h => SB.add (fun t' k => h _ _ ⟨_, rfl, by rw [Str.length_append]; exact hl⟩) (line_eq ▸ hl)
          · exact Sim.bad
      | none => cases ea : isTupV a with
        | some xs => cases eb : isTupV b with
          | none => exact Sim.bad
          | some ys =>
          obtain ⟨la, oa, ia, na, rfl, ha1, ha2, ha3, ha4, ha5⟩ := isTupV_rep ra ea
          obtain ⟨lb, ob, ib, nb, rfl, hb1, hb2, hb3, hb4, hb5⟩ := isTupV_rep rb eb
          obtain ⟨ca, da, dta, sa⟩ := oa
          obtain ⟨cb, db, dtb, sb⟩ := ob
          simp only at ha2 ha3 hb2 hb3
          subst ha2 ha3 hb2 hb3
          have o1 := st.fz _ _ ha1
          have o2 := st.fz _ _ hb1
          have l1 := RepDs.length ha4
          have l2 := RepDs.length hb4
          show Sim _ _ _ _ _ _ _ _ (if xs.length + ys.length ≤ line then _ else _)
          split
          · rename_i hl
            refine Sim.of ?_
            by_cases e1 : ia.isEmpty = true
            · refine concat_meets ⟨_, o1, rfl⟩ ⟨_, o2, rfl⟩ noFill_tuple_add seq_tuple_add PySem.F.slot_tuple_add PySem.F.entry_tuple_add (PySem.F.args_tuple_add_2 _ _) (PyProof.Rows.tuple_addW0 la lb ia ib na nb da db sa sb e1) ⟨o1, o2, ?_⟩
              have : xs = [] := by
                have : ia.size = 0 := by simpa using e1
                exact List.length_eq_zero_iff.mp (by simp at l1; omega)
              subst this
              exact ⟨g, .heapEq st, ⟨lb, _, ib, nb, rfl, hb1, rfl, rfl, hb4, hb5⟩⟩
            · by_cases e2 : ib.isEmpty = true
              · refine concat_meets ⟨_, o1, rfl⟩ ⟨_, o2, rfl⟩ noFill_tuple_add seq_tuple_add PySem.F.slot_tuple_add PySem.F.entry_tuple_add (PySem.F.args_tuple_add_2 _ _) (PyProof.Rows.tuple_addW1 la lb ia ib na nb da db sa sb e1 e2) ⟨o1, o2, ?_⟩
                have : ys = [] := by
                  have : ib.size = 0 := by simpa using e2
                  exact List.length_eq_zero_iff.mp (by simp at l2; omega)
                subst this
                rw [List.append_nil]
                exact ⟨g, .heapEq st, ⟨la, _, ia, na, rfl, ha1, rfl, rfl, ha4, ha5⟩⟩
              · refine concat_meets ⟨_, o1, rfl⟩ ⟨_, o2, rfl⟩ noFill_tuple_add seq_tuple_add PySem.F.slot_tuple_add PySem.F.entry_tuple_add (PySem.F.args_tuple_add_2 _ _) (PyProof.Rows.tuple_addW2 la lb ia ib na nb da db sa sb e1 e2 (by rw [← line_eq]; simp at l1 l2; omega)) ⟨o1, o2, ?_⟩
                have le : G.le g (g.put s.heap.objs.size { cls := .type "tuple", data := .seq (ia ++ ib) }) := .put (st.fz_none (atSize _))
                refine ⟨_, .put st (fun b x e => Heap.get?_push_of_some _ e) (Heap.get?_push_size _ rfl) (atSize _), ⟨_, _, ia ++ ib, 0, rfl, G.put_self, rfl, rfl, ?_, by rw [List.length_append]; exact hl⟩⟩
                rw [Array.toList_append]
                exact RepDs.mono le.fz _ _ (RepDs.append ha4 hb4)
          · exact Sim.bad
        | none =>
        show Sim _ _ _ _ _ _ _ _ (lstAdd fz a b σ)
        unfold lstAdd
        cases e1 : lstOf σ a with
        | none => exact Sim.bad
        | some xs => cases e2 : lstOf σ b with
        | none => exact Sim.bad
        | some ys =>
        show Sim _ _ _ _ _ _ _ _ (mkList fz (xs ++ ys) σ)
        obtain ⟨la, ia, rfl, ha1, ha2, _⟩ := lstOf_rep st ra e1
        obtain ⟨lb, ib, rfl, hb1, hb2, _⟩ := lstOf_rep st rb e2
        obtain ⟨n1, d1, s1, o1⟩ := list_obj ha1
        obtain ⟨n2, d2, s2, o2⟩ := list_obj hb1
        intro hr
        have hsz : (xs ++ ys).length ≤ line := by
          by_cases q : (xs ++ ys).length ≤ line
          · exact q
          · exact absurd (by unfold mkList; rw [if_neg q]) hr
        have hlen : ia.size + ib.size ≤ sizeLine := by
          have := RepVs.length ha2; have := RepVs.length hb2
          rw [← line_eq]
          simp only [List.length_append, Array.length_toList] at *
          omega
        refine concat_meets ⟨_, o1, rfl⟩ ⟨_, o2, rfl⟩ noFill_list_add seq_list_add PySem.F.slot_list_add PySem.F.entry_list_add (PySem.F.args_list_add_2 _ _) (PyProof.Rows.list_addW la lb ia ib n1 n2 d1 d2 s1 s2 hlen) ⟨o1, o2, ?_⟩
        have hr2 : RepVs T g (xs ++ ys) (ia ++ ib).toList := by rw [Array.toList_append]; exact RepVs.append ha2 hb2
        exact made_list st (fun b x e => Heap.get?_push_of_some _ e) (Heap.get?_push_size _ rfl) (atSize _) hr2 hr
  | Sub =>
    refine twoI fun i j t u q1 q2 => ?_
    subst q1 q2
    exact Sim.tok (α := Unit) st fun Q h => P.sub_int (h _ _ ⟨_, rfl⟩)
  | FloorDiv =>
    refine twoI fun i j t u q1 q2 => ?_
    subst q1 q2
    split
    · exact Sim.bad
    · rename_i hj
      exact Sim.tok (α := Unit) st fun Q h => PyProof.Rows.floordiv_int hj (h _ _ ⟨_, rfl⟩) (Or.inr (room_pylong ok st fr ha hne))
  | Mod =>
    refine twoI fun i j t u q1 q2 => ?_
    subst q1 q2
    split
    · exact Sim.bad
    · rename_i hj
      exact Sim.tok (α := Unit) st fun Q h => PyProof.Rows.mod_int' hj (h _ _ ⟨_, rfl⟩)
  | Mult =>
    show Sim _ _ _ _ _ _ _ _ (match isIntV b with | some j => binMul fz a j σ | none => .bad)
    cases e2 : isIntV b with
    | none => exact Sim.bad
    | some j =>
      obtain ⟨u, rfl⟩ := isIntV_rep rb e2
      show Sim _ _ _ _ _ _ _ _ (match isIntV a with | some i => if (small i || small j) = true then Res.ok (V.d (.int (i * j))) σ else .bad | none => .bad)
      cases e1 : isIntV a with
      | none => exact Sim.bad
      | some i =>
        obtain ⟨t, rfl⟩ := isIntV_rep ra e1
        dsimp only
        split
        · rename_i hs
          refine Sim.tok (α := Unit) st fun Q h => P.mul_int (h _ _ ⟨_, rfl⟩) ?_
          rcases Bool.or_eq_true _ _ ▸ hs with hs | hs
          · exact IntMulOk.of_left (small_bits hs)
          · exact IntMulOk.of_right (small_bits hs)
        · exact Sim.bad
  | _ => exact Sim.bad
end

end Mine

namespace Mine
open PySem PySem.Calls PySem.SeqAt

noncomputable def tagD : PyData → Nat
  | .none => 0 | .bool _ => 1 | .int _ => 2 | .str _ => 3 | .list _ => 4 | .tuple _ => 5 | .dict _ => 6
noncomputable def tagV (f : Addr → Option Obj) : Value → Nat
  | .none => 0 | .bool _ => 1 | .int _ _ => 2 | .str _ _ => 3
  | .ref a => (match f a with | some o => if o.cls == .type "list" then 4 else 5 | none => 7)
  | _ => 7
theorem tag_of {f : Addr → Option Obj} {d : PyData} {x : Value} (h : RepD f d x) : tagV f x = tagD d := by
  cases d with
  | none => have h : x = .none := h; rw [h]; rfl
  | bool b => have h : x = .bool b := h; rw [h]; rfl
  | int i => obtain ⟨t, rfl⟩ := h; rfl
  | str s => obtain ⟨t, rfl, _⟩ := h; rfl
  | list xs => obtain ⟨a, o, vs, m, rfl, hf, hc, _, _, _⟩ := h; show (match f a with | some o => _ | none => _) = _; rw [hf]; simp [hc, tagD]
  | tuple xs => obtain ⟨a, o, vs, m, rfl, hf, hc, _, _, _⟩ := h; show (match f a with | some o => _ | none => _) = _; rw [hf]; simp only [hc]; rw [if_neg (by decide)]; rfl
  | dict es => exact h.elim
mutual
theorem RepD.inj {f : Addr → Option Obj} : ∀ (d d' : PyData) (x : Value), RepD f d x → RepD f d' x → d = d'
  | .none, d', x, h, h' => by
    have t : tagD d' = 0 := (tag_of h').symm.trans (tag_of h)
    cases d' <;> first | rfl | cases t
  | .bool a, d', x, h, h' => by
    have t : tagD d' = 1 := (tag_of h').symm.trans (tag_of h)
    cases d' with
    | bool b => have h : x = .bool a := h; have h' : x = .bool b := h'; rw [h] at h'; cases h'; rfl
    | _ => cases t
  | .int a, d', x, ⟨_, h⟩, h' => by
    have t : tagD d' = 2 := (tag_of h').symm.trans (by rw [h]; rfl)
    cases d' with
    | int b => obtain ⟨_, h'⟩ := h'; rw [h] at h'; cases h'; rfl
    | _ => cases t
  | .str a, d', x, ⟨_, h, _⟩, h' => by
    have t : tagD d' = 3 := (tag_of h').symm.trans (by rw [h]; rfl)
    cases d' with
    | str b => obtain ⟨_, h', _⟩ := h'; rw [h] at h'; cases h'; rfl
    | _ => cases t
  | .list xs, d', x, h, h' => by
    have t : tagD d' = 4 := (tag_of h').symm.trans (tag_of h)
    cases d' with
    | list ys =>
      obtain ⟨a, o, vs, n, e1, e2, e3, e4, e5, _⟩ := h
      obtain ⟨a', o', vs', n', e1', e2', e3', e4', e5', _⟩ := h'
      rw [e1] at e1'; cases e1'; rw [e2] at e2'; cases e2'; rw [e4] at e4'; cases e4'
      rw [RepDs.inj xs ys vs.toList e5 e5']
    | _ => cases t
  | .tuple xs, d', x, h, h' => by
    have t : tagD d' = 5 := (tag_of h').symm.trans (tag_of h)
    cases d' with
    | tuple ys =>
      obtain ⟨a, o, vs, n, e1, e2, e3, e4, e5, _⟩ := h
      obtain ⟨a', o', vs', n', e1', e2', e3', e4', e5', _⟩ := h'
      rw [e1] at e1'; cases e1'; rw [e2] at e2'; cases e2'; rw [e4] at e4'; cases e4'
      rw [RepDs.inj xs ys vs.toList e5 e5']
    | _ => cases t
  | .dict _, _, _, h, _ => h.elim
theorem RepDs.inj {f : Addr → Option Obj} : ∀ (ds ds' : List PyData) (xs : List Value), RepDs f ds xs → RepDs f ds' xs → ds = ds'
  | [], [], _, _, _ => rfl
  | d :: ds, d' :: ds', x :: xs, h, h' => by rw [RepD.inj d d' x h.1 h'.1, RepDs.inj ds ds' xs h.2 h'.2]
  | [], _ :: _, [], _, h => h.elim
  | [], _ :: _, _ :: _, h, _ => h.elim
  | _ :: _, [], [], h, _ => h.elim
  | _ :: _, [], _ :: _, _, h => h.elim
  | _ :: _, _ :: _, [], h, _ => h.elim
end

theorem eqNsW_self {f : PyData → PyData → Option Bool} (hf : ∀ d b, f d d = some b → b = true) : ∀ (d : List PyData) (b : Bool), eqNsW f d d = some b → b = true
  | [], b, h => (Option.some.inj h).symm
  | x :: xs, b, h => by
    have h : (match f x x with | some a => (match eqNsW f xs xs with | some b => some (a && b) | none => none) | none => none) = some b := h
    cases e : f x x with
    | none => rw [e] at h; exact none_ne h
    | some c =>
      rw [e] at h
      cases e' : eqNsW f xs xs with
      | none => rw [e'] at h; exact none_ne h
      | some c' =>
        rw [e'] at h
        rw [← Option.some.inj h, hf x c e, eqNsW_self hf xs c' e']; rfl
theorem eqLeaf_self (d : PyData) (b : Bool) (h : eqLeaf d d = some b) : b = true := by
  cases d with
  | none => exact (Option.some.inj h).symm
  | bool x => rw [← Option.some.inj h]; exact beq_self_eq_true x
  | int x => rw [← Option.some.inj h]; exact beq_self_eq_true x
  | str x => rw [← Option.some.inj h]; exact beq_self_eq_true x
  | _ => exact none_ne h
theorem eqN_self : ∀ (n : Nat) (d : PyData) (b : Bool), eqN n d d = some b → b = true
  | 0, d, b, h => eqLeaf_self d b h
  | n + 1, d, b, h => by
    have h : eqSeq (eqN n) d d = some b := h
    have hl := eqLeaf_self d b
    cases d with
    | list xs =>
      have h : (if xs.length = xs.length then eqNsW (eqN n) xs xs else some false) = some b := h
      rw [if_pos rfl] at h
      exact eqNsW_self (eqN_self n) xs b h
    | tuple xs => exact eqNsW_self (eqN_self n) xs b h
    | _ => exact hl h

section
variable {A : Around} {s : Shared}

structure EqOk (A : Around) (s : Shared) (x y : Value) (b : Bool) : Prop where
  eq : EqAt A s x y b
  rc : RcAt A s x y b
  ne : RcNeAt A s x y (!b)

theorem EqAt.none_none : EqAt A s .none .none true := EqAt.same _

theorem eqNs_items (n : Nat) (ih : ∀ (d d' : PyData) (x x' : Value) (b : Bool) (A : Around), A.units + n < cLine → RepD s.heap.get? d x → RepD s.heap.get? d' x' → eqN n d d' = some b → EqOk A s x x' b) {A : Around} (hu : A.units + n < cLine) :
    ∀ (ds ds' : List PyData) (xs xs' : List Value) (b : Bool), RepDs s.heap.get? ds xs → RepDs s.heap.get? ds' xs' → eqNsW (eqN n) ds ds' = some b →
      ∃ e : Nat → Bool, (∀ j x x', xs[j]? = some x → xs'[j]? = some x' → EqAt A s x x' (e j)) ∧ b = ((List.range (min xs.length xs'.length)).all e && xs.length == xs'.length) := by
  intro ds
  induction ds with
  | nil =>
    intro ds' xs xs' b r r' h
    cases xs with
    | cons _ _ => exact r.elim
    | nil => cases ds' with
      | nil => cases xs' with
        | cons _ _ => exact r'.elim
        | nil => exact ⟨fun _ => true, fun j x x' h => by simp at h, (Option.some.inj h).symm⟩
      | cons d' ds' => cases xs' with
        | nil => exact r'.elim
        | cons _ _ => exact ⟨fun _ => true, fun j x x' h => by simp at h, (Option.some.inj h).symm.trans (by simp)⟩
  | cons d ds ihl =>
    intro ds' xs xs' b r r' h
    cases xs with
    | nil => exact r.elim
    | cons x xs => cases ds' with
      | nil => cases xs' with
        | cons _ _ => exact r'.elim
        | nil => exact ⟨fun _ => true, fun j x x' _ h => by simp at h, (Option.some.inj h).symm.trans (by simp)⟩
      | cons d' ds' => cases xs' with
        | nil => exact r'.elim
        | cons x' xs' =>
    have h : (match eqN n d d' with | some a => (match eqNsW (eqN n) ds ds' with | some b => some (a && b) | none => none) | none => none) = some b := h
    cases e : eqN n d d' with
    | none => rw [e] at h; exact none_ne h
    | some c =>
      have h0 := (ih d d' x x' c A hu r.1 r'.1 e).eq
      rw [e] at h
      cases e' : eqNsW (eqN n) ds ds' with
      | none => rw [e'] at h; exact none_ne h
      | some c' =>
        rw [e'] at h
        obtain ⟨f, h1, h2⟩ := ihl ds' xs xs' c' r.2 r'.2 e'
        refine ⟨fun j => if j = 0 then c else f (j - 1), fun j y y' hy hy' => ?_, ?_⟩
        · cases j with
          | zero => simp at hy hy'; subst hy hy'; exact h0
          | succ j => exact h1 j y y' (by simpa using hy) (by simpa using hy')
        · rw [← Option.some.inj h, h2, List.length_cons, List.length_cons, Nat.add_min_add_right, List.range_succ_eq_map, List.all_cons, List.all_map]
          simp [Function.comp_def, Bool.and_assoc]

theorem eqLeaf_ok {d d' : PyData} {x x' : Value} {b : Bool} (hu : A.units < cLine) (r : RepD s.heap.get? d x) (r' : RepD s.heap.get? d' x') (h : eqLeaf d d' = some b) : EqOk A s x x' b := by
  cases d with
  | none =>
    have r : x = .none := r
    subst r
    cases d' with
    | none => have r' : x' = .none := r'; rw [r', ← Option.some.inj h]; exact ⟨EqAt.same _, RcAt.none_none, RcNeAt.none_none⟩
    | str _ => obtain ⟨t, r', _⟩ := r'; rw [r', ← Option.some.inj h]; exact ⟨EqAt.none_str _ _, RcAt.none_str _ _, RcNeAt.none_str _ _⟩
    | tuple _ => obtain ⟨a, o, vs, k, r', q1, q2, q3, q4, _⟩ := r'; rw [r', ← Option.some.inj h]; exact ⟨EqAt.none_tuple ⟨_, q1, q2, _, q3⟩ hu, RcAt.none_tuple ⟨_, q1, q2, _, q3⟩ hu, RcNeAt.none_tuple ⟨_, q1, q2, _, q3⟩ hu⟩
    | _ => exact none_ne h
  | bool a => cases d' with
    | bool c => have r : x = .bool a := r; have r' : x' = .bool c := r'; rw [r, r', ← Option.some.inj h]; exact ⟨EqAt.bool_bool _ _, RcAt.bool_bool _ _, RcNeAt.bool_bool _ _⟩
    | _ => exact none_ne h
  | int a => cases d' with
    | int c => obtain ⟨t, r⟩ := r; obtain ⟨t', r'⟩ := r'; rw [r, r', ← Option.some.inj h]; exact ⟨EqAt.int_int _ _ _ _, RcAt.int_int _ _ _ _, RcNeAt.int_int _ _ _ _⟩
    | _ => exact none_ne h
  | str a => obtain ⟨t, r, _⟩ := r; cases d' with
    | none => have r' : x' = .none := r'; rw [r, r', ← Option.some.inj h]; exact ⟨EqAt.str_none _ _, RcAt.str_none _ _, RcNeAt.str_none _ _⟩
    | str c => obtain ⟨t', r', _⟩ := r'; rw [r, r', ← Option.some.inj h]; exact ⟨EqAt.str_str _ _ _ _, RcAt.str_str _ _ _ _, RcNeAt.str_str _ _ _ _⟩
    | _ => exact none_ne h
  | tuple _ => cases d' with
    | none => obtain ⟨a, o, vs, k, r, q1, q2, q3, q4, _⟩ := r; have r' : x' = .none := r'; rw [r, r', ← Option.some.inj h]; exact ⟨EqAt.tuple_none ⟨_, q1, q2, _, q3⟩ hu, RcAt.tuple_none ⟨_, q1, q2, _, q3⟩ hu, RcNeAt.tuple_none ⟨_, q1, q2, _, q3⟩ hu⟩
    | _ => exact none_ne h
  | _ => exact none_ne h

theorem eq_refs {n : Nat} {d d' : PyData} {a a' : Addr} {b : Bool} (rr : RepD s.heap.get? d (.ref a)) (rr' : RepD s.heap.get? d' (.ref a')) (h : eqN n d d' = some b) (rc : RcAt A s (.ref a) (.ref a') b ∧ RcNeAt A s (.ref a) (.ref a') (!b)) : EqOk A s (.ref a) (.ref a') b := by
  refine ⟨?_, rc.1, rc.2⟩
  by_cases ha : a = a'
  · subst ha
    have := RepD.inj _ _ _ rr rr'
    subst this
    rw [eqN_self n d b h]
    exact EqAt.same _
  · exact EqAt.of_refs ha rc.1

theorem eqN_ok : ∀ (n : Nat) (d d' : PyData) (x x' : Value) (b : Bool) (A : Around), A.units + n < cLine → RepD s.heap.get? d x → RepD s.heap.get? d' x' → eqN n d d' = some b → EqOk A s x x' b := by
  intro n
  induction n with
  | zero => exact fun d d' x x' b A hu r r' h => eqLeaf_ok hu r r' h
  | succ n ih =>
    intro d d' x x' b A hu r r' h
    have hu' : A.units < cLine := Nat.lt_of_le_of_lt (Nat.le_add_right _ _) hu
    have hu1 : A.in1.units + n < cLine := by show A.units + 1 + n < cLine; omega
    have hL : eqSeq (eqN n) d d' = some b := h
    cases d with
    | list ds => cases d' with
      | list ds' =>
        have rr := r; have rr' := r'
        obtain ⟨a, o, vs, k, r, q1, q2, q3, q4, _⟩ := r
        obtain ⟨a', o', vs', k', r', p1, p2, p3, p4, _⟩ := r'
        subst r r'
        refine eq_refs rr rr' h ?_
        have hl : s.heap.IsList a vs := ⟨_, q1, q2, _, q3⟩
        have hl' : s.heap.IsList a' vs' := ⟨_, p1, p2, _, p3⟩
        have l1 := RepDs.length q4
        have l2 := RepDs.length p4
        have hL : (if ds.length = ds'.length then eqNsW (eqN n) ds ds' else some false) = some b := hL
        by_cases hsz : ds.length = ds'.length
        · rw [if_pos hsz] at hL
          obtain ⟨e, h1, h2⟩ := eqNs_items n ih hu1 ds ds' vs.toList vs'.toList b q4 p4 hL
          have hsz' : vs.size = vs'.size := by simp at l1 l2; omega
          have hb : b = (List.range vs.size).all e := by rw [h2]; simp [hsz']
          rw [hb]
          exact ⟨RcAt.lists hl hl' hsz' hu' fun j j1 j2 => h1 j _ _ (by simp [j1]) (by simp [j2]), RcNeAt.lists hl hl' hsz' hu' fun j j1 j2 => h1 j _ _ (by simp [j1]) (by simp [j2])⟩
        · rw [if_neg hsz] at hL
          rw [← Option.some.inj hL]
          have hsz' : (vs.size != vs'.size) = true := by simp at l1 l2; simp; omega
          exact ⟨RcAt.lists_lengths hl hl' hsz' hu', RcNeAt.lists_lengths hl hl' hsz' hu'⟩
      | _ => exact none_ne hL
    | tuple ds => cases d' with
      | tuple ds' =>
        have rr := r; have rr' := r'
        obtain ⟨a, o, vs, k, r, q1, q2, q3, q4, _⟩ := r
        obtain ⟨a', o', vs', k', r', p1, p2, p3, p4, _⟩ := r'
        subst r r'
        refine eq_refs rr rr' h ?_
        have hl : s.heap.IsTuple a vs := ⟨_, q1, q2, _, q3⟩
        have hl' : s.heap.IsTuple a' vs' := ⟨_, p1, p2, _, p3⟩
        obtain ⟨e, h1, h2⟩ := eqNs_items n ih hu1 ds ds' vs.toList vs'.toList b q4 p4 hL
        have hb : b = ((List.range (min vs.size vs'.size)).all e && vs.size == vs'.size) := by rw [h2]; simp
        rw [hb]
        exact ⟨RcAt.tuples hl hl' hu' fun j j1 j2 => h1 j _ _ (by simp [j1]) (by simp [j2]), RcNeAt.tuples hl hl' hu' fun j j1 j2 => h1 j _ _ (by simp [j1]) (by simp [j2])⟩
      | _ => exact eqLeaf_ok hu' r r' hL
    | _ => exact eqLeaf_ok hu' r r' hL
end

end Mine

namespace Mine
open PySem PySem.Calls PySem.SeqAt

theorem line63 {n : Nat} (h : n ≤ line) : (n : Int) < 2 ^ 63 := by unfold line at h; omega

section
variable {T : Top} {fs : List Addr} {L : Option Addr} {A : Around} {g : G} {σ : Store} {s : Shared} {fe : List Env} {hd : Bool} {n : Nat}

theorem Sim.ofTok {α β : Type} {m : Sem α} {rep : G → β → α → Prop} {b : β} (st : St T g σ s.heap) (h : ∀ Q : α → Shared → Prop, (∀ x k, rep g b x → Q x { s with toks := k }) → wpAny (model T.prog T.w) A m Q (fun _ _ => False) s) :
    Sim T fs L A g s m rep (.ok b σ) :=
  Sim.of (h _ fun x k r => ⟨g, .heapEq st, r⟩)

noncomputable def IsB (_ : G) (b x : Bool) : Prop := x = b

theorem arr_empty {ws : List V} {xs : Array Value} (r : RepVs T g ws xs.toList) : (!xs.isEmpty) = !ws.isEmpty := by
  have := r.length
  cases ws with
  | nil => have : xs = #[] := by simpa using this.symm
           subst this; rfl
  | cons w ws => simp at this; simp; intro q; subst q; simp at this

theorem sim_truth {v : V} {x : Value} (st : St T g σ s.heap) (r : RepV T g v x) :
    Sim T fs L A g s (truthy x) IsB (match truth σ v with | some b => .ok b σ | none => .bad) := by
  have seqs : ∀ ws, seqOf σ v = some ws → Sim T fs L A g s (truthy x) IsB (.ok (!ws.isEmpty) σ) := fun ws e => by
    obtain ⟨a, o, xs, k, rfl, ho, hc, hd, hr, hl⟩ := seqOf_rep st r e
    refine Sim.ofTok st fun Q h => ?_
    rcases hc with hc | hc
    · exact wpAny_truthy_list ⟨o, ho, hc, k, hd⟩ (line63 hl) (h _ _ (arr_empty hr))
    · exact PyProof.Rows.truthy_tuple ⟨o, ho, hc, k, hd⟩ (line63 hl) (h _ _ (arr_empty hr))
  cases v with
  | d y =>
    cases y with
    | none => have r : x = .none := r; subst r; exact Sim.ofTok st fun Q h => PyProof.Rows.truthy_none (h _ s.toks rfl)
    | bool b => have r : x = .bool b := r; subst r; exact Sim.ofTok st fun Q h => wpAny_truthy_bool (h _ s.toks rfl)
    | int i => obtain ⟨t, rfl⟩ := r; exact Sim.ofTok st fun Q h => P.truthy_int (h _ s.toks rfl)
    | str y =>
      obtain ⟨t, rfl, hl⟩ := r
      refine Sim.ofTok st fun Q h => P.truthy_str (by have := line63 hl; omega) (h _ _ ?_)
      show ((y.length : Int) != 0) = (y.cps.size != 0)
      show ((y.cps.size : Int) != 0) = (y.cps.size != 0)
      cases q : y.cps.size <;> simp <;> omega
    | list xs => have := seqs _ rfl; simp only [List.isEmpty_map] at this; exact this
    | tuple xs => have := seqs _ rfl; simp only [List.isEmpty_map] at this; exact this
    | dict _ => exact Sim.bad
  | ref k =>
    cases ho : σ[k]? with
    | none => simp only [truth, ho]; exact Sim.bad
    | some o =>
      cases o with
      | list ws => simp only [truth, ho]; exact seqs ws (by simp only [seqOf, ho])
      | _ => simp only [truth, ho]; exact Sim.bad
  | _ => exact Sim.bad

theorem snapL_fz {fz' : Addr → Option Obj} {f : V → Option PyData} (hf : ∀ (v : V) (x : Value) (d : PyData), RepV T g v x → f v = some d → RepD fz' d x) : ∀ (vs : List V) (xs : List Value) (ds : List PyData), RepVs T g vs xs → snapL f vs = some ds → RepDs fz' ds xs
  | [], [], ds, _, e => by rw [← Option.some.inj e]; exact trivial
  | v :: vs, x :: xs, ds, r, e => by
    have e : (match f v with | some x => (match snapL f vs with | some xs => some (x :: xs) | none => none) | none => none) = some ds := e
    cases h3 : f v with
    | none => rw [h3] at e; exact none_ne e
    | some d =>
      rw [h3] at e
      cases h4 : snapL f vs with
      | none => rw [h4] at e; exact none_ne e
      | some ds' =>
        rw [h4] at e
        rw [← Option.some.inj e]
        exact ⟨hf v x d r.1 h3, snapL_fz hf vs xs ds' r.2 h4⟩
  | [], _ :: _, _, h, _ => h.elim
  | _ :: _, [], _, h, _ => h.elim
theorem snap_fz {fz' : Addr → Option Obj} (st : St T g σ s.heap) (h1 : FzLe g.fz fz') (h2 : ∀ a, a ∈ g.mu → ∀ o, s.heap.get? a = some o → fz' a = some o) : ∀ (n : Nat) (v : V) (x : Value) (d : PyData), RepV T g v x → snap σ n v = some d → RepD fz' d x := by
  intro n
  induction n with
  | zero =>
    intro v x d r e
    cases v with
    | d y => rw [← Option.some.inj e]; exact RepD.mono h1 _ _ r
    | _ => exact none_ne e
  | succ n ih =>
    intro v x d r e
    cases v with
    | d y => rw [← Option.some.inj e]; exact RepD.mono h1 _ _ r
    | ref k =>
      obtain ⟨a, e1, rfl⟩ := r
      have e : snapO (snap σ n) σ[k]? = some d := e
      cases ho : σ[k]? with
      | none => rw [ho] at e; exact none_ne e
      | some o => cases o with
      | dead => rw [ho] at e; exact none_ne e
      | list ws =>
      rw [ho] at e
      have e : (match snapL (snap σ n) ws with | some xs => some (.list xs) | none => none) = some d := e
      cases hx : snapL (snap σ n) ws with
      | none => rw [hx] at e; exact none_ne e
      | some ds =>
        rw [hx] at e
        rw [← Option.some.inj e]
        obtain ⟨y, hy, xs, m, q, hr, hl⟩ := st.ob k a _ e1 ho
        subst q
        have h3 := snapL_fz ih ws xs.toList ds hr hx
        exact ⟨a, _, xs, m, rfl, h2 a (List.mem_of_getElem? e1) _ hy, rfl, rfl, h3, by rw [h3.length, ← hr.length]; exact hl⟩
    | tup ws =>
      obtain ⟨a, o, xs, m, rfl, e2, e3, e4, e5, e6⟩ := r
      have e : (match snapL (snap σ n) ws with | some xs => some (.tuple xs) | none => none) = some d := e
      cases hx : snapL (snap σ n) ws with
      | none => rw [hx] at e; exact none_ne e
      | some ds =>
        rw [hx] at e
        rw [← Option.some.inj e]
        have h3 := snapL_fz ih ws xs.toList ds e5 hx
        exact ⟨a, o, xs, m, rfl, h1 _ _ e2, e3, e4, h3, by rw [h3.length, ← e5.length]; exact e6⟩
    | _ => exact none_ne e
theorem snap_rep (st : St T g σ s.heap) (n : Nat) (v : V) (x : Value) (d : PyData) (r : RepV T g v x) (e : snap σ n v = some d) : RepD s.heap.get? d x :=
  snap_fz st (fun a o e => st.fz a o e) (fun _ _ _ e => e) n v x d r e

noncomputable def eqTo (h : Heap) (d : PyData) (v : Value) : Bool := @decide (∃ d', RepD h.get? d' v ∧ eqN eqDepth d' d = some true) (Classical.propDecidable _)

theorem eqTo_of {h : Heap} {d d' : PyData} {v : Value} {b : Bool} (r : RepD h.get? d' v) (e : eqN eqDepth d' d = some b) : eqTo h d v = b := by
  unfold eqTo
  cases b with
  | true => exact @decide_eq_true _ (Classical.propDecidable _) ⟨d', r, e⟩
  | false =>
    refine @decide_eq_false _ (Classical.propDecidable _) ?_
    rintro ⟨d'', r', e'⟩
    rw [RepD.inj _ _ _ r' r, e] at e'
    cases e'

theorem inD_ok {A : Around} {y : Value} {d : PyData} (hu : A.units + eqDepth < cLine) (r : RepD s.heap.get? d y) : ∀ (ds : List PyData) (xs : List Value) (b : Bool), RepDs s.heap.get? ds xs → inD d ds = some b →
    (∀ x, x ∈ xs → EqAt A s x y (eqTo s.heap d x)) ∧ b = xs.any (eqTo s.heap d)
  | [], [], b, _, h => ⟨fun x h => (nomatch h), by simp [inD] at h; simp [h]⟩
  | z :: ds, x :: xs, b, hr, h => by
    simp only [inD] at h
    cases e : eqN eqDepth z d with
    | none => rw [e] at h; simp at h
    | some c =>
      cases e' : inD d ds with
      | none => rw [e, e'] at h; simp at h
      | some c' =>
        rw [e, e'] at h
        simp only [Option.some.injEq] at h
        have h0 := (eqN_ok eqDepth z d x y c A hu hr.1 r e).eq
        obtain ⟨h1, h2⟩ := inD_ok hu r ds xs c' hr.2 e'
        have h3 := eqTo_of hr.1 e
        refine ⟨fun w hw => ?_, by rw [List.any_cons, h3, ← h2, h]⟩
        rcases List.mem_cons.mp hw with rfl | hw
        · rw [h3]; exact h0
        · exact h1 w hw
  | [], _ :: _, _, h, _ => h.elim
  | _ :: _, [], _, h, _ => h.elim

theorem eqDepth_room (ha : AOk fe hd n A) : A.units + eqDepth < cLine ∧ A.in1.units + eqDepth < cLine := by
  have := ha.units
  show A.units + 40 < 9900 ∧ A.units + 1 + 40 < 9900
  omega

theorem rep_ref_or {v : V} {x : Value} (r : RepV T g v x) (h' : ∀ c, v ≠ .cls c) (h'' : ∀ t, v ≠ .ty t) : (∃ a, x = .ref a) ∨ x = .none ∨ (∃ b, x = .bool b) ∨ (∃ i t, x = .int i t) ∨ (∃ y t, x = .str y t) := by
  cases v with
  | d y =>
    cases y with
    | none => exact .inr (.inl r)
    | bool b => exact .inr (.inr (.inl ⟨b, r⟩))
    | int i => obtain ⟨t, e⟩ := r; exact .inr (.inr (.inr (.inl ⟨i, t, e⟩)))
    | str y => obtain ⟨t, e, _⟩ := r; exact .inr (.inr (.inr (.inr ⟨y, t, e⟩)))
    | list _ => obtain ⟨a, _, _, _, e, _⟩ := r; exact .inl ⟨a, e⟩
    | tuple _ => obtain ⟨a, _, _, _, e, _⟩ := r; exact .inl ⟨a, e⟩
    | dict _ => exact r.elim
  | ref k => obtain ⟨a, _, e⟩ := r; exact .inl ⟨a, e⟩
  | tup _ => obtain ⟨a, _, _, _, e, _⟩ := r; exact .inl ⟨a, e⟩
  | cls c => exact absurd rfl (h' c)
  | ty c => exact absurd rfl (h'' c)
  | exc c => obtain ⟨a, _, e, _⟩ := r; exact .inl ⟨a, e⟩

noncomputable def ansB (σ : Store) : Option Bool → Res V
  | some b => .ok (.d (.bool b)) σ
  | none => .bad

theorem Sim.ansB {m : Sem Value} {b : Bool} (st : St T g σ s.heap) (h : ∀ Q : Value → Shared → Prop, Q (.bool b) s → wpAny (model T.prog T.w) A m Q (fun _ _ => False) s) : Sim T fs L A g s m (RepV T) (ansB σ (some b)) :=
  Sim.of (h _ ⟨g, .refl st, rfl⟩)

theorem sim_eq {a b : V} {x y : Value} (ha : AOk fe hd n A) (st : St T g σ s.heap) (ra : RepV T g a x) (rb : RepV T g b y) :
    Sim T fs L A g s (compareOp .Eq x y) (RepV T) (ansB σ (eqV σ a b)) ∧ Sim T fs L A g s (compareOp .NotEq x y) (RepV T) (ansB σ (notO (eqV σ a b))) := by
  unfold eqV
  cases h1 : snap σ eqDepth a with
  | none => exact ⟨Sim.bad, Sim.bad⟩
  | some d1 =>
    cases h2 : snap σ eqDepth b with
    | none => exact ⟨Sim.bad, Sim.bad⟩
    | some d2 =>
      simp only
      cases h3 : eqN eqDepth d1 d2 with
      | none => exact ⟨Sim.bad, Sim.bad⟩
      | some c =>
        have := eqN_ok eqDepth d1 d2 x y c A (eqDepth_room ha).1 (snap_rep st _ _ _ _ ra h1) (snap_rep st _ _ _ _ rb h2) h3
        exact ⟨Sim.ansB st fun Q h => this.rc T.prog T.w _ Q h, Sim.ansB st fun Q h => this.ne T.prog T.w _ Q h⟩

theorem sim_inL {a b : V} {x y : Value} {d : PyData} {ys : List PyData} {c : Bool} (ha : AOk fe hd n A) (st : St T g σ s.heap) (ra : RepV T g a x) (rb : RepV T g b y) (h1 : snap σ eqDepth a = some d) (h2 : snap σ eqDepth b = some (.list ys) ∨ snap σ eqDepth b = some (.tuple ys)) (h3 : inD d ys = some c) :
    Sim T fs L A g s (compareOp .In x y) (RepV T) (ansB σ (some c)) ∧ Sim T fs L A g s (compareOp .NotIn x y) (RepV T) (ansB σ (some (!c))) := by
  have r1 := snap_rep st _ _ _ _ ra h1
  rcases h2 with h2 | h2
  · obtain ⟨l, o, vs, k, rfl, e2, e3, e4, e5, e6⟩ := snap_rep st _ _ _ _ rb h2
    obtain ⟨h4, h5⟩ := inD_ok (A := A.in1) (eqDepth_room ha).2 r1 ys vs.toList c e5 h3
    have h6 : c = vs.any (eqTo s.heap d) := by rw [h5]; simp
    rw [h6]
    exact ⟨Sim.ansB st fun Q h => in_listAt (eqTo s.heap d) ⟨o, e2, e3, k, e4⟩ (fun z hz => h4 z (by simpa using hz)) h, Sim.ansB st fun Q h => notIn_listAt (eqTo s.heap d) ⟨o, e2, e3, k, e4⟩ (fun z hz => h4 z (by simpa using hz)) h⟩
  · obtain ⟨l, o, vs, k, rfl, e2, e3, e4, e5, e6⟩ := snap_rep st _ _ _ _ rb h2
    obtain ⟨h4, h5⟩ := inD_ok (A := A.in1) (eqDepth_room ha).2 r1 ys vs.toList c e5 h3
    have h6 : c = vs.any (eqTo s.heap d) := by rw [h5]; simp
    rw [h6]
    exact ⟨Sim.ansB st fun Q h => in_tupleAt (eqTo s.heap d) ⟨o, e2, e3, k, e4⟩ (fun z hz => h4 z (by simpa using hz)) h, Sim.ansB st fun Q h => notIn_tupleAt (eqTo s.heap d) ⟨o, e2, e3, k, e4⟩ (fun z hz => h4 z (by simpa using hz)) h⟩

theorem plainIs_none {v : V} {x : Value} (r : RepV T g v x) (h' : ∀ c, v ≠ .cls c) (h'' : ∀ t, v ≠ .ty t) : plainIs x .none = true := by
  rcases rep_ref_or r h' h'' with ⟨a, rfl⟩ | rfl | ⟨b, rfl⟩ | ⟨i, t, rfl⟩ | ⟨y, t, rfl⟩ <;> rfl

theorem rep_not_none {v : V} {x : Value} (r : RepV T g v x) (h' : ∀ c, v ≠ .cls c) (h'' : ∀ t, v ≠ .ty t) (hn : v ≠ .d .none) : x ≠ .none := by
  intro q
  subst q
  cases v with
  | d y =>
    cases y with
    | none => exact hn rfl
    | bool b => cases (show Value.none = .bool b from r)
    | int i => obtain ⟨t, e⟩ := r; cases e
    | str y => obtain ⟨t, e, _⟩ := r; cases e
    | list _ => obtain ⟨a, _, _, _, e, _⟩ := r; cases e
    | tuple _ => obtain ⟨a, _, _, _, e, _⟩ := r; cases e
    | dict _ => exact r.elim
  | ref k => obtain ⟨a, _, e⟩ := r; cases e
  | tup _ => obtain ⟨a, _, _, _, e, _⟩ := r; cases e
  | cls c => exact h' c rfl
  | ty c => exact h'' c rfl
  | exc c => obtain ⟨a, _, e, _⟩ := r; cases e

theorem sim_in {a b : V} {x y : Value} (ha : AOk fe hd n A) (st : St T g σ s.heap) (ra : RepV T g a x) (rb : RepV T g b y) :
    Sim T fs L A g s (compareOp .In x y) (RepV T) (ansB σ (inV σ a b)) ∧ Sim T fs L A g s (compareOp .NotIn x y) (RepV T) (ansB σ (notO (inV σ a b))) := by
  have seq : Sim T fs L A g s (compareOp .In x y) (RepV T) (ansB σ (inSeq σ a b)) ∧ Sim T fs L A g s (compareOp .NotIn x y) (RepV T) (ansB σ (notO (inSeq σ a b))) := by
    unfold inSeq
    cases h1 : snap σ eqDepth a with
    | none => exact ⟨Sim.bad, Sim.bad⟩
    | some d => cases h2 : snap σ eqDepth b with
    | none => exact ⟨Sim.bad, Sim.bad⟩
    | some ds => cases ds with
    | list ys =>
      show Sim T fs L A g s _ _ (ansB σ (inD d ys)) ∧ Sim T fs L A g s _ _ (ansB σ (notO (inD d ys)))
      cases h3 : inD d ys with
      | none => exact ⟨Sim.bad, Sim.bad⟩
      | some c => exact sim_inL ha st ra rb h1 (.inl h2) h3
    | tuple ys =>
      show Sim T fs L A g s _ _ (ansB σ (inD d ys)) ∧ Sim T fs L A g s _ _ (ansB σ (notO (inD d ys)))
      cases h3 : inD d ys with
      | none => exact ⟨Sim.bad, Sim.bad⟩
      | some c => exact sim_inL ha st ra rb h1 (.inr h2) h3
    | _ => exact ⟨Sim.bad, Sim.bad⟩
  unfold inV
  cases e1 : isStrV a with
  | none => exact seq
  | some u => cases e2 : isStrV b with
  | none => exact seq
  | some v =>
    obtain ⟨t, rfl, _⟩ := isStrV_rep ra e1
    obtain ⟨t', rfl, _⟩ := isStrV_rep rb e2
    exact ⟨Sim.ansB st fun Q h => SB.contains h, Sim.ansB st fun Q h => SB.notContains h⟩

theorem sim_is {a b : V} {x y : Value} (st : St T g σ s.heap) (ra : RepV T g a x) (rb : RepV T g b y) :
    Sim T fs L A g s (compareOp .Is x y) (RepV T) (ansB σ (isV a b)) ∧ Sim T fs L A g s (compareOp .IsNot x y) (RepV T) (ansB σ (notO (isV a b))) := by
  have other : b = .d .none → (∀ c, a ≠ .cls c) → (∀ t, a ≠ .ty t) → a ≠ .d .none →
      Sim T fs L A g s (compareOp .Is x y) (RepV T) (ansB σ (some false)) ∧ Sim T fs L A g s (compareOp .IsNot x y) (RepV T) (ansB σ (some true)) := fun hb h2 h4 h3 => by
    subst hb
    have rb : y = .none := rb
    subst rb
    exact ⟨Sim.ansB st fun Q h => wpAny_is_other (plainIs_none ra h2 h4) (rep_not_none ra h2 h4 h3) h, Sim.ansB st fun Q h => wpAny_isNot_other (plainIs_none ra h2 h4) (rep_not_none ra h2 h4 h3) h⟩
  cases b with
  | d z =>
    cases z with
    | none =>
      cases a with
      | d w =>
        cases w with
        | none =>
          have rb : y = .none := rb
          have ra : x = .none := ra
          subst ra rb
          exact ⟨Sim.ansB st fun Q h => wpAny_is_self rfl h, Sim.ansB st fun Q h => wpAny_isNot_self rfl h⟩
        | _ => exact other rfl (by simp) (by simp) (by simp)
      | cls _ => exact ⟨Sim.bad, Sim.bad⟩
      | ty _ => exact ⟨Sim.bad, Sim.bad⟩
      | _ => exact other rfl (by simp) (by simp) (by simp)
    | _ => exact ⟨Sim.bad, Sim.bad⟩
  | _ => exact ⟨Sim.bad, Sim.bad⟩

theorem sim_cmpop (op : CmpOp) {a b : V} {x y : Value} (ha : AOk fe hd n A) (st : St T g σ s.heap) (ra : RepV T g a x) (rb : RepV T g b y) :
    Sim T fs L A g s (compareOp op x y) (RepV T) (ansB σ (cmpop op a b σ)) := by
  cases op with
  | Eq => exact (sim_eq ha st ra rb).1
  | NotEq => exact (sim_eq ha st ra rb).2
  | In => exact (sim_in ha st ra rb).1
  | NotIn => exact (sim_in ha st ra rb).2
  | Is => exact (sim_is st ra rb).1
  | IsNot => exact (sim_is st ra rb).2
  | Lt =>
    unfold cmpop ltV
    simp only
    split
    · obtain ⟨t, rfl⟩ := ra; obtain ⟨u, rfl⟩ := rb; exact Sim.ansB st fun Q h => P.lt_int h
    · obtain ⟨t, rfl, _⟩ := ra; obtain ⟨u, rfl, _⟩ := rb; exact Sim.ansB st fun Q h => P.lt_str h
    · exact Sim.bad
  | LtE =>
    unfold cmpop leV
    simp only
    split
    · obtain ⟨t, rfl⟩ := ra; obtain ⟨u, rfl⟩ := rb; exact Sim.ansB st fun Q h => P.le_int h
    · obtain ⟨t, rfl, _⟩ := ra; obtain ⟨u, rfl, _⟩ := rb; exact Sim.ansB st fun Q h => P.le_str h
    · exact Sim.bad
  | Gt =>
    unfold cmpop gtV
    simp only
    split
    · obtain ⟨t, rfl⟩ := ra; obtain ⟨u, rfl⟩ := rb; exact Sim.ansB st fun Q h => P.gt_int h
    · obtain ⟨t, rfl, _⟩ := ra; obtain ⟨u, rfl, _⟩ := rb; exact Sim.ansB st fun Q h => P.gt_str h
    · exact Sim.bad
  | GtE =>
    unfold cmpop geV
    simp only
    split
    · obtain ⟨t, rfl⟩ := ra; obtain ⟨u, rfl⟩ := rb; exact Sim.ansB st fun Q h => P.ge_int h
    · obtain ⟨t, rfl, _⟩ := ra; obtain ⟨u, rfl, _⟩ := rb; exact Sim.ansB st fun Q h => P.ge_str h
    · exact Sim.bad
end

end Mine

namespace Mine
open PySem PySem.Calls PySem.SeqAt

section
variable {T : Top} {fs : List Addr} {L : Option Addr} {A : Around} {g : G} {σ : Store} {s : Shared} {fe : List Env} {hd : Bool} {n : Nat}

noncomputable def ansO (σ : Store) : Option V → Res V
  | some v => .ok v σ
  | none => .bad

theorem small_bounds {i : Int} (h : small i = true) : -(2 ^ 63) ≤ i ∧ i < 2 ^ 63 := by
  simp only [small, Bool.and_eq_true, decide_eq_true_eq] at h
  omega

theorem seqIndex_nonneg {k : Int} {n j : Nat} (h : seqIndex? k n = some j) (h0 : 0 ≤ k) : k.toNat = j ∧ j < n := by
  unfold seqIndex? at h
  simp only [if_neg (show ¬ k < 0 by omega)] at h
  split at h
  · rename_i q
    simp only [Bool.and_eq_true, decide_eq_true_eq] at q
    cases h
    exact ⟨rfl, by omega⟩
  · cases h
theorem seqIndex_negative {k : Int} {n j : Nat} (h : seqIndex? k n = some j) (h0 : k < 0) : (k + n).toNat = j ∧ j < n ∧ -(n : Int) ≤ k := by
  unfold seqIndex? at h
  simp only [if_pos h0] at h
  split at h
  · rename_i q
    simp only [Bool.and_eq_true, decide_eq_true_eq] at q
    cases h
    exact ⟨rfl, by omega, by omega⟩
  · cases h

theorem chr1_len (c : Nat) : (chr1 c).length ≤ line := by show 1 ≤ line; unfold line; omega

theorem sim_getItem {a i : V} {x y : Value} (st : St T g σ s.heap) (ra : RepV T g a x) (ri : RepV T g i y) :
    Sim T fs L A g s (getItem x y) (RepV T) (ansO σ (subscr a i σ)) := by
  unfold subscr
  split
  · rename_i k
    obtain ⟨u, rfl⟩ := ri
    by_cases hk : small k = true
    · rw [if_pos hk]
      obtain ⟨h1, h2⟩ := small_bounds hk
      split
      · rename_i x'
        obtain ⟨t, rfl, _⟩ := ra
        cases hc : Txt.charAt x' k with
        | none => exact Sim.bad
        | some c =>
          refine Sim.ofTok st fun Q h => SB.getItem ?_ (by rw [hc]; rfl) (h _ _ ⟨s.toks, ?_, chr1_len c⟩)
          · unfold fitsSsize; simp; omega
          · unfold Txt.item; rw [hc]; rfl
      · split
        · rename_i vs e
          obtain ⟨l, o, xs, m, rfl, ho, hc, hd, hr, hl⟩ := seqOf_rep st ra e
          have hlen := hr.length
          split
          · rename_i j hj
            cases hv : vs[j]? with
            | none => exact Sim.bad
            | some v =>
              obtain ⟨w, hw, hrw⟩ := hr.get hv
              have hw' : xs[j]? = some w := by simpa using hw
              have hn : vs.length = xs.size := by simpa using hlen
              refine Sim.of ?_
              rcases hc with hc | hc
              · have hL : s.heap.IsList l xs := ⟨o, ho, hc, m, hd⟩
                by_cases h0 : 0 ≤ k
                · obtain ⟨q1, q2⟩ := seqIndex_nonneg hj h0
                  exact wpAny_getItem_list hL h0 h2 (by rw [q1]; exact hw') ⟨g, .refl st, hrw⟩
                · obtain ⟨q1, q2, q3⟩ := seqIndex_negative hj (by omega)
                  exact wpAny_getItem_list_neg hL (by omega) (by rw [← hn]; exact q3) h1 (by rw [← hn, q1]; exact hw') ⟨g, .refl st, hrw⟩
              · exact PyProof.Rows.getItem_tuple ⟨o, ho, hc, m, hd⟩ h1 h2 (by rw [← hn]; exact hj) hw' ⟨g, .refl st, hrw⟩
          · exact Sim.bad
        · exact Sim.bad
    · rw [if_neg hk]; exact Sim.bad
  · exact Sim.bad

theorem cutAt_rep {T : Top} {g : G} {ws : List V} {xs : Array Value} (lo hi : Option Int) (r : RepVs T g ws xs.toList) : RepVs T g (cutAt lo hi ws) (slicePick xs lo hi none).toList := by
  rw [slicePick_plain]
  have hl : ws.length = xs.size := by simpa using r.length
  unfold cutAt
  rw [hl]
  have drp : ∀ (k : Nat) {ws : List V} {vs : List Value}, RepVs T g ws vs → RepVs T g (ws.drop k) (vs.drop k) := by
    intro k
    induction k with
    | zero => intro ws vs h; simpa using h
    | succ k ih =>
      intro ws vs h
      cases ws with
      | nil => cases vs with
        | nil => simpa using h
        | cons _ _ => exact h.elim
      | cons w ws => cases vs with
        | nil => exact h.elim
        | cons v vs => simpa using ih h.2
  have tke : ∀ (k : Nat) {ws : List V} {vs : List Value}, RepVs T g ws vs → RepVs T g (ws.take k) (vs.take k) := by
    intro k
    induction k with
    | zero => intro ws vs h; simp; exact trivial
    | succ k ih =>
      intro ws vs h
      cases ws with
      | nil => cases vs with
        | nil => simpa using h
        | cons _ _ => exact h.elim
      | cons w ws => cases vs with
        | nil => exact h.elim
        | cons v vs => exact ⟨h.1, ih h.2⟩
  exact tke _ (drp _ r)

theorem clipAt_le (n : Nat) (i : Int) : clipAt n i ≤ n := by
  have := clipAt_cast n i
  omega

theorem strSlice_eq (lo hi : Option Int) (x : Str) : Txt.slice x lo hi = cutS lo hi x := by
  have e : Builtin.Str.strSliceIndices lo hi 1 x.length = sliceRange (sliceBounds lo hi none x.length).1 (sliceBounds lo hi none x.length).2.1 1 := by
    unfold Builtin.Str.strSliceIndices
    cases lo <;> cases hi <;> simp [sliceBounds]
  have e2 : (Builtin.Str.strSliceIndices lo hi 1 x.length).filterMap (x.cps[·]?) = cutAt lo hi x.cps.toList := by
    rw [e, sliceBounds_plain]
    simp only [sliceRange_one, pick_run]
    unfold cutAt
    simp [Str.length]
  unfold Txt.slice cutS
  split
  · rename_i q
    simp only [Bool.and_eq_true, beq_iff_eq] at q
    have q2 := q.2
    have l1 : (cutAt lo hi x.cps.toList).length = x.length := by
      have hb : hi.elim x.length (clipAt x.length) ≤ x.length := by
        cases hi with
        | none => exact Nat.le_refl _
        | some i => exact clipAt_le _ _
      rw [e, sliceBounds_plain] at q2
      simp only [sliceRange_one, List.length_map, List.length_range] at q2
      unfold cutAt
      have hx : x.cps.toList.length = x.length := by simp [Str.length]
      rw [hx, List.length_take, List.length_drop, hx]
      omega
    have l2 : cutAt lo hi x.cps.toList = x.cps.toList := by
      have hs : (cutAt lo hi x.cps.toList).Sublist x.cps.toList := (List.take_sublist _ _).trans (List.drop_sublist _ _)
      exact hs.eq_of_length (by rw [l1]; unfold Str.length; simp)
    rw [l2]
  · rw [e2]

theorem cutS_len (lo hi : Option Int) (x : Str) : (cutS lo hi x).length ≤ x.length := by
  unfold cutS cutAt Str.length
  simp
  omega

noncomputable def RepO' (T : Top) (g : G) : Option V → Value → Prop
  | none, x => x = .none
  | some v, x => RepV T g v x

theorem endOf_part {o : Option V} {x : Value} {l : Option Int} (r : RepO' T g o x) (e : endOf o = some l) : IsPart x l ∧ ∃ p : Option (Int × Tok), x = partValue p ∧ p.map (·.1) = l := by
  unfold endOf at e
  split at e
  · cases e
    have r : x = .none := r
    subst r
    exact ⟨.none, none, rfl, rfl⟩
  · split at e
    · cases e
      obtain ⟨t, rfl⟩ := r
      exact ⟨.int _ _, some (_, t), rfl, rfl⟩
    · cases e
  · cases e

theorem RepDs.drop {f : Addr → Option Obj} : ∀ (n : Nat) {ds : List PyData} {vs : List Value}, RepDs f ds vs → RepDs f (ds.drop n) (vs.drop n)
  | 0, _, _, h => h
  | _ + 1, [], [], _ => trivial
  | n + 1, _ :: _, _ :: _, h => RepDs.drop n h.2
  | _ + 1, [], _ :: _, h => h.elim
  | _ + 1, _ :: _, [], h => h.elim
theorem sim_slice {fz : Bool} {a : V} {lo hi : Option V} {x vl vu : Value} {sl : Addr} (st : St T g σ s.heap) (ra : RepV T g a x) (rl : RepO' T g lo vl) (rh : RepO' T g hi vu) (hs : s.heap.IsSliceOf sl vl vu .none) :
    Sim T fs L A g s (getItem x (.ref sl)) (RepV T) (slice fz a lo hi σ) := by
  unfold slice
  cases e1 : endOf lo with
  | none => exact Sim.bad
  | some l => cases e2 : endOf hi with
  | none => exact Sim.bad
  | some h =>
  obtain ⟨p1, q1, hq1, hq1'⟩ := endOf_part rl e1
  obtain ⟨p2, q2, hq2, hq2'⟩ := endOf_part rh e2
  subst hq1 hq2
  show Sim T fs L A g s _ _ (sliceAt fz a l h σ)
  unfold sliceAt
  cases es : isStrV a with
  | some x' =>
    obtain ⟨t, rfl, hl⟩ := isStrV_rep ra es
    refine Sim.ofTok st fun Q h => wpAny_getItem_str_slice (l := q1) (u := q2) (st := none) hs rfl ?_
    have e : (if (((none : Option (Int × Tok)).map (·.1)).getD 1 == 1 && (slicePicked x' q1 q2 none).length == x'.length) = true then x' else ⟨((slicePicked x' q1 q2 none).filterMap (x'.cps[·]?)).toArray⟩) = cutS (q1.map (·.1)) (q2.map (·.1)) x' := strSlice_eq _ _ _
    unfold sliceMade
    refine post_val_or_str ?_
    rw [e, hq1', hq2']
    exact ⟨Nat.le_trans (cutS_len _ _ _) (line_eq ▸ hl), fun t' k => h _ _ ⟨t', rfl, Nat.le_trans (cutS_len _ _ _) hl⟩⟩
  | none => cases et : isTupV a with
  | some xs =>
    obtain ⟨la, o, ia, m, rfl, ho, hc, hd, hr, hl⟩ := isTupV_rep ra et
    show Sim T fs L A g s _ _ (match sliceTup xs l h with | some ys => (.ok (V.d (.tuple ys)) σ : Res V) | none => .bad)
    cases ey : sliceTup xs l h with
    | none => exact Sim.bad
    | some ys =>
      cases l with
      | none => exact none_ne ey
      | some a => cases h with
      | some _ => exact none_ne ey
      | none =>
      have ey : (if 1 ≤ a ∧ a ≤ xs.length then some (xs.drop a.toNat) else none) = some ys := ey
      by_cases hb : 1 ≤ a ∧ a ≤ xs.length
      · rw [if_pos hb] at ey
        rw [← Option.some.inj ey]
        cases q1 with
        | none => cases hq1'
        | some q1 => cases q2 with
        | some _ => cases hq2'
        | none =>
        obtain ⟨a', t'⟩ := q1
        have hq1' : a' = a := Option.some.inj hq1'
        subst hq1'
        obtain ⟨n, rfl⟩ := Int.eq_ofNat_of_zero_le (show 0 ≤ a' by omega)
        have hln := hr.length
        have hn : n ≤ ia.size := by simp at hln; omega
        refine Sim.of (PyProof.Rows.getItem_tuple_from (u := t') ⟨o, st.fz _ _ ho, hc, m, hd⟩ hs (by omega) hn ?_ (by rw [← line_eq]; simp at hln; omega))
        have le : G.le g (g.put s.heap.objs.size { cls := .type "tuple", data := .seq (ia.toList.drop n).toArray }) := .put (st.fz_none (atSize _))
        refine ⟨_, .put st (fun b x e => Heap.get?_push_of_some _ e) (Heap.get?_push_size _ rfl) (atSize _), ⟨_, _, (ia.toList.drop n).toArray, 0, rfl, G.put_self, rfl, rfl, ?_, by rw [List.length_drop]; omega⟩⟩
        exact RepDs.mono le.fz _ _ (RepDs.drop n hr)
      · rw [if_neg hb] at ey; exact none_ne ey
  | none =>
    show Sim T fs L A g s _ _ (match lstOf σ a with | some xs => mkList fz (cutAt l h xs) σ | none => .bad)
    cases e3 : lstOf σ a with
    | none => exact Sim.bad
    | some xs =>
      obtain ⟨la, ia, rfl, ha1, ha2, hsz⟩ := lstOf_rep st ra e3
      intro hr
      exact wpAny_getItem_list_slice ha1 hs p1 p2 .none (by simp) (made_list st (fun b x e => Heap.get?_push_of_some _ e) (Heap.get?_push_size _ rfl) (atSize _) (cutAt_rep l h ha2) hr) (line_eq ▸ hsz)

end

end Mine

namespace Mine
open PySem PySem.Calls PySem.SeqAt

/-! sorting texts -/
theorem ltStr_irrefl (a : Str) : ltStr a a = false := by
  unfold ltStr; exact decide_eq_false (List.lt_irrefl _)
theorem ltStr_asymm {a b : Str} (h : ltStr a b = true) : ltStr b a = false := by
  unfold ltStr at *
  exact decide_eq_false (List.lt_asymm (of_decide_eq_true h))
theorem ltStr_trans {a b c : Str} (h : ltStr a b = true) (h' : ltStr b c = true) : ltStr a c = true := by
  unfold ltStr at *
  exact decide_eq_true (List.lt_trans (of_decide_eq_true h) (of_decide_eq_true h'))
theorem ltStr_total {a b : Str} (h : ltStr a b = false) (h' : ltStr b a = false) : a = b := by
  unfold ltStr at *
  have h1 := of_decide_eq_false h
  have h2 := of_decide_eq_false h'
  have : a.cps.toList = b.cps.toList := List.le_antisymm (List.not_lt.mp h2) (List.not_lt.mp h1)
  cases a; cases b; simp only [Str.mk.injEq]; exact Array.toList_inj.mp this
theorem leStr_trans {a b c : Str} (h : ltStr b a = false) (h' : ltStr c b = false) : ltStr c a = false := by
  cases e : ltStr c a with
  | false => rfl
  | true =>
    cases e' : ltStr a b with
    | true => rw [ltStr_trans e e'] at h'; cases h'
    | false => have := ltStr_total e' h; subst this; rw [e] at h'; cases h'

noncomputable def Rising (l : List Str) : Prop := l.Pairwise fun a b => ltStr b a = false

theorem insStr_perm (x : Str) : ∀ l : List Str, (insStr x l).Perm (x :: l)
  | [] => .refl _
  | y :: r => by
    unfold insStr
    split
    · exact .refl _
    · exact (List.Perm.cons y (insStr_perm x r)).trans (.swap ..)
theorem sortStr_perm : ∀ l : List Str, (sortStr l).Perm l
  | [] => .refl _
  | x :: r => (insStr_perm x _).trans (.cons x (sortStr_perm r))
theorem insStr_rising (x : Str) : ∀ l : List Str, Rising l → Rising (insStr x l)
  | [], _ => List.pairwise_singleton ..
  | y :: r, h => by
    obtain ⟨h1, h2⟩ := List.pairwise_cons.mp h
    unfold insStr
    split
    · rename_i hx
      exact List.pairwise_cons.mpr ⟨fun z hz => by
        rcases List.mem_cons.mp hz with rfl | hz
        · exact ltStr_asymm hx
        · exact leStr_trans (ltStr_asymm hx) (h1 z hz), h⟩
    · rename_i hx
      refine List.pairwise_cons.mpr ⟨fun z hz => ?_, insStr_rising x r h2⟩
      rcases List.mem_cons.mp ((insStr_perm x r).mem_iff.mp hz) with rfl | hz
      · simpa using hx
      · exact h1 z hz
theorem sortStr_rising : ∀ l : List Str, Rising (sortStr l)
  | [] => List.Pairwise.nil
  | x :: r => insStr_rising x _ (sortStr_rising r)
theorem rising_unique : ∀ {l l' : List Str}, Rising l → Rising l' → l.Perm l' → l = l'
  | [], l', _, _, p => (List.nil_perm.mp p).symm
  | x :: r, [], _, _, p => absurd (List.perm_nil.mp p) (by simp)
  | x :: r, y :: r', h, h', p => by
    obtain ⟨h1, h2⟩ := List.pairwise_cons.mp h
    obtain ⟨h1', h2'⟩ := List.pairwise_cons.mp h'
    have e : x = y := by
      have m1 : y ∈ x :: r := p.mem_iff.mpr (List.mem_cons_self ..)
      have m2 : x ∈ y :: r' := p.mem_iff.mp (List.mem_cons_self ..)
      rcases List.mem_cons.mp m1 with q | q
      · exact q.symm
      · rcases List.mem_cons.mp m2 with q' | q'
        · exact q'
        · exact ltStr_total (h1' x q') (h1 y q)
    subst e
    rw [rising_unique h2 h2' (List.Perm.cons_inv p)]

theorem ltCps_ltStr (a b : Str) : Spec.ltCps a.cps.toList b.cps.toList = ltStr a b := by
  unfold ltStr; exact PyProof.Rows.ltCps_eq _ _
theorem rising_of_risingS : ∀ (p : Str) (l : List Str), PyProof.Rows.risingS p l = true → Rising (p :: l)
  | p, [], _ => List.pairwise_singleton ..
  | p, x :: r, h => by
    simp only [PyProof.Rows.risingS, Bool.and_eq_true, Bool.not_eq_true', ltCps_ltStr] at h
    have h2 := rising_of_risingS x r h.2
    refine List.pairwise_cons.mpr ⟨fun z hz => ?_, h2⟩
    rcases List.mem_cons.mp hz with rfl | hz
    · exact h.1
    · exact leStr_trans h.1 ((List.pairwise_cons.mp h2).1 z hz)
theorem rising_of_sortedS : ∀ (l : List Str), PyProof.Rows.sortedS l = true → Rising l
  | [], _ => List.Pairwise.nil
  | x :: r, h => rising_of_risingS x r h

noncomputable def biVal : Bi → Value
  | .len => .builtin "len"
  | .ord => .builtin "ord"
  | .sorted => .builtin "sorted"
  | .min => .builtin "min"
  | .isinstance => .builtin "isinstance"
  | .list => .type "list"
  | .str => .type "str"
  | .all => .builtin "all"
  | .int => .type "int"

section
variable {T : Top} {fs : List Addr} {L : Option Addr} {A : Around} {g : G} {σ : Store} {s : Shared} {fe : List Env} {hd : Bool} {n : Nat}

theorem isStrV_eq {v : V} {y : Str} (h : isStrV v = some y) : v = .d (.str y) := by
  cases v with
  | d x => cases x with
    | str z => rw [Option.some.inj (show some z = some y from h)]
    | _ => exact none_ne h
  | _ => exact none_ne h
theorem isBoolV_rep {v : V} {x : Value} {b : Bool} (r : RepV T g v x) (h : isBoolV v = some b) : x = .bool b := by
  cases v with
  | d y => cases y with
    | bool z => rw [← Option.some.inj (show some z = some b from h)]; exact r
    | _ => exact none_ne h
  | _ => exact none_ne h
theorem strsV_rep : ∀ {vs : List V} {xs : List Value} {ss : List Str}, RepVs T g vs xs → strsV vs = some ss → PyProof.Rows.StrsAre xs ss ∧ (∀ y ∈ ss, y.length ≤ line) ∧ vs = ss.map (fun y => .d (.str y)) := by
  intro vs
  induction vs with
  | nil =>
    intro xs ss r e
    cases xs with
    | cons _ _ => exact r.elim
    | nil => rw [← Option.some.inj e]; exact ⟨.nil, fun _ h => (nomatch h), rfl⟩
  | cons v vs ih =>
    intro xs ss r e
    cases xs with
    | nil => exact r.elim
    | cons x xs =>
    have e : (match isStrV v with | some x => (match strsV vs with | some xs => some (x :: xs) | none => none) | none => none) = some ss := e
    cases ev : isStrV v with
    | none => rw [ev] at e; exact none_ne e
    | some y => cases er : strsV vs with
    | none => rw [ev, er] at e; exact none_ne e
    | some ss' =>
      rw [ev, er] at e
      rw [← Option.some.inj e]
      obtain ⟨t, rfl, hl⟩ := isStrV_rep r.1 ev
      obtain ⟨h1, h2, h3⟩ := ih r.2 er
      refine ⟨.cons y t h1, fun z hz => ?_, by rw [isStrV_eq ev, h3]; rfl⟩
      rcases List.mem_cons.mp hz with rfl | hz
      · exact hl
      · exact h2 z hz
theorem boolsV_rep : ∀ {vs : List V} {xs : List Value} {bs : List Bool}, RepVs T g vs xs → boolsV vs = some bs → xs = bs.map Value.bool := by
  intro vs
  induction vs with
  | nil =>
    intro xs ss r e
    cases xs with
    | cons _ _ => exact r.elim
    | nil => rw [← Option.some.inj e]; rfl
  | cons v vs ih =>
    intro xs ss r e
    cases xs with
    | nil => exact r.elim
    | cons x xs =>
    have e : (match isBoolV v with | some x => (match boolsV vs with | some xs => some (x :: xs) | none => none) | none => none) = some ss := e
    cases ev : isBoolV v with
    | none => rw [ev] at e; exact none_ne e
    | some y => cases er : boolsV vs with
    | none => rw [ev, er] at e; exact none_ne e
    | some ss' =>
      rw [ev, er] at e
      rw [← Option.some.inj e, isBoolV_rep r.1 ev, ih r.2 er]; rfl
theorem range_all : ∀ (bs : List Bool), (List.range bs.length).all (fun i => bs[i]?.getD false) = bs.all id
  | [] => rfl
  | b :: bs => by
    rw [List.length_cons, List.range_succ_eq_map, List.all_cons, List.all_map, List.all_cons, ← range_all bs]
    rfl
theorem if_some {α : Type} {c : Prop} [Decidable c] {a b : α} (h : (if c then some a else none) = some b) : c ∧ a = b := by
  by_cases hc : c
  · rw [if_pos hc] at h; exact ⟨hc, Option.some.inj h⟩
  · rw [if_neg hc] at h; exact none_ne h
theorem isListO_ok {o : Option O} (h : isListO o = true) : ∃ ws, o = some (.list ws) := by
  cases o with
  | none => exact (Bool.false_ne_true h).elim
  | some o => cases o with
    | dead => exact (Bool.false_ne_true h).elim
    | list ws => exact ⟨ws, rfl⟩
theorem sim_all {v : V} {x : Value} (ha : AOk fe hd n A) (st : St T g σ s.heap) (rx : RepV T g v x) : Sim T fs L A g s (call (.builtin "all") [x]) (RepV T) (bAll hd v σ) := by
  unfold bAll
  cases e : lstOf σ v with
  | none => exact Sim.bad
  | some ws =>
  obtain ⟨a, ys, rfl, hL, hr, hl⟩ := lstOf_rep st rx e
  show Sim T fs L A g s _ _ (match boolsV ws with | some bs => if hd = false then (.ok (V.d (.bool (bs.all id))) σ : Res V) else .bad | none => .bad)
  cases eb : boolsV ws with
  | none => exact Sim.bad
  | some bs =>
  show Sim T fs L A g s _ _ (if hd = false then (.ok (V.d (.bool (bs.all id))) σ : Res V) else .bad)
  cases hd with
  | true => exact Sim.bad
  | false =>
  rw [if_pos rfl]
  have hb := boolsV_rep hr eb
  have hsz : ys.size = bs.length := by rw [← Array.length_toList, hb, List.length_map]
  refine Sim.of (call_all_walk (wpAny_pyIter_list hL ?_))
  obtain ⟨ol, hol, hcl, nl, hdl⟩ := id hL
  have hne : a ≠ s.heap.objs.size := Nat.ne_of_lt (Heap.lt_size hol)
  refine ⟨_, _, _, _, _, _, fun i => bs[i]?.getD false, rfl, Walks.list (A := A.in1) (show A.in1.handled = none from ha.handled rfl) s.heap.objs.size a hne ys, ⟨⟨_, Heap.get?_push_size _ rfl, rfl, rfl⟩, ⟨ol, Heap.get?_push_of_some _ hol, hcl, nl, hdl⟩⟩, ?_, fun h' tk hk => ?_⟩
  · intro i w s' Q E hw hq
    have hw : ys.toList[i]? = some w := by simpa using hw
    have hq : Q (bs[i]?.getD false) s' := hq
    rw [hb, List.getElem?_map] at hw
    cases ebi : bs[i]? with
    | none => rw [ebi] at hw; cases hw
    | some c =>
      rw [ebi] at hw hq
      have hw : Value.bool c = w := Option.some.inj hw
      rw [← hw]
      exact wpAny_truthy_bool hq
  · rw [hsz, range_all]
    refine ⟨g, .grow st fun b o e => hk b o (fun q => ?_) (Heap.get?_push_of_some _ e), rfl⟩
    rw [List.mem_singleton.mp q, atSize] at e; cases e
theorem sim_int {v : V} {x : Value} (st : St T g σ s.heap) (rx : RepV T g v x) : Sim T fs L A g s (call (.type "int") [x]) (RepV T) (bInt v σ) := by
  unfold bInt
  cases e : isStrV v with
  | none => exact Sim.bad
  | some y =>
  obtain ⟨t, rfl, _⟩ := isStrV_rep rx e
  show Sim T fs L A g s _ _ (match intText? y with | some n => if y.length ≤ 640 then (.ok (V.d (.int n)) σ : Res V) else .bad | none => .bad)
  cases en : intText? y with
  | none => exact Sim.bad
  | some k =>
  show Sim T fs L A g s _ _ (if y.length ≤ 640 then (.ok (V.d (.int k)) σ : Res V) else .bad)
  split
  · rename_i hl
    exact Sim.ofTok st fun Q h => W.KIN.call_text en hl (h _ _ ⟨_, rfl⟩)
  · exact Sim.bad
theorem sim_isTy {v : V} {x : Value} {t : String} {b : Bool} (st : St T g σ s.heap) (rx : RepV T g v x) (hb : isTy σ v t = some b) : Sim T fs L A g s (call (.builtin "isinstance") [x, .type t]) (RepV T) (.ok (.d (.bool b)) σ) := by
  refine Sim.ofTok st fun Q h => ?_
  have h : ∀ k, Q (.bool b) { s with toks := k } := fun k => h _ k rfl
  have seq : ∀ {cl : String} {P : List Value → Prop} {k : Nat}, SeqIs g.fz cl x P k → s.TypeIs x cl := fun {cl P k} ⟨a, o, ys, k', e, q2, q3, q4, q5, q6⟩ => by rw [e]; exact ⟨_, st.fz _ _ q2, q3⟩
  cases v with
  | d y => cases y with
    | tuple _ =>
      obtain ⟨rfl, rfl⟩ := if_some hb
      exact call_isinstance (isinstance_true (Tx := "tuple") (by kernel_rfl) (by rw [isSubtype_type]; kernel_rfl)) ⟨seq rx, h s.toks⟩
    | list _ =>
      obtain ⟨rfl, rfl⟩ := if_some hb
      exact call_isinstance (isinstance_true (Tx := "list") (by kernel_rfl) (by rw [isSubtype_type]; kernel_rfl)) ⟨seq rx, h s.toks⟩
    | str _ =>
      obtain ⟨rfl, rfl⟩ := if_some hb
      obtain ⟨t, rfl, _⟩ := rx
      exact call_isinstance (isinstance_true (Tx := "str") (by kernel_rfl) (by rw [isSubtype_type]; kernel_rfl)) ⟨typeIs_str _ _ _, h s.toks⟩
    | int _ =>
      obtain ⟨u, rfl⟩ := rx
      have hb : (if t = "int" then some true else if t = "bool" then some false else none) = some b := hb
      by_cases q : t = "int"
      · rw [if_pos q] at hb
        subst q
        rw [← Option.some.inj hb] at h
        exact call_isinstance (isinstance_true (Tx := "int") (by kernel_rfl) (by rw [isSubtype_type]; kernel_rfl)) ⟨typeIs_int _ _ _, h s.toks⟩
      · rw [if_neg q] at hb
        obtain ⟨rfl, rfl⟩ := if_some hb
        exact call_isinstance (isinstance_false_int (by decide) (by kernel_rfl) (by rw [isSubtype_type]; kernel_rfl)) (h _)
    | bool c =>
      obtain ⟨rfl, rfl⟩ := if_some hb
      have rx : x = .bool c := rx
      subst rx
      exact call_isinstance (isinstance_true (Tx := "bool") (by kernel_rfl) (by rw [isSubtype_type]; kernel_rfl)) ⟨typeIs_bool _ _, h s.toks⟩
    | _ => exact none_ne hb
  | tup _ =>
    obtain ⟨rfl, rfl⟩ := if_some hb
    exact call_isinstance (isinstance_true (Tx := "tuple") (by kernel_rfl) (by rw [isSubtype_type]; kernel_rfl)) ⟨seq rx, h s.toks⟩
  | ref k =>
    obtain ⟨⟨q, rfl⟩, rfl⟩ := if_some hb
    obtain ⟨ws, e⟩ := isListO_ok q
    obtain ⟨a, hk, rfl⟩ := rx
    obtain ⟨o, ho, ys, m', q, hr, hl⟩ := st.ob k a _ hk e
    exact call_isinstance (isinstance_true (Tx := "list") (by kernel_rfl) (by rw [isSubtype_type]; kernel_rfl)) ⟨⟨o, ho, by rw [q]⟩, h s.toks⟩
  | _ => exact none_ne hb

theorem strsAre_rep : ∀ {xs : List Value} {ss : List Str}, PyProof.Rows.StrsAre xs ss → (∀ y ∈ ss, y.length ≤ line) → RepVs T g (ss.map fun y => .d (.str y)) xs
  | _, _, .nil, _ => trivial
  | _, _, .cons y t h, hl => ⟨⟨t, rfl, hl y (List.mem_cons_self ..)⟩, strsAre_rep h fun z hz => hl z (List.mem_cons_of_mem _ hz)⟩

noncomputable def IsiOk (T : Top) (isExc : Nat → Nat → Option Bool) : Prop :=
  ∀ (c k : Nat) (b : Bool) (w : Value), isExc c k = some b → T.cls k = some w → ∀ (A : Around) (Q : Value → Shared → Prop) (E : Value → Shared → Prop) (s : Shared) (e : Addr) (o : Obj),
    (∀ b o, T.h0.get? b = some o → s.heap.get? b = some o) → s.heap.get? e = some o → (T.cls c = some o.cls ∧ o.dict = none ∧ ∃ ws, o.data = .fields ws) → (∀ tk, Q (.bool b) { s with toks := tk }) → wpAny (model T.prog T.w) A (call (.builtin "isinstance") [.ref e, w]) Q E s

theorem sim_bcall {isExc : Nat → Nat → Option Bool} (isi : IsiOk T isExc) (ok : TopOk T) (b : Bi) (fz : Bool) {vs : List V} {xs : List Value} (ha : AOk fe hd n A) (st : St T g σ s.heap) (r : RepVs T g vs xs) :
    Sim T fs L A g s (call (biVal b) xs) (RepV T) (bcall isExc hd b fz vs σ) := by
  have one : ∀ {v : V}, RepVs T g [v] xs → ∃ x, xs = [x] ∧ RepV T g v x := fun {v} r => by
    cases xs with
    | nil => exact r.elim
    | cons x xs => cases xs with
      | nil => exact ⟨x, rfl, r.1⟩
      | cons _ _ => exact r.2.elim
  have two : ∀ {v w : V}, RepVs T g [v, w] xs → ∃ x y, xs = [x, y] ∧ RepV T g v x ∧ RepV T g w y := fun {v w} r => by
    cases xs with
    | nil => exact r.elim
    | cons x xs => cases xs with
      | nil => exact r.2.elim
      | cons y xs => cases xs with
        | nil => exact ⟨x, y, rfl, r.1, r.2.1⟩
        | cons _ _ => exact r.2.2.elim
  unfold bcall
  split
  · rename_i v
    obtain ⟨x, rfl, rx⟩ := one r
    cases b with
    | len =>
      show Sim _ _ _ _ _ _ _ _ (bLen v σ)
      unfold bLen
      split
      · obtain ⟨t, rfl, hl⟩ := rx
        exact Sim.ofTok st fun Q h => P.len_str (by have := line63 hl; omega) (h _ _ ⟨_, rfl⟩)
      · split
        · rename_i vs' e
          obtain ⟨a, o, ys, k, rfl, ho, hc, hd, hr, hl⟩ := seqOf_rep st rx e
          have hn : vs'.length = ys.size := by simpa using hr.length
          refine Sim.ofTok st fun Q h => ?_
          rw [hn] at h
          rcases hc with hc | hc
          · exact PyProof.Rows.len_list ⟨o, ho, hc, k, hd⟩ (line63 hl) (h _ _ ⟨_, rfl⟩)
          · exact PyProof.Rows.len_tuple ⟨o, ho, hc, k, hd⟩ (line63 hl) (h _ _ ⟨_, rfl⟩)
        · exact Sim.bad
    | ord =>
      show Sim _ _ _ _ _ _ _ _ (bOrd v σ)
      unfold bOrd
      split
      · rename_i x'
        obtain ⟨t, rfl, hl⟩ := rx
        split
        · rename_i c e
          have : x' = ⟨#[c]⟩ := by cases x'; simp only [Str.mk.injEq]; exact Array.toList_inj.mp e
          subst this
          exact Sim.ofTok st fun Q h => P.ord_of_char (h _ _ ⟨_, rfl⟩)
        · exact Sim.bad
      · exact Sim.bad
    | str =>
      show Sim _ _ _ _ _ _ _ _ (match isIntV v with | some i => if i.natAbs < 1000000000000 then (.ok (V.d (.str (strOf i))) σ : Res V) else .bad | none => .bad)
      cases e : isIntV v with
      | none => exact Sim.bad
      | some i =>
        obtain ⟨t, rfl⟩ := isIntV_rep rx e
        show Sim _ _ _ _ _ _ _ _ (if i.natAbs < 1000000000000 then (.ok (V.d (.str (strOf i))) σ : Res V) else .bad)
        split
        · rename_i hi
          refine Sim.ofTok st fun Q h => P.str_of_int ?_ (h _ _ ⟨_, rfl, ?_⟩)
          · by_cases h0 : i.natAbs = 0
            · rw [h0]; decide
            · exact Nat.lt_trans ((Nat.log2_lt (k := 40) h0).mpr (Nat.lt_trans hi (by decide))) (by decide)
          · have h10 := int_text_length_le10 (a := i) (k := 12) (by decide) hi
            show (Str.ofString (toString i)).length ≤ line
            rw [ofString_length]
            unfold line
            omega
        · exact Sim.bad
    | list =>
      show Sim _ _ _ _ _ _ _ _ (match lstOf σ v with | some xs => mkList fz xs σ | none => .bad)
      split
      · rename_i vs' e
        obtain ⟨a, ys, rfl, hL, hr, hl⟩ := lstOf_rep st rx e
        obtain ⟨o, ho, hc, k, hd⟩ := hL
        intro hb
        exact call_list_seq a (.inl rfl) ho hc hd (fun h' c' hk hD => made_list st hk hD (atSize _) hr hb) (line_eq ▸ hl)
      · exact Sim.bad
    | sorted =>
      show Sim _ _ _ _ _ _ _ _ (bSort fz v σ)
      unfold bSort
      split
      · rename_i vs' e
        obtain ⟨a, ys, rfl, hL, hr, hl⟩ := lstOf_rep st rx e
        split
        · rename_i ss es
          split
          · rename_i h64
            obtain ⟨h1, h2, h3⟩ := strsV_rep hr es
            intro hb
            have hlen : ys.toList.length < 64 := by rw [← hr.length, h3, List.length_map]; exact h64
            refine PyProof.Rows.sorted_strs (vs := ys.toList) hL h1 hlen fun out ss' a1 a2 a3 => ?_
            have e1 : ss' = sortStr ss := rising_unique (rising_of_sortedS _ a3) (sortStr_rising _) (a2.trans (sortStr_perm ss).symm)
            obtain ⟨k, hk⟩ := PyProof.Rows.sortedAll_at s.heap ys.toList out
            refine made_list (s' := { s with heap := PyProof.Rows.sortedAll s.heap ys.toList out }) st (fun b x e => PyProof.Rows.sortedAll_old e) hk (Heap.get?_none_of_le (Nat.le_succ _)) ?_ hb
            rw [← e1]
            exact strsAre_rep a1 fun z hz => h2 z (a2.mem_iff.mp hz)
          · exact Sim.bad
        · exact Sim.bad
      · exact Sim.bad
    | all => exact sim_all ha st rx
    | int => exact sim_int st rx
    | _ => exact Sim.bad
  · rename_i v w
    obtain ⟨x, y, rfl, rx, ry⟩ := two r
    cases b with
    | min =>
      show Sim _ _ _ _ _ _ _ _ (match isIntV v, isIntV w with | some i, some j => if hd then .bad else (.ok (V.d (.int (if j < i then j else i))) σ : Res V) | _, _ => .bad)
      cases e1 : isIntV v with
      | none => exact Sim.bad
      | some i => cases e2 : isIntV w with
        | none => exact Sim.bad
        | some j =>
          obtain ⟨t, rfl⟩ := isIntV_rep rx e1
          obtain ⟨u, rfl⟩ := isIntV_rep ry e2
          show Sim _ _ _ _ _ _ _ _ (if hd then .bad else (.ok (V.d (.int (if j < i then j else i))) σ : Res V))
          cases hd with
          | true => exact Sim.bad
          | false =>
            simp only [Bool.false_eq_true, if_false]
            refine Sim.of (min_two_ints (ha.handled rfl) fun h' tk hk => ⟨g, .grow st hk, ?_⟩)
            split
            · exact ⟨u, rfl⟩
            · exact ⟨t, rfl⟩
    | isinstance =>
      show Sim _ _ _ _ _ _ _ _ (bIsi isExc v w σ)
      unfold bIsi
      cases w with
      | cls k => cases v with
        | exc c =>
          obtain ⟨e, o, rfl, ho, hc⟩ := rx
          show Sim _ _ _ _ _ _ _ _ (match isExc c k with | some b => (.ok (V.d (.bool b)) σ : Res V) | none => .bad)
          cases hb : isExc c k with
          | none => exact Sim.bad
          | some b' => exact Sim.ofTok st fun Q h => isi _ _ _ _ hb ry A Q _ s e o st.keepsBase (st.fz _ _ ho) hc fun tk => h _ tk rfl
        | _ => exact Sim.bad
      | ty t =>
        have ry : y = .type t := ry
        subst ry
        show Sim _ _ _ _ _ _ _ _ (match isTy σ v t with | some b => (.ok (V.d (.bool b)) σ : Res V) | none => .bad)
        cases hb : isTy σ v t with
        | none => exact Sim.bad
        | some b' => exact sim_isTy st rx hb
      | _ => exact Sim.bad
    | _ => exact Sim.bad
  · exact Sim.bad
end

end Mine

namespace Mine
open PySem PySem.Calls

inductive HExc (g : G) (hd : Option Value) : Prop
  | mk (b : Addr) (o : Obj) (vs : Array Value) (h1 : hd = some (.ref b)) (h2 : g.fz b = some o) (h3 : o.data = .fields vs ∧ vs[2]? = some .none) : HExc g hd
noncomputable def HOk (g : G) (A : Around) : Prop := A.handled = none ∨ HExc g A.handled

theorem HOk.mono {g g' : G} {A : Around} (h : HOk g A) (le : G.le g g') : HOk g' A :=
  h.imp id fun ⟨b, o, vs, h1, h2, h3⟩ => ⟨b, o, vs, h1, le.fz _ _ h2, h3⟩
theorem HOk.in1 {g : G} {A : Around} (h : HOk g A) : HOk g A.in1 := h

theorem entry_unchain : entryFor table "proto.unchain" = some Builtin.«proto.unchain» := entryFor_of_fast (by kernel_rfl)
theorem plain_unchain : plainId "proto.unchain" = true := by decide +kernel

section
variable {prog : Program} {w : World} {A : Around} {E : Value → Shared → Prop} {s : Shared}

theorem raiseNew_any {α : Type} {g : G} {a : Addr} {o : Obj} {vs : Array Value} {Q : α → Shared → Prop} (hH : HOk g A) (fz : ∀ a o, g.fz a = some o → s.heap.get? a = some o)
    (ho : s.heap.get? a = some o) (hd : o.data = .fields vs) (hs : 2 < vs.size) (hn : g.fz a = none)
    (h : ∀ h' o', Heap.SameBut a s.heap h' → h'.get? a = some o' → o'.cls = o.cls → (o'.data = .fields vs ∨ ∃ x, o'.data = .fields (vs.setIfInBounds 2 x)) → E (.ref a) { s with heap := h' }) :
    wpAny (model prog w) A (raiseNew (.ref a) : Sem α) Q E s := by
  unfold raiseNew
  refine wpAny_bind (wpAny_handled ?_)
  rcases hH with hh | ⟨b, ob, bs, hh, hb, hbd, hb2⟩
  · rw [hh]
    exact wpAny_bind (wpAny_pure (wpAny_throw (h s.heap o (Heap.SameBut.refl ..) ho rfl (.inl hd))))
  · rw [hh]
    have hne : b ≠ a := fun q => by rw [q, hn] at hb; cases hb
    have hne' : ((Value.ref b) != (Value.ref a)) = true := by simp [hne]
    show wpAny _ _ (if (Value.ref b != Value.ref a) = true then _ else _) _ _ _
    rw [if_pos hne']
    refine wpAny_bind (wpAny_holding (wpAny_runValue (codeAny_builtin entry_unchain ?_)))
    rw [Around.under_plainId plain_unchain]
    unfold Builtin.«proto.unchain»
    show wpAny _ _ (field (.ref b) 2 >>= _) _ _ _
    refine wpAny_bind (wpAny_field (fz _ _ hb) hbd hb2 ?_)
    refine wpAny_pure ?_
    show wpAny _ _ (updateField a 2 (.ref b) >>= _) _ _ _
    refine wpAny_bind ?_
    refine wpAny_setField (s := s) ho hd hs ?_
    refine wpAny_throw (h _ _ (Heap.SameBut.update ..) (Heap.get?_update_self _ ho (Obj.isFreed_of_fields (Obj.data_mapFields hd _))) (Obj.cls_mapFields ..) (.inr ⟨_, Obj.data_mapFields hd _⟩))
end

end Mine

namespace Mine
open PySem PySem.Calls

section
variable {T : Top} {X X' fs own : List Addr} {g g' : G} {σ σ' : Store} {s s' : Shared} {fe : List Env} {wr : List Str} {env : Env} {vars : List Str} {ρ : Vars} {A : Around} {E : Value → Shared → Prop}

theorem Step.wide (x : Step T X fs g s g' σ' s') (h : ∀ a, a ∈ X → a ∈ X') : Step T X' fs g s g' σ' s' :=
  ⟨x.le, x.st, ⟨x.kept.alive, fun b o e nb nf => x.kept.same b o e (fun q => nb (h b q)) nf, fun b o e nb hf => x.kept.slots b o e (fun q => nb (h b q)) hf⟩, x.new, x.gens, x.os⟩

theorem Step.transW {g'' : G} {s'' : Shared} {σ'' : Store} (x : Step T X fs g s g' σ' s') (y : Step T X' fs g' s' g'' σ'' s'') (h : ∀ a, a ∈ X' → a ∈ X ∨ s.heap.get? a = none) : Step T X fs g s g'' σ'' s'' :=
  ⟨x.le.trans y.le, y.st, x.kept.trans y.kept h, x.new.trans y.new fun _ e => x.kept.dead e, y.gens.trans x.gens, y.os.trans x.os⟩

theorem Step.transO {g'' : G} {s'' : Shared} {σ'' : Store} (x : Step T (g.mu ++ own) fs g s g' σ' s') (y : Step T (g'.mu ++ own) fs g' s' g'' σ'' s'') : Step T (g.mu ++ own) fs g s g'' σ'' s'' :=
  x.transW y fun a h => (List.mem_append.mp h).elim (fun h => (x.new.mu a h).imp (fun h => List.mem_append.mpr (.inl h)) id) fun h => .inl (List.mem_append.mpr (.inr h))

theorem Step.toO (x : Step T g.mu fs g s g' σ' s') : Step T (g.mu ++ own) fs g s g' σ' s' := x.wide fun _ h => List.mem_append.mpr (.inl h)

theorem Step.extBut (st : St T g σ s.heap) {a : Addr} (ha : Apart g s.heap a) (hX : a ∈ X) (h : Heap.ExtBut a s.heap s'.heap) (hal : ∃ o, s'.heap.get? a = some o)
    (hg : s'.gens = s.gens := by rfl) (ho : s'.os = s.os := by rfl) : Step T X fs g s g σ s' := by
  have kp : ∀ b o, s.heap.get? b = some o → b ≠ a → s'.heap.get? b = some o := fun b o e q => h b o q e
  refine ⟨.refl g, ⟨fun b o e => kp b o (st.fz b o e) fun q => ?_, st.len, st.nd, st.ap, fun k b o e1 e2 => ?_, st.base⟩, ⟨fun b o e => ?_, fun b o e nb _ => kp b o e fun q => nb (q ▸ hX), fun b o e nb _ => ⟨o.slots, kp b o e fun q => nb (q ▸ hX)⟩⟩, .refl .., hg, ho⟩
  · rw [q, ha.1] at e; cases e
  · obtain ⟨x, h1, h2⟩ := st.ob k b o e1 e2
    exact ⟨x, kp b x h1 fun q => ha.2.1 (q ▸ List.mem_of_getElem? e1), h2⟩
  · by_cases q : b = a
    · rw [q]; exact hal
    · exact ⟨o, kp b o e q⟩

theorem Step.sameBut (st : St T g σ s.heap) {a : Addr} (ha : Apart g s.heap a) (hX : a ∈ X) (h : Heap.SameBut a s.heap s'.heap) (hal : ∃ o, s'.heap.get? a = some o)
    (hg : s'.gens = s.gens := by rfl) (ho : s'.os = s.os := by rfl) : Step T X fs g s g σ s' := .extBut st ha hX h.extBut hal hg ho

theorem ns_cell_ne {h : Heap} {a c : Addr} {m : Str → Option Value} {v : Option Value} (hn : h.Ns a m) (hc : h.IsCell c v) : a ≠ c := by
  obtain ⟨o, es, ep, ho, hd, _⟩ := hn
  obtain ⟨o', ho', hd'⟩ := hc
  intro q; subst q
  rw [ho] at ho'; cases ho'
  rw [hd] at hd'; cases hd'

theorem ns_uniq {h : Heap} {a : Addr} {m m' : Str → Option Value} (h1 : h.Ns a m) (h2 : h.Ns a m') : m = m' := by
  obtain ⟨o, es, ep, ho, hd, _, hq⟩ := h1
  obtain ⟨o', es', ep', ho', hd', _, hq'⟩ := h2
  rw [ho] at ho'; cases ho'
  rw [hd] at hd'; cases hd'
  funext n
  rw [← hq, ← hq']
theorem FrOk.sameBut {h h' : Heap} {a : Addr} (hs : Heap.SameBut a h h') (ho : ∃ o, h'.get? a = some o ∧ ∀ vs, o.data ≠ .fields vs) : ∀ {l : List Env}, FrOk g h l → FrOk g h' l
  | [], _ => trivial
  | _ :: _, ⟨k, ⟨L, o, hf, hl, hd, h1, h2⟩, r⟩ => by
    refine ⟨k, ?_, FrOk.sameBut hs ho r⟩
    by_cases q : L = a
    · obtain ⟨o', e1, e2⟩ := ho
      exact ⟨L, o', hf, q ▸ e1, e2, h1, h2⟩
    · exact ⟨L, o, hf, (hs.2 L q).trans hl, hd, h1, h2⟩

theorem Apart.sameBut {h h' : Heap} {a b : Addr} (hs : Heap.SameBut a h h') (ho : ∃ o, h'.get? a = some o) (x : Apart g h b) : Apart g h' b := by
  refine ⟨x.1, x.2.1, ?_⟩
  by_cases q : b = a
  · rw [q]; exact ho
  · obtain ⟨o, e⟩ := x.2.2; exact ⟨o, (hs.2 b q).trans e⟩

theorem vars_get {ρ : Vars} {i j : Nat} {v : V} {w : Option V} (h : (ρ.set i w)[j]? = some (some v)) : (j = i ∧ w = some v) ∨ (j ≠ i ∧ ρ[j]? = some (some v)) := by
  by_cases q : i = j
  · subst q
    rw [List.getElem?_set] at h
    simp only [if_true] at h
    split at h
    · simp only [Option.some.injEq] at h; exact .inl ⟨rfl, h⟩
    · cases h
  · rw [List.getElem?_set_ne q] at h
    exact .inr ⟨fun e => q e.symm, h⟩

theorem nodup_inj {vars : List Str} (hn : vars.Nodup) {i j : Nat} {n : Str} (h1 : vars[i]? = some n) (h2 : vars[j]? = some n) : i = j := by
  obtain ⟨a, ha⟩ := List.getElem?_eq_some_iff.mp h1
  obtain ⟨b, hb⟩ := List.getElem?_eq_some_iff.mp h2
  exact (List.getElem_inj hn).mp (ha.trans hb.symm)

theorem Inv.setLocal {i : Nat} {n : Str} {v : Option V} {u : Option Value} {m : Str → Option Value} {h' : Heap} (I : Inv T fe own wr env vars ρ g σ s.heap) (hi : vars[i]? = some n) (hk : env.kindOf n = some .local)
    (hm : s.heap.Ns env.locals m) (hn : h'.Ns env.locals (fun x => if x = n then u else m x)) (hs : Heap.SameBut env.locals s.heap h') (hr : ∀ w, v = some w → ∃ x, u = some x ∧ RepV T g w x) :
    Inv T fe own wr env vars (ρ.set i v) g σ h' ∧ ∀ s' : Shared, s'.heap = h' → s'.gens = s.gens → s'.os = s.os → Step T (g.mu ++ own) fs g s g σ s' := by
  obtain ⟨o, es, ep, ho, hd, hrest⟩ := id hn
  have al : ∃ o, h'.get? env.locals = some o := ⟨o, ho⟩
  have nf : ∃ o, h'.get? env.locals = some o ∧ ∀ vs, o.data ≠ .fields vs := ⟨o, ho, fun vs q => by rw [hd] at q; cases q⟩
  have stp : ∀ s' : Shared, s'.heap = h' → s'.gens = s.gens → s'.os = s.os → Step T (g.mu ++ own) fs g s g σ s' := fun s' e1 e2 e3 =>
    Step.sameBut I.st I.blk.loc (List.mem_append.mpr (.inr I.oloc)) (by rw [e1]; exact hs) (by rw [e1]; exact al) e2 e3
  have hc : ∀ c w, s.heap.IsCell c w → h'.IsCell c w := fun c w q => by
    obtain ⟨oc, h1, h2⟩ := id q
    exact ⟨oc, (hs.2 c (Ne.symm (ns_cell_ne hm q))).trans h1, h2⟩
  refine ⟨⟨(stp { s with heap := h' } rfl rfl rfl).st, I.fr.sameBut hs nf, I.top, ⟨I.blk.kind, I.blk.glob, I.blk.blt, I.blk.loc.sameBut hs al, ⟨_, hn⟩, fun k hk' => ?_, I.blk.cinj⟩, ?_, I.nd, I.oloc, I.ocell, fun a ha => (I.oap a ha).sameBut hs al⟩, stp⟩
  · obtain ⟨c, w, h1, h2, h3⟩ := I.blk.cell k hk'
    exact ⟨c, w, h1, hc c w h2, h3.sameBut hs al⟩
  · intro j k w hj hw
    rcases vars_get hw with ⟨q, e⟩ | ⟨q, e⟩
    · subst q
      rw [hi] at hj; cases hj
      obtain ⟨x, hx, hrx⟩ := hr w e
      exact ⟨fun _ => ⟨_, x, hn, by simp [hx], hrx⟩, fun q => by rw [hk] at q; rcases q with q | q <;> cases q⟩
    · have hkn : k ≠ n := fun q' => q (nodup_inj I.nd hj (q' ▸ hi))
      obtain ⟨h1, h2⟩ := I.sees j k w hj e
      refine ⟨fun hl => ?_, fun hl => ?_⟩
      · obtain ⟨m', y, q1, q2, q3⟩ := h1 hl
        have := ns_uniq hm q1
        subst this
        exact ⟨_, y, hn, by simp [hkn, q2], q3⟩
      · obtain ⟨c, y, q1, q2, q3⟩ := h2 hl
        exact ⟨c, y, q1, hc _ _ q2, q3⟩

theorem Inv.setCell {i : Nat} {n : Str} {c : Addr} {v : Option V} {u₀ u : Option Value} {h' : Heap} (I : Inv T fe own wr env vars ρ g σ s.heap) (hi : vars[i]? = some n) (hw : n ∈ wr) (hk : env.kindOf n = some .cell)
    (hc : env.cells.lookup n = some c) (h0 : s.heap.IsCell c u₀) (hn : h'.IsCell c u) (hs : Heap.SameBut c s.heap h') (hr : ∀ w, v = some w → ∃ x, u = some x ∧ RepV T g w x) :
    Inv T fe own wr env vars (ρ.set i v) g σ h' ∧ ∀ s' : Shared, s'.heap = h' → s'.gens = s.gens → s'.os = s.os → Step T (g.mu ++ own) fs g s g σ s' := by
  obtain ⟨o, ho, hd⟩ := id hn
  have al : ∃ o, h'.get? c = some o := ⟨o, ho⟩
  have nf : ∃ o, h'.get? c = some o ∧ ∀ vs, o.data ≠ .fields vs := ⟨o, ho, fun vs q => by rw [hd] at q; cases q⟩
  obtain ⟨m, hm⟩ := I.blk.ns
  have hne : env.locals ≠ c := ns_cell_ne hm h0
  have hap : Apart g s.heap c := by
    obtain ⟨c', w, h1, _, h3⟩ := I.blk.cell n (.inl hk)
    rw [hc] at h1; cases h1; exact h3
  have stp : ∀ s' : Shared, s'.heap = h' → s'.gens = s.gens → s'.os = s.os → Step T (g.mu ++ own) fs g s g σ s' := fun s' e1 e2 e3 =>
    Step.sameBut I.st hap (List.mem_append.mpr (.inr (I.ocell n hw c hk hc))) (by rw [e1]; exact hs) (by rw [e1]; exact al) e2 e3
  have hns : ∀ m', s.heap.Ns env.locals m' → h'.Ns env.locals m' := fun m' q => q.sameBut hs hne
  have hcs : ∀ k c' w, env.cells.lookup k = some c' → k ≠ n → s.heap.IsCell c' w → h'.IsCell c' w := fun k c' w e q hw => by
    obtain ⟨oc, h1, h2⟩ := hw
    exact ⟨oc, (hs.2 c' fun q' => q (I.blk.cinj k n c (q' ▸ e) hc)).trans h1, h2⟩
  refine ⟨⟨(stp { s with heap := h' } rfl rfl rfl).st, I.fr.sameBut hs nf, I.top, ⟨I.blk.kind, I.blk.glob, I.blk.blt, I.blk.loc.sameBut hs al, ⟨_, hns m hm⟩, fun k hk' => ?_, I.blk.cinj⟩, ?_, I.nd, I.oloc, I.ocell, fun a ha => (I.oap a ha).sameBut hs al⟩, stp⟩
  · obtain ⟨c', w, h1, h2, h3⟩ := I.blk.cell k hk'
    by_cases q : k = n
    · subst q
      rw [hc] at h1; cases h1
      exact ⟨c, u, hc, hn, h3.sameBut hs al⟩
    · exact ⟨c', w, h1, hcs k c' w h1 q h2, h3.sameBut hs al⟩
  · intro j k w hj hw'
    rcases vars_get hw' with ⟨q, e⟩ | ⟨q, e⟩
    · subst q
      rw [hi] at hj; cases hj
      obtain ⟨x, hx, hrx⟩ := hr w e
      exact ⟨fun q => (by rw [hk] at q; cases q), fun _ => ⟨c, x, hc, hx ▸ hn, hrx⟩⟩
    · have hkn : k ≠ n := fun q' => q (nodup_inj I.nd hj (q' ▸ hi))
      obtain ⟨h1, h2⟩ := I.sees j k w hj e
      refine ⟨fun hl => ?_, fun hl => ?_⟩
      · obtain ⟨m', y, q1, q2, q3⟩ := h1 hl
        exact ⟨_, y, hns _ q1, q2, q3⟩
      · obtain ⟨c', y, q1, q2, q3⟩ := h2 hl
        exact ⟨c', y, q1, hcs k c' _ q1 hkn q2, q3⟩

theorem function_plain {env : Env} (hk : env.scope.kind = .function) : (env.scope.kind == .class || (env.scope.kind == .module && env.locals != env.globals)) = false := by rw [hk]; rfl

theorem store_name {prog : Program} {w : World} {i : Nat} {n : Str} {v : V} {x : Value} {Q : Unit → Shared → Prop} (I : Inv T fe own wr env vars ρ g σ s.heap) (hi : vars[i]? = some n) (hw : n ∈ wr)
    (hk : env.kindOf n = some .local ∨ env.kindOf n = some .cell) (r : RepV T g v x)
    (h : ∀ s', Step T (g.mu ++ own) fs g s g σ s' → Inv T fe own wr env vars (ρ.set i (some v)) g σ s'.heap → Q () s') : wpAny (model prog w) A (storeName env n x) Q E s := by
  rcases hk with hk | hk
  · obtain ⟨m, hm⟩ := I.blk.ns
    refine wpAny_storeName_local hk hm (fun h' hn hs => ?_) (function_plain I.blk.kind)
    obtain ⟨I', stp⟩ := Inv.setLocal (fs := fs) (v := some v) I hi hk hm hn hs fun w e => ⟨x, rfl, by cases e; exact r⟩
    exact h _ (stp _ rfl rfl rfl) I'
  · obtain ⟨c, u, h1, h2, _⟩ := I.blk.cell n (.inl hk)
    refine wpAny_storeName_cell I.blk.kind hk h1 h2 fun h' hn hs => ?_
    obtain ⟨I', stp⟩ := Inv.setCell (fs := fs) (v := some v) I hi hw hk h1 h2 hn hs fun w e => ⟨x, rfl, by cases e; exact r⟩
    exact h _ (stp _ rfl rfl rfl) I'

theorem load_name {prog : Program} {w : World} {i : Nat} {n : Str} {v : V} {pos : Pos} {Q : Value → Shared → Prop} (I : Inv T fe own wr env vars ρ g σ s.heap) (hi : vars[i]? = some n)
    (hk : env.kindOf n = some .local ∨ env.kindOf n = some .cell ∨ env.kindOf n = some .free) (hv : ρ[i]? = some (some v)) (hd : (n == ("__debug__" : Str)) = false) (hd' : (n == ("__classdict__" : Str)) = false)
    (h : ∀ x, RepV T g v x → Q x s) : wpAny (model prog w) A (eval (.Name n pos) env) Q E s := by
  obtain ⟨h1, h2⟩ := I.sees i n v hi hv
  refine wpAny_Name ?_ hd
  rcases hk with hk | hk | hk
  · obtain ⟨m, x, hm, hx, hr⟩ := h1 hk
    exact wpAny_loadName_local I.blk.kind hk hm hx (h x hr)
  · obtain ⟨c, x, hc, hx, hr⟩ := h2 (.inl hk)
    exact wpAny_loadName_cell I.blk.kind hk hc hx (h x hr)
  · obtain ⟨c, x, hc, hx, hr⟩ := h2 (.inr hk)
    exact wpAny_loadName_free I.blk.kind hk hc hx (h x hr) hd'
end

end Mine

namespace Mine
open PySem PySem.Calls

noncomputable def Lone (av : List Addr) (g : G) (h : Heap) (a : Addr) : Prop := Apart g h a ∧ a ∉ av

noncomputable def chrs (cs : List Nat) : List V := cs.map fun c => .d (.str (chr1 c))

inductive ZipIt (T : Top) (g : G) (h : Heap) : Addr → Addr → Addr → Addr → Addr → List V → Prop
  | mk {z TI TO i1 i2 l1 l2 : Addr} {k1 k2 : Nat} {o1 o2 : Obj} {xs ys : Array Value} {n1 n2 : Nat} {a b : Value} {vs ws : List V} :
    ZipApart z TI TO i1 i2 l1 l2 → IsZip h z TI TO .none → IsPair h TI (.ref i1) (.ref i2) → IsPair h TO a b → h.IsListIter i1 l1 k1 → h.IsListIter i2 l2 k2 →
    g.fz l1 = some o1 → o1.cls = .type "list" → o1.data = .seq xs n1 → g.fz l2 = some o2 → o2.cls = .type "list" → o2.data = .seq ys n2 →
    RepVs T g vs (xs.toList.drop k1) → RepVs T g ws (ys.toList.drop k2) → ZipIt T g h z TI TO i1 i2 (zipV vs ws)

inductive ItOk (T : Top) (av : List Addr) (g : G) (h : Heap) : Bool → Bool → List Addr → Addr → Src → Prop
  | list {hd : Bool} {a l : Addr} {i : Nat} {o : Obj} {xs : Array Value} {n : Nat} {vs : List V} : Lone av g h a → h.IsListIter a l i → g.fz l = some o → o.cls = .type "list" → o.data = .seq xs n → RepVs T g vs (xs.toList.drop i) → ItOk T av g h hd false [a] a (.items vs)
  | tuple {a l : Addr} {i : Nat} {o : Obj} {xs : Array Value} {n : Nat} {vs : List V} : Lone av g h a → h.IsTupleIter a l i → g.fz l = some o → o.cls = .type "tuple" → o.data = .seq xs n → RepVs T g vs (xs.toList.drop i) → ItOk T av g h false false [a] a (.items vs)
  | enum {e it l : Addr} {i : Nat} {old : Value} {o : Obj} {xs : Array Value} {n : Nat} {vs : List V} : Lone av g h e → Lone av g h it → e ≠ it → IsEnum h e it i old → h.IsListIter it l i → g.fz l = some o → o.cls = .type "list" → o.data = .seq xs n → RepVs T g vs (xs.toList.drop i) → ItOk T av g h false true [e, it] e (.items (enumV i vs))
  | lref {hd : Bool} {a l : Addr} {k i : Nat} : Lone av g h a → h.IsListIter a l i → g.mu[k]? = some l → ItOk T av g h hd false [a] a (.lref k i)
  | ascii {a : Addr} {x : Str} {t : Tok} {i : Nat} : Lone av g h a → h.IsStrIter a "str_ascii_iterator" x t i → ItOk T av g h false false [a] a (.items (chrs (x.cps.toList.drop i)))
  | wide {a : Addr} {x : Str} {t : Tok} {i : Nat} : Lone av g h a → h.IsStrIter a "str_iterator" x t i → ItOk T av g h false false [a] a (.items (chrs (x.cps.toList.drop i)))
  | range {a : Addr} {x : Int} {left : Int} : Lone av g h a → IsRangeIter h a x left 1 → ItOk T av g h false false [a] a (.items (rangeV x left.toNat))
  | zip {z TI TO i1 i2 : Addr} {vs : List V} : Lone av g h z → Lone av g h TI → Lone av g h TO → Lone av g h i1 → Lone av g h i2 → ZipIt T g h z TI TO i1 i2 vs → ItOk T av g h false true [z, TO, i1, i2, TI] z (.items vs)

section
variable {T : Top} {X fs av : List Addr} {g g' : G} {σ σ' : Store} {s s' : Shared} {A : Around}

theorem Lone.step (x : Step T X fs g s g' σ' s') {a : Addr} (h : Lone av g s.heap a) : Lone av g' s'.heap a := ⟨h.1.step x, h.2⟩
theorem Lone.same (x : Step T X fs g s g' σ' s') (hX : ∀ a, a ∈ X → a ∈ g.mu ∨ a ∈ av) (hf : ∀ a, a ∈ fs → a ∈ av) {a : Addr} {o : Obj} (h : Lone av g s.heap a) (e : s.heap.get? a = some o) : s'.heap.get? a = some o :=
  x.kept.same a o e (fun q => (hX a q).elim h.1.2.1 h.2) fun q => h.2 (hf a q)

theorem ItOk.step (x : Step T X fs g s g' σ' s') (hX : ∀ a, a ∈ X → a ∈ g.mu ∨ a ∈ av) (hf : ∀ a, a ∈ fs → a ∈ av) {hd b : Bool} {its : List Addr} {a : Addr} {vs : Src} (I : ItOk T av g s.heap hd b its a vs) :
    ItOk T av g' s'.heap hd b its a vs := by
  cases I with
  | list h1 h2 h3 h4 h5 h6 => exact .list (h1.step x) (h2.at fun o e => h1.same x hX hf e) (x.le.fz _ _ h3) h4 h5 (RepVs.mono x.le _ _ h6)
  | tuple h1 h2 h3 h4 h5 h6 => obtain ⟨o, ho, r⟩ := h2; exact .tuple (h1.step x) ⟨o, h1.same x hX hf ho, r⟩ (x.le.fz _ _ h3) h4 h5 (RepVs.mono x.le _ _ h6)
  | enum z1 z2 ne h1 h2 h3 h4 h5 h6 => exact .enum (z1.step x) (z2.step x) ne (z1.same x hX hf h1) (h2.at fun o e => z2.same x hX hf e) (x.le.fz _ _ h3) h4 h5 (RepVs.mono x.le _ _ h6)
  | lref h1 h2 h3 => exact .lref (h1.step x) (h2.at fun o e => h1.same x hX hf e) (x.le.mu _ _ h3)
  | ascii h1 h2 => obtain ⟨o, ho, r⟩ := h2; exact .ascii (h1.step x) ⟨o, h1.same x hX hf ho, r⟩
  | wide h1 h2 => obtain ⟨o, ho, r⟩ := h2; exact .wide (h1.step x) ⟨o, h1.same x hX hf ho, r⟩
  | range h1 h2 => exact .range (h1.step x) (h1.same x hX hf h2)
  | zip z1 z2 z3 z4 z5 h =>
    cases h with
    | mk D hz hTI hTO h1 h2 f1 c1 d1 f2 c2 d2 r1 r2 =>
      exact .zip (z1.step x) (z2.step x) (z3.step x) (z4.step x) (z5.step x)
        (.mk D (z1.same x hX hf hz) (z2.same x hX hf hTI) (z3.same x hX hf hTO) (h1.at fun o e => z4.same x hX hf e) (h2.at fun o e => z5.same x hX hf e)
          (x.le.fz _ _ f1) c1 d1 (x.le.fz _ _ f2) c2 d2 (RepVs.mono x.le _ _ r1) (RepVs.mono x.le _ _ r2))

theorem ItOk.lone {hd b : Bool} {its : List Addr} {a : Addr} {vs : Src} {h : Heap} (I : ItOk T av g h hd b its a vs) : ∀ c, c ∈ its → Lone av g h c := by
  cases I with
  | list h1 => intro c hc; rw [List.mem_singleton.mp hc]; exact h1
  | tuple h1 => intro c hc; rw [List.mem_singleton.mp hc]; exact h1
  | enum z1 z2 =>
    intro c hc
    rcases List.mem_cons.mp hc with rfl | hc
    · exact z1
    · rw [List.mem_singleton.mp hc]; exact z2
  | lref h1 => intro c hc; rw [List.mem_singleton.mp hc]; exact h1
  | ascii h1 => intro c hc; rw [List.mem_singleton.mp hc]; exact h1
  | wide h1 => intro c hc; rw [List.mem_singleton.mp hc]; exact h1
  | range h1 => intro c hc; rw [List.mem_singleton.mp hc]; exact h1
  | zip z1 z2 z3 z4 z5 h =>
    intro c hc
    simp only [List.mem_cons, List.not_mem_nil, or_false] at hc
    rcases hc with rfl | rfl | rfl | rfl | rfl <;> assumption

end

section
variable {prog : Program} {w : World} {A : Around} {E : Value → Shared → Prop} {s : Shared} {g : G}

theorem next_list_end {it l : Addr} {i : Nat} {items : Array Value} {Q : Option Value → Shared → Prop} (hH : HOk g A) (fz : ∀ a o, g.fz a = some o → s.heap.get? a = some o) (hn : g.fz it = none)
    (hit : s.heap.IsListIter it l i) (hl : s.heap.IsList l items) (hx : items[i]? = none)
    (hQ : ∀ h', Heap.ExtBut it s.heap h' → Q none { s with heap := h' }) : wpAny (model prog w) A (pyNext (.ref it)) Q E s := by
  obtain ⟨o, ho, hc, hd⟩ := id hit
  obtain ⟨ol, hol, _, nl, hdl⟩ := hl
  unfold pyNext
  refine wpAny_bind (wpAny_attempt (wpAny_callSpecial?_slot (name := Str.ofString "__next__") hit.typeIs slot_listiter_next
    (wpAny_call_entry slot_listiter_next hit.typeIs entry_listiter_next ?_ (args_listiter_next _))))
  show wpAny _ _ (field (.ref it) 0 >>= _) _ _ s
  refine wpAny_bind (wpAny_field ho hd (x := .ref l) rfl ?_)
  show wpAny _ _ (if (Value.ref l == Value.none) = true then _ else _) _ _ s
  rw [if_neg (show ¬ ((Value.ref l == Value.none) = true) from Bool.false_ne_true)]
  show wpAny _ _ (field (.ref it) 1 >>= _) _ _ s
  refine wpAny_bind (wpAny_field ho hd (x := .int i 0) rfl ?_)
  show wpAny _ _ (seqItems? (.ref l) >>= _) _ _ s
  refine wpAny_bind (wpAny_seqItems hol hdl ?_)
  simp only [Int.toNat_natCast, hx]
  refine wpAny_bind (wpAny_rule (wpAny_bind (wpAny_setField ho hd (by simp) ?_)))
  show wpAny _ _ (newExc (.type "StopIteration") [] >>= _) _ _ _
  refine wpAny_bind ?_
  simp only [newExc, newTuple]
  refine wpAny_bind (wpAny_newObj_type ?_ (by size_fits))
  refine wpAny_bind (m := firstArgMember _ _) (wpAny_of_eq (a := Value.none) (by first | rfl | (simp only [firstArgMember]; rfl)) ?_)
  refine wpAny_newObj_type ?_ (by size_fits)
  have hsz : ∀ (h : Heap) (o : Obj), Heap.SameBut it s.heap h → g.fz (h.push o).objs.size = none := fun h o hs => by
    cases e : g.fz (h.push o).objs.size with
    | none => rfl
    | some ob =>
      have := Heap.lt_size (fz _ _ e)
      rw [Heap.size_push, hs.1] at this; exact absurd this (Nat.not_lt.mpr (Nat.le_succ _))
  refine raiseNew_any (g := g) hH.in1 (fun b ob e => Heap.get?_push_of_some _ (Heap.get?_push_of_some _ ?_)) (Heap.get?_push_size _ rfl) rfl (by simp [ownMembersOf]) (hsz _ _ ?_) fun h' o' hs' ho' hc' _ => ?_
  · exact (Heap.SameBut.update ..).extBut b ob (fun q => by rw [q, hn] at e; cases e) (fz _ _ e)
  · exact Heap.SameBut.update ..
  · refine wpAny_bind (wpAny_isInstance (T := "StopIteration") (b := true) ⟨o', ho', hc'⟩ isSubtype_stop ?_)
    refine wpAny_pure (hQ _ fun b ob hb e => ?_)
    have := Heap.lt_size e
    refine (hs'.2 b ?_).trans (Heap.ExtBut.push (Heap.ExtBut.push (Heap.SameBut.update ..).extBut _) _ b ob hb e)
    simp only [Heap.size_push, (Heap.SameBut.update ..).1]
    exact Nat.ne_of_lt (Nat.lt_succ_of_lt this)

theorem letOwned_plain {target : Expr} {a : Addr} {o : Obj} {n : String} {v : Value} {Q : Unit → Shared → Prop} (ho : s.heap.get? a = some o) (hc : o.cls = .type n)
    (hn : ["enumerate", "zip", "dict_itemiterator", "dict_reverseitemiterator", "odict_iterator", "itertools.zip_longest", "itertools.pairwise"].contains n = false) (h : Q () s) :
    wpAny (model prog w) A (letOwnedTupleGo target (.ref a) v) Q E s := by
  unfold letOwnedTupleGo
  split
  all_goals first
    | exact wpAny_pure h
    | (cases v <;> first
        | exact wpAny_pure h
        | (refine wpAny_bind (wpAny_load ho ?_)
           rw [hc]
           cases o.data <;> first
             | exact wpAny_pure h
             | (show wpAny _ _ (if (["enumerate", "zip", "dict_itemiterator", "dict_reverseitemiterator", "odict_iterator", "itertools.zip_longest", "itertools.pairwise"].contains n && _) = true then _ else _) _ _ _
                rw [hn, Bool.false_and, if_neg Bool.false_ne_true]
                exact wpAny_pure h)))
end

end Mine

namespace Mine
open PySem PySem.Calls

section
variable {T : Top} {fs av : List Addr} {g g' : G} {σ σ' : Store} {s s' : Shared} {A : Around} {E : Value → Shared → Prop}

theorem drop_get {α : Type} {xs : List α} {i : Nat} {x : α} {r : List α} (h : xs.drop i = x :: r) : xs[i]? = some x ∧ xs.drop (i + 1) = r := by
  have h1 : xs[i]? = some x := by
    have := congrArg List.head? h
    rw [List.head?_drop] at this
    simpa using this
  refine ⟨h1, ?_⟩
  have := congrArg List.tail h
  rw [List.tail_drop] at this
  simpa using this
theorem drop_none {α : Type} {xs : List α} {i : Nat} (h : xs.drop i = []) : xs[i]? = none := by
  rw [List.drop_eq_nil_iff] at h
  exact List.getElem?_eq_none h

theorem repVs_cons {T : Top} {g : G} {v : V} {vs : List V} {xs : List Value} (h : RepVs T g (v :: vs) xs) : ∃ x r, xs = x :: r ∧ RepV T g v x ∧ RepVs T g vs r := by
  cases xs with
  | nil => exact h.elim
  | cons x r => exact ⟨x, r, rfl, h.1, h.2⟩
theorem repVs_nil {T : Top} {g : G} {xs : List Value} (h : RepVs T g [] xs) : xs = [] := by
  cases xs with
  | nil => rfl
  | cons x r => exact h.elim

theorem pair_step {its : List Addr} {x y : Value} {v u : V} (st : St T g σ s.heap) (L : ∀ c, c ∈ its → Lone av g s.heap c) (al : ∀ c, c ∈ its → ∃ o, s'.heap.get? c = some o) (kp : ∀ c o, c ∉ its → s.heap.get? c = some o → s'.heap.get? c = some o)
    (pr : s'.heap.get? s.heap.objs.size = some { cls := .type "tuple", data := .seq #[x, y] }) (hx : RepV T g v x) (hy : RepV T g u y) (hg : s'.gens = s.gens := by rfl) (ho : s'.os = s.os := by rfl) :
    ∃ gp, Step T (g.mu ++ its) fs g s gp σ s' ∧ RepV T gp (mkTup [v, u]) (.ref s.heap.objs.size) ∧ G.le g gp ∧ ∀ c, c ∈ its → Lone av gp s'.heap c := by
  have hsz0 : s.heap.get? s.heap.objs.size = none := atSize _
  have le : G.le g (g.put s.heap.objs.size { cls := .type "tuple", data := .seq #[x, y] }) := .put (st.fz_none hsz0)
  have pos : ∀ {c : Addr} {o : Obj}, (g.put s.heap.objs.size { cls := .type "tuple", data := .seq #[x, y] }).fz c = some o → (c = s.heap.objs.size ∧ o = { cls := .type "tuple", data := .seq #[x, y] }) ∨ g.fz c = some o := fun {c o} e => by
    have e' : (if c = s.heap.objs.size then some _ else g.fz c) = some o := e
    by_cases q : c = s.heap.objs.size
    · rw [if_pos q] at e'; exact .inl ⟨q, (Option.some.inj e').symm⟩
    · rw [if_neg q] at e'; exact .inr e'
  have neg : ∀ {c : Addr}, g.fz c = none → (∃ o, s.heap.get? c = some o) → (g.put s.heap.objs.size { cls := .type "tuple", data := .seq #[x, y] }).fz c = none := fun {c} e ⟨o, q⟩ => by
    show (if c = s.heap.objs.size then _ else g.fz c) = none
    rw [if_neg fun h => by rw [h, hsz0] at q; cases q]
    exact e
  have nfz : ∀ {c : Addr} {o : Obj}, g.fz c = some o → c ∉ its := fun {c o} e q => by rw [(L c q).1.1] at e; cases e
  have nmu : ∀ {c : Addr}, c ∈ g.mu → c ∉ its := fun {c} e q => (L c q).1.2.1 e
  refine ⟨_, ⟨le, ⟨fun c o e => ?_, st.len, st.nd, fun c hc => neg (st.ap c hc) (st.mu_alive hc), fun j c o e1 e2 => ?_, fun c o e => le.fz _ _ (st.base c o e)⟩, ⟨fun c o e => ?_, fun c o e nb _ => kp c o (fun q => nb (List.mem_append.mpr (.inr q))) e, fun c o e nb _ => ⟨o.slots, kp c o (fun q => nb (List.mem_append.mpr (.inr q))) e⟩⟩, ⟨fun _ h => .inl h, fun c o e => ?_⟩, hg, ho⟩, ?_, le, fun c hc => ⟨⟨neg (L c hc).1.1 (L c hc).1.2.2, (L c hc).1.2.1, al c hc⟩, (L c hc).2⟩⟩
  · rcases pos e with ⟨q, q'⟩ | e'
    · rw [q, q']; exact pr
    · exact kp c o (nfz e') (st.fz _ _ e')
  · obtain ⟨z, h1, h2⟩ := st.ob j c o e1 e2
    exact ⟨z, kp c z (nmu (List.mem_of_getElem? e1)) h1, RepO.mono le _ _ h2⟩
  · by_cases q : c ∈ its
    · exact al c q
    · exact ⟨o, kp c o q e⟩
  · rcases pos e with ⟨q, _⟩ | e'
    · exact .inr (.inl (q ▸ hsz0))
    · exact .inl e'
  · have rr : RepVs T (g.put s.heap.objs.size { cls := .type "tuple", data := .seq #[x, y] }) [v, u] [x, y] := ⟨RepV.mono le _ _ hx, RepV.mono le _ _ hy, trivial⟩
    have two : 2 ≤ line := by unfold line; omega
    unfold mkTup
    cases hd' : allD [v, u] with
    | none => exact ⟨_, _, #[x, y], _, rfl, G.put_self, rfl, rfl, rr, two⟩
    | some ds => exact ⟨_, _, #[x, y], _, rfl, G.put_self, rfl, rfl, RepDs.ofV rr hd', by rw [(RepDs.ofV rr hd').length]; exact two⟩

theorem draw {hd b : Bool} {its : List Addr} {a : Addr} {vs : Src} {target : Expr} {Q : Option Value → Shared → Prop} (hH : HOk g A) (ha : hd = false → A.handled = none) (st : St T g σ s.heap)
    (I : ItOk T av g s.heap hd b its a vs) (ht : b = true → ∃ es c p, target = .Tuple es c p) (hb : vs.next σ ≠ none)
    (h0 : vs.next σ = some none → ∀ h', (∀ c o, c ∉ its → s.heap.get? c = some o → h'.get? c = some o) → Q none { s with heap := h' })
    (h1 : ∀ v rest, vs.next σ = some (some (v, rest)) → ∀ x s₁, (∀ (Q' : Unit → Shared → Prop) (E' : Value → Shared → Prop),
      (∀ g' s', Step T (g.mu ++ its) fs g s g' σ s' → ItOk T av g' s'.heap hd b its a rest → RepV T g' v x → Q' () s') → wpAny (model T.prog T.w) A (letOwnedTupleGo target (.ref a) x) Q' E' s₁) → Q (some x) s₁) :
    wpAny (model T.prog T.w) A (pyNext (.ref a)) Q E s := by
  have one : ∀ {a c : Addr}, c ∉ [a] → c ≠ a := fun h q => h (List.mem_singleton.mpr q)
  have mem1 : ∀ {a : Addr}, a ∈ g.mu ++ [a] := List.mem_append.mpr (.inr (List.mem_singleton.mpr rfl))
  have I' := I
  cases I with
  | @list _ a l i o xs n vs L it hl hc hd' r =>
    have hL : s.heap.IsList l xs := ⟨o, st.fz _ _ hl, hc, n, hd'⟩
    have hne : l ≠ a := fun q => by rw [q, L.1.1] at hl; cases hl
    cases vs with
    | nil =>
      have e : xs[i]? = none := by simpa using drop_none (repVs_nil r)
      exact next_list_end hH st.fz L.1.1 it hL e fun h' he => h0 rfl h' fun c o hc e => he c o (one hc) e
    | cons v rest =>
      obtain ⟨x, r', e, hx, hr⟩ := repVs_cons r
      obtain ⟨e1, e2⟩ := drop_get e
      refine wpAny_pyNext_list_item it hL (by simpa using e1) fun h' it' hs => h1 v (.items rest) rfl x _ fun Q' E' k => ?_
      obtain ⟨oi, hoi, hci, hdi⟩ := id it'
      refine letOwned_plain hoi hci (by decide) (k g _ (.sameBut st L.1 mem1 hs ⟨oi, hoi⟩) (.list ⟨L.1.sameBut hs ⟨oi, hoi⟩, L.2⟩ it' hl hc hd' (by rw [e2]; exact hr)) hx)
  | @lref _ a l k i L it hl =>
    have hm : l ∈ g.mu := List.mem_of_getElem? hl
    have hne : l ≠ a := fun q => L.1.2.1 (q ▸ hm)
    cases e : σ[k]? with
    | none =>
      have := st.len
      rw [List.getElem?_eq_none_iff] at e
      exact absurd (List.getElem?_eq_some_iff.mp hl).1 (by omega)
    | some ob => cases ob with
    | dead => exact absurd (by show nextAt k i σ[k]? = _; rw [e]; rfl) hb
    | list ws =>
      obtain ⟨o, ho, xs, m, q, hr, hln⟩ := st.ob k l _ hl e
      subst q
      have hL : s.heap.IsList l xs := ⟨_, ho, rfl, m, rfl⟩
      cases ew : ws[i]? with
      | none =>
        have ex : xs[i]? = none := by
          have h1 := List.getElem?_eq_none_iff.mp ew
          have h2 := hr.length
          rw [Array.getElem?_eq_none_iff]
          simp at h2; omega
        exact next_list_end hH st.fz L.1.1 it hL ex fun h' he => h0 (by show nextAt k i σ[k]? = _; rw [e]; show (match ws[i]? with | some v => some (some (v, Src.lref k (i + 1))) | none => some none) = _; rw [ew]) h' fun c o hc e => he c o (one hc) e
      | some v =>
        obtain ⟨x, ex, hx⟩ := hr.get ew
        refine wpAny_pyNext_list_item it hL (by simpa using ex) fun h' it' hs => h1 v (.lref k (i + 1)) (by show nextAt k i σ[k]? = _; rw [e]; show (match ws[i]? with | some v => some (some (v, Src.lref k (i + 1))) | none => some none) = _; rw [ew]) x _ fun Q' E' kk => ?_
        obtain ⟨oi, hoi, hci, hdi⟩ := id it'
        exact letOwned_plain hoi hci (by decide) (kk g _ (.sameBut st L.1 mem1 hs ⟨oi, hoi⟩) (.lref ⟨L.1.sameBut hs ⟨oi, hoi⟩, L.2⟩ it' hl) hx)
  | @tuple a l i o xs n vs L it hl hc hd' r =>
    have hL : s.heap.IsTuple l xs := ⟨o, st.fz _ _ hl, hc, n, hd'⟩
    cases vs with
    | nil => exact wpAny_pyNext_tuple_end (ha rfl) it hL (by simpa using drop_none (repVs_nil r)) fun h' he => h0 rfl h' fun c o hc e => he c o (one hc) e
    | cons v rest =>
      obtain ⟨x, r', e, hx, hr⟩ := repVs_cons r
      obtain ⟨e1, e2⟩ := drop_get e
      refine wpAny_pyNext_tuple_item it hL (by simpa using e1) fun h' it' hs => h1 v (.items rest) rfl x _ fun Q' E' k => ?_
      obtain ⟨oi, hoi, hci, hdi⟩ := id it'
      exact letOwned_plain hoi hci (by decide) (k g _ (.sameBut st L.1 mem1 hs ⟨oi, hoi⟩) (.tuple ⟨L.1.sameBut hs ⟨oi, hoi⟩, L.2⟩ it' hl hc hd' (by rw [e2]; exact hr)) hx)
  | @enum _ it l i old o xs n vs L1 L2 ne he hit hl hc hd' r =>
    have hL : s.heap.IsList l xs := ⟨o, st.fz _ _ hl, hc, n, hd'⟩
    cases vs with
    | nil => exact wpAny_pyNext_enum_end (ha rfl) he hit hL (by simpa using drop_none (repVs_nil r)) fun h' he => h0 rfl h' fun c o hc e => he c o (fun q => hc (by simp [q])) e
    | cons v rest =>
      obtain ⟨x, r', e, hx, hr⟩ := repVs_cons r
      obtain ⟨e1, e2⟩ := drop_get e
      refine wpAny_pyNext_enum_item he hit hL (by simpa using e1) ne fun h' heo hit' pr hsz hk => h1 _ _ rfl _ _ fun Q' E' k => ?_
      obtain ⟨es, cc, p, rfl⟩ := ht rfl
      refine wpAny_letOwnedTupleGo_enum heo fun h'' he'' hs'' => ?_
      have nz : s.heap.objs.size ≠ a := fun q => by have := Heap.lt_size he; rw [q] at this; exact absurd this (Nat.lt_irrefl _)
      have hit'' : h''.IsListIter it l (i + 1) := hit'.at fun o e => (hs''.2 _ (Ne.symm ne)).trans e
      obtain ⟨gp, S, R, le, LL⟩ := pair_step (fs := fs) (its := [a, it]) (s' := { s with heap := h'', toks := s.toks + 1 }) (v := .d (.int i)) (u := v) st I'.lone (fun c hc => by
        rcases List.mem_cons.mp hc with rfl | hc
        · exact ⟨_, he''⟩
        · rw [List.mem_singleton.mp hc]; obtain ⟨o, e, _⟩ := hit''; exact ⟨o, e⟩) (fun c o hc e => (hs''.2 c fun q => hc (by simp [q])).trans (hk c o (fun q => hc (by simp [q])) (fun q => hc (by simp [q])) e)) ((hs''.2 _ nz).trans pr) ⟨_, rfl⟩ hx
      refine k gp _ S (.enum (LL a (by simp)) (LL it (by simp)) ne he'' hit'' (le.fz _ _ hl) hc hd' (by rw [e2]; exact RepVs.mono le _ _ hr)) R
  | @ascii a x t i L it =>
    cases e : x.cps.toList.drop i with
    | nil =>
      have e' : x.cps[i]? = none := by simpa using drop_none e
      exact wpAny_pyNext_ascii_end (ha rfl) it e' fun h' he => h0 (by rw [e]; rfl) h' fun c o hc e => he c o (one hc) e
    | cons c rest =>
      obtain ⟨e1, e2⟩ := drop_get e
      refine wpAny_pyNext_ascii_item it (c := c) (by simpa using e1) fun h' it' hs => h1 _ _ (by rw [e]; rfl) _ _ fun Q' E' k => ?_
      obtain ⟨oi, hoi, hci, hdi⟩ := id it'
      refine letOwned_plain hoi hci (by decide) (k g _ (.sameBut st L.1 mem1 hs ⟨oi, hoi⟩) (by rw [← e2]; exact .ascii ⟨L.1.sameBut hs ⟨oi, hoi⟩, L.2⟩ it') ⟨_, rfl, chr1_len c⟩)
  | @wide a x t i L it =>
    cases e : x.cps.toList.drop i with
    | nil =>
      have e' : x.cps[i]? = none := by simpa using drop_none e
      exact wpAny_pyNext_wide_end (ha rfl) it e' fun h' he => h0 (by rw [e]; rfl) h' fun c o hc e => he c o (one hc) e
    | cons c rest =>
      obtain ⟨e1, e2⟩ := drop_get e
      refine wpAny_pyNext_wide_item it (c := c) (by simpa using e1) fun h' it' hs => h1 _ _ (by rw [e]; rfl) _ _ fun Q' E' k => ?_
      obtain ⟨oi, hoi, hci, hdi⟩ := id it'
      refine letOwned_plain hoi hci (by decide) (k g _ (.sameBut st L.1 mem1 hs ⟨oi, hoi⟩) (by rw [← e2]; exact .wide ⟨L.1.sameBut hs ⟨oi, hoi⟩, L.2⟩ it') ⟨_, rfl, chr1_len c⟩)
  | @range a x left L it =>
    cases e : left.toNat with
    | zero =>
      exact wpAny_pyNext_range_end (ha rfl) it (by omega) fun h' he => h0 (by rw [e]; rfl) h' fun c o hc e => he c o (one hc) e
    | succ k' =>
      refine wpAny_pyNext_range_item it (by omega) fun h' it' hs => h1 _ _ (by rw [e]; rfl) _ _ fun Q' E' k => ?_
      refine letOwned_plain it' rfl (by decide) (k g _ (.sameBut st L.1 mem1 hs ⟨_, it'⟩) ?_ ⟨_, rfl⟩)
      have e3 : (left - 1).toNat = k' := by omega
      rw [← e3]
      exact .range ⟨L.1.sameBut hs ⟨_, it'⟩, L.2⟩ it'
  | @zip _ TI TO i1 i2 vs Lz LTI LTO L1 L2 Z =>
    cases Z with
    | @mk l1 l2 k1 k2 o1 o2 xs ys n1 n2 pa pb vs ws D hz hTI hTO t1 t2 f1 c1 d1 f2 c2 d2 r1 r2 =>
    have hL1 : s.heap.IsList l1 xs := ⟨o1, st.fz _ _ f1, c1, n1, d1⟩
    have hL2 : s.heap.IsList l2 ys := ⟨o2, st.fz _ _ f2, c2, n2, d2⟩
    have fin : xs[k1]? = none ∨ ys[k2]? = none → zipV vs ws = [] → wpAny (model T.prog T.w) A (pyNext (.ref a)) Q E s := fun hend e =>
      wpAny_pyNext_zip_end (ha rfl) D hz hTI hTO t1 t2 hL1 hL2 hend fun h' hk => h0 (by rw [e]; rfl) h' fun c o hc e => hk c o (fun q => hc (by simp [q])) (fun q => hc (by simp [q])) (fun q => hc (by simp [q])) (fun q => hc (by simp [q])) e
    cases vs with
    | nil => exact fin (.inl (by simpa using drop_none (repVs_nil r1))) rfl
    | cons v vs =>
      cases ws with
      | nil => exact fin (.inr (by simpa using drop_none (repVs_nil r2))) rfl
      | cons u ws =>
        obtain ⟨x, r1', e1, hx, hr1⟩ := repVs_cons r1
        obtain ⟨y, r2', e2, hy, hr2⟩ := repVs_cons r2
        obtain ⟨p1, q1⟩ := drop_get e1
        obtain ⟨p2, q2⟩ := drop_get e2
        refine wpAny_pyNext_zip_item D hz hTI hTO t1 t2 hL1 hL2 (x := x) (y := y) (by simpa using p1) (by simpa using p2) fun h' z' TO' t1' t2' pr hsz hk => h1 _ _ rfl _ _ fun Q' E' k => ?_
        obtain ⟨es, cc, p, rfl⟩ := ht rfl
        refine wpAny_letOwnedTupleGo_zip z' fun h'' z'' hs'' => ?_
        have nz : s.heap.objs.size ≠ a := fun q => by have := Heap.lt_size hz; rw [q] at this; exact absurd this (Nat.lt_irrefl _)
        have kp : ∀ c o, c ≠ a → c ≠ TO → c ≠ i1 → c ≠ i2 → s.heap.get? c = some o → h''.get? c = some o := fun c o q1 q2 q3 q4 e => (hs''.2 c q1).trans (hk c o q1 q2 q3 q4 e)
        have TO'' : IsPair h'' TO x y := (hs''.2 _ D.TOz).trans TO'
        have TI'' : IsPair h'' TI (.ref i1) (.ref i2) := kp TI _ D.TIz D.TITO D.TIi1 D.TIi2 hTI
        have t1'' : h''.IsListIter i1 l1 (k1 + 1) := t1'.at fun o e => (hs''.2 _ D.i1z).trans e
        have t2'' : h''.IsListIter i2 l2 (k2 + 1) := t2'.at fun o e => (hs''.2 _ D.i2z).trans e
        obtain ⟨gp, S, R, le, LL⟩ := pair_step (fs := fs) (its := [a, TO, i1, i2, TI]) (s' := { s with heap := h'' }) (v := v) (u := u) st I'.lone (fun c hc => by
          simp only [List.mem_cons, List.not_mem_nil, or_false] at hc
          rcases hc with rfl | rfl | rfl | rfl | rfl
          · exact ⟨_, z''⟩
          · exact ⟨_, TO''⟩
          · obtain ⟨o, e, _⟩ := t1''; exact ⟨o, e⟩
          · obtain ⟨o, e, _⟩ := t2''; exact ⟨o, e⟩
          · exact ⟨_, TI''⟩) (fun c o hc e => kp c o (fun q => hc (by simp [q])) (fun q => hc (by simp [q])) (fun q => hc (by simp [q])) (fun q => hc (by simp [q])) e) ((hs''.2 _ nz).trans pr) hx hy
        exact k gp _ S (.zip (LL a (by simp)) (LL TI (by simp)) (LL TO (by simp)) (LL i1 (by simp)) (LL i2 (by simp))
          (.mk D z'' TI'' TO'' t1'' t2'' (le.fz _ _ f1) c1 d1 (le.fz _ _ f2) c2 d2 (by rw [q1]; exact RepVs.mono le _ _ hr1) (by rw [q2]; exact RepVs.mono le _ _ hr2))) R
end

end Mine

namespace Mine
open PySem

inductive GV where
  | fn (f : Nat)
  | cls (c : Nat)
  | con (x : PyData)
  | bi (b : Bi)
  | ty (t : String)

structure Kx where
  vars : List Str
  names : List (Str × NameKind)
  wr : List Str
  gl : Str → Option GV

noncomputable def Kx.isVar (K : Kx) (n : Str) : Bool :=
  (match K.names.lookup n with | some .local => true | some .cell => true | some .free => true | _ => false) && !(n == ("__debug__" : Str)) && !(n == ("__classdict__" : Str))
noncomputable def Kx.isGl (K : Kx) (n : Str) : Bool := (match K.names.lookup n with | some .globalImplicit => true | _ => false) && !(n == ("__debug__" : Str))
noncomputable def Kx.canWr (K : Kx) (i : Nat) (n : Str) : Bool :=
  (match K.vars[i]? with | some m => m == n | none => false) && K.wr.contains n && (match K.names.lookup n with | some .local => true | some .cell => true | _ => false)
noncomputable def Kx.isLoc (K : Kx) (n : Str) : Bool := match K.names.lookup n with | some .local => true | _ => false
noncomputable def Kx.isAt (K : Kx) (i : Nat) (n : Str) : Bool := match K.vars[i]? with | some m => m == n | none => false

noncomputable def constIs (c : Const) (x : PyData) : Bool :=
  match c with
  | .none => (match x with | .none => true | _ => false)
  | .bool a => (match x with | .bool b => a == b | _ => false)
  | .int a => (match x with | .int b => a == b | _ => false)
  | .str a => (match x with | .str b => a == b && decide (a.cps.size ≤ 16777216) | _ => false)
  | _ => false
noncomputable def dataIs (x y : PyData) : Bool :=
  match x with
  | .int a => (match y with | .int b => a == b | _ => false)
  | .str a => (match y with | .str b => a == b | _ => false)
  | _ => false
noncomputable def gvIs (v w : GV) : Bool :=
  match v with
  | .fn f => (match w with | .fn f' => f == f' | _ => false)
  | .cls f => (match w with | .cls f' => f == f' | _ => false)
  | .con f => (match w with | .con f' => dataIs f f' | _ => false)
  | .bi f => (match w with | .bi f' => decide (f = f') | _ => false)
  | .ty f => (match w with | .ty f' => f == f' | _ => false)
noncomputable def glTo (K : Kx) (v : GV) (n : Str) : Bool := K.isGl n && (match K.gl n with | some w => gvIs w v | none => false)

noncomputable def methName : Meth → String
  | .append => "append" | .join => "join" | .clear => "clear" | .partition => "partition" | .find => "find" | .split => "split"

noncomputable def notStar : Expr → Bool
  | .Starred _ _ => false
  | _ => true
noncomputable def notSet : Expr → Bool
  | .Set _ _ _ => false
  | _ => true
noncomputable def isSuperCall : Expr → Bool
  | .Call (.Name _ _) [] [] _ => true
  | _ => false
noncomputable def notComp : Expr → Bool
  | .ListComp _ _ _ _ => false
  | .SetComp _ _ _ _ => false
  | .DictComp _ _ _ _ _ => false
  | _ => true
noncomputable def notTup : Expr → Bool
  | .Tuple _ _ _ => false
  | _ => true

noncomputable def relNames (env : List (Str × NameKind)) (names : List (Str × NameKind)) : List (Str × NameKind) :=
  names.map fun (n, k) => if (k == .free && env.lookup n == some .cell) then (n, .cell) else (n, k)

noncomputable def scopeOk (K : Kx) (ts : List Nat) (sc : Scope) : Bool :=
  (match sc.kind with | .function => true | _ => false) &&
  sc.names.all (fun p => match p.2 with
    | .local => p.1 == (".0" : Str) || ts.any (fun i => match K.vars[i]? with | some m => m == p.1 | none => false)
    | .free => (match K.names.lookup p.1 with | some .cell => true | some .free => true | _ => false)
    | .globalImplicit => true
    | _ => false) &&
  sc.names.all (fun p => match sc.names.lookup p.1 with | some k => k == p.2 | none => false) &&
  !K.vars.contains (".0" : Str) &&
  ts.all (fun i => match K.vars[i]? with | some m => (match sc.names.lookup m with | some .local => true | _ => false) | none => false)

noncomputable def Kx.sub (K : Kx) (ts : List Nat) (sc : Scope) : Kx := { K with names := relNames K.names sc.names, wr := ts.filterMap fun i => K.vars[i]? }
noncomputable def headLine : List Expr → Nat
  | e :: _ => e.pos.line
  | [] => 0

noncomputable def biGV (b : Bi) : GV := match b with | .list => .ty "list" | .str => .ty "str" | .int => .ty "int" | b => .bi b

-- the shapes of the text
inductive IsCst (x : PyData) : Expr → Prop
  | mk {c : Const} {k : Nat} {p : Pos} (h : constIs c x = true) : IsCst x (.Constant c k p)
inductive IsNm (P : Str → Prop) : Expr → Prop
  | mk {n : Str} {p : Pos} (h : P n) : IsNm P (.Name n p)
inductive IsBin (op : Operator) (A B : Expr → Prop) : Expr → Prop
  | mk {l r : Expr} {p : Pos} (h1 : A l) (h2 : B r) : IsBin op A B (.BinOp l op r p)
inductive IsUn (op : UnaryOp) (A : Expr → Prop) : Expr → Prop
  | mk {x : Expr} {p : Pos} (h : A x) : IsUn op A (.UnaryOp op x p)
inductive IsBop (op : BoolOp) (A : List Expr → Prop) : Expr → Prop
  | mk {vs : List Expr} {p : Pos} (h : A vs) : IsBop op A (.BoolOp op vs p)
inductive IsCmp (op : CmpOp) (A B : Expr → Prop) : Expr → Prop
  | mk {l r : Expr} {p : Pos} (h1 : A l) (h2 : B r) (h3 : notSet r = true) : IsCmp op A B (.Compare l [op] [r] p)
inductive IsTup (A : List Expr → Prop) : Expr → Prop
  | mk {vs : List Expr} {k : Nat} {p : Pos} (h : A vs) : IsTup A (.Tuple vs k p)
inductive IsLst (A : List Expr → Prop) : Expr → Prop
  | mk {vs : List Expr} {p : Pos} (h : A vs) : IsLst A (.List vs p)
inductive IsSub (A B : Expr → Prop) : Expr → Prop
  | mk {v x : Expr} {p : Pos} (h1 : A v) (h2 : B x) : IsSub A B (.Subscript v x p)
inductive IsSlc (A : Expr → Prop) (B C : Option Expr → Prop) : Expr → Prop
  | mk {v : Expr} {l u : Option Expr} {q p : Pos} (h1 : A v) (h2 : B l) (h3 : C u) : IsSlc A B C (.Subscript v (.Slice l u none q) p)
inductive IsCall (P : Str → Prop) (A : List Expr → Prop) : Expr → Prop
  | mk {n : Str} {np : Pos} {vs : List Expr} {p : Pos} (h1 : P n) (h2 : A vs) (h3 : vs ≠ []) : IsCall P A (.Call (.Name n np) vs [] p)
inductive IsMeth (m : Meth) (A : Expr → Prop) (B : List Expr → Prop) : Expr → Prop
  | mk {x : Expr} {ap : Pos} {vs : List Expr} {p : Pos} (h2 : A x) (h3 : B vs) (h5 : ap.endLine = p.line) (h6 : vs.length < 20) (h7 : isSuperCall x = false) : IsMeth m A B (.Call (.Attribute x (Str.ofString (methName m)) ap) vs [] p)
inductive IsComp (A : Expr → Prop) (S : Scope → Prop) (P X : Scope → Expr → Prop) (F : Scope → List Expr → Prop) : Expr → Prop
  | mk {x t i : Expr} {cs : List Expr} {sc : Scope} {p : Pos} (h1 : A i) (h2 : notSet i = true) (h3 : S sc) (h4 : P sc t) (h5 : X sc x) (h6 : F sc cs) : IsComp A S P X F (.ListComp x [⟨t, i, cs, 0⟩] sc p)
inductive IsNil {α : Type} : List α → Prop
  | mk : IsNil []
inductive IsCons (A : Expr → Prop) (B : List Expr → Prop) : List Expr → Prop
  | mk {e : Expr} {l : List Expr} (h1 : A e) (h2 : notStar e = true) (h3 : B l) : IsCons A B (e :: l)
inductive IsNone : Option Expr → Prop
  | mk : IsNone none
inductive IsSome (A : Expr → Prop) : Option Expr → Prop
  | mk {e : Expr} (h : A e) : IsSome A (some e)
inductive IsZip (P : Str → Prop) (A B : Expr → Prop) : Expr → Prop
  | mk {n : Str} {np : Pos} {x y : Expr} {p : Pos} (h1 : P n) (h2 : A x) (h3 : B y) (h5 : notStar x = true) (h6 : notStar y = true) : IsZip P A B (.Call (.Name n np) [x, y] [] p)
inductive IsNs (K : Kx) : List Nat → List Expr → Prop
  | nil : IsNs K [] []
  | cons {i : Nat} {n : Str} {p : Pos} {r : List Nat} {l : List Expr} (h1 : K.canWr i n = true) (h2 : IsNs K r l) : IsNs K (i :: r) (.Name n p :: l)
inductive IsT (K : Kx) : List Nat → Expr → Prop
  | one {i : Nat} {n : Str} {p : Pos} (h : K.canWr i n = true) : IsT K [i] (.Name n p)
  | more {ts : List Nat} {es : List Expr} {k : Nat} {p : Pos} (h : IsNs K ts es) (hl : ts.length ≠ 1) : IsT K ts (.Tuple es k p)
inductive IsSw (K : Kx) (line : Nat) : List Nat → List Expr → Prop
  | nil : IsSw K line [] []
  | cons {i : Nat} {n : Str} {p : Pos} {r : List Nat} {l : List Expr} (h1 : K.canWr i n = true) (h2 : K.names.lookup n = some .local) (h3 : p.line = line) (h4 : IsSw K line r l) : IsSw K line (i :: r) (.Name n p :: l)

abbrev Kx.to (K : Kx) (v : GV) (n : Str) : Prop := K.isGl n = true ∧ K.gl n = some v

noncomputable def isZipIt (it : It) : Bool := match it with | .zip _ _ => true | .enum _ => true | _ => false
noncomputable def zipOk (ts : List Nat) (it : It) : Bool := if isZipIt it = true then decide (ts.length ≠ 1) else true

mutual
noncomputable def IsE : E → Kx → Expr → Prop
  | .cst x, _ => IsCst x
  | .var i, K => IsNm fun n => K.isVar n = true ∧ K.vars[i]? = some n
  | .ty t, K => IsNm (K.to (.ty t))
  | .cls c, K => IsNm (K.to (.cls c))
  | .glo x, K => IsNm (K.to (.con x))
  | .bin _ op a b, K => IsBin op (IsE a K) (IsE b K)
  | .neg a, K => IsUn .USub (IsE a K)
  | .not a, K => IsUn .Not (IsE a K)
  | .bop op es, K => IsBop op (IsEs es K)
  | .cmp op a b, K => IsCmp op (IsE a K) (IsE b K)
  | .tup es, K => IsTup (IsEs es K)
  | .lst _ es, K => IsLst (IsEs es K)
  | .sub a i, K => IsSub (IsE a K) (IsE i K)
  | .slc _ a lo hi, K => IsSlc (IsE a K) (IsO lo K) (IsO hi K)
  | .bcall b _ es, K => IsCall (K.to (biGV b)) (IsEs es K)
  | .fcall _ f es, K => IsCall (K.to (.fn f)) (IsEs es K)
  | .meth m _ o es, K => IsMeth m (IsE o K) (IsEs es K)
  | .comp _ elt ts it ifs, K => IsComp (IsI it K) (fun sc => scopeOk K ts sc = true ∧ zipOk ts it = true) (fun sc => IsT (K.sub ts sc) ts) (fun sc => IsE elt (K.sub ts sc)) (fun sc => IsEs ifs (K.sub ts sc))
noncomputable def IsEs : List E → Kx → List Expr → Prop
  | [], _ => IsNil
  | x :: r, K => IsCons (IsE x K) (IsEs r K)
noncomputable def IsO : Option E → Kx → Option Expr → Prop
  | none, _ => IsNone
  | some x, K => IsSome (IsE x K)
noncomputable def IsI : It → Kx → Expr → Prop
  | .of x, K => IsE x K
  | .range es, K => IsCall (K.to (.ty "range")) (IsEs es K)
  | .zip a b, K => IsZip (K.to (.ty "zip")) (IsE a K) (IsE b K)
  | .enum a, K => IsCall (K.to (.ty "enumerate")) (IsCons (IsE a K) IsNil)
end

inductive IsAsg (P : Str → Prop) (A : Expr → Prop) : Stmt → Prop
  | mk {n : Str} {p : Pos} {v : Expr} {p' : Pos} (h1 : P n) (h2 : A v) (h3 : notComp v = true) : IsAsg P A (.Assign [.Name n p] v p')
inductive IsUnp (P A : Expr → Prop) : Stmt → Prop
  | mk {es : List Expr} {k : Nat} {p : Pos} {v : Expr} {p' : Pos} (h1 : P (.Tuple es k p)) (h2 : A v) (h3 : notComp v = true) (h4 : notTup v = true) : IsUnp P A (.Assign [.Tuple es k p] v p')
inductive IsSwp (P : Nat → List Expr → Prop) (A : List Expr → Prop) : Stmt → Prop
  | mk {ts : List Expr} {k : Nat} {p : Pos} {vs : List Expr} {k' : Nat} {p' pos : Pos} (h1 : P (headLine ts) ts) (h2 : A vs) (h3 : ts.length = 3) (h4 : vs.length = ts.length) (h6 : vs.all (foldedForSure 8) = false) (h7 : vs.all (constantsAlone 8) = false) : IsSwp P A (.Assign [.Tuple ts k p] (.Tuple vs k' p') pos)
inductive IsSet (A B C : Expr → Prop) : Stmt → Prop
  | mk {o i : Expr} {p : Pos} {v : Expr} {p' : Pos} (h1 : A v) (h2 : B o) (h3 : C i) (h4 : notComp v = true) : IsSet A B C (.Assign [.Subscript o i p] v p')
inductive IsExp (A : Expr → Prop) : Stmt → Prop
  | mk {v : Expr} {p : Pos} (h1 : A v) (h2 : notComp v = true) : IsExp A (.Expr v p)
inductive IsIte (A : Expr → Prop) (B C : List Stmt → Prop) : Stmt → Prop
  | mk {t : Expr} {x y : List Stmt} {p : Pos} (h1 : A t) (h2 : B x) (h3 : C y) : IsIte A B C (.If t x y p)
inductive IsFor (P A : Expr → Prop) (B : List Stmt → Prop) : Stmt → Prop
  | mk {t i : Expr} {b : List Stmt} {p : Pos} (h1 : P t) (h2 : A i) (h3 : notSet i = true) (h4 : B b) : IsFor P A B (.For t i b [] p)
inductive IsRet (A : Expr → Prop) : Stmt → Prop
  | mk {v : Expr} {p : Pos} (h : A v) : IsRet A (.Return (some v) p)
inductive IsRaise (P : Str → Prop) (A : List Expr → Prop) : Stmt → Prop
  | mk {n : Str} {np : Pos} {vs : List Expr} {cp p : Pos} (h1 : P n) (h2 : A vs) (h3 : vs ≠ []) : IsRaise P A (.Raise (some (.Call (.Name n np) vs [] cp)) none p)
inductive IsTry (B : List Stmt → Prop) (H : List ExceptHandler → Prop) : Stmt → Prop
  | mk {b : List Stmt} {h : List ExceptHandler} {p : Pos} (h1 : B b) (h2 : H h) (h3 : h ≠ []) : IsTry B H (.Try b h [] [] p)
inductive IsSCons (A : Stmt → Prop) (B : List Stmt → Prop) : List Stmt → Prop
  | mk {x : Stmt} {t : List Stmt} (h1 : A x) (h2 : B t) : IsSCons A B (x :: t)
inductive IsHCons (P : Str → Prop) (N : Option Str → Prop) (B : List Stmt → Prop) (H : List ExceptHandler → Prop) : List ExceptHandler → Prop
  | mk {n : Str} {np : Pos} {x : Option Str} {b : List Stmt} {p : Pos} {t : List ExceptHandler} (h1 : P n) (h2 : B b) (hne : b ≠ []) (h3 : N x) (h4 : H t) : IsHCons P N B H (.ExceptHandler (some (.Name n np)) x b p :: t)
inductive HNm (K : Kx) : Option Nat → Option Str → Prop
  | no : HNm K none none
  | yes {i : Nat} {m : Str} (h1 : K.canWr i m = true) (h2 : K.names.lookup m = some .local) : HNm K (some i) (some m)

mutual
noncomputable def IsS : S → Kx → Stmt → Prop
  | .asg x e, K => IsAsg (fun n => K.canWr x n = true) (IsE e K)
  | .unp xs e, K => IsUnp (IsT K xs) (IsE e K)
  | .swp xs es, K => IsSwp (fun line ts => IsSw K line xs ts ∧ xs.Nodup) (IsEs es K)
  | .set o i v, K => IsSet (IsE v K) (IsE o K) (IsE i K)
  | .exp e, K => IsExp (IsE e K)
  | .ite c a b, K => IsIte (IsE c K) (IsSs a K) (IsSs b K)
  | .for_ ts it body, K => IsFor (fun t => IsT K ts t ∧ zipOk ts it = true) (IsI it K) (IsSs body K)
  | .ret e, K => IsRet (IsE e K)
  | .raise c es, K => IsRaise (fun n => K.to (.cls c) n ∧ c ≠ 0 ∧ es.length < 20) (IsEs es K)
  | .try_ body hs, K => IsTry (IsSs body K) (IsHs hs K)
noncomputable def IsSs : List S → Kx → List Stmt → Prop
  | [], _ => IsNil
  | s :: r, K => IsSCons (IsS s K) (IsSs r K)
noncomputable def IsHs : List (Nat × Option Nat × List S) → Kx → List ExceptHandler → Prop
  | [], _ => IsNil
  | (c, nm, body) :: r, K => IsHCons (K.to (.cls c)) (HNm K nm) (IsSs body K) (IsHs r K)
end

-- the text is made anew from itself: what the shapes leave open is taken from it
noncomputable def noE : Expr := .Name ("" : Str) ⟨0, 0, 0, 0⟩
noncomputable def noS : Stmt := .Pass ⟨0, 0, 0, 0⟩
noncomputable def noH : ExceptHandler := .ExceptHandler none none [] ⟨0, 0, 0, 0⟩
noncomputable def kids (x : Expr) : List Expr :=
  match x with
  | .BinOp l _ r _ => [l, r]
  | .UnaryOp _ y _ => [y]
  | .BoolOp _ vs _ => vs
  | .Compare l _ rs _ => l :: rs
  | .Tuple vs _ _ => vs
  | .List vs _ => vs
  | .Subscript v y _ => [v, y]
  | .Call f vs _ _ => f :: vs
  | .Attribute y _ _ => [y]
  | .ListComp y gs _ _ => (match gs with | [g] => y :: g.target :: g.iter :: g.ifs | _ => [])
  | _ => []
noncomputable def kE (x : Expr) (i : Nat) : Expr := (kids x)[i]?.getD noE
noncomputable def nmE (x : Expr) : Str := match x with | .Name n _ => n | _ => ("" : Str)
noncomputable def numE (x : Expr) : Nat := match x with | .Constant _ k _ => k | .Tuple _ k _ => k | _ => 0
noncomputable def cstE (x : Expr) : Const := match x with | .Constant c _ _ => c | _ => .none
noncomputable def sliE (x : Expr) : Option Expr × Option Expr := match x with | .Slice l u _ _ => (l, u) | _ => (none, none)
noncomputable def scE (x : Expr) : Scope := match x with | .ListComp _ _ sc _ => sc | _ => default
noncomputable def mkNm (x : Expr) : Expr := .Name (nmE x) x.pos

noncomputable def emNs (x : Expr) : List Nat → Nat → List Expr
  | [], _ => []
  | _ :: r, k => mkNm (kE x k) :: emNs x r (k + 1)
noncomputable def emT (ts : List Nat) (x : Expr) : Expr :=
  match ts with
  | [_] => mkNm x
  | ts => .Tuple (emNs x ts 0) (numE x) x.pos

mutual
noncomputable def emE : E → Expr → Expr
  | .cst _, x => .Constant (cstE x) (numE x) x.pos
  | .var _, x => mkNm x
  | .ty _, x => mkNm x
  | .cls _, x => mkNm x
  | .glo _, x => mkNm x
  | .bin _ op a b, x => .BinOp (emE a (kE x 0)) op (emE b (kE x 1)) x.pos
  | .neg a, x => .UnaryOp .USub (emE a (kE x 0)) x.pos
  | .not a, x => .UnaryOp .Not (emE a (kE x 0)) x.pos
  | .bop op es, x => .BoolOp op (emEs es x 0) x.pos
  | .cmp op a b, x => .Compare (emE a (kE x 0)) [op] [emE b (kE x 1)] x.pos
  | .tup es, x => .Tuple (emEs es x 0) (numE x) x.pos
  | .lst _ es, x => .List (emEs es x 0) x.pos
  | .sub a i, x => .Subscript (emE a (kE x 0)) (emE i (kE x 1)) x.pos
  | .slc _ a lo hi, x => .Subscript (emE a (kE x 0)) (.Slice (emO lo (sliE (kE x 1)).1) (emO hi (sliE (kE x 1)).2) none (kE x 1).pos) x.pos
  | .bcall _ _ es, x => .Call (mkNm (kE x 0)) (emEs es x 1) [] x.pos
  | .fcall _ _ es, x => .Call (mkNm (kE x 0)) (emEs es x 1) [] x.pos
  | .meth m _ o es, x => .Call (.Attribute (emE o (kE (kE x 0) 0)) (Str.ofString (methName m)) (kE x 0).pos) (emEs es x 1) [] x.pos
  | .comp _ elt ts it ifs, x => .ListComp (emE elt (kE x 0)) [⟨emT ts (kE x 1), emI it (kE x 2), emEs ifs x 3, 0⟩] (scE x) x.pos
noncomputable def emEs : List E → Expr → Nat → List Expr
  | [], _, _ => []
  | e :: r, x, k => emE e (kE x k) :: emEs r x (k + 1)
noncomputable def emO : Option E → Option Expr → Option Expr
  | none, _ => none
  | some e, o => some (emE e (o.getD noE))
noncomputable def emI : It → Expr → Expr
  | .of e, x => emE e x
  | .range es, x => .Call (mkNm (kE x 0)) (emEs es x 1) [] x.pos
  | .zip a b, x => .Call (mkNm (kE x 0)) [emE a (kE x 1), emE b (kE x 2)] [] x.pos
  | .enum a, x => .Call (mkNm (kE x 0)) [emE a (kE x 1)] [] x.pos
end

noncomputable def okNs (K : Kx) (x : Expr) : List Nat → Nat → Bool
  | [], _ => true
  | i :: r, k => K.canWr i (nmE (kE x k)) && okNs K x r (k + 1)
noncomputable def okT (K : Kx) (ts : List Nat) (x : Expr) : Bool :=
  match ts with
  | [i] => K.canWr i (nmE x)
  | ts => okNs K x ts 0
noncomputable def okSw (K : Kx) (x : Expr) (line : Nat) : List Nat → Nat → Bool
  | [], _ => true
  | i :: r, k => K.canWr i (nmE (kE x k)) && K.isLoc (nmE (kE x k)) && decide ((kE x k).pos.line = line) && okSw K x line r (k + 1)

mutual
noncomputable def okE : E → Kx → Expr → Bool
  | .cst d, _, x => constIs (cstE x) d
  | .var i, K, x => K.isVar (nmE x) && K.isAt i (nmE x)
  | .ty t, K, x => glTo K (.ty t) (nmE x)
  | .cls c, K, x => glTo K (.cls c) (nmE x)
  | .glo d, K, x => glTo K (.con d) (nmE x)
  | .bin _ _ a b, K, x => okE a K (kE x 0) && okE b K (kE x 1)
  | .neg a, K, x => okE a K (kE x 0)
  | .not a, K, x => okE a K (kE x 0)
  | .bop _ es, K, x => okEs es K x 0
  | .cmp _ a b, K, x => okE a K (kE x 0) && okE b K (kE x 1)
  | .tup es, K, x => okEs es K x 0
  | .lst _ es, K, x => okEs es K x 0
  | .sub a i, K, x => okE a K (kE x 0) && okE i K (kE x 1)
  | .slc _ a lo hi, K, x => okE a K (kE x 0) && (okO lo K (sliE (kE x 1)).1 && okO hi K (sliE (kE x 1)).2)
  | .bcall b _ es, K, x => glTo K (biGV b) (nmE (kE x 0)) && (okEs es K x 1 && !es.isEmpty)
  | .fcall _ f es, K, x => glTo K (.fn f) (nmE (kE x 0)) && (okEs es K x 1 && !es.isEmpty)
  | .meth _ _ o es, K, x => okE o K (kE (kE x 0) 0) && (okEs es K x 1 && ((decide ((kE x 0).pos.endLine = x.pos.line) && (decide (es.length < 20) && !isSuperCall (emE o (kE (kE x 0) 0))))))
  | .comp _ elt ts it ifs, K, x => okI it K (kE x 2) && (scopeOk K ts (scE x) && (zipOk ts it && (okT (K.sub ts (scE x)) ts (kE x 1) && (okE elt (K.sub ts (scE x)) (kE x 0) && okEs ifs (K.sub ts (scE x)) x 3))))
noncomputable def okEs : List E → Kx → Expr → Nat → Bool
  | [], _, _, _ => true
  | e :: r, K, x, k => okE e K (kE x k) && okEs r K x (k + 1)
noncomputable def okO : Option E → Kx → Option Expr → Bool
  | none, _, _ => true
  | some e, K, o => okE e K (o.getD noE)
noncomputable def okI : It → Kx → Expr → Bool
  | .of e, K, x => okE e K x
  | .range es, K, x => glTo K (.ty "range") (nmE (kE x 0)) && (okEs es K x 1 && !es.isEmpty)
  | .zip a b, K, x => glTo K (.ty "zip") (nmE (kE x 0)) && (okE a K (kE x 1) && okE b K (kE x 2))
  | .enum a, K, x => glTo K (.ty "enumerate") (nmE (kE x 0)) && okE a K (kE x 1)
end

noncomputable def stE (st : Stmt) : List Expr :=
  match st with
  | .Assign ts v _ => v :: ts
  | .Expr v _ => [v]
  | .If t _ _ _ => [t]
  | .For t i _ _ _ => [t, i]
  | .Return v _ => (match v with | some v => [v] | none => [])
  | .Raise v _ _ => (match v with | some v => [v] | none => [])
  | _ => []
noncomputable def stB (st : Stmt) : List Stmt × List Stmt :=
  match st with
  | .If _ x y _ => (x, y)
  | .For _ _ b _ _ => (b, [])
  | .Try b _ _ _ _ => (b, [])
  | _ => ([], [])
noncomputable def stH (st : Stmt) : List ExceptHandler := match st with | .Try _ h _ _ _ => h | _ => []
noncomputable def sE (st : Stmt) (i : Nat) : Expr := (stE st)[i]?.getD noE
noncomputable def hT (h : ExceptHandler) : Expr := match h with | .ExceptHandler t _ _ _ => t.getD noE
noncomputable def hN (h : ExceptHandler) : Str := match h with | .ExceptHandler _ n _ _ => n.getD ("" : Str)
noncomputable def hB (h : ExceptHandler) : List Stmt := match h with | .ExceptHandler _ _ b _ => b
noncomputable def hP (h : ExceptHandler) : Pos := match h with | .ExceptHandler _ _ _ p => p

mutual
noncomputable def emS : S → Stmt → Stmt
  | .asg _ e, st => .Assign [mkNm (sE st 1)] (emE e (sE st 0)) st.pos
  | .unp xs e, st => .Assign [.Tuple (emNs (sE st 1) xs 0) (numE (sE st 1)) (sE st 1).pos] (emE e (sE st 0)) st.pos
  | .swp xs es, st => .Assign [.Tuple (emNs (sE st 1) xs 0) (numE (sE st 1)) (sE st 1).pos] (.Tuple (emEs es (sE st 0) 0) (numE (sE st 0)) (sE st 0).pos) st.pos
  | .set o i v, st => .Assign [.Subscript (emE o (kE (sE st 1) 0)) (emE i (kE (sE st 1) 1)) (sE st 1).pos] (emE v (sE st 0)) st.pos
  | .exp e, st => .Expr (emE e (sE st 0)) st.pos
  | .ite c a b, st => .If (emE c (sE st 0)) (emSs a (stB st).1) (emSs b (stB st).2) st.pos
  | .for_ ts it body, st => .For (emT ts (sE st 0)) (emI it (sE st 1)) (emSs body (stB st).1) [] st.pos
  | .ret e, st => .Return (some (emE e (sE st 0))) st.pos
  | .raise _ es, st => .Raise (some (.Call (mkNm (kE (sE st 0) 0)) (emEs es (sE st 0) 1) [] (sE st 0).pos)) none st.pos
  | .try_ body hs, st => .Try (emSs body (stB st).1) (emHs hs (stH st)) [] [] st.pos
noncomputable def emSs : List S → List Stmt → List Stmt
  | [], _ => []
  | s :: r, l => emS s (l.headD noS) :: emSs r l.tail
noncomputable def emHs : List (Nat × Option Nat × List S) → List ExceptHandler → List ExceptHandler
  | [], _ => []
  | (_, nm, body) :: r, l => .ExceptHandler (some (mkNm (hT (l.headD noH)))) (nm.map fun _ => hN (l.headD noH)) (emSs body (hB (l.headD noH))) (hP (l.headD noH)) :: emHs r l.tail
end

noncomputable def okN (K : Kx) (nm : Option Nat) (h : ExceptHandler) : Bool := match nm with | none => true | some i => K.canWr i (hN h) && K.isLoc (hN h)

mutual
noncomputable def okS : S → Kx → Stmt → Bool
  | .asg x e, K, st => K.canWr x (nmE (sE st 1)) && (okE e K (sE st 0) && notComp (emE e (sE st 0)))
  | .unp xs e, K, st => okNs K (sE st 1) xs 0 && (decide (xs.length ≠ 1) && (okE e K (sE st 0) && (notComp (emE e (sE st 0)) && notTup (emE e (sE st 0)))))
  | .swp xs es, K, st => okSw K (sE st 1) (headLine (emNs (sE st 1) xs 0)) xs 0 && (decide xs.Nodup && (okEs es K (sE st 0) 0 && (decide (xs.length = 3) && (decide (es.length = 3) &&
      (!(emEs es (sE st 0) 0).all (foldedForSure 8) && !(emEs es (sE st 0) 0).all (constantsAlone 8))))))
  | .set o i v, K, st => okE v K (sE st 0) && (okE o K (kE (sE st 1) 0) && (okE i K (kE (sE st 1) 1) && notComp (emE v (sE st 0))))
  | .exp e, K, st => okE e K (sE st 0) && notComp (emE e (sE st 0))
  | .ite c a b, K, st => okE c K (sE st 0) && (okSs a K (stB st).1 && okSs b K (stB st).2)
  | .for_ ts it body, K, st => okT K ts (sE st 0) && (zipOk ts it && (okI it K (sE st 1) && okSs body K (stB st).1))
  | .ret e, K, st => okE e K (sE st 0)
  | .raise c es, K, st => glTo K (.cls c) (nmE (kE (sE st 0) 0)) && (decide (c ≠ 0) && (decide (es.length < 20) && (okEs es K (sE st 0) 1 && !es.isEmpty)))
  | .try_ body hs, K, st => okSs body K (stB st).1 && (okHs hs K (stH st) && !hs.isEmpty)
noncomputable def okSs : List S → Kx → List Stmt → Bool
  | [], _, _ => true
  | s :: r, K, l => okS s K (l.headD noS) && okSs r K l.tail
noncomputable def okHs : List (Nat × Option Nat × List S) → Kx → List ExceptHandler → Bool
  | [], _, _ => true
  | (c, nm, body) :: r, K, l => glTo K (.cls c) (nmE (hT (l.headD noH))) && (okN K nm (l.headD noH) && (okSs body K (hB (l.headD noH)) && (!body.isEmpty && okHs r K l.tail)))
end

theorem and1 {a b : Bool} (h : (a && b) = true) : a = true := (Bool.and_eq_true_iff.mp h).1
theorem and2 {a b : Bool} (h : (a && b) = true) : b = true := (Bool.and_eq_true_iff.mp h).2
theorem not1 {a : Bool} (h : (!a) = true) : a = false := by cases a; rfl; cases h

theorem dataIs_eq {x y : PyData} (h : dataIs x y = true) : x = y := by
  cases x with
  | int a => cases y with
    | int b => rw [beq_iff_eq.mp (show (a == b) = true from h)]
    | _ => exact (Bool.false_ne_true h).elim
  | str a => cases y with
    | str b => rw [beq_iff_eq.mp (show (a == b) = true from h)]
    | _ => exact (Bool.false_ne_true h).elim
  | _ => exact (Bool.false_ne_true h).elim
theorem gvIs_eq {v w : GV} (h : gvIs v w = true) : v = w := by
  cases v with
  | fn f => cases w with
    | fn f' => rw [beq_iff_eq.mp (show (f == f') = true from h)]
    | _ => exact (Bool.false_ne_true h).elim
  | cls f => cases w with
    | cls f' => rw [beq_iff_eq.mp (show (f == f') = true from h)]
    | _ => exact (Bool.false_ne_true h).elim
  | con f => cases w with
    | con f' => rw [dataIs_eq (show dataIs f f' = true from h)]
    | _ => exact (Bool.false_ne_true h).elim
  | bi f => cases w with
    | bi f' => rw [of_decide_eq_true (show decide (f = f') = true from h)]
    | _ => exact (Bool.false_ne_true h).elim
  | ty f => cases w with
    | ty f' => rw [beq_iff_eq.mp (show (f == f') = true from h)]
    | _ => exact (Bool.false_ne_true h).elim
theorem glTo_ok {K : Kx} {v : GV} {n : Str} (h : glTo K v n = true) : K.to v n := by
  refine ⟨and1 h, ?_⟩
  have h2 := and2 h
  cases e : K.gl n with
  | none => rw [e] at h2; exact (Bool.false_ne_true h2).elim
  | some w => rw [e] at h2; rw [gvIs_eq h2]
theorem isAt_ok {K : Kx} {i : Nat} {n : Str} (h : K.isAt i n = true) : K.vars[i]? = some n := by
  unfold Kx.isAt at h
  cases e : K.vars[i]? with
  | none => rw [e] at h; exact (Bool.false_ne_true h).elim
  | some m => rw [e] at h; rw [beq_iff_eq.mp h]
theorem isLoc_ok {K : Kx} {n : Str} (h : K.isLoc n = true) : K.names.lookup n = some .local := by
  unfold Kx.isLoc at h
  cases e : K.names.lookup n with
  | none => rw [e] at h; exact (Bool.false_ne_true h).elim
  | some m => rw [e] at h; cases m <;> first | rfl | exact (Bool.false_ne_true h).elim

theorem em_star (e : E) (x : Expr) : notStar (emE e x) = true := by cases e <;> rfl
theorem em_set (e : E) (x : Expr) : notSet (emE e x) = true := by cases e <;> rfl
theorem emI_set (it : It) (x : Expr) : notSet (emI it x) = true := by
  cases it with
  | of e => exact em_set e x
  | _ => rfl
theorem em_ne {es : List E} (h : (!es.isEmpty) = true) (x : Expr) (k : Nat) : emEs es x k ≠ [] := by
  cases es with
  | nil => cases h
  | cons e r => exact List.cons_ne_nil _ _
theorem em_len : ∀ (es : List E) (x : Expr) (k : Nat), (emEs es x k).length = es.length
  | [], _, _ => rfl
  | _ :: r, x, k => congrArg (· + 1) (em_len r x (k + 1))

theorem isNs_of {K : Kx} {x : Expr} : ∀ {ts : List Nat} {k : Nat}, okNs K x ts k = true → IsNs K ts (emNs x ts k)
  | [], _, _ => .nil
  | _ :: _, _, h => .cons (and1 h) (isNs_of (and2 h))
theorem emNs_len (x : Expr) : ∀ (ts : List Nat) (k : Nat), (emNs x ts k).length = ts.length
  | [], _ => rfl
  | _ :: r, k => congrArg (· + 1) (emNs_len x r (k + 1))
theorem isSw_of {K : Kx} {x : Expr} {line : Nat} : ∀ {ts : List Nat} {k : Nat}, okSw K x line ts k = true → IsSw K line ts (emNs x ts k)
  | [], _, _ => .nil
  | _ :: _, _, h => .cons (and1 (and1 (and1 h))) (isLoc_ok (and2 (and1 (and1 h)))) (of_decide_eq_true (and2 (and1 h))) (isSw_of (and2 h))
theorem isT_of {K : Kx} {ts : List Nat} {x : Expr} (h : okT K ts x = true) : IsT K ts (emT ts x) := by
  cases ts with
  | nil => exact .more (isNs_of h) (by decide)
  | cons i r => cases r with
    | nil => exact .one h
    | cons j r => exact .more (isNs_of (ts := i :: j :: r) h) (by simp)

mutual
theorem isE_of : ∀ (e : E) {K : Kx} {x : Expr}, okE e K x = true → IsE e K (emE e x)
  | .cst _, _, _, h => .mk h
  | .var _, _, _, h => .mk ⟨and1 h, isAt_ok (and2 h)⟩
  | .ty _, _, _, h => .mk (glTo_ok h)
  | .cls _, _, _, h => .mk (glTo_ok h)
  | .glo _, _, _, h => .mk (glTo_ok h)
  | .bin _ _ a b, _, _, h => .mk (isE_of a (and1 h)) (isE_of b (and2 h))
  | .neg a, _, _, h => .mk (isE_of a h)
  | .not a, _, _, h => .mk (isE_of a h)
  | .bop _ es, _, _, h => .mk (isEs_of es h)
  | .cmp _ a b, _, _, h => .mk (isE_of a (and1 h)) (isE_of b (and2 h)) (em_set b _)
  | .tup es, _, _, h => .mk (isEs_of es h)
  | .lst _ es, _, _, h => .mk (isEs_of es h)
  | .sub a i, _, _, h => .mk (isE_of a (and1 h)) (isE_of i (and2 h))
  | .slc _ a lo hi, _, _, h => .mk (isE_of a (and1 h)) (isO_of lo (and1 (and2 h))) (isO_of hi (and2 (and2 h)))
  | .bcall _ _ es, _, _, h => .mk (glTo_ok (and1 h)) (isEs_of es (and1 (and2 h))) (em_ne (and2 (and2 h)) _ _)
  | .fcall _ _ es, _, _, h => .mk (glTo_ok (and1 h)) (isEs_of es (and1 (and2 h))) (em_ne (and2 (and2 h)) _ _)
  | .meth _ _ o es, _, _, h => .mk (isE_of o (and1 h)) (isEs_of es (and1 (and2 h))) (of_decide_eq_true (and1 (and2 (and2 h)))) (by rw [em_len]; exact of_decide_eq_true (and1 (and2 (and2 (and2 h))))) (not1 (and2 (and2 (and2 (and2 h)))))
  | .comp _ elt ts it ifs, _, _, h => .mk (isI_of it (and1 h)) (emI_set it _) ⟨and1 (and2 h), and1 (and2 (and2 h))⟩ (isT_of (and1 (and2 (and2 (and2 h))))) (isE_of elt (and1 (and2 (and2 (and2 (and2 h)))))) (isEs_of ifs (and2 (and2 (and2 (and2 (and2 h))))))
theorem isEs_of : ∀ (es : List E) {K : Kx} {x : Expr} {k : Nat}, okEs es K x k = true → IsEs es K (emEs es x k)
  | [], _, _, _, _ => .mk
  | e :: r, _, _, _, h => .mk (isE_of e (and1 h)) (em_star e _) (isEs_of r (and2 h))
theorem isO_of : ∀ (o : Option E) {K : Kx} {x : Option Expr}, okO o K x = true → IsO o K (emO o x)
  | none, _, _, _ => .mk
  | some e, _, _, h => .mk (isE_of e h)
theorem isI_of : ∀ (it : It) {K : Kx} {x : Expr}, okI it K x = true → IsI it K (emI it x)
  | .of e, _, _, h => isE_of e h
  | .range es, _, _, h => .mk (glTo_ok (and1 h)) (isEs_of es (and1 (and2 h))) (em_ne (and2 (and2 h)) _ _)
  | .zip a b, _, _, h => .mk (glTo_ok (and1 h)) (isE_of a (and1 (and2 h))) (isE_of b (and2 (and2 h))) (em_star a _) (em_star b _)
  | .enum a, _, _, h => .mk (glTo_ok (and1 h)) (.mk (isE_of a (and2 h)) (em_star a _) .mk) (List.cons_ne_nil _ _)
end

theorem isN_of {K : Kx} {nm : Option Nat} {h : ExceptHandler} (q : okN K nm h = true) : HNm K nm (nm.map fun _ => hN h) := by
  cases nm with
  | none => exact .no
  | some i => exact .yes (and1 q) (isLoc_ok (and2 q))
theorem emSs_ne {l : List S} (h : (!l.isEmpty) = true) (x : List Stmt) : emSs l x ≠ [] := by
  cases l with
  | nil => cases h
  | cons e r => exact List.cons_ne_nil _ _
theorem emHs_ne {l : List (Nat × Option Nat × List S)} (h : (!l.isEmpty) = true) (x : List ExceptHandler) : emHs l x ≠ [] := by
  cases l with
  | nil => cases h
  | cons e r => exact List.cons_ne_nil _ _
mutual
theorem isS_of : ∀ (s : S) {K : Kx} {x : Stmt}, okS s K x = true → IsS s K (emS s x)
  | .asg _ e, _, _, h => .mk (and1 h) (isE_of e (and1 (and2 h))) (and2 (and2 h))
  | .unp xs e, _, _, h => .mk (.more (isNs_of (and1 h)) (of_decide_eq_true (and1 (and2 h)))) (isE_of e (and1 (and2 (and2 h)))) (and1 (and2 (and2 (and2 h)))) (and2 (and2 (and2 (and2 h))))
  | .swp xs es, _, _, h => .mk ⟨isSw_of (and1 h), of_decide_eq_true (and1 (and2 h))⟩ (isEs_of es (and1 (and2 (and2 h)))) (by rw [emNs_len]; exact of_decide_eq_true (and1 (and2 (and2 (and2 h))))) (by rw [em_len, emNs_len, of_decide_eq_true (and1 (and2 (and2 (and2 h)))), of_decide_eq_true (and1 (and2 (and2 (and2 (and2 h)))))]) (not1 (and1 (and2 (and2 (and2 (and2 (and2 h))))))) (not1 (and2 (and2 (and2 (and2 (and2 (and2 h)))))))
  | .set o i v, _, _, h => .mk (isE_of v (and1 h)) (isE_of o (and1 (and2 h))) (isE_of i (and1 (and2 (and2 h)))) (and2 (and2 (and2 h)))
  | .exp e, _, _, h => .mk (isE_of e (and1 h)) (and2 h)
  | .ite c a b, _, _, h => .mk (isE_of c (and1 h)) (isSs_of a (and1 (and2 h))) (isSs_of b (and2 (and2 h)))
  | .for_ ts it body, _, _, h => .mk ⟨isT_of (and1 h), and1 (and2 h)⟩ (isI_of it (and1 (and2 (and2 h)))) (emI_set it _) (isSs_of body (and2 (and2 (and2 h))))
  | .ret e, _, _, h => .mk (isE_of e h)
  | .raise c es, _, _, h => .mk ⟨glTo_ok (and1 h), of_decide_eq_true (and1 (and2 h)), of_decide_eq_true (and1 (and2 (and2 h)))⟩ (isEs_of es (and1 (and2 (and2 (and2 h))))) (em_ne (and2 (and2 (and2 (and2 h)))) _ _)
  | .try_ body hs, _, _, h => .mk (isSs_of body (and1 h)) (isHs_of hs (and1 (and2 h))) (emHs_ne (and2 (and2 h)) _)
theorem isSs_of : ∀ (l : List S) {K : Kx} {x : List Stmt}, okSs l K x = true → IsSs l K (emSs l x)
  | [], _, _, _ => .mk
  | s :: r, _, _, h => .mk (isS_of s (and1 h)) (isSs_of r (and2 h))
theorem isHs_of : ∀ (l : List (Nat × Option Nat × List S)) {K : Kx} {x : List ExceptHandler}, okHs l K x = true → IsHs l K (emHs l x)
  | [], _, _, _ => .mk
  | (_, nm, body) :: r, _, _, h => .mk (glTo_ok (and1 h)) (isSs_of body (and1 (and2 (and2 h)))) (emSs_ne (and1 (and2 (and2 (and2 h)))) _) (isN_of (and1 (and2 h))) (isHs_of r (and2 (and2 (and2 (and2 h)))))
end
end Mine

namespace Mine
open PySem PySem.Calls

noncomputable def RaiseOk (T : Top) : Prop := ∀ (c : Nat) (v : Value), c ≠ 0 → T.cls c = some v → ∀ (A : Around) (env : Env) (s : Shared) (nm : Str) (np cp pos : Pos) (args : List Expr) (Q : Flow → Shared → Prop) (E : Value → Shared → Prop), A.handled = none →
  (backTo cp (starEach args env)).any (·.1) = false →
  wpAny (model T.prog T.w) A (eval (.Name nm np) env) (fun f s₁ => f = v ∧ wpAny (model T.prog T.w) A (evalArgs v true (backTo cp (starEach args env)) []) (fun a s₂ => a.kw = [] ∧ a.pos.length ≤ sizeLine ∧
    (∀ b o, T.h0.get? b = some o → s₂.heap.get? b = some o) ∧ ∀ h' e, Heap.MadeExcOf s₂.heap h' e v a.pos → E (.ref e) { s₂ with heap := h' }) E s₁) E s →
  wpAny (model T.prog T.w) A (exec (.Raise (some (.Call (.Name nm np) args [] cp)) none pos) env) Q E s
noncomputable def CatchOk (T : Top) (isExc : Nat → Nat → Option Bool) : Prop :=
  ∀ (c k : Nat) (b : Bool) (w : Value), isExc c k = some b → T.cls k = some w → ∀ (A : Around) (Q : Bool → Shared → Prop) (E : Value → Shared → Prop) (s : Shared) (e : Addr) (o : Obj),
    (∀ b o, T.h0.get? b = some o → s.heap.get? b = some o) → s.heap.get? e = some o → (T.cls c = some o.cls ∧ o.dict = none ∧ ∃ ws, o.data = .fields ws) → Q b s → wpAny (model T.prog T.w) A (excMatches (.ref e) w) Q E s

structure Ready (T : Top) (gl : Str → Option GV) (isExc : Nat → Nat → Option Bool) : Prop where
  ok : TopOk T
  isi : IsiOk T isExc
  raise : RaiseOk T
  catch_ : CatchOk T isExc
  fnob : ∀ f a, T.fn f = some a → ∃ o fd, T.h0.get? a = some o ∧ o.data = .func fd
  ns : ∃ mg mb, T.h0.Ns mainGlobals mg ∧ T.h0.Ns builtinsNs mb ∧ ∀ n v, gl n = some v → (match v with
     | .fn f => ∃ a, T.fn f = some a ∧ mg n = some (.ref a)
     | .cls c => ∃ x, T.cls c = some x ∧ (mg n = some x ∨ (mg n = none ∧ mb n = some x))
     | .con d => ∃ x, mg n = some x ∧ RepD (fun a => T.h0.get? a) d x
     | .bi b => mg n = none ∧ mb n = some (biVal b)
     | .ty t => mg n = none ∧ mb n = some (.type t))

noncomputable def CallOk (T : Top) (cf : CF) (n : Nat) : Prop :=
  ∀ {fe : List Env} {hd : Bool} {A : Around} {g : G} {σ : Store} {s : Shared} {m : Mode} {f : Nat} {a : Addr} {vs : List V} {xs : List Value}, T.fn f = some a → St T g σ s.heap → FrOk g s.heap fe → fe ≠ [] →
    AOk fe hd n A → HOk g A → RepVs T g vs xs → Sim T (frsOf fe) none A g s (call (.ref a) xs) (RepV T) (cf hd m f vs σ)

structure Cx (T : Top) (K : Kx) (C : Cfg) (fe : List Env) (env : Env) (A : Around) (n : Nat) : Prop where
  rd : Ready T K.gl C.isExc
  names : env.scope.names = K.names
  ha : AOk fe C.hd n A
  cf : CallOk T C.cf n

noncomputable def SE (e : E) : Prop := ∀ {T : Top} {K : Kx} {C : Cfg} {fe : List Env} {own : List Addr} {env : Env} {A : Around} {n : Nat} {ρ : Vars} {g : G} {σ : Store} {s : Shared} (ex : Expr),
  IsE e K ex → Cx T K C fe env A n → Inv T fe own K.wr env K.vars ρ g σ s.heap → HOk g A → Sim T (frsOf fe) env.frame A g s (eval ex env) (RepV T) (evalE C e ρ σ)
noncomputable def toB (v : V) (σ : Store) : Res Bool := match truth σ v with | some b => .ok b σ | none => .bad
noncomputable def ST (e : E) : Prop := ∀ {T : Top} {K : Kx} {C : Cfg} {fe : List Env} {own : List Addr} {env : Env} {A : Around} {n : Nat} {ρ : Vars} {g : G} {σ : Store} {s : Shared} (ex : Expr),
  IsE e K ex → Cx T K C fe env A n → Inv T fe own K.wr env K.vars ρ g σ s.heap → HOk g A → Sim T (frsOf fe) env.frame A g s (isTrue ex env (eval ex env)) IsB ((evalE C e ρ σ).bind toB)
noncomputable def SEs (es : List E) : Prop := ∀ {T : Top} {K : Kx} {C : Cfg} {fe : List Env} {own : List Addr} {env : Env} {A : Around} {n : Nat} {ρ : Vars} {g : G} {σ : Store} {s : Shared} (xs : List Expr) (pos : Pos),
  IsEs es K xs → Cx T K C fe env A n → Inv T fe own K.wr env K.vars ρ g σ s.heap → HOk g A → Sim T (frsOf fe) env.frame A g s (spliced (backTo pos (starEach xs env))) (RepVs T) (evalEs C es ρ σ)

theorem Fly.lift {T : Top} {g : G} {h h₀ : Heap} {L : Option Addr} {c : Nat} {x : Value} (f : Fly T g h h₀ none c x) : Fly T g h h₀ L c x := by
  obtain ⟨e, oe, vs, q1, q2, q3, q4, q5, q6, q7, q8, q9⟩ := f
  refine ⟨e, oe, vs, q1, q2, q3, q4, q5, q6, q7, q8, q9.imp id ?_⟩
  rintro ⟨tb, ot, ts, k1, k2, k3, k4, k5, k6, k7, k8⟩
  refine ⟨tb, ot, ts, k1, k2, k3, k4, k5, k6, k7, .inl ?_⟩
  rcases k8 with k8 | ⟨l, hl, _⟩
  · exact k8
  · cases hl

section
variable {T : Top} {K : Kx} {C : Cfg} {fe : List Env} {own : List Addr} {env : Env} {A : Around} {n : Nat} {ρ : Vars} {g g' : G} {σ σ' : Store} {s s' : Shared} {fs : List Addr} {L : Option Addr}

theorem Sim.liftL {α β : Type} {m : Sem α} {rep : G → β → α → Prop} {r : Res β} (h : Sim T fs none A g s m rep r) : Sim T fs L A g s m rep r :=
  fun hr => wpAny_mono (h hr) (fun _ _ x => x) fun _ _ ⟨c, σ', g', e, st, f⟩ => ⟨c, σ', g', e, st, f.lift⟩

theorem Inv.ne (I : Inv T fe own K.wr env K.vars ρ g σ s.heap) : fe ≠ [] := by obtain ⟨e, r, h, _⟩ := I.top; rw [h]; simp

theorem kindOf_names (h : env.scope.names = K.names) (n : Str) : env.kindOf n = K.names.lookup n := by unfold Env.kindOf; rw [h]

theorem isVar_kind (h : env.scope.names = K.names) {n : Str} (hv : K.isVar n = true) :
    (env.kindOf n = some .local ∨ env.kindOf n = some .cell ∨ env.kindOf n = some .free) ∧ (n == ("__debug__" : Str)) = false ∧ (n == ("__classdict__" : Str)) = false := by
  rw [kindOf_names h]
  unfold Kx.isVar at hv
  simp only [Bool.and_eq_true, Bool.not_eq_true'] at hv
  obtain ⟨⟨h1, h2⟩, h3⟩ := hv
  refine ⟨?_, h2, h3⟩
  split at h1
  · rename_i e; exact .inl e
  · rename_i e; exact .inr (.inl e)
  · rename_i e; exact .inr (.inr e)
  · cases h1

theorem isGl_kind (h : env.scope.names = K.names) {n : Str} (hv : K.isGl n = true) : env.kindOf n = some .globalImplicit ∧ (n == ("__debug__" : Str)) = false := by
  rw [kindOf_names h]
  unfold Kx.isGl at hv
  simp only [Bool.and_eq_true, Bool.not_eq_true'] at hv
  obtain ⟨h1, h2⟩ := hv
  refine ⟨?_, h2⟩
  split at h1
  · rename_i e; exact e
  · cases h1

theorem load_gl {p : Pos} {nm : Str} {v : GV} {Q : Value → Shared → Prop} {E : Value → Shared → Prop} (cx : Cx T K C fe env A n) (I : Inv T fe own K.wr env K.vars ρ g σ s.heap) (hn : K.isGl nm = true) (hv : K.gl nm = some v)
    (h : ∀ x, (match v with | .fn f => ∃ a, T.fn f = some a ∧ x = .ref a | .cls c => T.cls c = some x | .con d => RepD g.fz d x | .bi b => x = biVal b | .ty t => x = .type t) → Q x s) :
    wpAny (model T.prog T.w) A (eval (.Name nm p) env) Q E s := by
  obtain ⟨mg, mb, hg, hb, ht⟩ := cx.rd.ns
  obtain ⟨hk, hd⟩ := isGl_kind cx.names hn
  have kp := I.st.keepsBase
  have hg' : s.heap.Ns env.globals mg := by rw [I.blk.glob]; exact hg.keeps kp
  have hb' : s.heap.Ns env.builtins mb := by rw [I.blk.blt]; exact hb.keeps kp
  refine Name_function_global I.blk.kind hk ?_ hd
  have t := ht nm v hv
  cases v with
  | fn f => obtain ⟨a, h1, h2⟩ := t; exact loadGlobal_global hg' h2 (h _ ⟨a, h1, rfl⟩)
  | cls c =>
    obtain ⟨x, h1, h2⟩ := t
    rcases h2 with h2 | ⟨h2, h3⟩
    · exact loadGlobal_global hg' h2 (h _ h1)
    · exact loadGlobal_builtin hg' h2 hb' h3 (h _ h1)
  | con d => obtain ⟨x, h1, h2⟩ := t; exact loadGlobal_global hg' h1 (h _ (RepD.mono (fun a o e => I.st.base a o e) _ _ h2))
  | bi b => exact loadGlobal_builtin hg' t.1 hb' t.2 (h _ rfl)
  | ty q => exact loadGlobal_builtin hg' t.1 hb' t.2 (h _ rfl)

theorem se_cst (x : PyData) : SE (.cst x) := by
  intro T K C fe own env A n ρ g σ s ex hc cx I hH
  cases hc with
  | @mk c k p hc =>
    (first | rw [eA_1] | rw [eA_2] | rw [eA_3] | rw [eA_4] | rw [eA_5] | rw [eA_6] | rw [eA_7] | rw [eA_8] | rw [eA_9] | rw [eA_10] | rw [eA_11] | rw [eA_12] | rw [eA_13] | rw [eA_14] | rw [eA_15] | rw [eA_16] | rw [eA_17] | rw [eA_18] | rw [eA_19] | rw [eA_20] | rw [eA_21])
    have hc : constIs c x = true := hc
    cases c with
    | none => cases x with
      | none => exact Sim.ofTok I.st fun Q h => wpAny_Constant_none (h _ s.toks rfl)
      | _ => exact (Bool.false_ne_true hc).elim
    | bool a => cases x with
      | bool b => rw [← beq_iff_eq.mp (show (a == b) = true from hc)]; exact Sim.ofTok I.st fun Q h => wpAny_Constant_bool (h _ s.toks rfl)
      | _ => exact (Bool.false_ne_true hc).elim
    | int a => cases x with
      | int b => rw [← beq_iff_eq.mp (show (a == b) = true from hc)]; exact Sim.ofTok I.st fun Q h => wpAny_Constant_int (h _ _ ⟨_, rfl⟩)
      | _ => exact (Bool.false_ne_true hc).elim
    | str a => cases x with
      | str b =>
        have hc := Bool.and_eq_true_iff.mp (show (a == b && decide (a.cps.size ≤ 16777216)) = true from hc)
        rw [← beq_iff_eq.mp hc.1]
        exact Sim.ofTok I.st fun Q h => wpAny_Constant_str (h _ _ ⟨_, rfl, of_decide_eq_true hc.2⟩)
      | _ => exact (Bool.false_ne_true hc).elim
    | _ => exact (Bool.false_ne_true hc).elim

theorem se_var (i : Nat) : SE (.var i) := by
  intro T K C fe own env A n ρ g σ s ex hc cx I hH
  cases hc with
  | @mk nm p hc =>
    obtain ⟨hk, hd1, hd2⟩ := isVar_kind cx.names hc.1
    rw [eA_5]
    split
    · rename_i v hv
      exact Sim.of (load_name I hc.2 hk hv hd1 hd2 fun x r => ⟨g, .refl I.st, r⟩)
    · exact Sim.bad

theorem se_cls (c : Nat) : SE (.cls c) := by
  intro T K C fe own env A n ρ g σ s ex hc cx I hH
  cases hc with
  | @mk nm p hc => exact Sim.of (load_gl cx I hc.1 hc.2 fun x r => ⟨g, .refl I.st, r⟩)

theorem se_ty (t : String) : SE (.ty t) := by
  intro T K C fe own env A n ρ g σ s ex hc cx I hH
  cases hc with
  | @mk nm p hc => exact Sim.of (load_gl cx I hc.1 hc.2 fun x r => ⟨g, .refl I.st, r⟩)

theorem se_glo (x : PyData) : SE (.glo x) := by
  intro T K C fe own env A n ρ g σ s ex hc cx I hH
  cases hc with
  | @mk nm p hc => exact Sim.of (load_gl cx I hc.1 hc.2 fun x r => ⟨g, .refl I.st, r⟩)

theorem se_bin (fz : Bool) (op : Operator) {a b : E} (ha : SE a) (hb : SE b) : SE (.bin fz op a b) := by
  intro T K C fe own env A n ρ g σ s ex hc cx I hH
  cases hc with
  | @mk l r p h1 h2 =>
    rw [arm_eval_BinOp]
    (first | rw [eA_1] | rw [eA_2] | rw [eA_3] | rw [eA_4] | rw [eA_5] | rw [eA_6] | rw [eA_7] | rw [eA_8] | rw [eA_9] | rw [eA_10] | rw [eA_11] | rw [eA_12] | rw [eA_13] | rw [eA_14] | rw [eA_15] | rw [eA_16] | rw [eA_17] | rw [eA_18] | rw [eA_19] | rw [eA_20] | rw [eA_21])
    refine Sim.bind (ha _ h1 cx I hH) fun x v σ₁ g₁ s₁ _ st₁ r₁ => Sim.bind (Sim.holding (hb _ h2 cx (I.step st₁) (hH.mono st₁.le))) fun y w σ₂ g₂ s₂ _ st₂ r₂ => Sim.standAt (Sim.operate ?_)
    exact sim_binop cx.rd.ok fz op st₂.st (I.step st₁ |>.step st₂).fr cx.ha I.ne (RepV.mono st₂.le _ _ r₁) r₂

theorem se_not {a : E} (ha : ST a) (ha' : SE a) : SE (.not a) ∧ ST (.not a) := by
  constructor
  · intro T K C fe own env A n ρ g σ s ex hc cx I hH
    cases hc with
    | @mk x p hc =>
      rw [arm_eval_UnaryOp]
      (first | rw [eA_1] | rw [eA_2] | rw [eA_3] | rw [eA_4] | rw [eA_5] | rw [eA_6] | rw [eA_7] | rw [eA_8] | rw [eA_9] | rw [eA_10] | rw [eA_11] | rw [eA_12] | rw [eA_13] | rw [eA_14] | rw [eA_15] | rw [eA_16] | rw [eA_17] | rw [eA_18] | rw [eA_19] | rw [eA_20] | rw [eA_21])
      refine Sim.bind (ha' _ hc cx I hH) fun x v σ₁ g₁ s₁ _ st₁ r₁ => Sim.standAt (Sim.holding ?_)
      have t := sim_truth (fs := frsOf fe) (L := env.frame) (A := A) st₁.st r₁
      unfold unaryOp
      refine Sim.holding ?_
      show Sim T (frsOf fe) env.frame A g₁ s₁ (truthy x >>= fun b => pure (.bool (!b))) (RepV T) _
      cases e : truth σ₁ v with
      | none => exact Sim.bad
      | some b =>
        rw [e] at t
        exact Sim.bind (r := .ok b σ₁) (f := fun (b : Bool) (σ : Store) => (Res.ok (V.d (.bool (!b))) σ : Res V)) t fun y b' σ₂ g₂ s₂ _ st₂ r₂ => Sim.pure st₂.st (congrArg (fun b => Value.bool (!b)) (show y = b' from r₂))
  · intro T K C fe own env A n ρ g σ s ex hc cx I hH
    cases hc with
    | @mk x p hc =>
      rw [arm_isTrue_UnaryOp]
      have t := ha _ hc cx I hH
      intro hr
      have hr' : (evalE C a ρ σ).bind toB ≠ .bad := fun q => hr (by
        (first | rw [eA_1] | rw [eA_2] | rw [eA_3] | rw [eA_4] | rw [eA_5] | rw [eA_6] | rw [eA_7] | rw [eA_8] | rw [eA_9] | rw [eA_10] | rw [eA_11] | rw [eA_12] | rw [eA_13] | rw [eA_14] | rw [eA_15] | rw [eA_16] | rw [eA_17] | rw [eA_18] | rw [eA_19] | rw [eA_20] | rw [eA_21])
        cases h : evalE C a ρ σ with
        | ok v σ' =>
          rw [h] at q
          simp only [Res.bind, toB] at q ⊢
          cases h2 : truth σ' v with
          | none => simp [h2]
          | some b => rw [h2] at q; cases q
        | exc c σ' => rw [h] at q; cases q
        | bad => rfl)
      refine wpAny_bind (wpAny_mono (t hr') (fun b s' ⟨b', σ', g', e, st, rb⟩ => wpAny_pure ?_) fun x s' ⟨c, σ', g', e, st, fl⟩ => ⟨c, σ', g', ?_, st, fl⟩)
      · refine ⟨!b', σ', g', ?_, st, by have rb : b = b' := rb; rw [rb]; rfl⟩
        (first | rw [eA_1] | rw [eA_2] | rw [eA_3] | rw [eA_4] | rw [eA_5] | rw [eA_6] | rw [eA_7] | rw [eA_8] | rw [eA_9] | rw [eA_10] | rw [eA_11] | rw [eA_12] | rw [eA_13] | rw [eA_14] | rw [eA_15] | rw [eA_16] | rw [eA_17] | rw [eA_18] | rw [eA_19] | rw [eA_20] | rw [eA_21])
        cases h : evalE C a ρ σ with
        | ok v σ₁ =>
          rw [h] at e
          simp only [Res.bind, toB] at e ⊢
          cases h2 : truth σ₁ v with
          | none => rw [h2] at e; cases e
          | some b'' => rw [h2] at e; cases e; simp [h2, truth, truthD]
        | exc c σ₁ => rw [h] at e; cases e
        | bad => rw [h] at e; cases e
      · (first | rw [eA_1] | rw [eA_2] | rw [eA_3] | rw [eA_4] | rw [eA_5] | rw [eA_6] | rw [eA_7] | rw [eA_8] | rw [eA_9] | rw [eA_10] | rw [eA_11] | rw [eA_12] | rw [eA_13] | rw [eA_14] | rw [eA_15] | rw [eA_16] | rw [eA_17] | rw [eA_18] | rw [eA_19] | rw [eA_20] | rw [eA_21])
        cases h : evalE C a ρ σ with
        | ok v σ₁ =>
          rw [h] at e
          simp only [Res.bind, toB] at e
          cases h2 : truth σ₁ v with
          | none => rw [h2] at e; cases e
          | some b'' => rw [h2] at e; cases e
        | exc c' σ₁ => rw [h] at e; cases e; rfl
        | bad => rw [h] at e; cases e

theorem st_plain {e : E} (h : SE e) (hp : ∀ {K : Kx} {ex : Expr}, IsE e K ex → ∀ env w, isTrue ex env w = (w >>= fun v => standAt ex.pos >>= fun _ => holding [v] (truthy v))) : ST e := by
  intro T K C fe own env A n ρ g σ s ex hc cx I hH
  rw [hp hc]
  exact Sim.bind (h _ hc cx I hH) fun x v σ₁ g₁ s₁ _ st₁ r₁ => Sim.standAt (Sim.holding (sim_truth st₁.st r₁))
end

end Mine

namespace Mine
open PySem PySem.Calls

theorem Res.bind_assoc {α β γ : Type} (r : Res α) (f : α → Store → Res β) (k : β → Store → Res γ) : (r.bind f).bind k = r.bind fun a σ => (f a σ).bind k := by cases r <;> rfl

section
variable {T : Top} {K : Kx} {C : Cfg} {fe : List Env} {own : List Addr} {env : Env} {A : Around} {n : Nat} {ρ : Vars} {g g' : G} {σ σ' : Store} {s s' : Shared} {fs : List Addr} {L : Option Addr}

theorem se_neg {a : E} (ha : SE a) : SE (.neg a) := by
  intro T K C fe own env A n ρ g σ s ex hc cx I hH
  cases hc with
  | @mk x p hc =>
    rw [arm_eval_UnaryOp]
    (first | rw [eA_1] | rw [eA_2] | rw [eA_3] | rw [eA_4] | rw [eA_5] | rw [eA_6] | rw [eA_7] | rw [eA_8] | rw [eA_9] | rw [eA_10] | rw [eA_11] | rw [eA_12] | rw [eA_13] | rw [eA_14] | rw [eA_15] | rw [eA_16] | rw [eA_17] | rw [eA_18] | rw [eA_19] | rw [eA_20] | rw [eA_21])
    refine Sim.bind (ha _ hc cx I hH) fun x v σ₁ g₁ s₁ _ st₁ r₁ => Sim.standAt (Sim.holding ?_)
    split
    · obtain ⟨t, rfl⟩ := r₁
      exact Sim.ofTok st₁.st fun Q h => P.neg_int (h _ _ ⟨_, rfl⟩)
    · exact Sim.bad

theorem cmp_tail (op : CmpOp) {v w : V} {x y : Value} {pos : Pos} (ha : AOk fe C.hd n A) (st : St T g σ s.heap) (r1 : RepV T g v x) (r2 : RepV T g w y) :
    Sim T fs L A g s (standAt pos >>= fun _ => operate [x, y] (compareOp op x y)) (RepV T) (match cmpop op v w σ with | some b => .ok (.d (.bool b)) σ | none => .bad) := by
  have h := sim_cmpop (fs := fs) (L := L) op ha st r1 r2
  refine Sim.standAt (Sim.operate ?_)
  cases e : cmpop op v w σ with
  | none => exact Sim.bad
  | some b => rw [e] at h; exact h

theorem truth_bool (σ : Store) (b : Bool) : truth σ (.d (.bool b)) = some b := rfl

theorem cmp_truth (op : CmpOp) {v w : V} {x y : Value} {pos : Pos} (ha : AOk fe C.hd n A) (st : St T g σ s.heap) (r1 : RepV T g v x) (r2 : RepV T g w y) :
    Sim T fs L A g s (standAt pos >>= fun _ => operate [x, y] (compareOp op x y) >>= fun c => holding [c] (truthy c)) IsB (match cmpop op v w σ with | some b => .ok b σ | none => .bad) := by
  have h := sim_cmpop (fs := fs) (L := L) op ha st r1 r2
  refine Sim.standAt ?_
  cases e : cmpop op v w σ with
  | none => exact Sim.bad
  | some b =>
    rw [e] at h
    exact Sim.bind (r := .ok (.d (.bool b)) σ) (f := fun v σ => toB v σ) (Sim.operate h) fun c u σ₁ g₁ s₁ e₁ st₁ r₁ => Sim.holding (sim_truth st₁.st r₁)

theorem not_marks {op : CmpOp} {r : Expr} (h : notSet r = true) (t : Sem Value) : markedBehindIn op r t = t := by
  unfold markedBehindIn
  have : behindInMarks op r = false := by
    unfold behindInMarks
    split
    · cases h
    · rfl
  rw [this]

theorem se_cmp (op : CmpOp) {a b : E} (ha : SE a) (hb : SE b) : SE (.cmp op a b) ∧ ST (.cmp op a b) := by
  constructor
  · intro T K C fe own env A n ρ g σ s ex hc cx I hH
    cases hc with
    | @mk l r p h1 h2 h3 =>
      rw [arm_eval_Compare]
      (first | rw [eA_1] | rw [eA_2] | rw [eA_3] | rw [eA_4] | rw [eA_5] | rw [eA_6] | rw [eA_7] | rw [eA_8] | rw [eA_9] | rw [eA_10] | rw [eA_11] | rw [eA_12] | rw [eA_13] | rw [eA_14] | rw [eA_15] | rw [eA_16] | rw [eA_17] | rw [eA_18] | rw [eA_19] | rw [eA_20] | rw [eA_21])
      refine Sim.bind (ha _ h1 cx I hH) fun x v σ₁ g₁ s₁ _ st₁ r₁ => ?_
      show Sim T (frsOf fe) env.frame A g₁ s₁ (holding [x] (markedBehindIn op r (eval r env)) >>= _) (RepV T) _
      rw [not_marks h3]
      exact Sim.bind (Sim.holding (hb _ h2 cx (I.step st₁) (hH.mono st₁.le))) fun y w σ₂ g₂ s₂ _ st₂ r₂ => cmp_tail op cx.ha st₂.st (RepV.mono st₂.le _ _ r₁) r₂
  · intro T K C fe own env A n ρ g σ s ex hc cx I hH
    cases hc with
    | @mk l r p h1 h2 h3 =>
      rw [arm_isTrue_Compare]
      (first | rw [eA_1] | rw [eA_2] | rw [eA_3] | rw [eA_4] | rw [eA_5] | rw [eA_6] | rw [eA_7] | rw [eA_8] | rw [eA_9] | rw [eA_10] | rw [eA_11] | rw [eA_12] | rw [eA_13] | rw [eA_14] | rw [eA_15] | rw [eA_16] | rw [eA_17] | rw [eA_18] | rw [eA_19] | rw [eA_20] | rw [eA_21])
      rw [Res.bind_assoc]
      refine Sim.bind (ha _ h1 cx I hH) fun x v σ₁ g₁ s₁ _ st₁ r₁ => ?_
      show Sim T (frsOf fe) env.frame A g₁ s₁ (holding [x] (markedBehindIn op r (eval r env)) >>= _) IsB _
      rw [not_marks h3, Res.bind_assoc]
      refine Sim.bind (Sim.holding (hb _ h2 cx (I.step st₁) (hH.mono st₁.le))) fun y w σ₂ g₂ s₂ _ st₂ r₂ => ?_
      have h := cmp_truth (pos := p) (fs := frsOf fe) (L := env.frame) op cx.ha st₂.st (RepV.mono st₂.le _ _ r₁) r₂
      cases e : cmpop op v w σ₂ with
      | none => exact Sim.bad
      | some b => rw [e] at h; exact h

theorem ses_nil : SEs [] := by
  intro T K C fe own env A n ρ g σ s xs pos hc cx I hH
  cases hc
  (first | rw [eB_1] | rw [eB_2])
  exact Sim.of (spliced_nil ⟨g, .refl I.st, trivial⟩)

theorem starEach_cons {e : Expr} {r : List Expr} (h : notStar e = true) (env : Env) : starEach (e :: r) env = (false, eval e env) :: starEach r env := by
  cases e <;> first | rfl | cases h

theorem ses_cons {e : E} {es : List E} (h1 : SE e) (h2 : SEs es) : SEs (e :: es) := by
  intro T K C fe own env A n ρ g σ s xs pos hc cx I hH
  cases hc with
  | @mk x l c1 c2 c3 =>
    rw [starEach_cons c2]
    (first | rw [eB_1] | rw [eB_2])
    show Sim T (frsOf fe) env.frame A g s (spliced ((false, eval x env) :: backTo pos (starEach l env))) (RepVs T) _
    intro hr
    refine spliced_cons (wpAny_mono (h1 _ c1 cx I hH (bind_ne hr)) (fun v s₁ ⟨b, σ₁, g₁, e₁, st₁, r₁⟩ => ?_) fun _ _ h => h.bind)
    rw [e₁] at hr ⊢
    refine wpAny_mono (h2 _ pos c3 cx (I.step st₁) (hH.mono st₁.le) (bind_ne (r := evalEs C es ρ σ₁) hr)) (fun vs s₂ ⟨bs, σ₂, g₂, e₂, st₂, r₂⟩ => ?_)
      fun _ _ h => (ExR.bind (h.after st₁) : ExR _ _ _ _ _ ((evalEs C es ρ σ₁).bind _) _ _)
    exact ⟨b :: bs, σ₂, g₂, by show ((evalEs C es ρ σ₁).bind _) = _; rw [e₂]; rfl, st₁.trans st₂, RepV.mono st₂.le _ _ r₁, r₂⟩
end

end Mine

namespace Mine
open PySem PySem.Calls

noncomputable def SAll : List E → Prop
  | [] => True
  | e :: r => (SE e ∧ ST e) ∧ SAll r

theorem SAll.ses : ∀ {es : List E}, SAll es → SEs es
  | [], _ => ses_nil
  | _ :: _, h => ses_cons h.1.1 (SAll.ses h.2)

theorem mkList_ne {fz : Bool} {vs : List V} {σ : Store} (h : mkList fz vs σ ≠ .bad) : vs.length ≤ line := by
  unfold mkList at h
  split at h
  · assumption
  · exact absurd rfl h

section
variable {T : Top} {K : Kx} {C : Cfg} {fe : List Env} {own : List Addr} {env : Env} {A : Around} {n : Nat} {ρ : Vars} {g g' : G} {σ σ' : Store} {s s' : Shared} {fs : List Addr} {L : Option Addr}

theorem newList_sim {fz : Bool} {vs : List V} {xs : List Value} (st : St T g σ s.heap) (r : RepVs T g vs xs) : Sim T fs L A g s (newList xs) (RepV T) (mkList fz vs σ) := by
  intro hr
  have hl := mkList_ne hr
  refine wpAny_newList ?_ (by rw [← r.length, ← line_eq]; exact hl)
  obtain ⟨v, σ', g', e, stp, rp⟩ := made_list (fs := fs) (s' := { s with heap := s.heap.push { cls := .type "list", data := .seq xs.toArray } }) st (fun b x e => Heap.get?_push_of_some _ e) (Heap.get?_push_size _ rfl) (atSize _) (by simpa using r) hr
  exact ⟨v, σ', g', e, stp, rp⟩

theorem newTuple_sim {vs : List V} {xs : List Value} (st : St T g σ s.heap) (r : RepVs T g vs xs) : Sim T fs L A g s (newTuple xs) (RepV T) (if vs.length ≤ line then .ok (mkTup vs) σ else .bad) := by
  split
  · rename_i hl
    refine Sim.of (wpAny_newTuple ?_ (by rw [← r.length, ← line_eq]; exact hl))
    obtain ⟨g', stp, rp⟩ := made_tuple (fs := fs) (s' := { s with heap := s.heap.push { cls := .type "tuple", data := .seq xs.toArray } }) st (fun b x e => Heap.get?_push_of_some _ e) (Heap.get?_push_size _ rfl) rfl rfl (atSize _) (by simpa using r) hl
    exact ⟨g', stp, rp⟩
  · exact Sim.bad

theorem se_tup {es : List E} (h : SEs es) : SE (.tup es) := by
  intro T K C fe own env A n ρ g σ s ex hc cx I hH
  cases hc with
  | @mk vs k p hc =>
    rw [arm_eval_Tuple]
    (first | rw [eA_1] | rw [eA_2] | rw [eA_3] | rw [eA_4] | rw [eA_5] | rw [eA_6] | rw [eA_7] | rw [eA_8] | rw [eA_9] | rw [eA_10] | rw [eA_11] | rw [eA_12] | rw [eA_13] | rw [eA_14] | rw [eA_15] | rw [eA_16] | rw [eA_17] | rw [eA_18] | rw [eA_19] | rw [eA_20] | rw [eA_21])
    exact Sim.standAt (Sim.bind (h _ _ hc cx I hH) fun xs vs σ₁ g₁ s₁ _ st₁ r₁ => newTuple_sim st₁.st r₁)

theorem se_lst (fz : Bool) {es : List E} (h : SEs es) : SE (.lst fz es) := by
  intro T K C fe own env A n ρ g σ s ex hc cx I hH
  cases hc with
  | @mk vs p hc =>
    rw [arm_eval_List]
    (first | rw [eA_1] | rw [eA_2] | rw [eA_3] | rw [eA_4] | rw [eA_5] | rw [eA_6] | rw [eA_7] | rw [eA_8] | rw [eA_9] | rw [eA_10] | rw [eA_11] | rw [eA_12] | rw [eA_13] | rw [eA_14] | rw [eA_15] | rw [eA_16] | rw [eA_17] | rw [eA_18] | rw [eA_19] | rw [eA_20] | rw [eA_21])
    exact Sim.standAt (Sim.bind (h _ _ hc cx I hH) fun xs vs σ₁ g₁ s₁ _ st₁ r₁ => newList_sim st₁.st r₁)

theorem item_type {a : V} {x : Value} (st : St T g σ s.heap) (ra : RepV T g a x) (h : (∃ y, a = .d (.str y)) ∨ ∃ vs, seqOf σ a = some vs) :
    ∃ Ty id, s.TypeIs x Ty ∧ typeLookup (.type Ty) "__getitem__" = pure (some (.builtin id)) := by
  rcases h with ⟨y, rfl⟩ | ⟨vs, e⟩
  · obtain ⟨t, rfl, _⟩ := ra
    exact ⟨"str", _, typeIs_str _ _ _, F.slot_str_getitem.lookup⟩
  · obtain ⟨l, o, xs, m, rfl, ho, hc, hd, hr, hl⟩ := seqOf_rep st ra e
    rcases hc with hc | hc
    · exact ⟨"list", _, ⟨o, ho, hc⟩, slot_list_getitem.lookup⟩
    · exact ⟨"tuple", _, ⟨o, ho, hc⟩, F.slot_tuple_getitem.lookup⟩

theorem subscr_type {a i : V} (h : subscr a i σ ≠ none) : (∃ y, a = .d (.str y)) ∨ ∃ vs, seqOf σ a = some vs := by
  unfold subscr at h
  split at h
  · split at h
    · split at h
      · exact .inl ⟨_, rfl⟩
      · split at h
        · rename_i e; exact .inr ⟨_, e⟩
        · exact absurd rfl h
    · exact absurd rfl h
  · exact absurd rfl h

theorem lstOf_seqOf {v : V} {vs : List V} (h : lstOf σ v = some vs) : seqOf σ v = some vs := by
  unfold lstOf at h
  unfold seqOf
  split at h
  · exact h
  · exact h
  · cases h

theorem sub_tail {value slice : Expr} {x i : Value} {Ty id : String} {Q : Value → Shared → Prop} {E : Value → Shared → Prop} (hT : s.TypeIs x Ty) (hl : typeLookup (.type Ty) "__getitem__" = pure (some (.builtin id)))
    (h : wpAny (model T.prog T.w) A (getItem x i) Q E s) : wpAny (model T.prog T.w) A (getitemInPython x >>= fun p => subscripted slice p x i >>= fun r => letTemporaryGo value x r >>= fun _ => pure r) Q E s := by
  rw [getitemInPython_of_ne hT.not_modules]
  refine wpAny_bind (wpAny_bind (wpAny_specialOf hT hl ?_))
  have fin : ∀ ws, wpAny (model T.prog T.w) A (operate ws (getItem x i)) (fun r s₃ => wpAny (model T.prog T.w) A (letTemporaryGo value x r >>= fun _ => pure r) Q E s₃) E s := fun ws =>
    wpAny_operating (wpAny_mono h (fun r s₃ h₃ => wpAny_bind (wpAny_letTemporaryGo (wpAny_pure h₃))) fun _ _ y => y)
  have hs : ∃ ws, subscripted slice false x i = operate ws (getItem x i) := by
    unfold subscripted
    split
    · exact ⟨_, rfl⟩
    · rename_i q; cases q
    · exact ⟨_, rfl⟩
  obtain ⟨ws, hs⟩ := hs
  refine wpAny_pure (wpAny_bind ?_)
  rw [hs]
  exact fin ws

theorem se_sub {a i : E} (ha : SE a) (hi : SE i) : SE (.sub a i) := by
  intro T K C fe own env A n ρ g σ s ex hc cx I hH
  cases hc with
  | @mk v x p h1 h2 =>
    rw [arm_eval_Subscript]
    (first | rw [eA_1] | rw [eA_2] | rw [eA_3] | rw [eA_4] | rw [eA_5] | rw [eA_6] | rw [eA_7] | rw [eA_8] | rw [eA_9] | rw [eA_10] | rw [eA_11] | rw [eA_12] | rw [eA_13] | rw [eA_14] | rw [eA_15] | rw [eA_16] | rw [eA_17] | rw [eA_18] | rw [eA_19] | rw [eA_20] | rw [eA_21])
    refine Sim.bind (ha _ h1 cx I hH) fun x v σ₁ g₁ s₁ _ st₁ r₁ => Sim.bind (Sim.holding (hi _ h2 cx (I.step st₁) (hH.mono st₁.le))) fun y w σ₂ g₂ s₂ _ st₂ r₂ => Sim.standAt ?_
    have t := sim_getItem (fs := frsOf fe) (L := env.frame) (A := A) st₂.st (RepV.mono st₂.le _ _ r₁) r₂
    cases e : subscr v w σ₂ with
    | none => exact Sim.bad
    | some u =>
      rw [e] at t
      obtain ⟨Ty, id, hT, hl⟩ := item_type st₂.st (RepV.mono st₂.le _ _ r₁) (subscr_type (by rw [e]; simp))
      exact fun hr => sub_tail hT hl (t hr)

noncomputable def SO (o : Option E) : Prop := ∀ {T : Top} {K : Kx} {C : Cfg} {fe : List Env} {own : List Addr} {env : Env} {A : Around} {n : Nat} {ρ : Vars} {g : G} {σ : Store} {s : Shared} (x : Option Expr),
  IsO o K x → Cx T K C fe env A n → Inv T fe own K.wr env K.vars ρ g σ s.heap → HOk g A → Sim T (frsOf fe) env.frame A g s (valueOrNone (evalOpt x env)) (RepO' T) (evalO C o ρ σ)

theorem so_none : SO none := by
  intro T K C fe own env A n ρ g σ s x hc cx I hH
  cases hc
  (first | rw [eO_1] | rw [eO_2])
  exact Sim.pure I.st rfl
theorem so_some {e : E} (h : SE e) : SO (some e) := by
  intro T K C fe own env A n ρ g σ s x hc cx I hH
  cases hc with
  | @mk e' hc =>
    (first | rw [eO_1] | rw [eO_2])
    show Sim T (frsOf fe) env.frame A g s (eval _ env) (RepO' T) _
    intro hr
    refine wpAny_mono (h _ hc cx I hH (bind_ne hr)) (fun v s₁ ⟨b, σ₁, g₁, e₁, st₁, r₁⟩ => ⟨some b, σ₁, g₁, by rw [e₁]; rfl, st₁, r₁⟩) fun _ _ h => h.bind

theorem RepO'.mono {o : Option V} {x : Value} (le : G.le g g') (h : RepO' T g o x) : RepO' T g' o x := by
  cases o with
  | none => exact h
  | some v => exact RepV.mono le _ _ h

theorem isTupV_eq {v : V} {y : List PyData} (h : isTupV v = some y) : v = .d (.tuple y) := by
  cases v with
  | d x => cases x with
    | tuple z => rw [Option.some.inj (show some z = some y from h)]
    | _ => exact none_ne h
  | _ => exact none_ne h
theorem slice_type {fz : Bool} {a : V} {lo hi : Option V} (h : slice fz a lo hi σ ≠ .bad) : (∃ y, a = .d (.str y)) ∨ ∃ vs, seqOf σ a = some vs := by
  unfold slice at h
  cases e1 : endOf lo with
  | none => rw [e1] at h; exact absurd rfl h
  | some l => cases e2 : endOf hi with
  | none => rw [e1, e2] at h; exact absurd rfl h
  | some u =>
  rw [e1, e2] at h
  have h : sliceAt fz a l u σ ≠ .bad := h
  unfold sliceAt at h
  cases es : isStrV a with
  | some y => exact .inl ⟨y, isStrV_eq es⟩
  | none => cases et : isTupV a with
  | some xs => exact .inr ⟨xs.map .d, by rw [isTupV_eq et]; rfl⟩
  | none => cases e3 : lstOf σ a with
  | none => rw [es, et, e3] at h; exact absurd rfl h
  | some vs => exact .inr ⟨vs, lstOf_seqOf e3⟩

theorem se_slc (fz : Bool) {a : E} {lo hi : Option E} (ha : SE a) (hl : SO lo) (hh : SO hi) : SE (.slc fz a lo hi) := by
  intro T K C fe own env A n ρ g σ s ex hc cx I hH
  cases hc with
  | @mk v l u p p' h1 h2 h3 =>
    rw [arm_eval_Subscript, arm_eval_Slice]
    (first | rw [eA_1] | rw [eA_2] | rw [eA_3] | rw [eA_4] | rw [eA_5] | rw [eA_6] | rw [eA_7] | rw [eA_8] | rw [eA_9] | rw [eA_10] | rw [eA_11] | rw [eA_12] | rw [eA_13] | rw [eA_14] | rw [eA_15] | rw [eA_16] | rw [eA_17] | rw [eA_18] | rw [eA_19] | rw [eA_20] | rw [eA_21])
    refine Sim.bind (ha _ h1 cx I hH) fun x v' σ₁ g₁ s₁ _ st₁ r₁ => ?_
    intro hr
    refine wpAny_bind (wpAny_holding (wpAny_bind ?_))
    have I₁ := I.step st₁
    have H₁ := hH.mono st₁.le
    refine wpAny_mono (hl _ h2 cx I₁ H₁ (bind_ne hr)) (fun lv s₂ ⟨b₂, σ₂, g₂, e₂, st₂, r₂⟩ => ?_) fun _ _ h => h.bind
    have I₂ := I₁.step st₂
    have H₂ := H₁.mono st₂.le
    rw [e₂] at hr ⊢
    refine wpAny_bind (wpAny_holding (wpAny_mono (hh _ h3 cx I₂ H₂ (bind_ne (r := evalO C hi ρ σ₂) hr)) (fun uv s₃ ⟨b₃, σ₃, g₃, e₃, st₃, r₃⟩ => ?_)
      fun _ _ h => (ExR.bind (h.after st₂) : ExR _ _ _ _ _ ((evalO C hi ρ σ₂).bind _) _ _)))
    have hr3 : slice fz v' b₂ b₃ σ₃ ≠ .bad := fun q => hr (by show ((evalO C hi ρ σ₂).bind _) = _; rw [e₃]; exact q)
    have e4 : (Res.ok b₂ σ₂).bind (fun l σ => (evalO C hi ρ σ).bind fun h σ => slice fz v' l h σ) = slice fz v' b₂ b₃ σ₃ := by show ((evalO C hi ρ σ₂).bind _) = _; rw [e₃]; rfl
    rw [e4]
    refine wpAny_bind (wpAny_holding (wpAny_pure ?_))
    refine wpAny_newObj_type ?_
    refine wpAny_bind (wpAny_standAt ?_)
    have st₄ : Step T g₃.mu (frsOf fe) g₃ s₃ g₃ σ₃ { s₃ with heap := s₃.heap.push { cls := .type "slice", data := .fields #[lv, uv, .none] } } := .grow st₃.st fun b o e => Heap.get?_push_of_some _ e
    have rx := RepV.mono st₃.le _ _ (RepV.mono st₂.le _ _ r₁)
    obtain ⟨Ty, id, hT, hlk⟩ := item_type (s := { s₃ with heap := s₃.heap.push { cls := .type "slice", data := .fields #[lv, uv, .none] } }) st₄.st rx (slice_type hr3)
    refine sub_tail hT hlk ?_
    refine wpAny_mono (sim_slice (fs := frsOf fe) (L := env.frame) (A := A) st₄.st rx (r₂.mono st₃.le) r₃ (Heap.IsSliceOf.new s₃.heap lv uv .none) hr3) (fun q s' ⟨b, σ', g', e', st', rp'⟩ => ⟨b, σ', g', e', st₂.trans (st₃.trans (st₄.trans st')), rp'⟩)
      fun q s' ⟨cc, σ', g', e', st', fl⟩ => ⟨cc, σ', g', e', st₂.trans (st₃.trans (st₄.trans st')), ((fl.le fun _ e => st₄.kept.dead e).le fun _ e => st₃.kept.dead e).le fun _ e => st₂.kept.dead e⟩

noncomputable def SBv (op : BoolOp) (pos : Pos) (es : List E) : Prop := ∀ {T : Top} {K : Kx} {C : Cfg} {fe : List Env} {own : List Addr} {env : Env} {A : Around} {n : Nat} {ρ : Vars} {g : G} {σ : Store} {s : Shared} (xs : List Expr),
    IsEs es K xs → Cx T K C fe env A n → Inv T fe own K.wr env K.vars ρ g σ s.heap → HOk g A → Sim T (frsOf fe) env.frame A g s (boolOp pos op (evalEach xs env)) (RepV T) (evalB C op es ρ σ)
noncomputable def SBt (op : BoolOp) (es : List E) : Prop := ∀ {T : Top} {K : Kx} {C : Cfg} {fe : List Env} {own : List Addr} {env : Env} {A : Around} {n : Nat} {ρ : Vars} {g : G} {σ : Store} {s : Shared} (xs : List Expr),
    IsEs es K xs → Cx T K C fe env A n → Inv T fe own K.wr env K.vars ρ g σ s.heap → HOk g A → Sim T (frsOf fe) env.frame A g s (allTrue op xs env) IsB ((evalB C op es ρ σ).bind toB)

theorem boolOp_cons (pos : Pos) (op : BoolOp) (x y : Sem Value) (r : List (Sem Value)) : boolOp pos op (x :: y :: r) = (x >>= fun v => standAt pos >>= fun _ => holding [v] (truthy v) >>= fun t => match op, t with
    | .And, false => pure v | .Or, true => pure v | _, _ => boolOp pos op (y :: r)) := by
  rw [boolOp]
  · rfl
  · intro q; cases q

theorem evalB_sim (op : BoolOp) (pos : Pos) : ∀ {es : List E}, SAll es → SBv op pos es := by
  intro es
  induction es with
  | nil =>
    intro _ T K C fe own env A n ρ g σ s xs hc cx I hH
    (first | rw [eC_1] | rw [eC_2] | rw [eC_3]); exact Sim.bad
  | cons e r ih =>
   intro h
   cases r with
   | nil =>
    intro T K C fe own env A n ρ g σ s xs hc cx I hH
    cases hc with
    | @mk x l c1 c2 c3 =>
      cases c3
      (first | rw [eC_1] | rw [eC_2] | rw [eC_3])
      exact h.1.1 _ c1 cx I hH
   | cons e' r =>
    intro T K C fe own env A n ρ g σ s xs hc cx I hH
    cases hc with
    | @mk x l c1 c2 c3 =>
      cases c3 with
      | @mk y l' d1 d2 d3 =>
        (first | rw [eC_1] | rw [eC_2] | rw [eC_3])
        show Sim T (frsOf fe) env.frame A g s (boolOp pos op (eval x env :: eval y env :: evalEach l' env)) (RepV T) _
        rw [boolOp_cons]
        refine Sim.bind (h.1.1 _ c1 cx I hH) fun xv v σ₁ g₁ s₁ _ st₁ r₁ => Sim.standAt ?_
        have t := sim_truth (fs := frsOf fe) (L := env.frame) (A := A) st₁.st r₁
        cases e : truth σ₁ v with
        | none => exact Sim.bad
        | some b =>
          rw [e] at t
          intro hr
          refine wpAny_bind (wpAny_holding (wpAny_mono (t (by simp)) (fun b' s₂ ⟨bb, σ₂, g₂, e₂, st₂, r₂⟩ => ?_) fun q s' ⟨cc, σ', g', e', _, _⟩ => by cases e'))
          cases e₂
          have r₂ : b' = b := r₂
          subst r₂
          have go := ih h.2 (y :: l') (IsCons.mk d1 d2 d3) cx ((I.step st₁).step st₂) ((hH.mono st₁.le).mono st₂.le)
          cases op <;> cases b'
          · exact wpAny_pure ⟨_, _, g₂, rfl, st₂, RepV.mono st₂.le _ _ r₁⟩
          · exact wpAny_mono (go hr) (fun _ _ h => h.after st₂) fun _ _ h => h.after st₂
          · exact wpAny_mono (go hr) (fun _ _ h => h.after st₂) fun _ _ h => h.after st₂
          · exact wpAny_pure ⟨_, _, g₂, rfl, st₂, RepV.mono st₂.le _ _ r₁⟩

theorem allTrue_sim (op : BoolOp) : ∀ {es : List E}, SAll es → SBt op es := by
  intro es
  induction es with
  | nil =>
    intro _ T K C fe own env A n ρ g σ s xs hc cx I hH
    (first | rw [eC_1] | rw [eC_2] | rw [eC_3]); exact Sim.bad
  | cons e r ih =>
   intro h
   cases r with
   | nil =>
    intro T K C fe own env A n ρ g σ s xs hc cx I hH
    cases hc with
    | @mk x l c1 c2 c3 =>
      cases c3
      (first | rw [eC_1] | rw [eC_2] | rw [eC_3])
      rw [arm_allTrue_cons]
      have t := h.1.2 _ c1 cx I hH
      intro hr
      refine wpAny_bind (wpAny_mono (t hr) (fun b s₁ ⟨b', σ₁, g₁, e₁, st₁, r₁⟩ => ?_) fun _ _ y => y)
      have r₁ : b = b' := r₁
      subst r₁
      cases op <;> cases b <;> exact wpAny_pure ⟨_, σ₁, g₁, e₁, st₁, rfl⟩
   | cons e' r =>
    intro T K C fe own env A n ρ g σ s xs hc cx I hH
    cases hc with
    | @mk x l c1 c2 c3 =>
      (first | rw [eC_1] | rw [eC_2] | rw [eC_3])
      rw [arm_allTrue_cons]
      have t := h.1.2 _ c1 cx I hH
      intro hr
      have hr' : (evalE C e ρ σ).bind toB ≠ .bad := fun q => hr (by
        cases hq : evalE C e ρ σ with
        | ok v σ' =>
          rw [hq] at q
          simp only [Res.bind, toB] at q ⊢
          cases h2 : truth σ' v with
          | none => rfl
          | some b => rw [h2] at q; cases q
        | exc c σ' => rw [hq] at q; cases q
        | bad => rfl)
      refine wpAny_bind (wpAny_mono (t hr') (fun b s₁ ⟨b', σ₁, g₁, e₁, st₁, r₁⟩ => ?_) fun q s' ⟨cc, σ', g', e', st', fl⟩ => ⟨cc, σ', g', ?_, st', fl⟩)
      · have r₁ : b = b' := r₁
        subst r₁
        cases hq : evalE C e ρ σ with
        | exc c σ' => rw [hq] at e₁; cases e₁
        | bad => rw [hq] at e₁; cases e₁
        | ok v σ' =>
          rw [hq] at e₁ hr
          simp only [Res.bind, toB] at e₁
          cases h2 : truth σ' v with
          | none => rw [h2] at e₁; cases e₁
          | some b'' =>
            rw [h2] at e₁; cases e₁
            simp only [Res.bind, h2] at hr ⊢
            have go := ih h.2 l c3 cx (I.step st₁) (hH.mono st₁.le)
            cases op <;> cases b
            · exact wpAny_pure ⟨false, σ₁, g₁, by simp [toB, h2], st₁, rfl⟩
            · exact wpAny_mono (go hr) (fun _ _ h => h.after st₁) fun _ _ h => h.after st₁
            · exact wpAny_mono (go hr) (fun _ _ h => h.after st₁) fun _ _ h => h.after st₁
            · exact wpAny_pure ⟨true, σ₁, g₁, by simp [toB, h2], st₁, rfl⟩
      · cases hq : evalE C e ρ σ with
        | ok v σ' =>
          rw [hq] at e'
          simp only [Res.bind, toB] at e'
          cases h2 : truth σ' v with
          | none => rw [h2] at e'; cases e'
          | some b'' => rw [h2] at e'; cases e'
        | exc c' σ' => rw [hq] at e'; cases e'; rfl
        | bad => rw [hq] at e'; cases e'

theorem se_bop (op : BoolOp) {es : List E} (h : SAll es) : SE (.bop op es) ∧ ST (.bop op es) := by
  constructor
  · intro T K C fe own env A n ρ g σ s ex hc cx I hH
    cases hc with
    | @mk vs p h1 =>
      rw [arm_eval_BoolOp]
      (first | rw [eA_1] | rw [eA_2] | rw [eA_3] | rw [eA_4] | rw [eA_5] | rw [eA_6] | rw [eA_7] | rw [eA_8] | rw [eA_9] | rw [eA_10] | rw [eA_11] | rw [eA_12] | rw [eA_13] | rw [eA_14] | rw [eA_15] | rw [eA_16] | rw [eA_17] | rw [eA_18] | rw [eA_19] | rw [eA_20] | rw [eA_21])
      exact evalB_sim _ _ h _ h1 cx I hH
  · intro T K C fe own env A n ρ g σ s ex hc cx I hH
    cases hc with
    | @mk vs p h1 =>
      rw [arm_isTrue_BoolOp]
      (first | rw [eA_1] | rw [eA_2] | rw [eA_3] | rw [eA_4] | rw [eA_5] | rw [eA_6] | rw [eA_7] | rw [eA_8] | rw [eA_9] | rw [eA_10] | rw [eA_11] | rw [eA_12] | rw [eA_13] | rw [eA_14] | rw [eA_15] | rw [eA_16] | rw [eA_17] | rw [eA_18] | rw [eA_19] | rw [eA_20] | rw [eA_21])
      exact allTrue_sim _ h _ h1 cx I hH
end

end Mine

namespace Mine
open PySem PySem.Calls

section
variable {T : Top} {K : Kx} {C : Cfg} {fe : List Env} {own : List Addr} {env : Env} {A : Around} {n : Nat} {ρ : Vars} {g g' : G} {σ σ' : Store} {s s' : Shared} {fs : List Addr} {L : Option Addr}

theorem args_plain : ∀ {es : List E} {K : Kx} {xs : List Expr} (pos : Pos) (env : Env), IsEs es K xs → (backTo pos (starEach xs env)).any (·.1) = false := by
  intro es
  induction es with
  | nil => intro K xs pos env h; cases h; rfl
  | cons e es ih =>
    intro K xs pos env h
    cases h with
    | @mk x l h1 h2 h3 =>
      rw [starEach_cons h2]
      exact ih pos env h3

theorem args_all {es : List E} {K : Kx} {xs : List Expr} (pos : Pos) (env : Env) (h : IsEs es K xs) : (backTo pos (starEach xs env)).all (fun x => !x.1) = true := by
  have := args_plain pos env h
  rw [List.any_eq_false] at this
  rw [List.all_eq_true]
  intro x hx
  simpa using this x hx

theorem args_none {pos : Pos} {f : Value} {Q : Args → Shared → Prop} {E : Value → Shared → Prop} (h : wpAny (model T.prog T.w) A (spliced (backTo pos (starEach [] env))) (fun vs s' => Q ⟨vs, []⟩ s') E s) : wpAny (model T.prog T.w) A (evalArgs f true (backTo pos (starEach [] env)) []) Q E s := by
  have e1 : spliced (backTo pos (starEach [] env)) = pure [] := rfl
  have e2 : evalArgs f true (backTo pos (starEach [] env)) [] = pure ⟨[], []⟩ := by first | rfl | (unfold evalArgs; rfl)
  rw [e1] at h
  rw [e2]
  exact fun Γ p hΓ => h Γ p hΓ
theorem call_args {es : List E} {K : Kx} {xs : List Expr} {pos : Pos} {f : Value} {Q : Args → Shared → Prop} {E : Value → Shared → Prop} (hc : IsEs es K xs)
    (h : wpAny (model T.prog T.w) A (spliced (backTo pos (starEach xs env))) (fun vs s' => Q ⟨vs, []⟩ s') E s) : wpAny (model T.prog T.w) A (evalArgs f true (backTo pos (starEach xs env)) []) Q E s := by
  cases es with
  | nil => cases hc; exact args_none h
  | cons e es =>
    cases hc with
    | @mk x l h1 h2 h3 =>
      rw [starEach_cons h2] at h ⊢
      exact evalArgs_plain h

theorem callWith_bi {b : Bi} {pos : Pos} {args : List (Bool × Sem Value)} {Q : Value → Shared → Prop} {E : Value → Shared → Prop} (hp : args.any (·.1) = false)
    (h : wpAny (model T.prog T.w) A (evalArgs (biVal b) true args []) (fun a s₁ => wpAny (model T.prog T.w) A (call (biVal b) a.pos a.kw) Q E s₁) E s) :
    wpAny (model T.prog T.w) A (callWith pos (biVal b) [] args []) Q E s := by
  have hb : (∃ id, biVal b = .builtin id) ∨ ∃ t, biVal b = .type t := by cases b <;> first | exact .inl ⟨_, rfl⟩ | exact .inr ⟨_, rfl⟩
  generalize biVal b = v at hb h
  rcases hb with ⟨id, rfl⟩ | ⟨t, rfl⟩
  · exact callWith_builtin hp h
  · exact PyProof.Rows.callWith_type hp h

theorem se_bcall (b : Bi) (fz : Bool) {es : List E} (h : SEs es) : SE (.bcall b fz es) := by
  intro T K C fe own env A n ρ g σ s ex hc cx I hH
  cases hc with
  | @mk nm p vs pos h1 h2 h3 =>
    obtain ⟨h1, e⟩ := h1
    · skip
      (first | rw [eA_1] | rw [eA_2] | rw [eA_3] | rw [eA_4] | rw [eA_5] | rw [eA_6] | rw [eA_7] | rw [eA_8] | rw [eA_9] | rw [eA_10] | rw [eA_11] | rw [eA_12] | rw [eA_13] | rw [eA_14] | rw [eA_15] | rw [eA_16] | rw [eA_17] | rw [eA_18] | rw [eA_19] | rw [eA_20] | rw [eA_21])
      intro hr
      refine PyProof.Rows.Call_Name rfl (load_gl cx I h1 e fun x hx => ?_)
      have hx : x = biVal b := by cases b <;> exact hx
      subst hx
      refine callWith_bi (args_plain _ _ h2) (call_args h2 ?_)
      exact (h _ pos h2 cx I hH).use (k := fun xs => call (biVal b) xs) (fun xs ws σ₁ g₁ s₁ _ st₁ r₁ => sim_bcall cx.rd.isi cx.rd.ok b fz cx.ha st₁.st r₁) hr

theorem se_fcall (m : Mode) (f : Nat) {es : List E} (h : SEs es) : SE (.fcall m f es) := by
  intro T K C fe own env A n ρ g σ s ex hc cx I hH
  cases hc with
  | @mk nm p vs pos h1 h2 h3 =>
    obtain ⟨h1, e⟩ := h1
    · skip
      (first | rw [eA_1] | rw [eA_2] | rw [eA_3] | rw [eA_4] | rw [eA_5] | rw [eA_6] | rw [eA_7] | rw [eA_8] | rw [eA_9] | rw [eA_10] | rw [eA_11] | rw [eA_12] | rw [eA_13] | rw [eA_14] | rw [eA_15] | rw [eA_16] | rw [eA_17] | rw [eA_18] | rw [eA_19] | rw [eA_20] | rw [eA_21])
      intro hr
      refine PyProof.Rows.Call_Name rfl (load_gl cx I h1 e fun x hx => ?_)
      obtain ⟨a, ha, hx⟩ := hx
      subst hx
      obtain ⟨o, fd, ho, hd⟩ := cx.rd.fnob f a ha
      refine callWith_function (o := o) (fd := fd) (call_args h2 ?_)
      refine wpAny_mono (h _ pos h2 cx I hH (bind_ne hr)) (fun xs s₁ ⟨ws, σ₁, g₁, e₁, st₁, r₁⟩ => ?_) fun _ _ h => h.bind
      rw [e₁] at hr ⊢
      have I₁ := I.step st₁
      refine ⟨⟨I₁.st.keepsBase _ _ ho, hd⟩, ?_⟩
      have t := (cx.cf (m := m) ha I₁.st I₁.fr I.ne cx.ha (hH.mono st₁.le) r₁).liftL (L := env.frame) hr
      exact wpAny_mono t (fun _ _ h => h.after st₁) fun _ _ h => h.after st₁

theorem Step.turn {k : Nat} {a : Addr} {o : O} {x : Obj} (st : St T g σ s.heap) (hk : g.mu[k]? = some a) (hs : Heap.SameBut a s.heap s'.heap) (hx : s'.heap.get? a = some x) (hr : RepO T g o x)
    (hg : s'.gens = s.gens := by rfl) (ho : s'.os = s.os := by rfl) : Step T g.mu fs g s g (σ.set k o) s' := by
  have hmem : a ∈ g.mu := List.mem_of_getElem? hk
  have hfz : g.fz a = none := st.ap a hmem
  refine ⟨.refl g, ⟨fun b y e => (hs.2 b fun q => by rw [q, hfz] at e; cases e).trans (st.fz b y e), by rw [List.length_set]; exact st.len, st.nd, st.ap, fun j b y e1 e2 => ?_, st.base⟩, ⟨fun b y e => ?_, fun b y e nb _ => (hs.2 b fun q => nb (q ▸ hmem)).trans e, fun b y e nb _ => ⟨y.slots, (hs.2 b fun q => nb (q ▸ hmem)).trans e⟩⟩, .refl .., hg, ho⟩
  · by_cases q : j = k
    · subst q
      rw [hk] at e1; cases e1
      rw [List.getElem?_set] at e2
      simp only [if_true] at e2
      split at e2
      · cases e2; exact ⟨x, hx, hr⟩
      · cases e2
    · rw [List.getElem?_set_ne (fun h => q h.symm)] at e2
      obtain ⟨z, h1, h2⟩ := st.ob j b y e1 e2
      refine ⟨z, (hs.2 b fun q' => q ?_).trans h1, h2⟩
      subst q'
      obtain ⟨l1, m1⟩ := List.getElem?_eq_some_iff.mp e1
      obtain ⟨l2, m2⟩ := List.getElem?_eq_some_iff.mp hk
      exact (List.getElem_inj st.nd).mp (m1.trans m2.symm)
  · by_cases q : b = a
    · rw [q]; exact ⟨x, hx⟩
    · exact ⟨y, (hs.2 b q).trans e⟩

noncomputable def methId : Meth → String
  | .append => "list.append"
  | .join => "str.join"
  | .clear => "list.clear"
  | .partition => "str.partition"
  | .find => "str.find"
  | .split => "str.split"

theorem one_of {v : V} {xs : List Value} (r : RepVs T g [v] xs) : ∃ x, xs = [x] ∧ RepV T g v x := by
  cases xs with
  | nil => exact r.elim
  | cons x xs => cases xs with
    | nil => exact ⟨x, rfl, r.1⟩
    | cons _ _ => exact r.2.elim

theorem append_sim {k : Nat} {u : V} {a : Addr} {y : Value} (st : St T g σ s.heap) (hk : g.mu[k]? = some a) (ry : RepV T g u y) : Sim T fs L A g s (call (.builtin "list.append") [.ref a, y]) (RepV T) (appendTo k u σ σ[k]?) := by
  cases e : σ[k]? with
  | none => exact Sim.bad
  | some ob => cases ob with
  | dead => exact Sim.bad
  | list ws =>
  obtain ⟨o, ho, ys, m', q, hr, hl⟩ := st.ob k a _ hk e
  subst q
  show Sim T fs L A g s _ _ (if ws.length < line then _ else _)
  split
  · rename_i hlt
    have hsz : ys.size = ws.length := by have := hr.length; simp at this; omega
    refine Sim.of (wpAny_list_append_plain ⟨m', ho⟩ (fun h' hp hs => ?_) (by rw [hsz, ← line_eq]; exact hl))
    obtain ⟨m'', ho'⟩ := hp
    refine ⟨g, .turn st hk hs ho' ⟨_, m'', rfl, ?_, by simp; omega⟩, rfl⟩
    rw [Array.toList_push]
    exact RepVs.append hr ⟨ry, trivial⟩
  · exact Sim.bad

theorem clear_sim {k : Nat} {a : Addr} (st : St T g σ s.heap) (hk : g.mu[k]? = some a) : Sim T fs L A g s (call (.builtin "list.clear") [.ref a]) (RepV T) (clearAt k σ σ[k]?) := by
  cases e : σ[k]? with
  | none => exact Sim.bad
  | some ob => cases ob with
  | dead => exact Sim.bad
  | list ws =>
  obtain ⟨o, ho, ys, m', q, hr, hl⟩ := st.ob k a _ hk e
  subst q
  have hsz : ys.size = ws.length := by have := hr.length; simp at this; omega
  have ho' := Heap.get?_update_self (Obj.mapSeq fun _ => #[]) ho rfl
  refine Sim.of (call_meets F.slot_list_clear ⟨_, ho, rfl⟩ F.entry_list_clear (F.args_list_clear_1 _) (AutoSeq1.list_clear_list_0 a ys m' (by rw [hsz, ← line_eq]; exact hl)) ⟨ho, ?_⟩)
  exact ⟨g, .turn (s' := { s with heap := s.heap.update a (Obj.mapSeq fun _ => #[]), toks := s.toks }) st hk (Heap.SameBut.update ..) ho' ⟨#[], _, rfl, trivial, Nat.zero_le _⟩, rfl⟩

theorem join_sim {z : Str} {t : Tok} {u : V} {y : Value} (st : St T g σ s.heap) (ry : RepV T g u y) : Sim T fs L A g s (call (.builtin "str.join") [.str z t, y]) (RepV T) (joinBy z u σ) := by
  unfold joinBy
  cases e : lstOf σ u with
  | none => exact Sim.bad
  | some ws =>
  obtain ⟨a, ys, rfl, ha1, ha2, hsz⟩ := lstOf_rep st ry e
  show Sim T fs L A g s _ _ (match strsV ws with | some ss => _ | none => _)
  cases e2 : strsV ws with
  | none => exact Sim.bad
  | some ss =>
  obtain ⟨h1, h2, h3⟩ := strsV_rep ha2 e2
  show Sim T fs L A g s _ _ (if JoinOk z ss then _ else _)
  split
  · rename_i hj
    obtain ⟨l, hl1, hl2⟩ : ∃ l : List (Str × Tok), strValues l = ys.toList ∧ l.map (·.1) = ss := by
      clear ha1 ha2 h2 h3 e e2 hsz hj
      generalize ys.toList = zs at h1
      induction h1 with
      | nil => exact ⟨[], rfl, rfl⟩
      | cons y t _ ih => obtain ⟨l, q1, q2⟩ := ih; exact ⟨(y, t) :: l, by rw [← q1]; rfl, by rw [← q2]; rfl⟩
    refine Sim.ofTok st fun Q h => SC.join (l := l) (texts := ss) (by rw [hl1]; simpa using ha1) hl2 hj fun t' k => h _ k ⟨t', rfl, by rw [line_eq]; exact joinOk_length hj⟩
  · exact Sim.bad

theorem strs_rep : ∀ {l : List (Str × Tok)}, (∀ p ∈ l.map (·.1), p.length ≤ line) → RepVs T g ((l.map (·.1)).map fun p => .d (.str p)) (strValues l)
  | [], _ => trivial
  | (x, t) :: l, h => ⟨⟨t, rfl, h x (by simp)⟩, strs_rep fun p hp => h p (List.mem_cons_of_mem _ hp)⟩

open Builtin Builtin.Str in
theorem call_split {x y : Str} {t u : Tok} {Q : Value → Shared → Prop} {E : Value → Shared → Prop} (hy : (y.length == 0) = false) (hz : x.length + 2 ≤ sizeLine)
    (h : ∀ l k, l.map (·.1) = Txt.split x y → Q (.ref s.heap.objs.size) { s with heap := s.heap.push { cls := .type "list", data := .seq (strValues l).toArray }, toks := k }) : wpAny (model T.prog T.w) A (call (.builtin "str.split") [.str x t, .str y u]) Q E s := by
  have go : ∀ {M}, Meets (Builtin.«str.split» ⟨[.str x t, .str y u], []⟩) M → M A (wants Q E) s → wpAny (model T.prog T.w) A (call (.builtin "str.split") [.str x t, .str y u]) Q E s := fun m q => call_meets F.slot_str_split (typeIs_str _ _ _) F.entry_str_split (F.args_str_split_2 _ _) m q
  have hx : x.length ≤ sizeLine := Nat.le_trans (Nat.le_add_right _ _) hz
  cases c1 : (decide (x.length < y.length) || decide (strKind x < strKind y)) with
  | true => exact go (meets_str_split_cannot_occur x y t u c1) (h [(x, t)] s.toks (if_pos c1).symm)
  | false =>
    cases c2 : (occurrences x y 0 x.length (x.length + 1)).isEmpty with
    | true => exact go (meets_str_split_not_found x y t u c1 hy c2) (h [(x, t)] s.toks (by unfold Txt.split; rw [if_neg (by rw [c1]; exact Bool.false_ne_true), if_pos c2]; rfl))
    | false =>
      refine go (meets_str_split_sep x y t u c1 hy c2 hx (by rw [length_partsBetween]; have := StrLaws.occ_length_le x y 0 x.length (x.length + 1); omega)) ?_
      show wants Q E _ { s with toks := _, heap := s.heap.push { cls := .type "list", data := .seq (strsFrom s.toks (partsBetween x (occurrences x y 0 x.length (x.length + 1)) y.length)).toArray } }
      rw [strsFrom_eq]
      refine h (numbered s.toks _) _ ((numbered_texts _ _).trans ?_)
      unfold Txt.split
      rw [if_neg (by rw [c1]; exact Bool.false_ne_true), if_neg (by rw [c2]; exact Bool.false_ne_true)]

open Builtin Builtin.Str in
theorem call_partition {x y : Str} {t u : Tok} {Q : Value → Shared → Prop} {E : Value → Shared → Prop} (hy : (y.length == 0) = false) (hz : x.length ≤ sizeLine)
    (h : ∀ ta tb tc k, Q (.ref s.heap.objs.size) { s with heap := s.heap.push { cls := .type "tuple", data := .seq [.str (Txt.partition x y).1 ta, .str (Txt.partition x y).2.1 tb, .str (Txt.partition x y).2.2 tc].toArray }, toks := k }) : wpAny (model T.prog T.w) A (call (.builtin "str.partition") [.str x t, .str y u]) Q E s := by
  refine call_meets F.slot_str_partition (typeIs_str _ _ _) F.entry_str_partition (F.args_str_partition_2 _ _) (meets_str_partition x y t u hy hz) ?_
  unfold Txt.partition at h
  generalize occurrences x y 0 x.length 1 = oc at h ⊢
  cases oc with
  | nil => exact h _ _ _ _
  | cons i r => exact h _ _ _ _

theorem split_sim {fz : Bool} {x y : Str} {t u : Tok} (st : St T g σ s.heap) (hx : x.length ≤ line) : Sim T fs L A g s (call (.builtin "str.split") [.str x t, .str y u]) (RepV T) (splitIn fz x y σ) := by
  unfold splitIn
  by_cases hq : (y.length == 0) = false ∧ x.length + 2 ≤ line
  · rw [if_pos hq]
    intro hr
    refine call_split hq.1 (by rw [← line_eq]; exact hq.2) fun l k hl => ?_
    refine made_list (fs := fs) (s' := { s with heap := s.heap.push { cls := .type "list", data := .seq (strValues l).toArray }, toks := k }) st (fun b x e => Heap.get?_push_of_some _ e) (Heap.get?_push_size _ rfl) (atSize _) ?_ hr
    rw [← hl]
    exact strs_rep (T := T) (g := g) fun p hp => Nat.le_trans (PyProof.Rows.part_short (hl ▸ hp)) hx
  · rw [if_neg hq]; exact Sim.bad

theorem part_sim {x y : Str} {t u : Tok} (st : St T g σ s.heap) (hx : x.length ≤ line) : Sim T fs L A g s (call (.builtin "str.partition") [.str x t, .str y u]) (RepV T) (partIn x y σ) := by
  unfold partIn
  by_cases hy : (y.length == 0) = false
  · rw [if_pos hy]
    obtain ⟨f1, f2, f3⟩ := PyProof.Rows.fact_partition x y
    refine Sim.of (call_partition hy (by rw [← line_eq]; exact hx) fun ta tb tc k => ?_)
    exact ⟨_, .put (s' := { s with heap := _, toks := k }) st (fun b x e => Heap.get?_push_of_some _ e) (Heap.get?_push_size _ rfl) (atSize _), ⟨_, _, _, _, rfl, G.put_self, rfl, rfl, ⟨⟨ta, rfl, Nat.le_trans f1 hx⟩, ⟨tb, rfl, Nat.le_trans f2 hx⟩, ⟨tc, rfl, Nat.le_trans f3 hx⟩, trivial⟩, by show 3 ≤ line; unfold line; omega⟩⟩
  · rw [if_neg hy]; exact Sim.bad

theorem strMeth_sim (m : Meth) {fz : Bool} {x y : Str} {t u : Tok} (st : St T g σ s.heap) (hx : x.length ≤ line) : Sim T fs L A g s (call (.builtin (methId m)) [.str x t, .str y u]) (RepV T) (strMeth m fz x y σ) := by
  cases m with
  | find => exact Sim.ofTok st fun Q h => SC.find (h _ _ ⟨_, rfl⟩)
  | partition => exact part_sim st hx
  | split => exact split_sim st hx
  | _ => exact Sim.bad

theorem meth_sim (m : Meth) (fz : Bool) {v : V} {x : Value} {vs : List V} {xs : List Value} (st : St T g σ s.heap) (r : RepV T g v x) (rs : RepVs T g vs xs) :
    Sim T fs L A g s (call (.builtin (methId m)) (x :: xs)) (RepV T) (methcall m fz v vs σ) := by
  cases vs with
  | nil =>
    cases xs with
    | cons _ _ => exact rs.elim
    | nil => cases m with
      | clear => cases v with
        | ref k => obtain ⟨a, hk, rfl⟩ := r; exact clear_sim st hk
        | _ => exact Sim.bad
      | _ => exact Sim.bad
  | cons u us => cases us with
  | cons _ _ => exact Sim.bad
  | nil =>
  obtain ⟨y, rfl, ry⟩ := one_of rs
  have hstr : Sim T fs L A g s (call (.builtin (methId m)) [x, y]) (RepV T) (match isStrV v with | some x => (match isStrV u with | some y => strMeth m fz x y σ | none => .bad) | none => .bad) := by
    cases ev : isStrV v with
    | none => exact Sim.bad
    | some z => cases eu : isStrV u with
    | none => exact Sim.bad
    | some z' =>
      obtain ⟨t, rfl, hz⟩ := isStrV_rep r ev
      obtain ⟨t', rfl, _⟩ := isStrV_rep ry eu
      exact strMeth_sim m st hz
  cases m with
  | append => cases v with
    | ref k => obtain ⟨a, hk, rfl⟩ := r; exact append_sim st hk ry
    | _ => exact Sim.bad
  | join =>
    show Sim T fs L A g s _ _ (match isStrV v with | some x => joinBy x u σ | none => .bad)
    cases ez : isStrV v with
    | none => exact Sim.bad
    | some z =>
    obtain ⟨t, rfl, hz⟩ := isStrV_rep r ez
    exact join_sim st ry
  | _ => exact hstr

theorem onList {v : V} {x : Value} {pos : Pos} {args : List (Bool × Sem Value)} {Q : Value → Shared → Prop} {E : Value → Shared → Prop} {name : Str} {id : String} (st : St T g σ s.heap) (r : RepV T g v x) (hp : methPre .append v σ = true)
    (slot : Slot "list" name id) (ty : typeOf (.builtin id) = pure (.type "method_descriptor")) (go : wpAny (model T.prog T.w) A (callWith pos (.builtin id) [x] args []) Q E s) : MethodOnS T.prog T.w A E name x pos args Q s := by
  cases v with
  | ref k =>
    obtain ⟨a, hk, rfl⟩ := r
    obtain ⟨ws, e⟩ := isListO_ok hp
    obtain ⟨ob, hob, ys, m', q, hr', hl⟩ := st.ob k a _ hk e
    subst q
    exact ⟨"list", id, F.plainAttrs_list, slot, ty, ⟨_, hob, rfl⟩, fun b q => by cases q; exact ⟨_, hob, rfl⟩, go⟩
  | _ => exact (Bool.false_ne_true hp).elim
theorem onStr {v : V} {x : Value} {pos : Pos} {args : List (Bool × Sem Value)} {Q : Value → Shared → Prop} {E : Value → Shared → Prop} {name : Str} {id : String} (r : RepV T g v x) (hp : methPre .join v σ = true)
    (slot : Slot "str" name id) (ty : typeOf (.builtin id) = pure (.type "method_descriptor")) (go : wpAny (model T.prog T.w) A (callWith pos (.builtin id) [x] args []) Q E s) : MethodOnS T.prog T.w A E name x pos args Q s := by
  have hp : (match isStrV v with | some _ => true | none => false) = true := hp
  cases ez : isStrV v with
  | none => rw [ez] at hp; exact (Bool.false_ne_true hp).elim
  | some z =>
  obtain ⟨t, rfl, hz⟩ := isStrV_rep r ez
  exact ⟨"str", id, F.plainAttrs_str, slot, ty, typeIs_str _ _ _, (fun _ e => nomatch e), go⟩

theorem base_plain {x : Expr} (h : isSuperCall x = false) (nm : Str) (env : Env) (w : Sem Value) : attributeBase x nm env w = w := by
  unfold attributeBase
  split
  · cases h
  · rfl

theorem se_meth (m : Meth) (fz : Bool) {o : E} {es : List E} (ho : SE o) (h : SEs es) : SE (.meth m fz o es) := by
  intro T K C fe own env A n ρ g σ s ex hc cx I hH
  cases hc with
  | @mk x ap vs pos h2 h3 h5 h6 h7 =>
    (first | rw [eA_1] | rw [eA_2] | rw [eA_3] | rw [eA_4] | rw [eA_5] | rw [eA_6] | rw [eA_7] | rw [eA_8] | rw [eA_9] | rw [eA_10] | rw [eA_11] | rw [eA_12] | rw [eA_13] | rw [eA_14] | rw [eA_15] | rw [eA_16] | rw [eA_17] | rw [eA_18] | rw [eA_19] | rw [eA_20] | rw [eA_21])
    intro hr
    refine wpAny_Call_method_lateS (base_plain h7 _ _ _) ?_ (by simpa using h5) ?_
    · rw [args_all pos env h3]
      simp only [backToKw, keywordEach, List.map_nil, List.all_nil, Bool.and_true, Bool.true_and, List.length_nil, Nat.add_zero, List.isEmpty_nil, if_true, decide_eq_true_eq]
      omega
    · refine wpAny_mono (ho _ h2 cx I hH (bind_ne hr)) (fun ov s₁ ⟨v, σ₁, g₁, e₁, st₁, r₁⟩ => ?_) fun _ _ h => h.bind
      rw [e₁] at hr ⊢
      have I₁ := I.step st₁
      have H₁ := hH.mono st₁.le
      have hp : methPre m v σ₁ = true := by
        cases q : methPre m v σ₁ with
        | true => rfl
        | false => exact absurd (by show (if methPre m v σ₁ then _ else Res.bad) = Res.bad; rw [q]; rfl) hr
      have e5 : (Res.ok v σ₁).bind (fun x σ => if methPre m x σ = true then (evalEs C es ρ σ).bind fun vs σ => methcall m fz x vs σ else Res.bad) = (evalEs C es ρ σ₁).bind fun vs σ => methcall m fz v vs σ := by
        show (if methPre m v σ₁ then _ else Res.bad) = _; rw [hp]; rfl
      rw [e5] at hr ⊢
      have go : wpAny (model T.prog T.w) A (callWith pos (.builtin (methId m)) [ov] (backTo pos (starEach vs env)) []) (fun x s' => OkR T (frsOf fe) g s (RepV T) (((evalEs C es ρ σ₁).bind fun vs σ => methcall m fz v vs σ)) x s')
          (fun x s' => ExR T (frsOf fe) env.frame g s (((evalEs C es ρ σ₁).bind fun vs σ => methcall m fz v vs σ)) x s') s₁ := by
        refine callWith_builtin (args_plain _ _ h3) (call_args h3 ?_)
        refine wpAny_mono ((h _ pos h3 cx I₁ H₁).use (k := fun xs => call (.builtin (methId m)) (ov :: xs)) (fun xs ws σ₂ g₂ s₂ _ st₂ r₂ => meth_sim m fz st₂.st (RepV.mono st₂.le _ _ r₁) r₂) hr)
          (fun xs s₂ hx => wpAny_mono hx (fun _ _ h => h.after st₁) fun _ _ h => h.after st₁)
          fun _ _ h => h.after st₁
      cases m with
      | append => exact onList st₁.st r₁ hp slot_list_append type_list_append go
      | clear => exact onList st₁.st r₁ hp F.slot_list_clear F.type_list_clear go
      | join => exact onStr (σ := σ₁) r₁ hp F.slot_str_join F.type_str_join go
      | partition => exact onStr (σ := σ₁) r₁ hp F.slot_str_partition F.type_str_partition go
      | find => exact onStr (σ := σ₁) r₁ hp F.slot_str_find F.type_str_find go
      | split => exact onStr (σ := σ₁) r₁ hp F.slot_str_split F.type_str_split go
end

end Mine

namespace Mine
open PySem PySem.Calls

noncomputable def SI (it : It) : Prop := ∀ {T : Top} {K : Kx} {C : Cfg} {fe : List Env} {own : List Addr} {env : Env} {A : Around} {n : Nat} {ρ : Vars} {g : G} {σ : Store} {s : Shared} (ex : Expr) (av : List Addr),
  IsI it K ex → Cx T K C fe env A n → Inv T fe own K.wr env K.vars ρ g σ s.heap → HOk g A → (∀ c, c ∈ av → ∃ o, s.heap.get? c = some o) → evalIt C it ρ σ ≠ .bad →
  wpAny (model T.prog T.w) A (eval ex env) (fun x s₁ => wpAny (model T.prog T.w) A (pyIter x) (fun v s₂ => ∃ vs σ' g' b its a, evalIt C it ρ σ = .ok vs σ' ∧ Step T g.mu (frsOf fe) g s g' σ' s₂ ∧ v = .ref a ∧
      ItOk T av g' s₂.heap C.hd b its a vs ∧ (∀ c, c ∈ its → s.heap.get? c = none) ∧ (b = true → isZipIt it = true))
    (fun x s' => ExR T (frsOf fe) env.frame g s (evalIt C it ρ σ) x s') s₁)
    (fun x s' => ExR T (frsOf fe) env.frame g s (evalIt C it ρ σ) x s') s

section
variable {T : Top} {K : Kx} {C : Cfg} {fe : List Env} {own av fs : List Addr} {env : Env} {A : Around} {n : Nat} {ρ : Vars} {g g' : G} {σ σ' : Store} {s s' : Shared} {L : Option Addr} {Er : Value → Shared → Prop}

theorem Lone.new (st : St T g σ s.heap) (hav : ∀ c, c ∈ av → ∃ o, s.heap.get? c = some o) {a : Addr} {o : Obj} (ha : s.heap.get? a = none) (h' : s'.heap.get? a = some o) : Lone av g s'.heap a := by
  refine ⟨⟨st.fz_none ha, st.mu_none ha, o, h'⟩, fun q => ?_⟩
  obtain ⟨o, e⟩ := hav a q
  rw [ha] at e; cases e

theorem list_drop_zero {α : Type} (xs : List α) : xs.drop 0 = xs := rfl

theorem src_of {v : V} {x : Value} {vs : Src} (st : St T g σ s.heap) (hav : ∀ c, c ∈ av → ∃ o, s.heap.get? c = some o) {hd : Bool} (r : RepV T g v x) (e : itemsOf hd σ v = some vs) {Q : Value → Shared → Prop}
    (h : ∀ a s₂ its, Step T g.mu fs g s g σ s₂ → ItOk T av g s₂.heap hd false its a vs → (∀ c, c ∈ its → s.heap.get? c = none) → Q (.ref a) s₂) : wpAny (model T.prog T.w) A (pyIter x) Q Er s := by
  have hsz := atSize s.heap
  have new1 : ∀ c, c ∈ [s.heap.objs.size] → s.heap.get? c = none := fun c hc => by rw [List.mem_singleton.mp hc]; exact hsz
  cases v with
  | d y => cases y with
    | list ys =>
      rw [← Option.some.inj (show some (Src.items (ys.map V.d)) = some vs from e)] at h
      obtain ⟨l, o, xs, m, rfl, hf, hc, hd', hr, hl⟩ := r
      exact wpAny_pyIter_list ⟨o, st.fz _ _ hf, hc, m, hd'⟩ (h _ _ [s.heap.objs.size] (.grow st fun b o e => Heap.get?_push_of_some _ e) (.list (Lone.new st hav hsz (Heap.get?_push_size _ rfl)) ⟨_, Heap.get?_push_size _ rfl, rfl, rfl⟩ hf hc hd' (RepVs.ofD hr)) new1)
    | tuple ys => cases hd with
      | true => exact none_ne e
      | false =>
      rw [← Option.some.inj (show some (Src.items (ys.map V.d)) = some vs from e)] at h
      obtain ⟨l, o, xs, m, rfl, hf, hc, hd', hr, hl⟩ := r
      exact wpAny_pyIter_tuple ⟨o, st.fz _ _ hf, hc, m, hd'⟩ (h _ _ [s.heap.objs.size] (.grow st fun b o e => Heap.get?_push_of_some _ e) (.tuple (Lone.new st hav hsz (Heap.get?_push_size _ rfl)) ⟨_, Heap.get?_push_size _ rfl, rfl, rfl⟩ hf hc hd' (RepVs.ofD hr)) new1)
    | str y => cases hd with
      | true => exact none_ne e
      | false =>
      rw [← Option.some.inj (show some (Src.items (y.cps.toList.map fun c => V.d (.str (chr1 c)))) = some vs from e)] at h
      obtain ⟨t, rfl, hl⟩ := r
      cases ha : y.cps.all (· < 128) with
      | true => exact wpAny_pyIter_ascii ha (h _ _ [s.heap.objs.size] (.grow st fun b o e => Heap.get?_push_of_some _ e) (.ascii (x := y) (i := 0) (Lone.new st hav hsz (Heap.get?_push_size _ rfl)) ⟨_, Heap.get?_push_size _ rfl, rfl, rfl⟩) new1)
      | false => exact wpAny_pyIter_wide ha (h _ _ [s.heap.objs.size] (.grow st fun b o e => Heap.get?_push_of_some _ e) (.wide (x := y) (i := 0) (Lone.new st hav hsz (Heap.get?_push_size _ rfl)) ⟨_, Heap.get?_push_size _ rfl, rfl, rfl⟩) new1)
    | _ => exact none_ne e
  | ref k =>
    obtain ⟨hb, rfl⟩ := if_some e
    obtain ⟨ws, ew⟩ := isListO_ok hb
    obtain ⟨l, hk, rfl⟩ := r
    obtain ⟨o, ho, xs, m, q, hr, hl⟩ := st.ob k l _ hk ew
    subst q
    exact wpAny_pyIter_list ⟨_, ho, rfl, m, rfl⟩ (h _ _ [s.heap.objs.size] (.grow st fun b o e => Heap.get?_push_of_some _ e) (.lref (Lone.new st hav hsz (Heap.get?_push_size _ rfl)) ⟨_, Heap.get?_push_size _ rfl, rfl, rfl⟩ hk) new1)
  | _ => exact none_ne e

theorem av_step {X : List Addr} (st : Step T X fs g s g' σ' s') (hav : ∀ c, c ∈ av → ∃ o, s.heap.get? c = some o) : ∀ c, c ∈ av → ∃ o, s'.heap.get? c = some o :=
  fun c hc => by obtain ⟨o, e⟩ := hav c hc; exact st.kept.alive c o e

theorem si_of {e : E} (h : SE e) : SI (.of e) := by
  intro T K C fe own env A n ρ g σ s ex av hc cx I hH hav hr
  have hc : IsE e K ex := hc
  (first | rw [eI_1] at hr ⊢ | rw [eI_2] at hr ⊢ | rw [eI_3] at hr ⊢ | rw [eI_4] at hr ⊢)
  refine wpAny_mono (h _ hc cx I hH (bind_ne hr)) (fun x s₁ ⟨v, σ₁, g₁, e₁, st₁, r₁⟩ => ?_) fun _ _ h => h.bind
  rw [e₁] at hr ⊢
  cases ei : itemsOf C.hd σ₁ v with
  | none => exact absurd (by simp only [Res.bind, ei]) hr
  | some xs =>
    refine src_of (fs := frsOf fe) st₁.st (av_step st₁ hav) r₁ ei fun a s₂ its st₂ it new => ?_
    exact ⟨xs, σ₁, g₁, false, its, a, by simp only [Res.bind, ei], st₁.trans st₂, rfl, it, fun c hc => st₁.kept.dead (new c hc), fun q => by cases q⟩

theorem rangeSmall {n : Int} (h : n ≤ 1000000 ∧ -1000000 ≤ n) : Builtin.Range.small 0 n 1 = true ∧ (Builtin.Range.rangeSize 0 n 1).toNat = n.toNat := by
  rw [rangeSize_one]
  unfold Builtin.Range.small Builtin.Range.rangeFitsLong
  rw [rangeSize_one]
  constructor
  · simp only [Bool.and_eq_true, Bool.or_eq_true, decide_eq_true_eq, beq_iff_eq]
    split <;> simp <;> omega
  · split <;> omega

theorem si_range {es : List E} (h : SEs es) : SI (.range es) := by
  intro T K C fe own env A n ρ g σ s ex av hc cx I hH hav hr
  cases hc with
  | @mk nm p vs pos h1 h2 h3 =>
    obtain ⟨h1, e⟩ := h1
    · skip
      (first | rw [eI_1] at hr ⊢ | rw [eI_2] at hr ⊢ | rw [eI_3] at hr ⊢ | rw [eI_4] at hr ⊢)
      refine PyProof.Rows.Call_Name rfl (load_gl cx I h1 e fun x hx => ?_)
      have hx : x = .type "range" := hx
      subst hx
      refine PyProof.Rows.callWith_type (args_plain _ _ h2) (call_args h2 ?_)
      refine wpAny_mono (h _ pos h2 cx I hH (bind_ne hr)) (fun xs s₁ ⟨ws, σ₁, g₁, e₁, st₁, r₁⟩ => ?_) fun _ _ h => h.bind
      rw [e₁] at hr ⊢
      cases ei : rangeOf C.hd ws with
      | none => exact absurd (by simp only [Res.bind, ei]) hr
      | some ys =>
        cases ws with
        | nil => exact none_ne ei
        | cons w ws => cases ws with
        | cons _ _ => exact none_ne ei
        | nil => cases ek : isIntV w with
        | none => have ei : (match isIntV w with | some n => if n ≤ 1000000 ∧ -1000000 ≤ n ∧ C.hd = false then some (rangeV 0 n.toNat) else none | none => none) = some ys := ei; rw [ek] at ei; exact none_ne ei
        | some k =>
          have ei : (match isIntV w with | some n => if n ≤ 1000000 ∧ -1000000 ≤ n ∧ C.hd = false then some (rangeV 0 n.toNat) else none | none => none) = some ys := ei
          rw [ek] at ei
          have ei : (if k ≤ 1000000 ∧ -1000000 ≤ k ∧ C.hd = false then some (rangeV 0 k.toNat) else none) = some ys := ei
          split at ei
          · rename_i hk
            cases ei
            obtain ⟨hs, hz⟩ := rangeSmall ⟨hk.1, hk.2.1⟩
            cases xs with
            | nil => exact r₁.elim
            | cons x xs =>
              cases xs with
              | cons _ _ => exact r₁.2.elim
              | nil =>
                obtain ⟨t, rfl⟩ := isIntV_rep r₁.1 ek
                show wpAny _ _ (call (.type "range") [.int k t] []) _ _ _
                refine call_range_1 ?_
                refine wpAny_pyIter_range (Heap.get?_push_size _ rfl) hs ?_
                generalize hs2 : ({ s₁ with heap := s₁.heap.push { cls := .type "range", data := .fields #[.int 0 s₁.toks, .int k t, .int 1 (s₁.toks + 1)] }, toks := s₁.toks + 1 + 1 } : Shared) = s₂
                have st2 : Step T g₁.mu (frsOf fe) g₁ s₁ g₁ σ₁ s₂ := by rw [← hs2]; exact .grow st₁.st fun b o e => Heap.get?_push_of_some _ e
                refine ⟨.items (rangeV 0 k.toNat), σ₁, g₁, false, [s₂.heap.objs.size], s₂.heap.objs.size, by simp [Res.bind, rangeOf, ek, hk.1, hk.2.1, hk.2.2], (st₁.trans st2).trans (.grow st2.st fun b o e => Heap.get?_push_of_some _ e), rfl, ?_, fun c hc => ?_, fun q => by cases q⟩
                · rw [← hz, hk.2.2]
                  exact .range (Lone.new st2.st (av_step st2 (av_step st₁ hav)) (atSize _) (Heap.get?_push_size _ rfl)) (Heap.get?_push_size _ rfl)
                · rw [List.mem_singleton.mp hc]
                  exact st₁.kept.dead (st2.kept.dead (atSize _))
          · cases ei

theorem dlist_rep {hd : Bool} {v : V} {x : Value} {vs : List V} (r : RepV T g v x) (e : dlist hd v = some vs) :
    hd = false ∧ ∃ l o xs n, x = .ref l ∧ g.fz l = some o ∧ o.cls = .type "list" ∧ o.data = .seq xs n ∧ RepVs T g vs xs.toList := by
  unfold dlist at e
  split at e
  · split at e
    · cases e
    · rename_i q
      cases e
      obtain ⟨l, o, xs, m, rfl, hf, hc, hd', hr, hl⟩ := r
      exact ⟨by simpa using q, l, o, xs, m, rfl, hf, hc, hd', RepVs.ofD hr⟩
  · cases e

theorem si_zip {a b : E} (ha : SE a) (hb : SE b) : SI (.zip a b) := by
  intro T K C fe own env A n ρ g σ s ex av hc cx I hH hav hr
  cases hc with
  | @mk nm p ex1 ex2 pos h1 h2 h3 h5 h6 =>
    obtain ⟨h1, e⟩ := h1
    · skip
      (first | rw [eI_1] at hr ⊢ | rw [eI_2] at hr ⊢ | rw [eI_3] at hr ⊢ | rw [eI_4] at hr ⊢)
      refine PyProof.Rows.Call_Name (trees := [(false, eval ex1 env), (false, eval ex2 env)]) (by rw [starEach_cons h5, starEach_cons h6]; rfl) (load_gl cx I h1 e fun x hx => ?_)
      have hx : x = .type "zip" := hx
      subst hx
      refine PyProof.Rows.callWith_type rfl (evalArgs_plain (spliced_cons ?_))
      refine wpAny_mono (ha _ h2 cx I hH (bind_ne hr)) (fun x s₁ ⟨v, σ₁, g₁, e₁, st₁, r₁⟩ => ?_) fun _ _ h => h.bind
      rw [e₁] at hr ⊢
      refine spliced_cons ?_
      refine wpAny_mono (hb _ h3 cx (I.step st₁) (hH.mono st₁.le) (bind_ne (r := evalE C b ρ σ₁) hr)) (fun y s₂ ⟨u, σ₂, g₂, e₂, st₂, r₂⟩ => ?_)
        fun _ _ h => (ExR.bind (h.after st₁) : ExR _ _ _ _ _ ((evalE C b ρ σ₁).bind _) _ _)
      simp only [Res.bind, e₂] at hr ⊢
      cases d1 : dlist C.hd v with
      | none => rw [d1] at hr; exact absurd rfl hr
      | some vs =>
        cases d2 : dlist C.hd u with
        | none => rw [d1, d2] at hr; exact absurd rfl hr
        | some ws =>
          obtain ⟨hd0, l1, o1, xs, n1, rfl, f1, c1, k1, q1⟩ := dlist_rep (RepV.mono st₂.le _ _ r₁) d1
          obtain ⟨_, l2, o2, ys, n2, rfl, f2, c2, k2, q2⟩ := dlist_rep r₂ d2
          refine spliced_nil ?_
          show wpAny _ _ (call (.type "zip") [.ref l1, .ref l2] []) _ _ _
          refine call_zip_2 ⟨o1, st₂.st.fz _ _ f1, c1, n1, k1⟩ ⟨o2, st₂.st.fz _ _ f2, c2, n2, k2⟩ fun h' hz hTI hTO t1 t2 hsz hk => ?_
          refine wpAny_pyIter_zip hz ?_
          have gone : ∀ j, s₂.heap.get? (s₂.heap.objs.size + j) = none := fun j => Heap.get?_none_of_le (Nat.le_add_right _ _)
          have st3 : Step T g₂.mu (frsOf fe) g₂ s₂ g₂ σ₂ { s₂ with heap := h' } := .grow st₂.st hk
          have hav' := av_step st₂ (av_step st₁ hav)
          have lo : ∀ j o, h'.get? (s₂.heap.objs.size + j) = some o → Lone av g₂ h' (s₂.heap.objs.size + j) := fun j o e => Lone.new (s' := { s₂ with heap := h' }) st₂.st hav' (gone j) e
          have ne : ∀ l o, g₂.fz l = some o → ∀ j, l ≠ s₂.heap.objs.size + j := fun l o e j q => by have := st₂.st.fz _ _ e; rw [q, gone j] at this; cases this
          have D : ZipApart (s₂.heap.objs.size + 4) (s₂.heap.objs.size + 2) (s₂.heap.objs.size + 3) (s₂.heap.objs.size) (s₂.heap.objs.size + 1) l1 l2 := by
            constructor <;> first
              | exact ne _ _ f1 4 | exact ne _ _ f1 3 | exact ne _ _ f1 0 | exact ne _ _ f1 1
              | exact ne _ _ f2 4 | exact ne _ _ f2 3 | exact ne _ _ f2 0 | exact ne _ _ f2 1
              | (show (_ : Nat) ≠ _; omega)
          have a1 := id t1
          have a2 := id t2
          obtain ⟨oi1, hi1, _⟩ := a1
          obtain ⟨oi2, hi2, _⟩ := a2
          refine ⟨.items (zipV vs ws), σ₂, g₂, true, [s₂.heap.objs.size + 4, s₂.heap.objs.size + 3, s₂.heap.objs.size, s₂.heap.objs.size + 1, s₂.heap.objs.size + 2], s₂.heap.objs.size + 4, rfl, st₁.trans (st₂.trans st3), rfl, ?_, fun c hc => ?_, fun _ => rfl⟩
          · rw [hd0]
            exact .zip (lo 4 _ hz) (lo 2 _ hTI) (lo 3 _ hTO) (lo 0 _ hi1) (lo 1 _ hi2) (.mk D hz hTI hTO t1 t2 f1 c1 k1 f2 c2 k2 q1 q2)
          · refine st₁.kept.dead (st₂.kept.dead ?_)
            simp only [List.mem_cons, List.not_mem_nil, or_false] at hc
            rcases hc with rfl | rfl | rfl | rfl | rfl
            · exact gone 4
            · exact gone 3
            · exact gone 0
            · exact gone 1
            · exact gone 2

theorem si_enum {a : E} (ha : SE a) : SI (.enum a) := by
  intro T K C fe own env A n ρ g σ s ex av hc cx I hH hav hr
  cases hc with
  | @mk nm p xs pos h1 h2 h3 => cases h2 with
  | @mk ex1 l c1 c2 c3 =>
    cases c3
    obtain ⟨h1, e⟩ := h1
    rw [eI_3] at hr ⊢
    refine PyProof.Rows.Call_Name (trees := [(false, eval ex1 env)]) (by rw [starEach_cons c2]; rfl) (load_gl cx I h1 e fun x hx => ?_)
    have hx : x = .type "enumerate" := hx
    subst hx
    refine PyProof.Rows.callWith_type rfl (evalArgs_plain (spliced_cons ?_))
    refine wpAny_mono (ha _ c1 cx I hH (bind_ne hr)) (fun x s₁ ⟨v, σ₁, g₁, e₁, st₁, r₁⟩ => ?_) fun _ _ h => h.bind
    rw [e₁] at hr ⊢
    cases d1 : dlist C.hd v with
    | none => exact absurd (by show (match dlist C.hd v with | some xs => (.ok (.items (enumV 0 xs)) σ₁ : Res Src) | none => .bad) = _; rw [d1]) hr
    | some vs =>
      obtain ⟨hd0, l1, o1, xs, n1, rfl, f1, c1, k1, q1⟩ := dlist_rep r₁ d1
      refine spliced_nil ?_
      show wpAny _ _ (call (.type "enumerate") [.ref l1] []) _ _ _
      refine call_enumerate_list ⟨o1, st₁.st.fz _ _ f1, c1, n1, k1⟩ fun h' he hit hsz hk => ?_
      refine wpAny_pyIter_enum he ?_
      have gone : ∀ j, s₁.heap.get? (s₁.heap.objs.size + j) = none := fun j => Heap.get?_none_of_le (Nat.le_add_right _ _)
      have st3 : Step T g₁.mu (frsOf fe) g₁ s₁ g₁ σ₁ { s₁ with heap := h' } := .grow st₁.st hk
      have hav' := av_step st₁ hav
      have a1 := id hit
      obtain ⟨oi, hi, _⟩ := a1
      refine ⟨.items (enumV 0 vs), σ₁, g₁, true, [s₁.heap.objs.size + 1, s₁.heap.objs.size], s₁.heap.objs.size + 1, by show (match dlist C.hd v with | some xs => (.ok (.items (enumV 0 xs)) σ₁ : Res Src) | none => .bad) = _; rw [d1], st₁.trans st3, rfl, ?_, fun c hc => ?_, fun _ => rfl⟩
      · rw [hd0]
        exact .enum (Lone.new (s' := { s₁ with heap := h' }) st₁.st hav' (gone 1) he) (Lone.new (s' := { s₁ with heap := h' }) st₁.st hav' (gone 0) hi) (Nat.ne_of_gt (Nat.lt_succ_self _)) he hit f1 c1 k1 q1
      · refine st₁.kept.dead ?_
        rcases List.mem_cons.mp hc with rfl | hc
        · exact gone 1
        · rw [List.mem_singleton.mp hc]; exact gone 0

theorem pyIter_self {hd b : Bool} {its : List Addr} {a : Addr} {vs : Src} {Q : Value → Shared → Prop} (I : ItOk T av g s.heap hd b its a vs) (h : Q (.ref a) s) : wpAny (model T.prog T.w) A (pyIter (.ref a)) Q Er s := by
  cases I with
  | list _ it => exact wpAny_pyIter_listiter it h
  | tuple _ it => exact wpAny_pyIter_tupleiter it h
  | lref _ it => exact wpAny_pyIter_listiter it h
  | enum _ _ _ he => exact wpAny_pyIter_enum he h
  | ascii _ it => exact wpAny_pyIter_striter_ascii it h
  | wide _ it => exact wpAny_pyIter_striter_wide it h
  | range _ it => exact wpAny_pyIter_rangeiter it h
  | zip _ _ _ _ _ z =>
    cases z with
    | mk _ hz => exact wpAny_pyIter_zip hz h
end

end Mine

namespace Mine
open PySem PySem.Calls

section
variable {T : Top} {K : Kx} {C : Cfg} {fe : List Env} {own av fs X : List Addr} {wr : List Str} {env : Env} {A : Around} {n : Nat} {ρ ρ' : Vars} {g g' : G} {σ σ' : Store} {s s' : Shared} {L : Option Addr} {Er : Value → Shared → Prop}

theorem canWr_ok (h : env.scope.names = K.names) {i : Nat} {nm : Str} (hc : K.canWr i nm = true) : K.vars[i]? = some nm ∧ nm ∈ K.wr ∧ (env.kindOf nm = some .local ∨ env.kindOf nm = some .cell) := by
  unfold Kx.canWr at hc
  simp only [Bool.and_eq_true] at hc
  obtain ⟨⟨h1, h2⟩, h3⟩ := hc
  refine ⟨?_, by simpa using h2, ?_⟩
  · split at h1
    · rename_i m e; rw [e]; simp at h1; rw [h1]
    · cases h1
  · rw [kindOf_names h]
    split at h3
    · rename_i e; exact .inl e
    · rename_i e; exact .inr e
    · cases h3

theorem assign_name {i : Nat} {nm : Str} {p : Pos} {v : V} {x : Value} {Q : Unit → Shared → Prop} (I : Inv T fe own K.wr env K.vars ρ g σ s.heap) (hn : env.scope.names = K.names) (hc : K.canWr i nm = true) (r : RepV T g v x)
    (h : ∀ s', Step T (g.mu ++ own) fs g s g σ s' → Inv T fe own K.wr env K.vars (ρ.set i (some v)) g σ s'.heap → Q () s') : wpAny (model T.prog T.w) A (assign (.Name nm p) env x) Q Er s := by
  obtain ⟨h1, h2, h3⟩ := canWr_ok hn hc
  rw [arm_assign_Name]
  exact wpAny_bind (wpAny_standAt (wpAny_bindName (store_name I h1 h2 h3 r h)))

theorem assign_names (hn : env.scope.names = K.names) {ts : List Nat} {es : List Expr} (hc : IsNs K ts es) : ∀ (vs : List V) (xs : List Value) (ρ : Vars) (s : Shared) (Q : Unit → Shared → Prop), Inv T fe own K.wr env K.vars ρ g σ s.heap →
    RepVs T g vs xs → vs.length = ts.length → (∀ s', Step T (g.mu ++ own) fs g s g σ s' → Inv T fe own K.wr env K.vars (setTs ρ ts vs) g σ s'.heap → Q () s') →
    wpAny (model T.prog T.w) A (assignInOrder ((assignEach es env).map (·.2)) xs) Q Er s := by
  induction hc with
  | nil =>
    intro vs xs ρ s Q I r hl h
    cases vs with
    | cons _ _ => cases hl
    | nil => cases xs with
      | cons _ _ => exact r.elim
      | nil => exact wpAny_pure (h s (.refl I.st) I)
  | @cons i nm p ts l h1 h2 ih =>
    intro vs xs ρ s Q I r hl h
    cases vs with
    | nil => cases hl
    | cons v vs => cases xs with
      | nil => exact r.elim
      | cons x xs =>
        show wpAny _ _ (holding xs (assign (.Name nm p) env x) >>= fun _ => assignInOrder ((assignEach l env).map (·.2)) xs) _ _ _
        refine wpAny_bind (wpAny_holding (assign_name (fs := fs) I hn h1 r.1 fun s₁ st₁ I₁ => ?_))
        exact ih vs xs _ s₁ Q I₁ r.2 (Nat.succ.inj hl) fun s' st' I' => h s' (st₁.transO st') I'

theorem chkNs_len {ts : List Nat} {es : List Expr} (hc : IsNs K ts es) : (assignEach es env).length = ts.length ∧ (assignEach es env).findIdx? (·.1) = none := by
  induction hc with
  | nil => exact ⟨rfl, rfl⟩
  | @cons i nm p ts l h1 h2 ih =>
    refine ⟨congrArg (· + 1) ih.1, ?_⟩
    show ((false, assign (.Name nm p) env) :: assignEach l env).findIdx? (·.1) = none
    rw [List.findIdx?_cons, ih.2]; rfl

theorem tupOf_rep {v : V} {x : Value} {vs : List V} (st : St T g σ s.heap) (r : RepV T g v x) (e : tupOf v = some vs) : ∃ t xs, x = .ref t ∧ s.heap.IsTuple t xs ∧ RepVs T g vs xs.toList := by
  unfold tupOf at e
  split at e
  · cases e
    obtain ⟨a, o, xs, m, rfl, hf, hc, hd, hr, hl⟩ := r
    exact ⟨a, xs, rfl, ⟨o, st.fz _ _ hf, hc, m, hd⟩, RepVs.ofD hr⟩
  · cases e
    obtain ⟨a, o, xs, m, rfl, hf, hc, hd, hr, hl⟩ := r
    exact ⟨a, xs, rfl, ⟨o, st.fz _ _ hf, hc, m, hd⟩, hr⟩
  · cases e

theorem Step.ext_size (st : St T g σ s.heap) (h : Heap.ExtBut s.heap.objs.size s.heap s'.heap) (hg : s'.gens = s.gens := by rfl) (ho : s'.os = s.os := by rfl) : Step T X fs g s g σ s' :=
  .grow st (fun b o e => h b o (fun q => by rw [q, atSize] at e; cases e) e) hg ho

theorem assign_ts {hd : Bool} {ts : List Nat} {t : Expr} {v : V} {x : Value} {Q : Unit → Shared → Prop} (I : Inv T fe own K.wr env K.vars ρ g σ s.heap) (hn : env.scope.names = K.names) (hh : hd = false → A.handled = none)
    (hc : IsT K ts t) (r : RepV T g v x) (hb : bindTs hd ρ ts v = some ρ')
    (h : ∀ s', Step T (g.mu ++ own) (frsOf fe) g s g σ s' → Inv T fe own K.wr env K.vars ρ' g σ s'.heap → Q () s') : wpAny (model T.prog T.w) A (assign t env x) Q Er s := by
  cases hc with
  | one hc =>
    simp only [bindTs, Option.some.injEq] at hb
    subst hb
    exact assign_name I hn hc r h
  | @more _ es k p hc hl1 =>
    unfold bindTs at hb
    split at hb
    · exact absurd rfl hl1
    · split at hb
      · cases hb
      · rename_i hhd
        split at hb
        · rename_i vs e
          split at hb
          · rename_i hl
            cases hb
            obtain ⟨a, xs, rfl, ht, hr⟩ := tupOf_rep I.st r e
            obtain ⟨l1, l2⟩ := chkNs_len (env := env) hc
            refine wpAny_assign_Tuple (hh (by simpa using hhd)) ht (by rw [l1, ← hl, hr.length]; simp) l2 fun h' he => ?_
            have st1 : Step T g.mu (frsOf fe) g s g σ { s with heap := h' } := .ext_size I.st he
            exact assign_names hn hc vs xs.toList ρ _ Q (I.step st1) hr hl fun s' st' I' => h s' (st1.toO.transO st') I'
          · cases hb
        · cases hb

theorem zip_tup {it : It} {ts : List Nat} {t : Expr} {b : Bool} (h1 : IsT K ts t) (h7 : zipOk ts it = true) (hz : b = true → isZipIt it = true) (hb : b = true) : ∃ es c p, t = .Tuple es c p := by
  cases h1 with
  | more _ _ => exact ⟨_, _, _, rfl⟩
  | one _ =>
    unfold zipOk at h7
    rw [if_pos (hz hb)] at h7
    exact (Bool.false_ne_true h7).elim

noncomputable def cellsAv (env : Env) : List Addr := env.scope.names.filterMap fun p => match env.kindOf p.1 with | some .cell => env.cells.lookup p.1 | some .free => env.cells.lookup p.1 | _ => none
noncomputable def avOf (fe : List Env) (own : List Addr) (env : Env) : List Addr := frsOf fe ++ (own ++ cellsAv env)

theorem mem_cellsAv {nm : Str} {c : Addr} (hk : env.kindOf nm = some .cell ∨ env.kindOf nm = some .free) (hc : env.cells.lookup nm = some c) : c ∈ cellsAv env := by
  have hm : ∃ k, (nm, k) ∈ env.scope.names := by
    have : ∃ k, env.scope.names.lookup nm = some k := by rcases hk with h | h <;> exact ⟨_, h⟩
    obtain ⟨k, h⟩ := this
    exact ⟨k, mem_of_lookup h⟩
  obtain ⟨k, hm⟩ := hm
  refine List.mem_filterMap.mpr ⟨(nm, k), hm, ?_⟩
  rcases hk with h | h <;> simp [h, hc]
theorem of_cellsAv {c : Addr} (h : c ∈ cellsAv env) : ∃ nm, (env.kindOf nm = some .cell ∨ env.kindOf nm = some .free) ∧ env.cells.lookup nm = some c := by
  obtain ⟨p, _, hp⟩ := List.mem_filterMap.mp h
  split at hp
  · rename_i e; exact ⟨p.1, .inl e, hp⟩
  · rename_i e; exact ⟨p.1, .inr e, hp⟩
  · cases hp

theorem FrOk.mem {h : Heap} : ∀ {l : List Env} {c : Addr}, FrOk g h l → c ∈ frsOf l → Apart g h c
  | e :: r, c, ⟨_, ⟨L, o, hf, ho, _, h1, h2⟩, hr⟩, hc => by
    unfold frsOf at hc
    rw [List.filterMap_cons_some hf] at hc
    rcases List.mem_cons.mp hc with rfl | hc
    · exact ⟨h1, h2, o, ho⟩
    · exact FrOk.mem hr hc

theorem Inv.avAp (I : Inv T fe own wr env K.vars ρ g σ s.heap) : ∀ c, c ∈ avOf fe own env → Apart g s.heap c := by
  intro c hc
  rcases List.mem_append.mp hc with h | h
  · exact I.fr.mem h
  · rcases List.mem_append.mp h with h | h
    · exact I.oap c h
    · obtain ⟨nm, hk, hl⟩ := of_cellsAv h
      obtain ⟨c', v, h1, _, h3⟩ := I.blk.cell nm hk
      rw [hl] at h1; cases h1; exact h3

theorem FrOk.keep {h h' : Heap} : ∀ {l : List Env}, (∀ c o, c ∈ frsOf l → h.get? c = some o → ∃ sl, h'.get? c = some { o with slots := sl }) → (∀ c, c ∈ frsOf l → Apart g' h' c) → FrOk g h l → FrOk g' h' l
  | [], _, _, _ => trivial
  | e :: r, kp, ap, ⟨k, ⟨L, o, hf, ho, hd, h1, h2⟩, hr⟩ => by
    have hm : L ∈ frsOf (e :: r) := by unfold frsOf; rw [List.filterMap_cons_some hf]; exact List.mem_cons_self ..
    obtain ⟨sl, e1⟩ := kp L o hm ho
    have a := ap L hm
    have sub : ∀ c, c ∈ frsOf r → c ∈ frsOf (e :: r) := fun c hc => by unfold frsOf; rw [List.filterMap_cons_some hf]; exact List.mem_cons_of_mem _ hc
    exact ⟨k, ⟨L, _, hf, e1, hd, a.1, a.2.1⟩, FrOk.keep (fun c o hc => kp c o (sub c hc)) (fun c hc => ap c (sub c hc)) hr⟩

theorem Inv.keep {h' : Heap} (I : Inv T fe own wr env K.vars ρ g σ s.heap) (le : G.le g g') (st : St T g' σ' h') (ap : ∀ c, c ∈ avOf fe own env → Apart g' h' c)
    (kp : ∀ c o, c ∈ avOf fe own env → s.heap.get? c = some o → ∃ sl, h'.get? c = some { o with slots := sl }) : Inv T fe own wr env K.vars ρ g' σ' h' := by
  have mo : ∀ c, c ∈ own → c ∈ avOf fe own env := fun c h => List.mem_append.mpr (.inr (List.mem_append.mpr (.inl h)))
  have mc : ∀ c, c ∈ cellsAv env → c ∈ avOf fe own env := fun c h => List.mem_append.mpr (.inr (List.mem_append.mpr (.inr h)))
  have mf : ∀ c, c ∈ frsOf fe → c ∈ avOf fe own env := fun c h => List.mem_append.mpr (.inl h)
  refine ⟨st, I.fr.keep (fun c o hc => kp c o (mf c hc)) fun c hc => ap c (mf c hc), I.top, ⟨I.blk.kind, I.blk.glob, I.blk.blt, ap _ (mo _ I.oloc), ?_, fun nm hk => ?_, I.blk.cinj⟩, fun i nm v hi hv => ?_, I.nd, I.oloc, I.ocell, fun a ha => ap a (mo a ha)⟩
  · obtain ⟨m, hm⟩ := I.blk.ns
    exact ⟨m, ns_slots hm fun o ho => kp _ o (mo _ I.oloc) ho⟩
  · obtain ⟨c, v, h1, h2, h3⟩ := I.blk.cell nm hk
    have hc := mc c (mem_cellsAv hk h1)
    exact ⟨c, v, h1, cell_slots h2 fun o ho => kp _ o hc ho, ap c hc⟩
  · obtain ⟨h1, h2⟩ := I.sees i nm v hi hv
    refine ⟨fun hk => ?_, fun hk => ?_⟩
    · obtain ⟨m, y, hm, hy, hr⟩ := h1 hk
      exact ⟨m, y, ns_slots hm fun o ho => kp _ o (mo _ I.oloc) ho, hy, RepV.mono le _ _ hr⟩
    · obtain ⟨c, y, hc, hy, hr⟩ := h2 hk
      exact ⟨c, y, hc, cell_slots hy fun o ho => kp _ o (mc c (mem_cellsAv hk hc)) ho, RepV.mono le _ _ hr⟩

theorem Inv.far (x : Step T X (frsOf fe) g s g' σ' s') (hX : ∀ a, a ∈ X → a ∈ g.mu ∨ a ∉ avOf fe own env) (I : Inv T fe own wr env K.vars ρ g σ s.heap) : Inv T fe own wr env K.vars ρ g' σ' s'.heap := by
  refine I.keep x.le x.st (fun c hc => (I.avAp c hc).step x) fun c o hc ho => ?_
  have ha := I.avAp c hc
  have hn : c ∉ X := fun q => (hX c q).elim ha.2.1 fun h => h hc
  by_cases hf : c ∈ frsOf fe
  · exact x.kept.slots c o ho hn hf
  · exact ⟨o.slots, x.kept.same c o ho hn hf⟩

theorem Inv.less (I : Inv T fe own wr env K.vars ρ g σ s.heap) (h : ∀ (i : Nat) (v : V), ρ'[i]? = some (some v) → ρ[i]? = some (some v)) : Inv T fe own wr env K.vars ρ' g σ s.heap :=
  ⟨I.st, I.fr, I.top, I.blk, fun i nm v hi hv => I.sees i nm v hi (h i v hv), I.nd, I.oloc, I.ocell, I.oap⟩

theorem ItOk.avoid {av' : List Addr} {hd b : Bool} {its : List Addr} {a : Addr} {vs : Src} {h : Heap} (I : ItOk T av g h hd b its a vs) (hn : ∀ c, c ∈ its → c ∉ av') : ItOk T av' g h hd b its a vs := by
  cases I with
  | list h1 h2 h3 h4 h5 h6 => exact .list ⟨h1.1, hn _ (by simp)⟩ h2 h3 h4 h5 h6
  | tuple h1 h2 h3 h4 h5 h6 => exact .tuple ⟨h1.1, hn _ (by simp)⟩ h2 h3 h4 h5 h6
  | enum z1 z2 ne h1 h2 h3 h4 h5 h6 => exact .enum ⟨z1.1, hn _ (by simp)⟩ ⟨z2.1, hn _ (by simp)⟩ ne h1 h2 h3 h4 h5 h6
  | lref h1 h2 h3 => exact .lref ⟨h1.1, hn _ (by simp)⟩ h2 h3
  | ascii h1 h2 => exact .ascii ⟨h1.1, hn _ (by simp)⟩ h2
  | wide h1 h2 => exact .wide ⟨h1.1, hn _ (by simp)⟩ h2
  | range h1 h2 => exact .range ⟨h1.1, hn _ (by simp)⟩ h2
  | zip z1 z2 z3 z4 z5 h => exact .zip ⟨z1.1, hn _ (by simp)⟩ ⟨z2.1, hn _ (by simp)⟩ ⟨z3.1, hn _ (by simp)⟩ ⟨z4.1, hn _ (by simp)⟩ ⟨z5.1, hn _ (by simp)⟩ h

theorem St.rest {h h' : Heap} {its : List Addr} (st : St T g σ h) (hl : ∀ c, c ∈ its → g.fz c = none ∧ c ∉ g.mu) (hk : ∀ c o, c ∉ its → h.get? c = some o → h'.get? c = some o) : St T g σ h' := by
  refine ⟨fun c o e => hk c o (fun q => by rw [(hl c q).1] at e; cases e) (st.fz c o e), st.len, st.nd, st.ap, fun k c o e1 e2 => ?_, st.base⟩
  obtain ⟨x, h1, h2⟩ := st.ob k c o e1 e2
  exact ⟨x, hk c x (fun q => (hl c q).2 (List.mem_of_getElem? e1)) h1, h2⟩

theorem Step.rest {its : List Addr} {h' : Heap} (x : Step T X fs g s g' σ' s') (hl : ∀ c, c ∈ its → g'.fz c = none ∧ c ∉ g'.mu) (hn : ∀ c, c ∈ its → s.heap.get? c = none) (hk : ∀ c o, c ∉ its → s'.heap.get? c = some o → h'.get? c = some o) :
    Step T X fs g s g' σ' { s' with heap := h' } := by
  have ni : ∀ c o, s.heap.get? c = some o → c ∉ its := fun c o e q => by rw [hn c q] at e; cases e
  refine ⟨x.le, x.st.rest hl hk, ⟨fun c o e => ?_, fun c o e nb nf => hk c o (ni c o e) (x.kept.same c o e nb nf), fun c o e nb hf => ?_⟩, x.new, x.gens, x.os⟩
  · obtain ⟨o', e'⟩ := x.kept.alive c o e
    exact ⟨o', hk c o' (ni c o e) e'⟩
  · obtain ⟨sl, e'⟩ := x.kept.slots c o e nb hf
    exact ⟨sl, hk c _ (ni c o e) e'⟩

theorem Inv.rest {its : List Addr} {h' : Heap} (I : Inv T fe own wr env K.vars ρ g σ s.heap) (hl : ∀ c, c ∈ its → g.fz c = none ∧ c ∉ g.mu) (ha : ∀ c, c ∈ its → c ∉ avOf fe own env) (hk : ∀ c o, c ∉ its → s.heap.get? c = some o → h'.get? c = some o) :
    Inv T fe own wr env K.vars ρ g σ h' := by
  have kp : ∀ c o, c ∈ avOf fe own env → s.heap.get? c = some o → h'.get? c = some o := fun c o hc e => hk c o (fun q => ha c q hc) e
  refine I.keep (.refl g) (I.st.rest hl hk) (fun c hc => ?_) fun c o hc e => ⟨o.slots, kp c o hc e⟩
  obtain ⟨h1, h2, o, h3⟩ := I.avAp c hc
  exact ⟨h1, h2, o, kp c o hc h3⟩
end

end Mine

namespace Mine
open PySem PySem.Calls

noncomputable def clOf (env : Env) : List (Str × NameKind) → List (Str × Addr) → List (Str × Addr)
  | [], acc => acc
  | (n, k) :: r, acc => clOf env r (if k == .free then (n, (env.cells.lookup n).getD 0) :: acc else acc)

theorem clOf_mem {env : Env} : ∀ {names : List (Str × NameKind)} {acc : List (Str × Addr)} {n : Str} {c : Addr}, (n, c) ∈ clOf env names acc → (n, c) ∈ acc ∨ ((n, NameKind.free) ∈ names ∧ c = (env.cells.lookup n).getD 0)
  | [], acc, n, c, h => .inl h
  | (m, k) :: r, acc, n, c, h => by
    rcases clOf_mem (names := r) h with h | ⟨h1, h2⟩
    · by_cases hk : (k == NameKind.free) = true
      · rw [if_pos hk] at h
        have hk' : k = .free := by simpa using hk
        rcases List.mem_cons.mp h with h | h
        · cases h; exact .inr ⟨by rw [hk']; exact List.mem_cons_self .., rfl⟩
        · exact .inl h
      · rw [if_neg hk] at h; exact .inl h
    · exact .inr ⟨List.mem_cons_of_mem _ h1, h2⟩
theorem clOf_acc {env : Env} : ∀ {names : List (Str × NameKind)} {acc : List (Str × Addr)} {p : Str × Addr}, p ∈ acc → p ∈ clOf env names acc
  | [], _, _, h => h
  | (m, k) :: r, acc, p, h => by
    refine clOf_acc (names := r) ?_
    split
    · exact List.mem_cons_of_mem _ h
    · exact h
theorem clOf_has {env : Env} : ∀ {names : List (Str × NameKind)} {acc : List (Str × Addr)} {n : Str}, (n, NameKind.free) ∈ names → (n, (env.cells.lookup n).getD 0) ∈ clOf env names acc
  | (m, k) :: r, acc, n, h => by
    rcases List.mem_cons.mp h with h | h
    · cases h
      show _ ∈ clOf env r (if (NameKind.free == NameKind.free) = true then _ else _)
      rw [if_pos (by decide)]
      exact clOf_acc (List.mem_cons_self ..)
    · exact clOf_has (names := r) h

theorem closureFor_eq {env : Env} (scope : Scope) (h : ∀ n, (n, NameKind.free) ∈ scope.names → ∃ c, env.cells.lookup n = some c) : closureFor scope env = pure (clOf env scope.names []) := by
  unfold closureFor
  have gen : ∀ (names : List (Str × NameKind)) (acc : List (Str × Addr)), (∀ n, (n, NameKind.free) ∈ names → ∃ c, env.cells.lookup n = some c) →
      (forIn names acc (fun x r => match x with
        | (name, kind) => if (kind == NameKind.free) = true then do
              let c ← cellOf env name
              pure (ForInStep.yield ((name, c) :: r))
            else pure (ForInStep.yield r)) : Sem (List (Str × Addr))) = pure (clOf env names acc) := by
    intro names
    induction names with
    | nil => intro acc _; rfl
    | cons p r ih =>
      intro acc hh
      obtain ⟨m, k⟩ := p
      rw [List.forIn_cons]
      by_cases hk : (k == NameKind.free) = true
      · have hk' : k = .free := by simpa using hk
        subst hk'
        obtain ⟨c, hc⟩ := hh m (List.mem_cons_self ..)
        have e : cellOf env m = pure c := by unfold cellOf; rw [hc]
        simp only [hk, if_true, e, pure_bind]
        rw [ih _ fun n hn => hh n (List.mem_cons_of_mem _ hn)]
        unfold clOf
        simp only [hk, if_true, hc, Option.getD_some]
        cases r <;> rfl
      · simp only [hk, if_false, pure_bind, Bool.false_eq_true]
        rw [ih _ fun n hn => hh n (List.mem_cons_of_mem _ hn)]
        conv => rhs; unfold clOf
        simp only [hk, if_false, Bool.false_eq_true]
  have := gen scope.names [] h
  simp only [bind_pure]
  exact this

end Mine

namespace Mine
open PySem PySem.Calls

structure ScOk (K : Kx) (ts : List Nat) (sc : Scope) : Prop where
  kind : sc.kind = .function
  loc : ∀ n, (n, NameKind.local) ∈ sc.names → n = (".0" : Str) ∨ ∃ i, i ∈ ts ∧ K.vars[i]? = some n
  fre : ∀ n, (n, NameKind.free) ∈ sc.names → K.names.lookup n = some .cell ∨ K.names.lookup n = some .free
  noc : ∀ p, p ∈ sc.names → p.2 ≠ .cell
  uni : ∀ p, p ∈ sc.names → sc.names.lookup p.1 = some p.2
  dot : (".0" : Str) ∉ K.vars
  tgt : ∀ i, i ∈ ts → ∃ m, K.vars[i]? = some m ∧ sc.names.lookup m = some .local

theorem scopeOk_ok {K : Kx} {ts : List Nat} {sc : Scope} (h : scopeOk K ts sc = true) : ScOk K ts sc := by
  unfold scopeOk at h
  simp only [Bool.and_eq_true, List.all_eq_true] at h
  obtain ⟨⟨⟨⟨h1, h2⟩, h3⟩, h4⟩, h5⟩ := h
  refine ⟨?_, fun n hn => ?_, fun n hn => ?_, fun p hp q => ?_, fun p hp => ?_, ?_, fun i hi => ?_⟩
  · split at h1
    · rename_i e; exact e
    · cases h1
  · have := h2 _ hn
    simp only [Bool.or_eq_true, beq_iff_eq, List.any_eq_true] at this
    refine this.imp id ?_
    rintro ⟨i, hi, hm⟩
    refine ⟨i, hi, ?_⟩
    split at hm
    · rename_i m e; rw [e]; simp at hm; rw [hm]
    · cases hm
  · have := h2 _ hn
    simp only at this
    split at this
    · rename_i e; exact .inl e
    · rename_i e; exact .inr e
    · cases this
  · have := h2 _ hp
    rw [q] at this
    cases this
  · have := h3 _ hp
    split at this
    · rename_i k e; rw [e]; simp at this; rw [this]
    · cases this
  · simpa using h4
  · have := h5 _ hi
    split at this
    · rename_i m e
      refine ⟨m, e, ?_⟩
      split at this
      · rename_i e'; exact e'
      · cases this
    · cases this

theorem rel_lookup (E : List (Str × NameKind)) (n : Str) : ∀ names : List (Str × NameKind), (relNames E names).lookup n = (names.lookup n).map fun k => if (k == .free && E.lookup n == some .cell) then .cell else k
  | [] => rfl
  | (m, k) :: r => by
    have ih := rel_lookup E n r
    unfold relNames at ih ⊢
    rw [List.map_cons]
    by_cases hm : n = m
    · subst hm
      by_cases hc : (k == .free && E.lookup n == some .cell) = true
      · simp only [hc, if_true, List.lookup_cons, beq_self_eq_true, Option.map_some]
      · simp only [hc, if_false, List.lookup_cons, beq_self_eq_true, Option.map_some, Bool.false_eq_true]
    · have hb : (n == m) = false := by simpa using hm
      by_cases hc : (k == .free && E.lookup m == some .cell) = true
      · simp only [hc, if_true, List.lookup_cons, hb]; exact ih
      · simp only [hc, if_false, List.lookup_cons, hb, Bool.false_eq_true]; exact ih

section
variable {T : Top} {K : Kx} {C : Cfg} {fe : List Env} {own av fs X : List Addr} {wr : List Str} {env : Env} {A : Around} {n : Nat} {ρ ρ' : Vars} {g g' : G} {σ σ' : Store} {s s' : Shared} {L : Option Addr} {Er : Value → Shared → Prop}

theorem relabel_names {sc : Scope} (hk : env.scope.kind = .function) (hn : env.scope.names = K.names) : (relabel sc env).names = relNames K.names sc.names := by
  unfold relabel relNames
  apply List.map_congr_left
  rintro ⟨m, k⟩ _
  simp only [hk, kindOf_names hn]
  cases k <;> simp

theorem clearTs_get : ∀ {ts : List Nat} {ρ : Vars} {i : Nat} {v : V}, (clearTs ρ ts)[i]? = some (some v) → i ∉ ts ∧ ρ[i]? = some (some v)
  | [], ρ, i, v, h => ⟨by simp, h⟩
  | j :: ts, ρ, i, v, h => by
    have h' : (clearTs (ρ.set j none) ts)[i]? = some (some v) := h
    obtain ⟨h1, h2⟩ := clearTs_get h'
    rcases vars_get h2 with ⟨q, e⟩ | ⟨q, e⟩
    · cases e
    · exact ⟨by simp [q, h1], e⟩

theorem setTs_get : ∀ {ts : List Nat} {vs : List V} {ρ : Vars} {i : Nat}, i ∉ ts → (setTs ρ ts vs)[i]? = ρ[i]?
  | [], vs, ρ, i, h => by cases vs <;> rfl
  | j :: ts, [], ρ, i, h => rfl
  | j :: ts, w :: vs, ρ, i, h => by
    show (setTs (ρ.set j (some w)) ts vs)[i]? = ρ[i]?
    have hj : j ≠ i := fun q => h (by simp [q])
    have hi : i ∉ ts := fun q => h (by simp [q])
    rw [setTs_get hi, List.getElem?_set_ne hj]

theorem bindTs_get {hd : Bool} {ts : List Nat} {v : V} (h : bindTs hd ρ ts v = some ρ') {i : Nat} {u : V} (hi : i ∉ ts) (hu : ρ[i]? = some (some u)) : ρ'[i]? = some (some u) := by
  unfold bindTs at h
  split at h
  · rename_i j
    cases h
    rw [List.getElem?_set_ne (fun q => hi (by simp [q]))]; exact hu
  · split at h
    · cases h
    · split at h
      · split at h
        · cases h; rw [setTs_get hi]; exact hu
        · cases h
      · cases h

theorem comp_inv {ts : List Nat} {sc : Scope} {Cc : Addr} {h' : Heap} (sk : ScOk K ts sc) (I : Inv T fe own K.wr env K.vars ρ g σ s.heap) (hn : env.scope.names = K.names)
    (hk : ∀ b o, s.heap.get? b = some o → h'.get? b = some o) (hC : s.heap.get? Cc = none) (hns : h'.Ns Cc (fun _ => none)) :
    Inv T fe [Cc] (K.sub ts sc).wr (compEnvC sc (clOf env sc.names []) Cc env) (K.sub ts sc).vars (clearTs ρ ts) g σ h' := by
  have stp : Step T g.mu (frsOf fe) g s g σ { s with heap := h' } := .grow I.st hk
  have nm : (compEnvC sc (clOf env sc.names []) Cc env).scope.names = relNames K.names sc.names := relabel_names I.blk.kind hn
  have kd : ∀ x, (compEnvC sc (clOf env sc.names []) Cc env).kindOf x = (sc.names.lookup x).map fun k => if (k == .free && K.names.lookup x == some .cell) then .cell else k := fun x => by
    unfold Env.kindOf; rw [nm]; exact rel_lookup _ _ _
  have apC : Apart g h' Cc := by
    obtain ⟨o, _, _, e, _⟩ := hns
    exact ⟨I.st.fz_none hC, I.st.mu_none hC, o, e⟩
  -- what the comprehension sees as a cell is one of the block around
  have outer : ∀ x, (compEnvC sc (clOf env sc.names []) Cc env).kindOf x = some .cell ∨ (compEnvC sc (clOf env sc.names []) Cc env).kindOf x = some .free →
      (env.kindOf x = some .cell ∨ env.kindOf x = some .free) ∧ (x, NameKind.free) ∈ sc.names := fun x hx => by
    rw [kd] at hx
    have hf : sc.names.lookup x = some .free := by
      cases e : sc.names.lookup x with
      | none => rw [e] at hx; rcases hx with h | h <;> cases h
      | some k =>
        have hm := mem_of_lookup e
        have hnc := sk.noc _ hm
        cases k with
        | free => rfl
        | cell => exact absurd rfl hnc
        | _ => rw [e] at hx; rcases hx with h | h <;> simp at h
    have hm := mem_of_lookup hf
    refine ⟨?_, hm⟩
    rw [kindOf_names hn]
    exact sk.fre x hm
  have look : ∀ x, (compEnvC sc (clOf env sc.names []) Cc env).kindOf x = some .cell ∨ (compEnvC sc (clOf env sc.names []) Cc env).kindOf x = some .free →
      ∀ c, (compEnvC sc (clOf env sc.names []) Cc env).cells.lookup x = some c → env.cells.lookup x = some c := fun x hx c hc => by
    obtain ⟨h1, h2⟩ := outer x hx
    obtain ⟨c', _, hl, _⟩ := I.blk.cell x h1
    have hm := mem_of_lookup (show (clOf env sc.names []).lookup x = some c from hc)
    rcases clOf_mem hm with h | ⟨_, h⟩
    · simp at h
    · rw [hl] at h; rw [hl, h]; rfl
  have look' : ∀ x c, (compEnvC sc (clOf env sc.names []) Cc env).cells.lookup x = some c → (x, NameKind.free) ∈ sc.names ∧ env.cells.lookup x = some c := fun x c hc => by
    have hm := mem_of_lookup (show (clOf env sc.names []).lookup x = some c from hc)
    rcases clOf_mem hm with h | ⟨h1, h⟩
    · simp at h
    · have hk' : env.kindOf x = some .cell ∨ env.kindOf x = some .free := by rw [kindOf_names hn]; exact sk.fre x h1
      obtain ⟨c', _, hl, _⟩ := I.blk.cell x hk'
      rw [hl] at h
      exact ⟨h1, by rw [hl, h]; rfl⟩
  have has : ∀ x, (x, NameKind.free) ∈ sc.names → ∃ c, (compEnvC sc (clOf env sc.names []) Cc env).cells.lookup x = some c := fun x hx => by
    have hm := clOf_has (env := env) (acc := []) hx
    cases e : (clOf env sc.names []).lookup x with
    | some c => exact ⟨c, e⟩
    | none =>
      exfalso
      have : ∀ l : List (Str × Addr), l.lookup x = none → ∀ c, (x, c) ∉ l := by
        intro l
        induction l with
        | nil => intro _ c h; cases h
        | cons p r ih =>
          intro hl c hc
          rw [List.lookup_cons] at hl
          split at hl
          · cases hl
          · rename_i hne
            rcases List.mem_cons.mp hc with h | h
            · rw [← h] at hne; simp at hne
            · exact ih hl c h
      exact this _ e _ hm
  have I' : Inv T fe own K.wr env K.vars ρ g σ h' := I.step stp
  refine ⟨I'.st, I'.fr, I.top, ⟨?_, I.blk.glob, I.blk.blt, apC, ⟨_, hns⟩, fun x hx => ?_, fun x y c hx hy => ?_⟩, fun i x v hi hv => ?_, I.nd, by simp [compEnvC], fun x hx c hk' _ => ?_, fun a ha => ?_⟩
  · show (relabel sc env).kind = .function
    exact sk.kind
  · obtain ⟨h1, h2⟩ := outer x hx
    obtain ⟨c, hc⟩ := has x h2
    have hl := look x hx c hc
    obtain ⟨c', v, q1, q2, q3⟩ := I'.blk.cell x h1
    rw [hl] at q1; cases q1
    exact ⟨c, v, hc, q2, q3⟩
  · exact I.blk.cinj x y c (look' x c hx).2 (look' y c hy).2
  · obtain ⟨hni, hv'⟩ := clearTs_get hv
    refine ⟨fun hl => ?_, fun hl => ?_⟩
    · exfalso
      rw [kd] at hl
      have hloc : (x, NameKind.local) ∈ sc.names := by
        cases e : sc.names.lookup x with
        | none => rw [e] at hl; cases hl
        | some k =>
          rw [e] at hl
          cases k with
          | «local» => exact mem_of_lookup e
          | free =>
            simp only [Option.map_some, Option.some.injEq] at hl
            split at hl <;> cases hl
          | _ => simp at hl
      rcases sk.loc x hloc with h | ⟨j, hj, hjv⟩
      · subst h
        exact sk.dot (List.mem_of_getElem? hi)
      · exact hni (nodup_inj I.nd hi hjv ▸ hj)
    · obtain ⟨h1, h2⟩ := outer x hl
      obtain ⟨c, hc⟩ := has x h2
      have hcl := look x hl c hc
      obtain ⟨c', y, q1, q2, q3⟩ := (I'.sees i x v hi hv').2 h1
      rw [hcl] at q1; cases q1
      exact ⟨c, y, hc, q2, q3⟩
  · exfalso
    obtain ⟨i, hi, hx'⟩ := List.mem_filterMap.mp (show x ∈ ts.filterMap fun i => K.vars[i]? from hx)
    obtain ⟨m, hm, hloc⟩ := sk.tgt i hi
    rw [hm] at hx'; cases hx'
    rw [kd, hloc] at hk'
    simp at hk'
  · rw [List.mem_singleton.mp ha]; exact apC
end

end Mine

namespace Mine
open PySem PySem.Calls

abbrev testsOf (ifs : List Expr) (env : Env) (b : Bool) : Sem Bool :=
  forIn ifs b fun c r => if r = true then do let ok ← isTrue c env (eval c env); pure (ForInStep.yield ok) else pure (ForInStep.yield r)

theorem compLoop_any {prog : Program} {w : World} {A : Around} {R : Result → Shared → Prop} {s : Shared} {elt target iter : Expr} {ifs : List Expr} {scope : Scope} {pos : Pos} {it acc : Value} {env : Env} (I : Nat → Shared → Prop)
    (turn : ∀ n s, I n s → wpAny (model prog w) A (pyNext it) (fun r s₁ => match r with
      | none => R (.ok .next) s₁
      | some v => wpAny (model prog w) A (letOwnedTupleGo target it v) (fun _ s₁' => wpAny (model prog w) A (assign target env v) (fun _ s₂ =>
          wpAny (model prog w) A (testsOf ifs env true) (fun ok s₃ =>
            if ok = true then wpAny (model prog w) A (eval elt env) (fun x s₄ =>
              wpAny (model prog w) A (call (.builtin "list.append") [acc, x]) (fun _ s₅ => ∃ m, m < n ∧ I m s₅) (fun _ _ => False) s₄) (fun _ _ => False) s₃
            else ∃ m, m < n ∧ I m s₃) (fun _ _ => False) s₂) (fun _ _ => False) s₁') (fun _ _ => False) s₁) (fun _ _ => False) s)
    (n : Nat) (h : I n s) : codeAny (model prog w) A (.compLoop (.ListComp elt [⟨target, iter, ifs, 0⟩] scope pos) 0 it acc env) R s := by
  refine codeAny_loop rfl I (fun n s hI => ?_) n h
  show wpAny _ A ((compTurn (.ListComp elt [⟨target, iter, ifs, 0⟩] scope pos) 0 it acc env).onRaise (fun x => do noteFrame x env; theTreesLotGoes x)) _ _ s
  refine wpAny_noted ?_
  rw [compTurn_list]
  refine wpAny_bind (wpAny_standAt (wpAny_bind (wpAny_mono (turn n s hI) (fun r s₁ h₁ => ?_) fun _ _ h' => h'.elim)))
  cases r with
  | none => exact wpAny_pure h₁
  | some v =>
    refine wpAny_bind (wpAny_mono h₁ (fun _ s₁' h₁' => ?_) fun _ _ h' => h'.elim)
    refine wpAny_bind (wpAny_mono h₁' (fun _ s₂ h₂ => wpAny_bind (wpAny_mono h₂ (fun ok s₃ h₃ => ?_) fun _ _ h' => h'.elim)) fun _ _ h' => h'.elim)
    cases ok with
    | false => exact wpAny_pure ⟨rfl, h₃⟩
    | true =>
      exact wpAny_bind (wpAny_bind (wpAny_mono h₃ (fun x s₄ h₄ => wpAny_bind (wpAny_mono h₄ (fun _ s₅ h₅ => wpAny_pure (wpAny_pure ⟨rfl, h₅⟩)) fun _ _ h' => h'.elim)) fun _ _ h' => h'.elim))

theorem testsOf_false (env : Env) : ∀ ifs : List Expr, testsOf ifs env false = pure false
  | [] => rfl
  | c :: r => by
    show (forIn (c :: r) false _ : Sem Bool) = _
    rw [List.forIn_cons]
    simp only [Bool.false_eq_true, if_false, pure_bind]
    exact testsOf_false env r

section
variable {T : Top} {K : Kx} {C : Cfg} {fe : List Env} {own av fs X : List Addr} {wr : List Str} {env : Env} {A : Around} {n : Nat} {ρ ρ' : Vars} {g g' : G} {σ σ' : Store} {s s' : Shared} {L : Option Addr} {Er : Value → Shared → Prop}

theorem tests_sim : ∀ {ifs : List E}, SAll ifs → ∀ (xs : List Expr) (g : G) (σ : Store) (s : Shared), IsEs ifs K xs → Cx T K C fe env A n → Inv T fe own K.wr env K.vars ρ g σ s.heap → HOk g A →
    Sim T (frsOf fe) env.frame A g s (testsOf xs env true) IsB (evalIfs C ifs ρ σ) := by
  intro ifs
  induction ifs with
  | nil =>
    intro _ xs g σ s hc cx I hH
    cases hc
    (first | rw [eF_1] | rw [eF_2])
    exact Sim.pure I.st rfl
  | cons e r ih =>
    intro h xs g σ s hc cx I hH
    cases hc with
    | @mk x l c1 c2 c3 =>
      (first | rw [eF_1] | rw [eF_2])
      intro hr
      show wpAny _ _ (forIn (x :: l) true _ : Sem Bool) _ _ _
      rw [List.forIn_cons]
      simp only [if_true]
      have t := h.1.2 _ c1 cx I hH
      have hr' : (evalE C e ρ σ).bind toB ≠ .bad := fun q => hr (by
        cases hq : evalE C e ρ σ with
        | ok v σ' =>
          rw [hq] at q
          simp only [Res.bind, toB] at q ⊢
          cases h2 : truth σ' v with
          | none => rfl
          | some b => rw [h2] at q; cases q
        | exc c σ' => rw [hq] at q; cases q
        | bad => rfl)
      refine wpAny_bind (wpAny_bind (wpAny_mono (t hr') (fun b s₁ ⟨b', σ₁, g₁, e₁, st₁, r₁⟩ => wpAny_pure ?_) fun q s' ⟨cc, σ', g', e', st', fl⟩ => ⟨cc, σ', g', ?_, st', fl⟩))
      · have r₁ : b = b' := r₁
        subst r₁
        cases hq : evalE C e ρ σ with
        | exc c σ' => rw [hq] at e₁; cases e₁
        | bad => rw [hq] at e₁; cases e₁
        | ok v σ' =>
          rw [hq] at e₁ hr
          simp only [Res.bind, toB] at e₁
          cases h2 : truth σ' v with
          | none => rw [h2] at e₁; cases e₁
          | some b'' =>
            rw [h2] at e₁; cases e₁
            simp only [Res.bind, h2] at hr ⊢
            cases b with
            | false =>
              show wpAny _ _ (testsOf l env false) _ _ _
              rw [testsOf_false]
              exact wpAny_pure ⟨false, σ₁, g₁, rfl, st₁, rfl⟩
            | true =>
              exact wpAny_mono (ih h.2 l g₁ σ₁ s₁ c3 cx (I.step st₁) (hH.mono st₁.le) hr) (fun _ _ h => h.after st₁) fun _ _ h => h.after st₁
      · cases hq : evalE C e ρ σ with
        | ok v σ' =>
          rw [hq] at e'
          simp only [Res.bind, toB] at e'
          cases h2 : truth σ' v with
          | none => rw [h2] at e'; cases e'
          | some b'' => rw [h2] at e'; cases e'
        | exc c' σ' => rw [hq] at e'; cases e'; rfl
        | bad => rw [hq] at e'; cases e'

theorem made_own {fz : Bool} {D : Addr} {xs : Array Value} {m : Nat} {vs : List V} {h : Heap} (st : St T g σ h) (hD : Apart g h D) (ho : h.get? D = some { cls := .type "list", dict := none, data := .seq xs m, slots := #[] }) (hr : RepVs T g vs xs.toList)
    (hb : mkList fz vs σ ≠ .bad) : ∃ v σ' g', mkList fz vs σ = .ok v σ' ∧ St T g' σ' h ∧ G.le g g' ∧ RepV T g' v (.ref D) ∧ (∀ a, a ∈ g'.mu → a ∈ g.mu ∨ a = D) ∧ (∀ a o, g'.fz a = some o → g.fz a = some o ∨ a = D) := by
  unfold mkList at hb ⊢
  by_cases hl : vs.length ≤ line
  · rw [if_pos hl] at hb ⊢
    cases fz with
    | true =>
      cases hd : allD vs with
      | none => rw [hd] at hb; exact absurd rfl hb
      | some ds =>
        have le : G.le g (g.put D { cls := .type "list", dict := none, data := .seq xs m, slots := #[] }) := .put hD.1
        refine ⟨_, σ, g.put D _, rfl, ⟨fun b x e => ?_, st.len, st.nd, fun b hb => ?_, fun k b x e1 e2 => ?_, fun b x e => le.fz b x (st.base b x e)⟩, le, ⟨D, _, xs, m, rfl, G.put_self, rfl, rfl, RepDs.mono le.fz _ _ (RepDs.ofV hr hd), by rw [(RepDs.ofV hr hd).length, ← hr.length]; exact hl⟩, fun _ h => .inl h, fun a o e => ?_⟩
        · by_cases q : b = D
          · subst q
            have e' : (if b = b then some _ else g.fz b) = some x := e
            rw [if_pos rfl] at e'; cases e'; exact ho
          · have e' : (if b = D then _ else g.fz b) = some x := e
            rw [if_neg q] at e'
            exact st.fz b x e'
        · show (if b = D then _ else g.fz b) = none
          rw [if_neg (fun (q : b = D) => hD.2.1 (q ▸ hb))]
          exact st.ap b hb
        · obtain ⟨y, h1, h2⟩ := st.ob k b x e1 e2
          exact ⟨y, h1, RepO.mono le _ _ h2⟩
        · by_cases q : a = D
          · exact .inr q
          · have e' : (if a = D then _ else g.fz a) = some o := e
            rw [if_neg q] at e'
            exact .inl e'
    | false =>
      refine ⟨_, _, g.add D, rfl, ⟨st.fz, by simp [G.add, st.len], ?_, fun b hb => ?_, fun k b y e1 e2 => ?_, st.base⟩, .add, ⟨D, ?_, rfl⟩, fun a ha => ?_, fun a o e => .inl e⟩
      · show (g.mu ++ [D]).Nodup
        rw [List.nodup_append]
        exact ⟨st.nd, by simp, fun x hx y hy q => hD.2.1 (by simp only [List.mem_singleton] at hy; rw [← hy, ← q]; exact hx)⟩
      · rcases List.mem_append.mp (show b ∈ g.mu ++ [D] from hb) with q | q
        · exact st.ap b q
        · rw [List.mem_singleton.mp q]; exact hD.1
      · have e1' : (g.mu ++ [D])[k]? = some b := e1
        by_cases hkl : k < g.mu.length
        · rw [List.getElem?_append_left hkl] at e1'
          rw [List.getElem?_append_left (st.len ▸ hkl)] at e2
          obtain ⟨z, h1, h2⟩ := st.ob k b y e1' e2
          exact ⟨z, h1, RepO.mono .add _ _ h2⟩
        · have hk' : k = g.mu.length := by
            have := (List.getElem?_eq_some_iff.mp e1').1
            simp at this; omega
          subst hk'
          rw [List.getElem?_append_right (Nat.le_refl _)] at e1'
          rw [st.len, List.getElem?_append_right (Nat.le_refl _)] at e2
          simp only [Nat.sub_self, List.getElem?_cons_zero, Option.some.injEq] at e1' e2
          subst e1' e2
          exact ⟨_, ho, xs, m, rfl, RepVs.mono .add _ _ hr, hl⟩
      · show (g.mu ++ [D])[σ.length]? = some D
        rw [← st.len, List.getElem?_append_right (Nat.le_refl _), Nat.sub_self]; rfl
      · rcases List.mem_append.mp (show a ∈ g.mu ++ [D] from ha) with q | q
        · exact .inl q
        · exact .inr (List.mem_singleton.mp q)
  · rw [if_neg hl] at hb; exact absurd rfl hb
end

end Mine

namespace Mine
open PySem PySem.Calls

section
variable {T : Top} {K : Kx} {C : Cfg} {fe : List Env} {own av fs X : List Addr} {wr : List Str} {env : Env} {A : Around} {n : Nat} {ρ ρ' : Vars} {g g' : G} {σ σ' : Store} {s s' : Shared} {L : Option Addr} {Er : Value → Shared → Prop}

theorem compGo_noexc {f : V → Store → Res (Option V)} : ∀ (n : Nat) (vs : Src) (σ : Store) {c : Nat} {σ' : Store} (_ : Unit), compS f n vs σ ≠ .exc c σ'
  | 0, _, _, c, σ', _ => fun h => nomatch h
  | n + 1, src, σ, c, σ', _ => by
    show compOne (compS f n) f σ (src.next σ) ≠ _
    cases src.next σ with
    | none => exact fun h => nomatch h
    | some o => cases o with
    | none => exact fun h => nomatch h
    | some p =>
    unfold compOne
    dsimp only
    cases f p.1 σ with
    | ok x σ₁ =>
      dsimp only
      cases compS f n p.2 σ₁ with
      | ok _ _ => exact fun h => nomatch h
      | bad => exact fun h => nomatch h
      | exc _ _ => exact fun h => nomatch h
    | exc _ _ => exact fun h => nomatch h
    | bad => exact fun h => nomatch h

structure CompAt (T : Top) (fe : List Env) (K' : Kx) (cenv : Env) (Cc D : Addr) (its : List Addr) (a : Addr) (hd b : Bool) (ρc : Vars) (f : V → Store → Res (Option V)) (whole : Res (List V)) (g₀ : G) (s₀ : Shared)
    (n : Nat) (vs : Src) (ys : List V) (xs : Array Value) (g : G) (σ : Store) (s : Shared) : Prop where
  eq : whole = (match compS f n vs σ with | .ok zs σ' => .ok (ys ++ zs) σ' | _ => .bad)
  step : Step T g₀.mu (frsOf fe) g₀ s₀ g σ s
  inv : Inv T fe [Cc] K'.wr cenv K'.vars ρc g σ s.heap
  it : ItOk T (D :: avOf fe [Cc] cenv) g s.heap hd b its a vs
  list : s.heap.PlainList D xs
  rep : RepVs T g ys xs.toList
  ap : Apart g s.heap D

theorem comp_turns {elt : E} {ifs : List E} {ts : List Nat} (he : SE elt) (hf : SAll ifs) {K' : Kx} {cenv : Env} {Cc D a : Addr} {its : List Addr} {b fz : Bool} {x t i : Expr} {cs : List Expr} {sc : Scope} {pos : Pos} {g₀ : G} {s₀ : Shared}
    {Q : Value → Shared → Prop} {whole : Res (List V)} (cx : Cx T K' C fe cenv A n) (hH : HOk g₀ A)
    (h4 : IsT K' ts t) (h5 : IsE elt K' x) (h6 : IsEs ifs K' cs) (ht : b = true → ∃ es c p, t = .Tuple es c p)
    (hw : whole.bind (fun ys σ => mkList fz ys σ) ≠ .bad) (hDn : s₀.heap.get? D = none) (hCn : s₀.heap.get? Cc = none) (hin : ∀ c, c ∈ its → s₀.heap.get? c = none) (hDa : D ∉ avOf fe [Cc] cenv)
    (hQ : ∀ s', (OkR T (frsOf fe) g₀ s₀ (RepV T) (whole.bind (fun ys σ => mkList fz ys σ)) (.ref D) s') → Q (.ref D) s')
    {s : Shared} (h : ∃ nf vs ys xs g σ, CompAt T fe K' cenv Cc D its a C.hd b (clearTs ρ ts) (compStep C.hd ρ ts (fun ρ σ => evalIfs C ifs ρ σ) (fun ρ σ => evalE C elt ρ σ)) whole g₀ s₀ nf vs ys xs g σ s) (hloc : cenv.locals = Cc) :
    codeAny (model T.prog T.w) A (.compLoop (.ListComp x [⟨t, i, cs, 0⟩] sc pos) 0 (.ref a) (.ref D) cenv) (compPost (model T.prog T.w) A Er none Q (.ref D) Cc) s := by
  have hCa : Cc ∈ avOf fe [Cc] cenv := List.mem_append.mpr (.inr (List.mem_append.mpr (.inl (List.mem_singleton.mpr rfl))))
  have hDC : D ≠ Cc := fun q => hDa (q ▸ hCa)
  have hfa : ∀ c, c ∈ frsOf fe → c ∈ avOf fe [Cc] cenv := fun c h => List.mem_append.mpr (.inl h)
  have hDf : D ∉ frsOf fe := fun q => hDa (hfa D q)
  have hwb : whole ≠ .bad := fun q => hw (by rw [q]; rfl)
  obtain ⟨n₁, vs₁, ys₁, xs₁, g₁, σ₁, h⟩ := h
  refine compLoop_any (I := fun k s => ∃ vs ys xs g σ, CompAt T fe K' cenv Cc D its a C.hd b (clearTs ρ ts) (compStep C.hd ρ ts (fun ρ σ => evalIfs C ifs ρ σ) (fun ρ σ => evalE C elt ρ σ)) whole g₀ s₀ k vs ys xs g σ s) ?_ n₁ ⟨vs₁, ys₁, xs₁, g₁, σ₁, h⟩
  rintro k s ⟨vs, ys, xs, g, σ, P⟩
  have HH := hH.mono P.step.le
  have itn : ∀ c, c ∈ its → c ∉ D :: avOf fe [Cc] cenv := fun c hc => (P.it.lone c hc).2
  have itl : ∀ c, c ∈ its → g.fz c = none ∧ c ∉ g.mu := fun c hc => ⟨(P.it.lone c hc).1.1, (P.it.lone c hc).1.2.1⟩
  cases k with
  | zero => exact absurd P.eq hwb
  | succ k =>
  generalize hF : compStep C.hd ρ ts (fun ρ σ => evalIfs C ifs ρ σ) (fun ρ σ => evalE C elt ρ σ) = F at P
  have eqk : whole = (match compOne (compS F k) F σ (vs.next σ) with | .ok zs σ' => .ok (ys ++ zs) σ' | _ => .bad) := P.eq
  refine draw (fs := frsOf fe) (target := t) HH cx.ha.handled P.inv.st P.it ht (fun q => hwb (by rw [eqk, q]; rfl)) (fun e h' hk => ?_) fun v rest e xv s₁ lt => ?_
  · -- the end
    have eqw : whole = .ok ys σ := by rw [eqk, e]; show Res.ok (ys ++ []) σ = _; rw [List.append_nil]
    rw [eqw] at hw hQ
    obtain ⟨m, hm⟩ := P.inv.blk.ns
    rw [hloc] at hm
    have nC : ∀ c, c ∈ its → c ≠ Cc := fun c hc q => itn c hc (List.mem_cons_of_mem _ (q ▸ hCa))
    have nD : ∀ c, c ∈ its → c ≠ D := fun c hc q => itn c hc (by rw [q]; exact List.mem_cons_self ..)
    have hCi : Cc ∉ its := fun q => nC Cc q rfl
    have hDi : D ∉ its := fun q => nD D q rfl
    refine ⟨m, ?_, fun h'' hs'' => ?_⟩
    · obtain ⟨o, es, ep, ho, r⟩ := hm
      exact ⟨o, es, ep, hk Cc o hCi ho, r⟩
    · -- all but the loop's own things is as it was
      have kk : ∀ c o, c ∉ Cc :: its → s.heap.get? c = some o → h''.get? c = some o := fun c o hc e =>
        (hs''.2 c fun q => hc (by rw [q]; exact List.mem_cons_self ..)).trans (hk c o (fun q => hc (List.mem_cons_of_mem _ q)) e)
      have ll : ∀ c, c ∈ Cc :: its → g.fz c = none ∧ c ∉ g.mu := fun c hc => by
        rcases List.mem_cons.mp hc with rfl | hc
        · have := P.inv.oap c (List.mem_singleton.mpr rfl); exact ⟨this.1, this.2.1⟩
        · exact itl c hc
      have nn : ∀ c, c ∈ Cc :: its → s₀.heap.get? c = none := fun c hc => by
        rcases List.mem_cons.mp hc with rfl | hc
        · exact hCn
        · exact hin c hc
      have stp := P.step.rest ll nn kk
      obtain ⟨mm, hDo⟩ := P.list
      have hDo' : h''.get? D = some _ := kk D _ (fun q => by rcases List.mem_cons.mp q with q | q; exact hDC q; exact hDi q) hDo
      obtain ⟨v, σ', g', e1, e2, e3, e4, e5, e6⟩ := made_own (fz := fz) stp.st ⟨P.ap.1, P.ap.2.1, _, hDo'⟩ hDo' P.rep hw
      refine hQ _ ⟨v, σ', g', e1, ⟨stp.le.trans e3, e2, stp.kept, ⟨fun c hc => ?_, fun c o hc => ?_⟩, stp.gens, stp.os⟩, e4⟩
      · rcases e5 c hc with q | q
        · exact stp.new.mu c q
        · exact .inr (q ▸ hDn)
      · rcases e6 c o hc with q | q
        · exact stp.new.fz c o q
        · exact .inr (.inl (q ▸ hDn))
  · -- one turn
    have eqs : whole = (match F v σ with
        | .ok x σ => (match compS F k rest σ with | .ok xs σ => .ok (ys ++ (match x with | some y => y :: xs | none => xs)) σ | _ => .bad)
        | _ => .bad) := by
      rw [eqk, e]
      unfold compOne
      dsimp only
      cases F v σ with
      | ok y σ' => dsimp only; cases compS F k rest σ' <;> rfl
      | exc => rfl
      | bad => rfl
    refine lt _ _ fun g₂ s₂ st₂ it₂ r₂ => ?_
    have farX : ∀ c, c ∈ g.mu ++ its → c ∈ g.mu ∨ c ∉ avOf fe [Cc] cenv := fun c hc => (List.mem_append.mp hc).imp id fun h q => itn c h (List.mem_cons_of_mem _ q)
    have I₂ := Inv.far st₂ farX P.inv
    have D₂ : Apart g₂ s₂.heap D := P.ap.step st₂
    have nDX : D ∉ g.mu ++ its := fun q => (List.mem_append.mp q).elim P.ap.2.1 fun h => itn D h (List.mem_cons_self ..)
    have L₂ : s₂.heap.PlainList D xs := by obtain ⟨m, ho⟩ := P.list; exact ⟨m, st₂.kept.same D _ ho nDX hDf⟩
    have S₂ : Step T g₀.mu (frsOf fe) g₀ s₀ g₂ σ s₂ := P.step.transW st₂ fun c hc => (List.mem_append.mp hc).elim (fun h => P.step.new.mu c h) fun h => .inr (hin c h)
    have R₂ : RepVs T g₂ ys xs.toList := RepVs.mono st₂.le _ _ P.rep
    cases eb : bindTs C.hd (clearTs ρ ts) ts v with
    | none => exact absurd (by rw [eqs, ← hF]; simp only [compStep, eb]) hwb
    | some ρ₃ =>
    refine assign_ts I₂ cx.names cx.ha.handled h4 r₂ eb fun s₃ st₃ I₃ => ?_
    have inX : ∀ c, c ∈ g₂.mu ++ [Cc] → c ∈ g₂.mu ∨ c ∈ D :: avOf fe [Cc] cenv := fun c hc => (List.mem_append.mp hc).imp id fun h => by rw [List.mem_singleton.mp h]; exact List.mem_cons_of_mem _ hCa
    have fin' : ∀ c, c ∈ frsOf fe → c ∈ D :: avOf fe [Cc] cenv := fun c h => List.mem_cons_of_mem _ (hfa c h)
    have it₃ := it₂.step st₃ inX fin'
    have D₃ : Apart g₂ s₃.heap D := D₂.step st₃
    have L₃ : s₃.heap.PlainList D xs := by obtain ⟨m, ho⟩ := L₂; exact ⟨m, st₃.kept.same D _ ho (fun q => (List.mem_append.mp q).elim D₂.2.1 fun h => hDC (List.mem_singleton.mp h)) hDf⟩
    have S₃ : Step T g₀.mu (frsOf fe) g₀ s₀ g₂ σ s₃ := S₂.transW st₃ fun c hc => (List.mem_append.mp hc).elim (fun h => S₂.new.mu c h) fun h => .inr (by rw [List.mem_singleton.mp h]; exact hCn)
    have H₃ := hH.mono S₃.le
    have hti : evalIfs C ifs ρ₃ σ ≠ .bad := fun q => hwb (by rw [eqs, ← hF]; simp only [compStep, eb, q, Res.bind])
    refine wpAny_mono (tests_sim hf cs g₂ σ s₃ h6 cx I₃ H₃ hti) (fun ok s₄ ⟨b', σ₄, g₄, e₄, st₄, r₄⟩ => ?_) fun q s' ⟨cc, σ', g', e', st', fl⟩ => absurd (by rw [eqs, ← hF]; simp only [compStep, eb, e', Res.bind]) hwb
    have r₄ : ok = b' := r₄
    subst r₄
    have inM : ∀ (g : G) c, c ∈ g.mu → c ∈ g.mu ∨ c ∈ D :: avOf fe [Cc] cenv := fun g c h => .inl h
    have I₄ := I₃.step st₄
    have it₄ := it₃.step st₄ (inM g₂) fin'
    have D₄ : Apart g₄ s₄.heap D := D₃.step st₄
    have L₄ : s₄.heap.PlainList D xs := by obtain ⟨m, ho⟩ := L₃; exact ⟨m, st₄.kept.same D _ ho D₃.2.1 hDf⟩
    have S₄ := S₃.transW st₄ fun c hc => S₃.new.mu c hc
    have R₄ : RepVs T g₄ ys xs.toList := RepVs.mono st₄.le _ _ R₂
    have less : ∀ (i : Nat) (v : V), (clearTs ρ ts)[i]? = some (some v) → ρ₃[i]? = some (some v) := fun i u hu => bindTs_get eb (clearTs_get hu).1 hu
    cases ok with
    | false =>
      rw [if_neg Bool.false_ne_true]
      have eqf : whole = (match compS F k rest σ₄ with | .ok zs σ' => .ok (ys ++ zs) σ' | _ => .bad) := by
        rw [eqs, show F v σ = .ok none σ₄ from by rw [← hF]; simp only [compStep, eb, e₄, Res.bind]]
      refine ⟨k, Nat.lt_succ_self k, rest, ys, xs, g₄, σ₄, eqf, S₄, I₄.less less, it₄, L₄, R₄, D₄⟩
    | true =>
      rw [if_pos rfl]
      have hel : evalE C elt ρ₃ σ₄ ≠ .bad := fun q => hwb (by rw [eqs, ← hF]; simp only [compStep, eb, e₄, Res.bind, q])
      refine wpAny_mono (he _ h5 cx I₄ (hH.mono S₄.le) hel) (fun y s₅ ⟨u, σ₅, g₅, e₅, st₅, r₅⟩ => ?_) fun q s' ⟨cc, σ', g', e', st', fl⟩ => absurd (by rw [eqs, ← hF]; simp only [compStep, eb, e₄, e', Res.bind]) hwb
      have I₅ := I₄.step st₅
      have it₅ := it₄.step st₅ (inM g₄) fin'
      have D₅ : Apart g₅ s₅.heap D := D₄.step st₅
      have L₅ : s₅.heap.PlainList D xs := by obtain ⟨m, ho⟩ := L₄; exact ⟨m, st₅.kept.same D _ ho D₄.2.1 hDf⟩
      have S₅ := S₄.transW st₅ fun c hc => S₄.new.mu c hc
      have R₅ : RepVs T g₅ ys xs.toList := RepVs.mono st₅.le _ _ R₄
      have eqs' : whole = (match compS F k rest σ₅ with | .ok zs σ' => .ok ((ys ++ [u]) ++ zs) σ' | _ => .bad) := by
        rw [eqs]
        rw [show F v σ = .ok (some u) σ₅ from by rw [← hF]; simp only [compStep, eb, e₄, e₅, Res.bind]]
        dsimp only
        cases compS F k rest σ₅ <;> simp
      have hsz : xs.size ≤ sizeLine := by
        have hl := R₅.length
        rw [← line_eq]
        cases eg : compS F k rest σ₅ with
        | ok zs σ' =>
          rw [eg] at eqs'
          rw [eqs'] at hw
          have := mkList_ne hw
          simp at this hl
          omega
        | exc => rw [eg] at eqs'; exact absurd eqs' hwb
        | bad => rw [eg] at eqs'; exact absurd eqs' hwb
      refine wpAny_list_append_plain L₅ (fun h' hp hs => ?_) hsz
      have al : ∃ o, h'.get? D = some o := by obtain ⟨m, ho⟩ := hp; exact ⟨_, ho⟩
      have st₆ : Step T (g₅.mu ++ [D]) (frsOf fe) g₅ s₅ g₅ σ₅ { s₅ with heap := h' } := .sameBut I₅.st D₅ (by simp) hs al
      refine ⟨k, Nat.lt_succ_self k, rest, ys ++ [u], xs.push y, g₅, σ₅, eqs', S₅.transW st₆ fun c hc => (List.mem_append.mp hc).elim (fun h => S₅.new.mu c h) fun h => .inr (by rw [List.mem_singleton.mp h]; exact hDn), ?_, ?_, hp, ?_, D₅.step st₆⟩
      · exact (Inv.far st₆ (fun c hc => (List.mem_append.mp hc).imp id fun h q => by rw [List.mem_singleton.mp h] at q; exact hDa q) I₅).less less
      · exact it₅.step st₆ (fun c hc => (List.mem_append.mp hc).imp id fun h => by rw [List.mem_singleton.mp h]; exact List.mem_cons_self ..) fin'
      · rw [Array.toList_push]; exact RepVs.append R₅ ⟨r₅, trivial⟩

theorem se_comp (fz : Bool) {elt : E} (ts : List Nat) {it : It} {ifs : List E} (hI : SI it) (he : SE elt) (hf : SAll ifs) : SE (.comp fz elt ts it ifs) := by
  intro T K C fe own env A n ρ g σ s ex hc cx I hH
  cases hc with
  | @mk x t i cs sc pos h1 h2 h3 h4 h5 h6 =>
    obtain ⟨h3, h7⟩ := h3
    have sk := scopeOk_ok h3
    intro hr
    (first | rw [eA_1] at hr ⊢ | rw [eA_2] at hr ⊢ | rw [eA_3] at hr ⊢ | rw [eA_4] at hr ⊢ | rw [eA_5] at hr ⊢ | rw [eA_6] at hr ⊢ | rw [eA_7] at hr ⊢ | rw [eA_8] at hr ⊢ | rw [eA_9] at hr ⊢ | rw [eA_10] at hr ⊢ | rw [eA_11] at hr ⊢ | rw [eA_12] at hr ⊢ | rw [eA_13] at hr ⊢ | rw [eA_14] at hr ⊢ | rw [eA_15] at hr ⊢ | rw [eA_16] at hr ⊢ | rw [eA_17] at hr ⊢ | rw [eA_18] at hr ⊢ | rw [eA_19] at hr ⊢ | rw [eA_20] at hr ⊢ | rw [eA_21] at hr ⊢)
    rw [eval_ListComp]
    have hset : ∀ y, foldedSetIterable i env y = pure y := fun y => by
      unfold foldedSetIterable
      cases i <;> first | rfl | cases h2
    refine wpAny_comprehension_free (use := none) rfl hset (closureFor_eq sc fun m hm => ?_) sk.kind (fun p hp hl => by rw [sk.uni p hp, hl]) ?_
    · have hk : env.kindOf m = some .cell ∨ env.kindOf m = some .free := by rw [kindOf_names cx.names]; exact sk.fre m hm
      obtain ⟨c, _, hl, _⟩ := I.blk.cell m hk
      exact ⟨c, hl⟩
    · have exc : ∀ (q : Value) (s' : Shared), (ExR T (frsOf fe) env.frame g s (evalIt C it ρ σ) q s') →
          (ExR T (frsOf fe) env.frame g s (((evalIt C it ρ σ).bind fun vs σ => (compS (compStep C.hd ρ ts (fun ρ σ => evalIfs C ifs ρ σ) (fun ρ σ => evalE C elt ρ σ)) (vs.fuel σ) vs σ).bind fun ys σ => mkList fz ys σ)) q s') :=
        fun q s' ⟨c, σ', g', e, st, fl⟩ => ⟨c, σ', g', by rw [e]; rfl, st, fl⟩
      refine wpAny_mono (hI i (avOf fe own env) h1 cx I hH (fun c hc => (I.avAp c hc).2.2) (bind_ne hr)) (fun xv s₁ h₁ => wpAny_mono h₁ (fun itv s₂ ⟨vs, σ₂, g₂, b, its, a, e₂, st₂, hv, it₂, new₂, hb₂⟩ => ?_) exc) exc
      subst hv
      have e3 : ((evalIt C it ρ σ).bind fun vs σ => (compS (compStep C.hd ρ ts (fun ρ σ => evalIfs C ifs ρ σ) (fun ρ σ => evalE C elt ρ σ)) (vs.fuel σ) vs σ).bind fun ys σ => mkList fz ys σ) =
        (compS (compStep C.hd ρ ts (fun ρ σ => evalIfs C ifs ρ σ) (fun ρ σ => evalE C elt ρ σ)) (vs.fuel σ₂) vs σ₂).bind fun ys σ => mkList fz ys σ := by rw [e₂]; rfl
      rw [e3] at hr ⊢
      have I₂ := I.step st₂
      refine wpAny_newList ?_ (by simp)
      refine wpAny_newFunctionEnv sk.noc (by intro y hy; simp at hy) (fun h₁ hns₁ hsb₁ => ?_) sk.kind
      dsimp only at hns₁ hsb₁ ⊢
      generalize hH2 : s₂.heap.push { cls := .type "list", dict := none, data := .seq ([] : List Value).toArray } = H2 at hns₁ hsb₁ ⊢
      have hC : H2.objs.size = s₂.heap.objs.size + 1 := by rw [← hH2, Heap.size_push]
      have hDC : s₂.heap.objs.size ≠ H2.objs.size := by rw [hC]; exact Nat.ne_of_lt (Nat.lt_succ_self _)
      have hC0 : s₂.heap.get? H2.objs.size = none := Heap.get?_none_of_le (by rw [hC]; exact Nat.le_succ _)
      have hD0 : s₂.heap.get? s₂.heap.objs.size = none := atSize _
      have hD1 : h₁.get? s₂.heap.objs.size = some { cls := .type "list", dict := none, data := .seq #[], slots := #[] } := (hsb₁.2 _ hDC).trans (Heap.get?_push_of_some _ (hH2 ▸ Heap.get?_push_size _ rfl))
      have old : ∀ c o, s₂.heap.get? c = some o → h₁.get? c = some o := fun c o e => (hsb₁.2 c fun q => by rw [q, hC0] at e; cases e).trans (Heap.get?_push_of_some _ (hH2 ▸ Heap.get?_push_of_some _ e))
      have Ic := comp_inv (h' := h₁) sk I₂ cx.names old hC0 (by simpa using hns₁)
      have st₃ : Step T g₂.mu (frsOf fe) g₂ s₂ g₂ σ₂ { s₂ with heap := h₁, toks := s₂.toks + ([] : List (Str × Value)).length } := .grow I₂.st old
      have DA : Apart g₂ h₁ s₂.heap.objs.size := ⟨I₂.st.fz_none hD0, I₂.st.mu_none hD0, _, hD1⟩
      have cellsub : ∀ c, c ∈ cellsAv (compEnvC sc (clOf env sc.names []) H2.objs.size env) → s₂.heap.get? c ≠ none := fun c hc => by
        obtain ⟨nm, hk, hl⟩ := of_cellsAv hc
        have hm := mem_of_lookup (show (clOf env sc.names []).lookup nm = some c from hl)
        rcases clOf_mem hm with h | ⟨h', h⟩
        · simp at h
        · have hk' : env.kindOf nm = some .cell ∨ env.kindOf nm = some .free := by rw [kindOf_names cx.names]; exact sk.fre nm h'
          obtain ⟨c', v, q1, ⟨o, q2, _⟩, _⟩ := I₂.blk.cell nm hk'
          rw [q1] at h
          have h : c = c' := h
          rw [h, q2]; simp
      have avc : ∀ c, c ∈ avOf fe [H2.objs.size] (compEnvC sc (clOf env sc.names []) H2.objs.size env) → s₂.heap.get? c ≠ none ∨ c = H2.objs.size := fun c hc => by
        rcases List.mem_append.mp hc with h | h
        · obtain ⟨o, e⟩ := (I₂.fr.mem h).2.2
          exact .inl (by rw [e]; simp)
        · rcases List.mem_append.mp h with h | h
          · exact .inr (List.mem_singleton.mp h)
          · exact .inl (cellsub c h)
      have hDa : s₂.heap.objs.size ∉ avOf fe [H2.objs.size] (compEnvC sc (clOf env sc.names []) H2.objs.size env) := fun q => (avc _ q).elim (fun h => h hD0) hDC
      have cx' : Cx T (K.sub ts sc) C fe (compEnvC sc (clOf env sc.names []) H2.objs.size env) A n := ⟨cx.rd, relabel_names I.blk.kind cx.names, cx.ha, cx.cf⟩
      have av2 : ∀ c, c ∈ avOf fe own env → s.heap.get? c ≠ none := fun c hc => by obtain ⟨o, e⟩ := (I.avAp c hc).2.2; rw [e]; simp
      have itav : ∀ c, c ∈ its → c ∉ s₂.heap.objs.size :: avOf fe [H2.objs.size] (compEnvC sc (clOf env sc.names []) H2.objs.size env) := fun c hc q => by
        have hal := (it₂.lone c hc).1.2.2
        obtain ⟨o, hal⟩ := hal
        rcases List.mem_cons.mp q with q | q
        · rw [q, hD0] at hal; cases hal
        · rcases List.mem_append.mp q with h | h
          · exact (it₂.lone c hc).2 (List.mem_append.mpr (.inl h))
          · rcases List.mem_append.mp h with h | h
            · rw [List.mem_singleton.mp h, hC0] at hal; cases hal
            · -- a cell of the block around
              obtain ⟨nm, hk, hl⟩ := of_cellsAv h
              have hm := mem_of_lookup (show (clOf env sc.names []).lookup nm = some c from hl)
              rcases clOf_mem hm with h' | ⟨h', h''⟩
              · simp at h'
              · have hk' : env.kindOf nm = some .cell ∨ env.kindOf nm = some .free := by rw [kindOf_names cx.names]; exact sk.fre nm h'
                obtain ⟨c', v, q1, _, _⟩ := I.blk.cell nm hk'
                rw [q1] at h''
                have h'' : c = c' := h''
                exact (it₂.lone c hc).2 (List.mem_append.mpr (.inr (List.mem_append.mpr (.inr (mem_cellsAv hk' (h'' ▸ q1))))))
      have it₂' := it₂.step st₃ (fun c h => .inl h) fun c h => List.mem_append.mpr (.inl h)
      have loop : codeAny (model T.prog T.w) A (.compLoop (.ListComp x [⟨t, i, cs, 0⟩] sc pos) 0 (.ref a) (.ref s₂.heap.objs.size) (compEnvC sc (clOf env sc.names []) H2.objs.size env))
          (compPost (model T.prog T.w) A (fun x s' => ExR T (frsOf fe) env.frame g s (((compS (compStep C.hd ρ ts (fun ρ σ => evalIfs C ifs ρ σ) (fun ρ σ => evalE C elt ρ σ)) (vs.fuel σ₂) vs σ₂).bind fun ys σ => mkList fz ys σ)) x s') none
            (fun x s' => OkR T (frsOf fe) g s (RepV T) (((compS (compStep C.hd ρ ts (fun ρ σ => evalIfs C ifs ρ σ) (fun ρ σ => evalE C elt ρ σ)) (vs.fuel σ₂) vs σ₂).bind fun ys σ => mkList fz ys σ)) x s') (.ref s₂.heap.objs.size) H2.objs.size)
          { s₂ with heap := h₁, toks := s₂.toks + ([] : List (Str × Value)).length } := by
        refine comp_turns (b := b) (its := its) (fz := fz) (Cc := H2.objs.size) (g₀ := g) (s₀ := s) he hf cx' hH h4 h5 h6 (zip_tup h4 h7 hb₂) hr (st₂.kept.dead hD0) (st₂.kept.dead hC0) new₂ hDa (fun s' h => h) ⟨vs.fuel σ₂, vs, [], #[], g₂, σ₂, ?_, st₂.trans st₃, Ic, it₂'.avoid itav, ⟨_, hD1⟩, trivial, DA⟩ rfl
        · cases eg : compS (compStep C.hd ρ ts (fun ρ σ => evalIfs C ifs ρ σ) (fun ρ σ => evalE C elt ρ σ)) (vs.fuel σ₂) vs σ₂ with
          | ok _ _ => rfl
          | bad => rfl
          | exc _ _ => exact absurd eg (compGo_noexc _ _ _ ())
      exact codeAny_compStart_list loop (pyIter_self it₂' loop)
end

end Mine

namespace Mine
open PySem PySem.Calls

theorem pt_cst (x : PyData) : ST (.cst x) := st_plain (se_cst x) fun h env w => by cases h; rfl
theorem pt_var (i : Nat) : ST (.var i) := st_plain (se_var i) fun h env w => by cases h; rfl
theorem pt_ty (x : String) : ST (.ty x) := st_plain (se_ty x) fun h env w => by cases h; rfl
theorem pt_cls (x : Nat) : ST (.cls x) := st_plain (se_cls x) fun h env w => by cases h; rfl
theorem pt_glo (x : PyData) : ST (.glo x) := st_plain (se_glo x) fun h env w => by cases h; rfl
theorem pt_bin {fz : Bool} {op : Operator} {a b : E} (h : SE (.bin fz op a b)) : ST (.bin fz op a b) := st_plain h fun h env w => by cases h; rfl
theorem pt_neg {a : E} (h : SE (.neg a)) : ST (.neg a) := st_plain h fun h env w => by cases h; rfl
theorem pt_tup {es : List E} (h : SE (.tup es)) : ST (.tup es) := st_plain h fun h env w => by cases h; rfl
theorem pt_lst {fz : Bool} {es : List E} (h : SE (.lst fz es)) : ST (.lst fz es) := st_plain h fun h env w => by cases h; rfl
theorem pt_sub {a i : E} (h : SE (.sub a i)) : ST (.sub a i) := st_plain h fun h env w => by cases h; rfl
theorem pt_slc {fz : Bool} {a : E} {lo hi : Option E} (h : SE (.slc fz a lo hi)) : ST (.slc fz a lo hi) := st_plain h fun h env w => by cases h; rfl
theorem pt_bcall {b : Bi} {fz : Bool} {es : List E} (h : SE (.bcall b fz es)) : ST (.bcall b fz es) := st_plain h fun h env w => by cases h; rfl
theorem pt_fcall {m : Mode} {f : Nat} {es : List E} (h : SE (.fcall m f es)) : ST (.fcall m f es) := st_plain h fun h env w => by cases h; rfl
theorem pt_meth {m : Meth} {fz : Bool} {o : E} {es : List E} (h : SE (.meth m fz o es)) : ST (.meth m fz o es) := st_plain h fun h env w => by cases h; rfl
theorem pt_comp {fz : Bool} {elt : E} {ts : List Nat} {it : It} {ifs : List E} (h : SE (.comp fz elt ts it ifs)) : ST (.comp fz elt ts it ifs) := st_plain h fun h env w => by cases h; rfl

mutual
theorem soundE : ∀ e : E, SE e ∧ ST e
  | .cst x => ⟨se_cst x, pt_cst x⟩
  | .var i => ⟨se_var i, pt_var i⟩
  | .ty t => ⟨se_ty t, pt_ty t⟩
  | .cls c => ⟨se_cls c, pt_cls c⟩
  | .glo x => ⟨se_glo x, pt_glo x⟩
  | .bin fz op a b => ⟨se_bin fz op (soundE a).1 (soundE b).1, pt_bin (se_bin fz op (soundE a).1 (soundE b).1)⟩
  | .neg a => ⟨se_neg (soundE a).1, pt_neg (se_neg (soundE a).1)⟩
  | .not a => se_not (soundE a).2 (soundE a).1
  | .bop op es => se_bop op (soundEs es)
  | .cmp op a b => se_cmp op (soundE a).1 (soundE b).1
  | .tup es => ⟨se_tup (soundEs es).ses, pt_tup (se_tup (soundEs es).ses)⟩
  | .lst fz es => ⟨se_lst fz (soundEs es).ses, pt_lst (se_lst fz (soundEs es).ses)⟩
  | .sub a i => ⟨se_sub (soundE a).1 (soundE i).1, pt_sub (se_sub (soundE a).1 (soundE i).1)⟩
  | .slc fz a lo hi => ⟨se_slc fz (soundE a).1 (soundO lo) (soundO hi), pt_slc (se_slc fz (soundE a).1 (soundO lo) (soundO hi))⟩
  | .bcall b fz es => ⟨se_bcall b fz (soundEs es).ses, pt_bcall (se_bcall b fz (soundEs es).ses)⟩
  | .fcall m f es => ⟨se_fcall m f (soundEs es).ses, pt_fcall (se_fcall m f (soundEs es).ses)⟩
  | .meth m fz o es => ⟨se_meth m fz (soundE o).1 (soundEs es).ses, pt_meth (se_meth m fz (soundE o).1 (soundEs es).ses)⟩
  | .comp fz elt ts it ifs => ⟨se_comp fz ts (soundI it) (soundE elt).1 (soundEs ifs), pt_comp (se_comp fz ts (soundI it) (soundE elt).1 (soundEs ifs))⟩
theorem soundEs : ∀ es : List E, SAll es
  | [] => trivial
  | e :: r => ⟨soundE e, soundEs r⟩
theorem soundO : ∀ o : Option E, SO o
  | none => so_none
  | some e => so_some (soundE e).1
theorem soundI : ∀ it : It, SI it
  | .of e => si_of (soundE e).1
  | .range es => si_range (soundEs es).ses
  | .zip a b => si_zip (soundE a).1 (soundE b).1
  | .enum a => si_enum (soundE a).1
end

end Mine

namespace Mine
open PySem PySem.Calls

inductive OkPost (T : Top) (K : Kx) (fe : List Env) (own : List Addr) (env : Env) (g : G) (s : Shared) (ρ : Vars) (as : List Nat) (r : Res Fl) (f : Flow) (s' : Shared) : Prop
  | mk (fl : Fl) (σ' : Store) (g' : G) (e : r = .ok fl σ') (st : Step T (g.mu ++ own) (frsOf fe) g s g' σ' s') (h : match fl with
    | .next ρ' => f = .next ∧ Inv T fe own K.wr env K.vars ρ' g' σ' s'.heap ∧ ∀ i, i ∉ as → ρ'[i]? = ρ[i]?
    | .ret v => ∃ x, f = .ret x ∧ RepV T g' v x ∧ ∃ ρ', Inv T fe own K.wr env K.vars ρ' g' σ' s'.heap) : OkPost T K fe own env g s ρ as r f s'
inductive ExPost (T : Top) (K : Kx) (fe : List Env) (own : List Addr) (env : Env) (g : G) (s : Shared) (ρ : Vars) (as : List Nat) (r : Res Fl) (x : Value) (s' : Shared) : Prop
  | mk (c : Nat) (σ' : Store) (g' : G) (ρ' : Vars) (e : r = .exc c σ') (st : Step T (g.mu ++ own) (frsOf fe) g s g' σ' s') (fl : Fly T g' s'.heap s.heap env.frame c x) (I : Inv T fe own K.wr env K.vars ρ' g' σ' s'.heap) (h : ∀ i, i ∉ as → ρ'[i]? = ρ[i]?) : ExPost T K fe own env g s ρ as r x s'

noncomputable def SS (st : S) : Prop := ∀ {T : Top} {K : Kx} {C : Cfg} {fe outer : List Env} {own : List Addr} {env : Env} {A : Around} {n : Nat} {ρ : Vars} {g : G} {σ : Store} {s : Shared} (x : Stmt),
  IsS st K x → fe = env :: outer → Cx T K C fe env A n → Inv T fe own K.wr env K.vars ρ g σ s.heap → HOk g A → execS C st ρ σ ≠ .bad →
  wpAny (model T.prog T.w) A (exec x env) (OkPost T K fe own env g s ρ (asgs st) (execS C st ρ σ)) (ExPost T K fe own env g s ρ (asgs st) (execS C st ρ σ)) s
noncomputable def SSs (l : List S) : Prop := ∀ {T : Top} {K : Kx} {C : Cfg} {fe outer : List Env} {own : List Addr} {env : Env} {A : Around} {n : Nat} {ρ : Vars} {g : G} {σ : Store} {s : Shared} (xs : List Stmt),
  IsSs l K xs → fe = env :: outer → Cx T K C fe env A n → Inv T fe own K.wr env K.vars ρ g σ s.heap → HOk g A → execSs C l ρ σ ≠ .bad →
  wpAny (model T.prog T.w) A (execs xs env) (OkPost T K fe own env g s ρ (asgAll l) (execSs C l ρ σ)) (ExPost T K fe own env g s ρ (asgAll l) (execSs C l ρ σ)) s

section
variable {T : Top} {K : Kx} {C : Cfg} {fe outer : List Env} {own : List Addr} {env : Env} {A : Around} {n : Nat} {ρ ρ₁ : Vars} {g g₁ : G} {σ σ₁ : Store} {s s₁ s' : Shared} {as as' : List Nat} {r r' : Res Fl}

theorem OkPost.after (st : Step T (g.mu ++ own) (frsOf fe) g s g₁ σ₁ s₁) (ha : ∀ i, i ∉ as → ρ₁[i]? = ρ[i]?) (hr : r = r') {f : Flow}
    (h : OkPost T K fe own env g₁ s₁ ρ₁ as r f s') : OkPost T K fe own env g s ρ as r' f s' := by
  subst hr
  obtain ⟨fl, σ', g', e, st', h⟩ := h
  refine ⟨fl, σ', g', e, st.transO st', ?_⟩
  cases fl with
  | next ρ' => exact ⟨h.1, h.2.1, fun i hi => (h.2.2 i hi).trans (ha i hi)⟩
  | ret v => exact h
theorem ExPost.after (st : Step T (g.mu ++ own) (frsOf fe) g s g₁ σ₁ s₁) (ha : ∀ i, i ∉ as → ρ₁[i]? = ρ[i]?) (hr : r = r') {x : Value}
    (h : ExPost T K fe own env g₁ s₁ ρ₁ as r x s') : ExPost T K fe own env g s ρ as r' x s' := by
  subst hr
  obtain ⟨c, σ', g', ρ', e, st', fl, I, h⟩ := h
  exact ⟨c, σ', g', ρ', e, st.transO st', fl.le fun _ e => st.kept.dead e, I, fun i hi => (h i hi).trans (ha i hi)⟩
theorem OkPost.wide {f : Flow} (hs : ∀ i, i ∈ as' → i ∈ as) (h : OkPost T K fe own env g s ρ as' r f s') : OkPost T K fe own env g s ρ as r f s' := by
  obtain ⟨fl, σ', g', e, st', h⟩ := h
  refine ⟨fl, σ', g', e, st', ?_⟩
  cases fl with
  | next ρ' => exact ⟨h.1, h.2.1, fun i hi => h.2.2 i fun q => hi (hs i q)⟩
  | ret v => exact h
theorem ExPost.wide {x : Value} (hs : ∀ i, i ∈ as' → i ∈ as) (h : ExPost T K fe own env g s ρ as' r x s') : ExPost T K fe own env g s ρ as r x s' := by
  obtain ⟨c, σ', g', ρ', e, st', fl, I, h⟩ := h
  exact ⟨c, σ', g', ρ', e, st', fl, I, fun i hi => h i fun q => hi (hs i q)⟩

theorem ExPost.ofE {α : Type} {re : Res α} {r : Res Fl} (I : Inv T fe own K.wr env K.vars ρ g σ s.heap) (he : ∀ c σ', re = .exc c σ' → r = .exc c σ') {x : Value}
    (h : ExR T (frsOf fe) env.frame g s (re) x s') : ExPost T K fe own env g s ρ as r x s' := by
  obtain ⟨c, σ', g', e, st, fl⟩ := h
  exact ⟨c, σ', g', ρ, he c σ' e, st.toO, fl, I.step st, fun _ _ => rfl⟩

theorem not_swaps {v : Expr} (h : notComp v = true) (t : Option Expr) (l : Nat) (env : Env) : swapsWith v t l env = pure false := by
  unfold swapsWith
  cases v <;> first | rfl | cases h

theorem ss_ret (e : E) : SS (.ret e) := by
  intro T K C fe outer own env A n ρ g σ s x hc hfe cx I hH hr
  cases hc with
  | @mk v p hc =>
    rw [arm_exec_Return]
    (first | rw [xA_1] at hr ⊢ | rw [xA_2] at hr ⊢ | rw [xA_3] at hr ⊢ | rw [xA_4] at hr ⊢ | rw [xA_5] at hr ⊢ | rw [xA_6] at hr ⊢ | rw [xA_7] at hr ⊢ | rw [xA_8] at hr ⊢ | rw [xA_9] at hr ⊢ | rw [xA_10] at hr ⊢ | rw [xA_11] at hr ⊢ | rw [xA_12] at hr ⊢ | rw [xA_13] at hr ⊢)
    refine wpAny_bind (wpAny_standAt ?_)
    refine wpAny_bind (wpAny_mono ((soundE e).1 _ hc cx I hH (bind_ne hr)) (fun v s₁ ⟨b, σ₁, g₁, e₁, st₁, r₁⟩ => wpAny_pure ?_) fun _ _ h => .ofE I (fun c σ' q => by rw [q]; rfl) h)
    exact ⟨.ret b, σ₁, g₁, by rw [e₁]; rfl, st₁.toO, v, rfl, r₁, ρ, I.step st₁⟩

theorem ss_exp (e : E) : SS (.exp e) := by
  intro T K C fe outer own env A n ρ g σ s x hc hfe cx I hH hr
  cases hc with
  | @mk v p h1 h2 =>
    rw [arm_exec_Expr]
    (first | rw [xA_1] at hr ⊢ | rw [xA_2] at hr ⊢ | rw [xA_3] at hr ⊢ | rw [xA_4] at hr ⊢ | rw [xA_5] at hr ⊢ | rw [xA_6] at hr ⊢ | rw [xA_7] at hr ⊢ | rw [xA_8] at hr ⊢ | rw [xA_9] at hr ⊢ | rw [xA_10] at hr ⊢ | rw [xA_11] at hr ⊢ | rw [xA_12] at hr ⊢ | rw [xA_13] at hr ⊢)
    refine wpAny_bind (wpAny_standAt ?_)
    have hi : interactive env = false := by unfold interactive; rw [I.blk.kind]; rfl
    rw [hi]
    show wpAny _ _ (swapsWith v none p.line env >>= _) _ _ _
    rw [not_swaps h2, pure_bind]
    simp only [Bool.false_eq_true, if_false]
    refine wpAny_bind (wpAny_mono ((soundE e).1 _ h1 cx I hH (bind_ne hr)) (fun v s₁ ⟨b, σ₁, g₁, e₁, st₁, r₁⟩ => ?_) fun _ _ h => .ofE I (fun c σ' q => by rw [q]; rfl) h)
    have fin : OkPost T K fe own env g s ρ (asgs (.exp e)) ((evalE C e ρ σ).bind fun _ σ => .ok (.next ρ) σ) .next s₁ := ⟨.next ρ, σ₁, g₁, by rw [e₁]; rfl, st₁.toO, rfl, I.step st₁, fun _ _ => rfl⟩
    unfold dropValue
    split
    · exact wpAny_pure fin
    · refine wpAny_bind (wpAny_standAt (wpAny_bind (wpAny_runValue (codeAny_builtin entry_let_go ?_))))
      unfold Builtin.«proto.let_go»
      exact wpAny_pure (wpAny_pure fin)
    · exact wpAny_pure fin

theorem ss_asg (i : Nat) (e : E) : SS (.asg i e) := by
  intro T K C fe outer own env A n ρ g σ s x hc hfe cx I hH hr
  cases hc with
  | @mk nm p v p' h1 h2 h3 =>
    rw [arm_exec_Assign]
    (first | rw [xA_1] at hr ⊢ | rw [xA_2] at hr ⊢ | rw [xA_3] at hr ⊢ | rw [xA_4] at hr ⊢ | rw [xA_5] at hr ⊢ | rw [xA_6] at hr ⊢ | rw [xA_7] at hr ⊢ | rw [xA_8] at hr ⊢ | rw [xA_9] at hr ⊢ | rw [xA_10] at hr ⊢ | rw [xA_11] at hr ⊢ | rw [xA_12] at hr ⊢ | rw [xA_13] at hr ⊢)
    refine wpAny_bind (wpAny_standAt ?_)
    show wpAny _ _ (swapsWith v (some (.Name nm p)) p'.line env >>= _) _ _ _
    rw [not_swaps h3, pure_bind]
    simp only [Bool.false_eq_true, if_false]
    refine wpAny_bind (wpAny_mono ((soundE e).1 _ h2 cx I hH (bind_ne hr)) (fun xv s₁ ⟨b, σ₁, g₁, e₁, st₁, r₁⟩ => ?_) fun _ _ h => .ofE I (fun c σ' q => by rw [q]; rfl) h)
    have hsw : swappedStores [.Name nm p] v env = pure none := by unfold swappedStores; rfl
    rw [hsw, pure_bind]
    unfold assignStores
    show wpAny _ _ (assignAll xv [assign (.Name nm p) env] >>= fun _ => pure Flow.next) _ _ _
    have I₁ := I.step st₁
    have hall : assignAll xv [assign (.Name nm p) env] = (assign (.Name nm p) env xv) := by
      first | rfl | (unfold assignAll; rfl)
    rw [hall]
    refine wpAny_bind (assign_name (fs := frsOf fe) I₁ cx.names h1 r₁ fun s₂ st₂ I₂ => wpAny_pure ?_)
    refine ⟨.next (ρ.set i (some b)), σ₁, g₁, by rw [e₁]; rfl, st₁.toO.transO st₂, rfl, I₂, fun j hj => ?_⟩
    exact List.getElem?_set_ne fun q => hj (List.mem_singleton.mpr q.symm)

theorem ss_nil : SSs [] := by
  intro T K C fe outer own env A n ρ g σ s xs hc hfe cx I hH hr
  cases hc
  (first | rw [xB_1] | rw [xB_2])
  exact wpAny_execs_nil ⟨_, σ, g, rfl, .refl I.st, rfl, I, fun _ _ => rfl⟩

theorem ss_cons {st : S} {l : List S} (h1 : SS st) (h2 : SSs l) : SSs (st :: l) := by
  intro T K C fe outer own env A n ρ g σ s xs hc hfe cx I hH hr
  cases hc with
  | @mk x t c1 c2 =>
    (first | rw [xB_1] at hr ⊢ | rw [xB_2] at hr ⊢)
    rw [execs_cons]
    have wide : ∀ i, i ∈ asgs st → i ∈ asgAll (st :: l) := fun i h => show i ∈ _ ++ _ from List.mem_append.mpr (.inl h)
    have wide' : ∀ i, i ∈ asgAll l → i ∈ asgAll (st :: l) := fun i h => show i ∈ _ ++ _ from List.mem_append.mpr (.inr h)
    refine wpAny_bind (wpAny_mono (h1 x c1 hfe cx I hH (bind_ne hr)) (fun f s₁ ⟨fl, σ₁, g₁, e₁, st₁, hf⟩ => ?_) fun q s' ⟨c, σ', g', ρ', e', st', fl, I', hv⟩ => ⟨c, σ', g', ρ', by rw [e']; rfl, st', fl, I', fun i hi => hv i fun q => hi (wide i q)⟩)
    rw [e₁] at hr
    cases fl with
    | ret v =>
      obtain ⟨y, rfl, ry⟩ := hf
      exact wpAny_pure ⟨.ret v, σ₁, g₁, by rw [e₁]; rfl, st₁, y, rfl, ry⟩
    | next ρ₁ =>
      obtain ⟨rfl, I₁, hv⟩ := hf
      have hv' : ∀ i, i ∉ asgAll (st :: l) → ρ₁[i]? = ρ[i]? := fun i hi => hv i fun q => hi (wide i q)
      have er : execSs C l ρ₁ σ₁ = (execS C st ρ σ).bind fun f σ => (match f with | .next ρ => execSs C l ρ σ | .ret v => .ok (.ret v) σ) := by rw [e₁]; rfl
      refine wpAny_mono (h2 t c2 hfe cx I₁ (hH.mono st₁.le) hr) (fun f s' h => ?_) fun q s' h => ?_
      · exact OkPost.after st₁ hv' er (h.wide wide')
      · exact ExPost.after st₁ hv' er (h.wide wide')
end

end Mine

namespace Mine
open PySem PySem.Calls

noncomputable def Near (its fs : List Addr) (h h' : Heap) : Prop := ∀ c o, c ∉ its → h.get? c = some o → (∃ sl, h'.get? c = some { o with slots := sl }) ∧ (c ∉ fs → h'.get? c = some o)

theorem Near.refl (its fs : List Addr) (h : Heap) : Near its fs h h := fun c o _ e => ⟨⟨o.slots, e⟩, fun _ => e⟩
theorem Near.trans {its fs : List Addr} {h h' h'' : Heap} (x : Near its fs h h') (y : Near its fs h' h'') : Near its fs h h'' := fun c o hc e => by
  obtain ⟨⟨sl, e1⟩, k⟩ := x c o hc e
  obtain ⟨⟨sl', e2⟩, k'⟩ := y c _ hc e1
  exact ⟨⟨sl', e2⟩, fun hf => (y c o hc (k hf)).2 hf⟩
theorem Near.of_same {its fs : List Addr} {h h' : Heap} (k : ∀ c o, c ∉ its → h.get? c = some o → h'.get? c = some o) : Near its fs h h' := fun c o hc e => ⟨⟨o.slots, k c o hc e⟩, fun _ => k c o hc e⟩
theorem Near.wide {its its' fs : List Addr} {h h' : Heap} (x : Near its fs h h') (hs : ∀ c, c ∈ its → c ∈ its') : Near its' fs h h' := fun c o hc e => x c o (fun q => hc (hs c q)) e

inductive TbX (g : G) (h h₀ : Heap) (e : Addr) (v : Option Value) (P : Option Value → Prop) : Prop
  | mk (tb : Addr) (ot : Obj) (ts : Array Value) (f : Value) (k1 : v = some (.ref tb)) (k2 : h.get? tb = some ot) (k3 : ot.data = .fields ts) (k4 : tb ≠ e) (k5 : g.fz tb = none) (k6 : tb ∉ g.mu) (k7 : h₀.get? tb = none) (k8 : ts[3]? = some f) (k9 : P (some f)) : TbX g h h₀ e v P
inductive FlyX (T : Top) (g : G) (h h₀ : Heap) (c : Nat) (x : Value) (P : Option Value → Prop) : Prop
  | mk (e : Addr) (oe : Obj) (vs : Array Value) (q1 : x = .ref e) (q2 : h.get? e = some oe) (q3 : T.cls c = some oe.cls ∧ oe.dict = none) (q4 : oe.data = .fields vs) (q5 : g.fz e = none) (q6 : e ∉ g.mu) (q7 : h₀.get? e = none) (q8 : vs[2]? = some .none)
    (q9 : (vs[1]? = some .none ∧ P none) ∨ TbX g h h₀ e vs[1]? P) : FlyX T g h h₀ c x P

noncomputable def PFly (L : Option Addr) : Option Value → Prop
  | none => True
  | some f => f = .none ∨ ∃ l, L = some l ∧ f = rawInt l
noncomputable def PAt (v : Value) : Option Value → Prop
  | none => False
  | some f => f = v

theorem Fly.toX {T : Top} {g : G} {h h₀ : Heap} {L : Option Addr} {c : Nat} {x : Value} (f : Fly T g h h₀ L c x) : FlyX T g h h₀ c x (PFly L) := by
  obtain ⟨e, oe, vs, q1, q2, q3, q4, q5, q6, q7, q8, q9⟩ := f
  refine ⟨e, oe, vs, q1, q2, q3, q4, q5, q6, q7, q8, q9.imp (fun h => ⟨h, trivial⟩) ?_⟩
  rintro ⟨tb, ot, ts, k1, k2, k3, k4, k5, k6, k7, k8⟩
  rcases k8 with k8 | ⟨l, hl, k8⟩
  · exact ⟨tb, ot, ts, _, k1, k2, k3, k4, k5, k6, k7, k8, .inl rfl⟩
  · exact ⟨tb, ot, ts, _, k1, k2, k3, k4, k5, k6, k7, k8, .inr ⟨l, hl, rfl⟩⟩
theorem FlyX.toFly {T : Top} {g : G} {h h₀ : Heap} {L : Option Addr} {c : Nat} {x : Value} {P : Option Value → Prop} (f : FlyX T g h h₀ c x P) (hP : ∀ v, P (some v) → v = .none ∨ ∃ l, L = some l ∧ v = rawInt l) : Fly T g h h₀ L c x := by
  obtain ⟨e, oe, vs, q1, q2, q3, q4, q5, q6, q7, q8, q9⟩ := f
  refine ⟨e, oe, vs, q1, q2, q3, q4, q5, q6, q7, q8, q9.imp (fun h => h.1) ?_⟩
  rintro ⟨tb, ot, ts, f, k1, k2, k3, k4, k5, k6, k7, k8, k9⟩
  refine ⟨tb, ot, ts, k1, k2, k3, k4, k5, k6, k7, ?_⟩
  rcases hP f k9 with rfl | ⟨l, hl, rfl⟩
  · exact .inl k8
  · exact .inr ⟨l, hl, k8⟩

section
variable {T : Top} {K : Kx} {fe outer : List Env} {own X fs : List Addr} {env : Env} {A : Around} {ρ : Vars} {g g' : G} {σ σ' : Store} {s s' s₀ : Shared} {wr : List Str} {Er : Value → Shared → Prop} {c : Nat} {x : Value}

theorem FrOk.funFrames {h : Heap} (hb : ∀ a o, T.h0.get? a = some o → g.fz a = some o) : ∀ {l : List Env}, FrOk g h l → h.FunFrames T.h0 l
  | [], _ => trivial
  | e :: r, ⟨k, ⟨L, o, hf, ho, hd, h1, h2⟩, hr⟩ => by
    have hn : T.h0.get? L = none := by
      cases q : T.h0.get? L with
      | none => rfl
      | some o' => have := hb L o' q; rw [h1] at this; cases this
    exact ⟨k.1, ⟨L, o, hf, hn, ho, hd⟩, FrOk.funFrames hb hr⟩

theorem St.near {h h' : Heap} {its : List Addr} (st : St T g σ h) (fr : FrOk g h fe) (hl : ∀ c, c ∈ its → g.fz c = none ∧ c ∉ g.mu) (hk : Near its (frsOf fe) h h') : St T g σ h' := by
  refine ⟨fun c o e => (hk c o (fun q => by rw [(hl c q).1] at e; cases e) (st.fz c o e)).2 (fun q => by rw [(fr.mem q).1] at e; cases e), st.len, st.nd, st.ap, fun k c o e1 e2 => ?_, st.base⟩
  obtain ⟨y, h1, h2⟩ := st.ob k c o e1 e2
  have hm := List.mem_of_getElem? e1
  exact ⟨y, (hk c y (fun q => (hl c q).2 hm) h1).2 fun q => (fr.mem q).2.1 hm, h2⟩

theorem Step.near {its : List Addr} {h' : Heap} (x : Step T X (frsOf fe) g s g' σ' s') (fr : FrOk g' s'.heap fe) (hl : ∀ c, c ∈ its → g'.fz c = none ∧ c ∉ g'.mu) (hn : ∀ c, c ∈ its → s.heap.get? c = none) (hk : Near its (frsOf fe) s'.heap h') :
    Step T X (frsOf fe) g s g' σ' { s' with heap := h' } := by
  have ni : ∀ c o, s.heap.get? c = some o → c ∉ its := fun c o e q => by rw [hn c q] at e; cases e
  refine ⟨x.le, x.st.near fr hl hk, ⟨fun c o e => ?_, fun c o e nb nf => (hk c o (ni c o e) (x.kept.same c o e nb nf)).2 nf, fun c o e nb hf => ?_⟩, x.new, x.gens, x.os⟩
  · obtain ⟨o', e'⟩ := x.kept.alive c o e
    obtain ⟨sl, e''⟩ := (hk c o' (ni c o e) e').1
    exact ⟨_, e''⟩
  · obtain ⟨sl, e'⟩ := x.kept.slots c o e nb hf
    obtain ⟨sl', e''⟩ := (hk c _ (ni c o e) e').1
    exact ⟨sl', e''⟩

theorem Inv.near {its : List Addr} {h' : Heap} (I : Inv T fe own wr env K.vars ρ g σ s.heap) (hl : ∀ c, c ∈ its → g.fz c = none ∧ c ∉ g.mu) (ha : ∀ c, c ∈ its → c ∉ avOf fe own env) (hk : Near its (frsOf fe) s.heap h') :
    Inv T fe own wr env K.vars ρ g σ h' := by
  refine I.keep (.refl g) (I.st.near I.fr hl hk) (fun c hc => ?_) fun c o hc e => (hk c o (fun q => ha c q hc) e).1
  obtain ⟨h1, h2, o, h3⟩ := I.avAp c hc
  obtain ⟨sl, e⟩ := (hk c o (fun q => ha c q hc) h3).1
  exact ⟨h1, h2, _, e⟩

theorem entry_new {L e : Addr} {oe : Obj} {vs : Array Value} {head : Value} {hadNext : Bool} {Q : Unit → Shared → Prop} (hfr : A.frames = some (env :: outer)) (hl : s.heap.FunFrames T.h0 (env :: outer)) (hf : env.frame = some L)
    (he : s.heap.get? e = some oe) (hd : oe.data = .fields vs) (hsz : 1 < vs.size)
    (h : ∀ h' tb oe' ts, Near [e] (frsOf (env :: outer)) s.heap h' → s.heap.get? tb = none → h'.get? e = some oe' → (oe'.cls = oe.cls ∧ oe'.dict = oe.dict) → oe'.data = .fields (vs.setIfInBounds 1 (.ref tb)) →
      h'.get? tb = some { cls := .type "traceback", dict := none, data := .fields ts, slots := #[] } → ts[3]? = some (rawInt L) → Q () { s with heap := h' }) :
    wpAny (model T.prog T.w) A (do let a ← frameOf env; let pl ← entryPlaceOf L hadNext; let b ← EntryCells.newEntry head a .none (rawInt L) .none pl; setField (.ref e) 1 b) Q Er s := by
  have hene : e ∉ (env :: outer).filterMap (·.frame) := fun hm => by
    obtain ⟨_, o, ho, hnf⟩ := hl.mem hm
    rw [he] at ho; injection ho with ho; subst ho; exact hnf vs hd
  refine wpAny_bind (wpAny_frameOf_fun hfr hl hf fun h₁ hs₁ => ?_)
  refine wpAny_bind (wpAny_entryPlaceOf fun pl hpl => ?_)
  unfold EntryCells.newEntry newFields
  refine wpAny_bind (wpAny_newObj_type ?_ (hpl.sizeOk5 _ _ _ _ _))
  have he₁ : h₁.get? e = some oe := (hs₁.2.1 e hene).trans he
  have he₂ := Heap.get?_push_of_some (h := h₁) { cls := .type "traceback", dict := none, data := .fields ([head, .ref L, .none, rawInt L, .none] ++ (if pl.isEmpty then List.replicate 6 Value.none else pl)).toArray } he₁
  have hTe : h₁.objs.size ≠ e := Nat.ne_of_gt (Heap.lt_size he₁)
  have hd₃ := Obj.data_mapFields hd (·.setIfInBounds 1 (Value.ref h₁.objs.size))
  have he₃ := Heap.get?_update_self (Obj.mapFields (·.setIfInBounds 1 (Value.ref h₁.objs.size))) he₂ (Obj.isFreed_of_fields hd₃)
  have hT₃ := (Heap.get?_update_other (h₁.push { cls := .type "traceback", dict := none, data := .fields ([head, .ref L, .none, rawInt L, .none] ++ (if pl.isEmpty then List.replicate 6 Value.none else pl)).toArray })
    (Obj.mapFields (·.setIfInBounds 1 (Value.ref h₁.objs.size))) (Ne.symm hTe)).trans (Heap.get?_push_size h₁ rfl)
  refine wpAny_setField he₂ hd hsz (h _ h₁.objs.size _ _ ?_ ?_ he₃ ⟨Obj.cls_mapFields _ _, by unfold Obj.mapFields; split <;> rfl⟩ hd₃ hT₃ ?_)
  · intro b o hb e'
    have hbe : b ≠ e := fun q => hb (by rw [q]; exact List.mem_singleton.mpr rfl)
    have up : ∀ o', h₁.get? b = some o' → ((h₁.push { cls := .type "traceback", dict := none, data := .fields ([head, .ref L, .none, rawInt L, .none] ++ (if pl.isEmpty then List.replicate 6 Value.none else pl)).toArray }).update e (Obj.mapFields (·.setIfInBounds 1 (Value.ref h₁.objs.size)))).get? b = some o' := fun o' q => by
      rw [Heap.get?_update_other _ _ (Ne.symm hbe)]
      exact Heap.get?_push_of_some _ q
    refine ⟨?_, fun hnf => up o ((hs₁.2.1 b hnf).trans e')⟩
    obtain ⟨sl, q⟩ := hs₁.2.2 b o e'
    exact ⟨sl, up _ q⟩
  · show s.heap.get? h₁.objs.size = none
    rw [hs₁.1]; exact atSize _
  · first | (simp; done) | (rcases hpl with rfl | ⟨_, _, _, _, _, _, _, rfl⟩ <;> simp)

theorem note_fly {L : Addr} {Q : Unit → Shared → Prop} (hfr : A.frames = some (env :: outer)) (hf : env.frame = some L) (st : St T g σ s.heap) (fr : FrOk g s.heap (env :: outer)) (fl : FlyX T g s.heap s₀.heap c x (PFly (some L))) (k0 : ∀ a, s.heap.get? a = none → s₀.heap.get? a = none)
    (h : ∀ h' its, Near its (frsOf (env :: outer)) s.heap h' → (∀ a, a ∈ its → g.fz a = none ∧ a ∉ g.mu ∧ s₀.heap.get? a = none) → FlyX T g h' s₀.heap c x (PAt (rawInt L)) → Q () { s with heap := h' }) :
    wpAny (model T.prog T.w) A (noteFrame x env) Q Er s := by
  have hl := fr.funFrames st.base
  obtain ⟨e, oe, vs, rfl, q2, q3, q4, q5, q6, q7, q8, q9⟩ := fl
  have hsz2 : 2 < vs.size := (Array.getElem?_eq_some_iff.mp q8).1
  unfold noteFrame
  simp only [hf]
  rcases q9 with ⟨h1, _⟩ | ⟨tb, ot, ts, f, k1, k2, k3, k4, k5, k6, k7, k8, k9⟩
  · refine wpAny_bind (wpAny_field q2 q4 h1 ?_)
    rw [if_neg (by decide)]
    refine entry_new hfr hl hf q2 q4 (by omega) fun h' tb oe' ts nr hn he' hc' hd' ht h3 => ?_
    refine h h' [e] nr (fun a ha => by rw [List.mem_singleton.mp ha]; exact ⟨q5, q6, q7⟩) ⟨e, oe', _, rfl, he', ⟨by rw [hc'.1]; exact q3.1, by rw [hc'.2]; exact q3.2⟩, hd', q5, q6, q7, ?_, .inr ⟨tb, _, ts, _, by simp [show 1 < vs.size by omega], ht, rfl, ?_, st.fz_none hn, st.mu_none hn, k0 tb hn, h3, rfl⟩⟩
    · rw [Array.getElem?_setIfInBounds_ne (by decide)]; exact q8
    · intro q; rw [q, q2] at hn; cases hn
  · refine wpAny_bind (wpAny_field q2 q4 k1 ?_)
    rw [if_pos (show (Value.ref tb != Value.none) = true from by simp)]
    refine wpAny_bind (wpAny_field k2 k3 k8 ?_)
    rcases k9 with rfl | ⟨l, hl', rfl⟩
    · rw [if_neg (show ¬ ((Value.none == rawInt L) = true) from by simp [rawInt])]
      have hsz3 : 3 < ts.size := (Array.getElem?_eq_some_iff.mp k8).1
      refine wpAny_bind (wpAny_setField k2 k3 hsz3 ?_)
      have other : ∀ b, b ≠ tb → (s.heap.update tb (Obj.mapFields (·.setIfInBounds 3 Value.none))).get? b = s.heap.get? b := fun b hb => Heap.get?_update_other _ _ (Ne.symm hb)
      have noRecord : ∀ b o, s.heap.get? b = some o → (∀ vs, o.data ≠ .fields vs) → b ≠ tb := fun b o hb hnf q => by
        rw [q, k2] at hb; injection hb with hb; subst hb; exact hnf ts k3
      refine entry_new hfr (hl.of_keeps fun b o hb hnf => ⟨o, (other b (noRecord b o hb hnf)).trans hb, rfl⟩) hf ((other e (Ne.symm k4)).trans q2) q4 (by omega) fun h' tb' oe' ts' nr hn he' hc' hd' ht h3 => ?_
      have hn' : s.heap.get? tb' = none := by
        by_cases q : tb' = tb
        · subst q
          rw [Heap.get?_update_self _ k2 (Obj.isFreed_of_fields (Obj.data_mapFields k3 _))] at hn; cases hn
        · rw [← other tb' q]; exact hn
      refine h h' [e, tb] (Near.trans (Near.of_same fun b o hb eb => (other b fun q => hb (by simp [q])).trans eb) (nr.wide fun b hb => by rw [List.mem_singleton.mp hb]; simp)) (fun a ha => ?_)
        ⟨e, oe', _, rfl, he', ⟨by rw [hc'.1]; exact q3.1, by rw [hc'.2]; exact q3.2⟩, hd', q5, q6, q7, ?_, .inr ⟨tb', _, ts', _, by simp [show 1 < vs.size by omega], ht, rfl, ?_, st.fz_none hn', st.mu_none hn', k0 tb' hn', h3, rfl⟩⟩
      · simp only [List.mem_cons, List.not_mem_nil, or_false] at ha
        rcases ha with rfl | rfl
        · exact ⟨q5, q6, q7⟩
        · exact ⟨k5, k6, k7⟩
      · rw [Array.getElem?_setIfInBounds_ne (by decide)]; exact q8
      · intro q; rw [q, q2] at hn'; cases hn'
    · cases hl'
      rw [if_pos (show (rawInt L == rawInt L) = true from by simp)]
      exact wpAny_pure (h s.heap [] (Near.refl _ _ _) (fun a ha => by cases ha) ⟨e, oe, vs, rfl, q2, q3, q4, q5, q6, q7, q8, .inr ⟨tb, ot, ts, _, k1, k2, k3, k4, k5, k6, k7, k8, rfl⟩⟩)

theorem flight_fly {L : Option Addr} {v : Value} {Q : Unit → Shared → Prop} (fl : FlyX T g s.heap s₀.heap c x (PAt v))
    (h : ∀ h' its, Near its fs s.heap h' → (∀ a, a ∈ its → g.fz a = none ∧ a ∉ g.mu ∧ s₀.heap.get? a = none) → FlyX T g h' s₀.heap c x (PAt (L.elim .none fun f => rawInt f)) → Q () { s with heap := h' }) :
    wpAny (model T.prog T.w) A (setFlight x L) Q Er s := by
  obtain ⟨e, oe, vs, rfl, q2, q3, q4, q5, q6, q7, q8, q9⟩ := fl
  rcases q9 with ⟨_, h1⟩ | ⟨tb, ot, ts, f, k1, k2, k3, k4, k5, k6, k7, k8, k9⟩
  · exact h1.elim
  · unfold setFlight
    refine wpAny_bind (wpAny_field q2 q4 k1 ?_)
    rw [if_pos (show (Value.ref tb != Value.none) = true from by simp)]
    have hsz3 : 3 < ts.size := (Array.getElem?_eq_some_iff.mp k8).1
    refine wpAny_setField k2 k3 hsz3 ?_
    have other : ∀ b, b ≠ tb → (s.heap.update tb (Obj.mapFields (·.setIfInBounds 3 (L.elim Value.none fun f => rawInt f)))).get? b = s.heap.get? b := fun b hb => Heap.get?_update_other _ _ (Ne.symm hb)
    refine h _ [tb] (Near.of_same fun b o hb eb => (other b fun q => hb (by simp [q])).trans eb) (fun a ha => by rw [List.mem_singleton.mp ha]; exact ⟨k5, k6, k7⟩)
      ⟨e, oe, vs, rfl, (other e (Ne.symm k4)).trans q2, q3, q4, q5, q6, q7, q8, .inr ⟨tb, _, _, _, k1, Heap.get?_update_self _ k2 (Obj.isFreed_of_fields (Obj.data_mapFields k3 _)), Obj.data_mapFields k3 _, k4, k5, k6, k7, by simp [hsz3], rfl⟩⟩

theorem FlyX.field {v : Value} (fl : FlyX T g s.heap s₀.heap c x (PAt v)) {Q : Value → Shared → Prop} (h : ∀ tb, Q (.ref tb) s) : wpAny (model T.prog T.w) A (field x 1) Q Er s := by
  obtain ⟨e, oe, vs, rfl, q2, q3, q4, q5, q6, q7, q8, q9⟩ := fl
  rcases q9 with ⟨_, h1⟩ | ⟨tb, ot, ts, f, k1, k2, k3, k4, k5, k6, k7, k8, k9⟩
  · exact h1.elim
  · exact wpAny_field q2 q4 k1 (h tb)
end

end Mine

namespace Mine
open PySem PySem.Calls

section
variable {T : Top} {K : Kx} {C : Cfg} {fe outer : List Env} {own : List Addr} {env : Env} {A : Around} {n : Nat} {ρ ρ₁ : Vars} {g g₁ : G} {σ σ₁ : Store} {s s₁ s' : Shared} {as as' : List Nat} {r r' : Res Fl}

theorem frame_some (hfe : fe = env :: outer) (I : Inv T fe own K.wr env K.vars ρ g σ s.heap) : ∃ L, env.frame = some L := by
  have fr := I.fr
  rw [hfe] at fr
  obtain ⟨_, ⟨L, _, hf, _⟩, _⟩ := fr
  exact ⟨L, hf⟩

theorem ExPost.came (hfe : fe = env :: outer) (cx : Cx T K C fe env A n) (I : Inv T fe own K.wr env K.vars ρ g σ s.heap) {x : Value} (h : ExPost T K fe own env g s ρ as r x s') :
    notedBy (model T.prog T.w) A env (fun e s'' => cameBackBy (model T.prog T.w) A env (ExPost T K fe own env g s ρ as r) e s'') x s' := by
  obtain ⟨L, hL⟩ := frame_some hfe I
  obtain ⟨c, σ', g', ρ', e, st, fl, I', hv⟩ := h
  have hfr : A.frames = some (env :: outer) := by rw [← hfe]; exact cx.ha.frames
  rw [hL] at fl
  have dead : ∀ its : List Addr, (∀ a, a ∈ its → g'.fz a = none ∧ a ∉ g'.mu ∧ s.heap.get? a = none) → (∀ c, c ∈ its → c ∉ avOf fe own env) := fun its hi c hc q => by
    obtain ⟨o, eo⟩ := (I.avAp c q).2.2
    rw [(hi c hc).2.2] at eo; cases eo
  unfold notedBy
  refine note_fly (s₀ := s) hfr hL I'.st (by rw [← hfe]; exact I'.fr) fl.toX (fun a e => st.kept.dead e) fun h₁ its₁ nr₁ hi₁ fl₁ => ?_
  have nr₁ : Near its₁ (frsOf fe) s'.heap h₁ := by rw [hfe]; exact nr₁
  have st₁ := st.near I'.fr (fun a ha => ⟨(hi₁ a ha).1, (hi₁ a ha).2.1⟩) (fun a ha => (hi₁ a ha).2.2) nr₁
  have I₁ := I'.near (fun a ha => ⟨(hi₁ a ha).1, (hi₁ a ha).2.1⟩) (dead its₁ hi₁) nr₁
  unfold cameBackBy
  refine wpAny_bind (FlyX.field (s := { s' with heap := h₁ }) fl₁ fun tb => ?_)
  rw [if_neg (show ¬ ((Value.ref tb == Value.none) = true) from by simp)]
  show wpAny _ _ (setFlight x env.frame) _ _ _
  rw [hL]
  refine flight_fly (s := { s' with heap := h₁ }) (fs := frsOf fe) fl₁ fun h₂ its₂ nr₂ hi₂ fl₂ => ?_
  have st₂ := st₁.near I₁.fr (fun a ha => ⟨(hi₂ a ha).1, (hi₂ a ha).2.1⟩) (fun a ha => (hi₂ a ha).2.2) nr₂
  have I₂ := Inv.near (s := { s' with heap := h₁ }) I₁ (fun a ha => ⟨(hi₂ a ha).1, (hi₂ a ha).2.1⟩) (dead its₂ hi₂) nr₂
  exact ⟨c, σ', g', ρ', e, st₂, by rw [hL]; exact fl₂.toFly fun v hv => .inr ⟨L, rfl, hv⟩, I₂, hv⟩

theorem ss_ite (c : E) {a b : List S} (ha : SSs a) (hb : SSs b) : SS (.ite c a b) := by
  intro T K C fe outer own env A n ρ g σ s x hc hfe cx I hH hr
  cases hc with
  | @mk t x y p h1 h2 h3 =>
    (first | rw [xA_1] at hr ⊢ | rw [xA_2] at hr ⊢ | rw [xA_3] at hr ⊢ | rw [xA_4] at hr ⊢ | rw [xA_5] at hr ⊢ | rw [xA_6] at hr ⊢ | rw [xA_7] at hr ⊢ | rw [xA_8] at hr ⊢ | rw [xA_9] at hr ⊢ | rw [xA_10] at hr ⊢ | rw [xA_11] at hr ⊢ | rw [xA_12] at hr ⊢ | rw [xA_13] at hr ⊢)
    have wa : ∀ i, i ∈ asgAll a → i ∈ asgs (.ite c a b) := fun i h => show i ∈ _ ++ _ from List.mem_append.mpr (.inl h)
    have wb : ∀ i, i ∈ asgAll b → i ∈ asgs (.ite c a b) := fun i h => show i ∈ _ ++ _ from List.mem_append.mpr (.inr h)
    refine wpAny_If ?_
    have hr' : (evalE C c ρ σ).bind toB ≠ .bad := fun q => hr (by
      cases hq : evalE C c ρ σ with
      | ok v σ' =>
        rw [hq] at q
        simp only [Res.bind, toB] at q ⊢
        cases h2 : truth σ' v with
        | none => rfl
        | some b => rw [h2] at q; cases q
      | exc c σ' => rw [hq] at q; cases q
      | bad => rfl)
    refine wpAny_mono ((soundE c).2 _ h1 cx I hH hr') (fun bb s₁ ⟨b', σ₁, g₁, e₁, st₁, r₁⟩ => ?_) fun q s' h => .ofE I (fun cc σ' e' => ?_) h
    · have r₁ : bb = b' := r₁
      subst r₁
      cases hq : evalE C c ρ σ with
      | exc c σ' => rw [hq] at e₁; cases e₁
      | bad => rw [hq] at e₁; cases e₁
      | ok v σ' =>
        rw [hq] at e₁ hr
        simp only [Res.bind, toB] at e₁
        cases h4 : truth σ' v with
        | none => rw [h4] at e₁; cases e₁
        | some b'' =>
          rw [h4] at e₁; cases e₁
          simp only [Res.bind, h4] at hr ⊢
          have I₁ := I.step st₁
          cases bb with
          | true => exact wpAny_mono (ha x h2 hfe cx I₁ (hH.mono st₁.le) hr) (fun f s' h => OkPost.after st₁.toO (fun _ _ => rfl) rfl (h.wide wa)) fun q s' h => ExPost.after st₁.toO (fun _ _ => rfl) rfl (h.wide wa)
          | false => exact wpAny_mono (hb y h3 hfe cx I₁ (hH.mono st₁.le) hr) (fun f s' h => OkPost.after st₁.toO (fun _ _ => rfl) rfl (h.wide wb)) fun q s' h => ExPost.after st₁.toO (fun _ _ => rfl) rfl (h.wide wb)
    · cases hq : evalE C c ρ σ with
      | ok v σ' =>
        rw [hq] at e'
        simp only [Res.bind, toB] at e'
        cases h2 : truth σ' v with
        | none => rw [h2] at e'; cases e'
        | some b'' => rw [h2] at e'; cases e'
      | exc c' σ' => rw [hq] at e'; cases e'; rfl
      | bad => rw [hq] at e'; cases e'

structure ForAt (T : Top) (K : Kx) (fe : List Env) (own : List Addr) (env : Env) (its : List Addr) (a : Addr) (hd b : Bool) (f : V → Vars → Store → Res Fl) (whole : Res Fl) (as : List Nat) (ρ : Vars) (g₀ : G) (s₀ : Shared)
    (n : Nat) (vs : Src) (ρ₁ : Vars) (g : G) (σ : Store) (s : Shared) : Prop where
  eq : whole = forS f n vs ρ₁ σ
  step : Step T (g₀.mu ++ own) (frsOf fe) g₀ s₀ g σ s
  inv : Inv T fe own K.wr env K.vars ρ₁ g σ s.heap
  it : ItOk T (avOf fe own env) g s.heap hd b its a vs
  vars : ∀ i, i ∉ as → ρ₁[i]? = ρ[i]?

theorem bindTs_out {hd : Bool} {ts : List Nat} {v : V} {ρ' : Vars} (h : bindTs hd ρ ts v = some ρ') {i : Nat} (hi : i ∉ ts) : ρ'[i]? = ρ[i]? := by
  unfold bindTs at h
  split at h
  · cases h
    exact List.getElem?_set_ne fun q => hi (by simp [q])
  · split at h
    · cases h
    · split at h
      · split at h
        · cases h; exact setTs_get hi
        · cases h
      · cases h

theorem ss_for (ts : List Nat) (it : It) {body : List S} (hb : SSs body) : SS (.for_ ts it body) := by
  intro T K C fe outer own env A n ρ g σ s x hc hfe cx I hH hr
  cases hc with
  | @mk t i bd p h1 h2 h3 h4 =>
    (first | rw [xA_1] at hr ⊢ | rw [xA_2] at hr ⊢ | rw [xA_3] at hr ⊢ | rw [xA_4] at hr ⊢ | rw [xA_5] at hr ⊢ | rw [xA_6] at hr ⊢ | rw [xA_7] at hr ⊢ | rw [xA_8] at hr ⊢ | rw [xA_9] at hr ⊢ | rw [xA_10] at hr ⊢ | rw [xA_11] at hr ⊢ | rw [xA_12] at hr ⊢ | rw [xA_13] at hr ⊢)
    have hset : ∀ y, foldedSetIterable i env y = pure y := fun y => by
      unfold foldedSetIterable
      cases i <;> first | rfl | cases h3
    have wt : ∀ i, i ∈ ts → i ∈ asgs (.for_ ts it body) := fun i h => show i ∈ _ ++ _ from List.mem_append.mpr (.inl h)
    have wb : ∀ i, i ∈ asgAll body → i ∈ asgs (.for_ ts it body) := fun i h => show i ∈ _ ++ _ from List.mem_append.mpr (.inr h)
    have exc : ∀ (q : Value) (s' : Shared), (ExR T (frsOf fe) env.frame g s (evalIt C it ρ σ) q s') →
        ExPost T K fe own env g s ρ (asgs (.for_ ts it body)) ((evalIt C it ρ σ).bind fun vs σ => forS (forStep C.hd ts (fun ρ σ => execSs C body ρ σ)) (vs.fuel σ) vs ρ σ) q s' :=
      fun q s' h => .ofE I (fun c σ' e => by rw [e]; rfl) h
    refine wpAny_For ?_ hset
    refine wpAny_mono (soundI it i (avOf fe own env) h2 cx I hH (fun c hc => (I.avAp c hc).2.2) (bind_ne hr)) (fun xv s₁ h₁ => wpAny_mono h₁ (fun itv s₂ ⟨vs, σ₂, g₂, b, its, a, e₂, st₂, hv, it₂, new₂, hb₂⟩ => ?_) exc) exc
    subst hv
    have e3 : ((evalIt C it ρ σ).bind fun vs σ => forS (forStep C.hd ts (fun ρ σ => execSs C body ρ σ)) (vs.fuel σ) vs ρ σ) =
      forS (forStep C.hd ts (fun ρ σ => execSs C body ρ σ)) (vs.fuel σ₂) vs ρ σ₂ := by rw [e₂]; rfl
    rw [e3] at hr ⊢
    generalize hF : forStep C.hd ts (fun ρ σ => execSs C body ρ σ) = F at hr ⊢
    generalize vs.fuel σ₂ = nf at hr ⊢
    generalize hW : forS F nf vs ρ σ₂ = whole at hr ⊢
    refine codeAny_forLoop_any (I := fun k s' => ∃ vs ρ₁ g₁ σ₁, ForAt T K fe own env its a C.hd b F whole (asgs (.for_ ts it body)) ρ g s k vs ρ₁ g₁ σ₁ s') ?_ nf ⟨vs, ρ, g₂, σ₂, hW.symm, st₂.toO, I.step st₂, it₂, fun _ _ => rfl⟩
    rintro k s₃ ⟨vs₃, ρ₃, g₃, σ₃, P⟩
    cases k with
    | zero => exact absurd P.eq hr
    | succ k =>
    have eqk : whole = forOne (forS F k) F ρ₃ σ₃ (vs₃.next σ₃) := P.eq
    have itl : ∀ c, c ∈ its → g₃.fz c = none ∧ c ∉ g₃.mu := fun c hc => ⟨(P.it.lone c hc).1.1, (P.it.lone c hc).1.2.1⟩
    have itn : ∀ c, c ∈ its → c ∉ avOf fe own env := fun c hc => (P.it.lone c hc).2
    refine draw (fs := frsOf fe) (target := t) (hH.mono P.step.le) cx.ha.handled P.inv.st P.it (zip_tup h1.1 h1.2 hb₂) (fun q => hr (by rw [eqk, q]; rfl)) (fun e h' hk => ?_) fun v rest e xv s₄ lt => ?_
    · have e4 : whole = .ok (.next ρ₃) σ₃ := by rw [eqk, e]; rfl
      refine wpAny_execs_nil ?_
      show OkPost T K fe own env g s ρ (asgs (.for_ ts it body)) whole .next _
      exact ⟨.next ρ₃, σ₃, g₃, e4, P.step.rest itl new₂ hk, rfl, P.inv.rest itl itn hk, P.vars⟩
    · refine lt _ _ fun g₅ s₅ st₅ it₅ r₅ => ?_
      have I₅ := Inv.far st₅ (fun c hc => (List.mem_append.mp hc).imp id fun h => itn c h) P.inv
      have S₅ : Step T (g.mu ++ own) (frsOf fe) g s g₅ σ₃ s₅ := P.step.transW st₅ fun c hc => (List.mem_append.mp hc).elim (fun h => (P.step.new.mu c h).imp (fun h => List.mem_append.mpr (.inl h)) id) fun h => .inr (new₂ c h)
      have e5 : whole = (F v ρ₃ σ₃).bind fun x σ => (match x with | .next ρ => forS F k rest ρ σ | .ret y => .ok (.ret y) σ) := by rw [eqk, e]; rfl
      cases eb : bindTs C.hd ρ₃ ts v with
      | none => exact absurd (by rw [e5, ← hF]; simp only [forStep, eb]; rfl) hr
      | some ρ₆ =>
      have e6 : F v ρ₃ σ₃ = execSs C body ρ₆ σ₃ := by rw [← hF]; simp only [forStep, eb]
      rw [e6] at e5
      refine assign_ts I₅ cx.names cx.ha.handled h1.1 r₅ eb fun s₆ st₆ I₆ => ?_
      have S₆ := S₅.transO st₆
      have own_av : ∀ c, c ∈ g₅.mu ++ own → c ∈ g₅.mu ∨ c ∈ avOf fe own env := fun c hc => (List.mem_append.mp hc).imp id fun h => List.mem_append.mpr (.inr (List.mem_append.mpr (.inl h)))
      have fs_av : ∀ c, c ∈ frsOf fe → c ∈ avOf fe own env := fun c h => List.mem_append.mpr (.inl h)
      have it₆ := it₅.step st₆ own_av fs_av
      have V₆ : ∀ i, i ∉ asgs (.for_ ts it body) → ρ₆[i]? = ρ[i]? := fun i hi => (bindTs_out eb fun q => hi (wt i q)).trans (P.vars i hi)
      refine wpAny_mono (hb bd h4 hfe cx I₆ (hH.mono S₆.le) fun q => hr (by rw [e5, q]; rfl)) (fun f s₇ ⟨fl, σ₇, g₇, e₇, st₇, hf⟩ => ?_) fun q s' h => ?_
      · rw [e₇] at e5
        cases fl with
        | ret y =>
          obtain ⟨z, rfl, rz⟩ := hf
          exact ⟨.ret y, σ₇, g₇, e5, S₆.transO st₇, z, rfl, rz⟩
        | next ρ₇ =>
          obtain ⟨rfl, I₇, hv⟩ := hf
          exact ⟨k, Nat.lt_succ_self k, rest, ρ₇, g₇, σ₇, e5, S₆.transO st₇, I₇, it₆.step st₇ own_av fs_av, fun i hi => (hv i fun q => hi (wb i q)).trans (V₆ i hi)⟩
      · refine ExPost.came hfe cx I ?_
        obtain ⟨c, σ', g', ρ', e', st', fl, I', hv⟩ := h
        exact ⟨c, σ', g', ρ', by rw [e5, e']; rfl, S₆.transO st', fl.le fun _ e => S₆.kept.dead e, I', fun i hi => (hv i fun q => hi (wb i q)).trans (V₆ i hi)⟩
end

end Mine

namespace Mine
open PySem PySem.Calls

section
variable {T : Top} {K : Kx} {C : Cfg} {fe outer : List Env} {own fs : List Addr} {env : Env} {A : Around} {n : Nat} {ρ ρ₁ : Vars} {g g₁ : G} {σ σ₁ : Store} {s s₁ s' : Shared} {as as' : List Nat} {r r' : Res Fl} {Er : Value → Shared → Prop}

theorem evalEs_len : ∀ {es : List E} {ρ : Vars} {σ : Store} {vs : List V} {σ' : Store}, evalEs C es ρ σ = .ok vs σ' → vs.length = es.length
  | [], ρ, σ, vs, σ', h => by (first | rw [eB_1] at h | rw [eB_2] at h); cases h; rfl
  | e :: es, ρ, σ, vs, σ', h => by
    (first | rw [eB_1] at h | rw [eB_2] at h)
    cases h1 : evalE C e ρ σ with
    | exc c s => rw [h1] at h; cases h
    | bad => rw [h1] at h; cases h
    | ok v σ₁ =>
      rw [h1] at h
      simp only [Res.bind] at h
      cases h2 : evalEs C es ρ σ₁ with
      | exc c s => rw [h2] at h; cases h
      | bad => rw [h2] at h; cases h
      | ok ws σ₂ =>
        rw [h2] at h
        cases h
        rw [List.length_cons, evalEs_len h2, List.length_cons]

theorem ss_raise (c : Nat) (es : List E) : SS (.raise c es) := by
  intro T K C fe outer own env A n ρ g σ s x hc hfe cx I hH hr
  cases hc with
  | @mk nm np vs cp p h1 h2 h3 =>
    obtain ⟨⟨h1, e⟩, h5, h6⟩ := h1
    · skip
      (first | rw [xA_1] at hr ⊢ | rw [xA_2] at hr ⊢ | rw [xA_3] at hr ⊢ | rw [xA_4] at hr ⊢ | rw [xA_5] at hr ⊢ | rw [xA_6] at hr ⊢ | rw [xA_7] at hr ⊢ | rw [xA_8] at hr ⊢ | rw [xA_9] at hr ⊢ | rw [xA_10] at hr ⊢ | rw [xA_11] at hr ⊢ | rw [xA_12] at hr ⊢ | rw [xA_13] at hr ⊢)
      have hcls : ∃ v, T.cls c = some v := by
        obtain ⟨mg, mb, _, _, ht⟩ := cx.rd.ns
        obtain ⟨v, hv, _⟩ := ht nm _ e
        exact ⟨v, hv⟩
      obtain ⟨v, hv⟩ := hcls
      have hd : C.hd = false := by
        cases hd : C.hd with
        | false => rfl
        | true => rw [hd] at hr; exact absurd rfl hr
      rw [hd] at hr ⊢
      simp only [Bool.false_eq_true, if_false] at hr ⊢
      refine cx.rd.raise c v h5 hv A env s nm np cp p vs _ _ (cx.ha.handled hd) (args_plain _ _ h2) ?_
      refine load_gl cx I h1 e fun y hy => ?_
      have hy : T.cls c = some y := hy
      rw [hv] at hy
      cases hy
      refine ⟨rfl, call_args h2 ?_⟩
      refine wpAny_mono ((soundEs es).ses _ cp h2 cx I hH (bind_ne hr)) (fun xs s₁ ⟨ws, σ₁, g₁, e₁, st₁, r₁⟩ => ?_) fun _ _ h => .ofE I (fun c σ' q => by rw [q]; rfl) h
      have hlen : xs.length ≤ sizeLine := by
        rw [← r₁.length, evalEs_len e₁, ← line_eq]; unfold line; omega
      refine ⟨rfl, hlen, st₁.st.keepsBase, fun h' ex hm => ?_⟩
      obtain ⟨t, ht, _, _⟩ := hm.there
      have st₂ : Step T g₁.mu (frsOf fe) g₁ s₁ g₁ σ₁ { s₁ with heap := h' } := .grow st₁.st hm.keeps
      refine ⟨c, σ₁, g₁, ρ, by rw [e₁]; rfl, (st₁.trans st₂).toO, ⟨ex, _, _, rfl, ht, ⟨hv, rfl⟩, rfl, st₁.st.fz_none hm.new, st₁.st.mu_none hm.new, st₁.kept.dead hm.new, rfl, .inl rfl⟩, (I.step st₁).step st₂, fun _ _ => rfl⟩

theorem not_tup_swap {es : List Expr} {k : Nat} {p : Pos} {v : Expr} (h : notTup v = true) (env : Env) : swappedStores [.Tuple es k p] v env = pure none := by
  unfold swappedStores
  cases v <;> first | rfl | cases h

theorem ss_unp (xs : List Nat) (e : E) : SS (.unp xs e) := by
  intro T K C fe outer own env A n ρ g σ s x hc hfe cx I hH hr
  cases hc with
  | @mk es k p v p' h1 h2 h3 h4 =>
    rw [arm_exec_Assign]
    (first | rw [xA_1] at hr ⊢ | rw [xA_2] at hr ⊢ | rw [xA_3] at hr ⊢ | rw [xA_4] at hr ⊢ | rw [xA_5] at hr ⊢ | rw [xA_6] at hr ⊢ | rw [xA_7] at hr ⊢ | rw [xA_8] at hr ⊢ | rw [xA_9] at hr ⊢ | rw [xA_10] at hr ⊢ | rw [xA_11] at hr ⊢ | rw [xA_12] at hr ⊢ | rw [xA_13] at hr ⊢)
    refine wpAny_bind (wpAny_standAt ?_)
    show wpAny _ _ (swapsWith v (some (.Tuple es k p)) p'.line env >>= _) _ _ _
    rw [not_swaps h3, pure_bind]
    simp only [Bool.false_eq_true, if_false]
    refine wpAny_bind (wpAny_mono ((soundE e).1 _ h2 cx I hH (bind_ne hr)) (fun xv s₁ ⟨b, σ₁, g₁, e₁, st₁, r₁⟩ => ?_) fun _ _ h => .ofE I (fun c σ' q => by rw [q]; rfl) h)
    rw [not_tup_swap h4, pure_bind]
    unfold assignStores
    show wpAny _ _ (assignAll xv [assign (.Tuple es k p) env] >>= fun _ => pure Flow.next) _ _ _
    have I₁ := I.step st₁
    have hall : assignAll xv [assign (.Tuple es k p) env] = (assign (.Tuple es k p) env xv) := by
      first | rfl | (unfold assignAll; rfl)
    rw [hall]
    rw [e₁] at hr ⊢
    simp only [Res.bind] at hr ⊢
    cases eb : bindTs C.hd ρ xs b with
    | none => rw [eb] at hr; exact absurd rfl hr
    | some ρ' =>
    refine wpAny_bind (assign_ts I₁ cx.names cx.ha.handled h1 r₁ eb fun s₂ st₂ I₂ => wpAny_pure ?_)
    exact ⟨.next ρ', σ₁, g₁, rfl, st₁.toO.transO st₂, rfl, I₂, fun j hj => bindTs_out eb hj⟩
end

end Mine

namespace Mine
end Mine

namespace Mine
open PySem PySem.Calls

section
variable {T : Top} {K : Kx} {C : Cfg} {fe outer : List Env} {own fs X : List Addr} {env : Env} {A : Around} {n : Nat} {ρ ρ₁ : Vars} {g g₁ : G} {σ σ₁ : Store} {s s₁ s' : Shared} {as as' : List Nat} {r r' : Res Fl} {Er : Value → Shared → Prop}

theorem ss_try {body : List S} {hs : List (Nat × Option Nat × List S)} (hb : SSs body) : SS (.try_ body hs) := by
  intro T K C fe outer own env A n ρ g σ s x hc hfe cx I hH hr
  cases hc with
  | @mk b l p h1 h2 h3 =>
    obtain ⟨l₀, ls, rfl⟩ : ∃ l₀ ls, l = l₀ :: ls := by
      cases l with
      | nil => exact absurd rfl h3
      | cons l₀ ls => exact ⟨l₀, ls, rfl⟩
    have wb : ∀ i, i ∈ asgAll body → i ∈ asgs (.try_ body hs) := fun i h => show i ∈ _ ++ _ from List.mem_append.mpr (.inl h)
    (first | rw [xA_1] at hr ⊢ | rw [xA_2] at hr ⊢ | rw [xA_3] at hr ⊢ | rw [xA_4] at hr ⊢ | rw [xA_5] at hr ⊢ | rw [xA_6] at hr ⊢ | rw [xA_7] at hr ⊢ | rw [xA_8] at hr ⊢ | rw [xA_9] at hr ⊢ | rw [xA_10] at hr ⊢ | rw [xA_11] at hr ⊢ | rw [xA_12] at hr ⊢ | rw [xA_13] at hr ⊢)
    refine wpAny_Try_except ?_
    refine wpAny_mono (hb b h1 hfe cx I hH fun q => hr (by rw [q])) (fun f s₁ ⟨fl, σ₁, g₁, e₁, st₁, hf⟩ => ?_) fun x s₁ ⟨c, σ₁, g₁, ρ₁, e₁, st₁, fl, I₁, hv⟩ => ?_
    · rw [e₁]
      cases fl with
      | next ρ' =>
        obtain ⟨rfl, I', hv'⟩ := hf
        exact wpAny_execs_nil ⟨.next ρ', σ₁, g₁, rfl, st₁, rfl, I', fun i hi => hv' i fun q => hi (wb i q)⟩
      | ret v =>
        obtain ⟨y, rfl, ry, hy⟩ := hf
        exact ⟨.ret v, σ₁, g₁, rfl, st₁, y, rfl, ry, hy⟩
    · exact absurd (by rw [e₁]) hr

theorem bind_names : ∀ (is : List Nat) (nms : List Str) (vs : List V) (xs : List Value) (ρ : Vars) (s : Shared) (Q : Unit → Shared → Prop), Inv T fe own K.wr env K.vars ρ g σ s.heap → is.length = nms.length → vs.length = is.length →
    (∀ p, p ∈ is.zip nms → K.vars[p.1]? = some p.2 ∧ p.2 ∈ K.wr ∧ (env.kindOf p.2 = some .local ∨ env.kindOf p.2 = some .cell)) → RepVs T g vs xs → (∀ s', Step T (g.mu ++ own) fs g s g σ s' → Inv T fe own K.wr env K.vars (setTs ρ is vs) g σ s'.heap → Q () s') →
    wpAny (model T.prog T.w) A (assignInOrder (nms.map fun n => bindName env n) xs) Q Er s
  | [], [], [], [], ρ, s, Q, I, _, _, _, _, h => wpAny_pure (h s (.refl I.st) I)
  | i :: is, nm :: nms, v :: vs, x :: xs, ρ, s, Q, I, h1, h2, hk, r, h => by
    obtain ⟨k1, k2, k3⟩ := hk (i, nm) (by simp)
    show wpAny _ _ (holding xs (bindName env nm x) >>= fun _ => assignInOrder (nms.map fun n => bindName env n) xs) _ _ _
    refine wpAny_bind (wpAny_holding (wpAny_bindName (store_name (fs := fs) I k1 k2 k3 r.1 fun s₁ st₁ I₁ => ?_)))
    exact bind_names is nms vs xs _ s₁ Q I₁ (by simpa using h1) (by simpa using h2) (fun p hp => hk p (by simp [hp])) r.2 fun s' st' I' => h s' (st₁.transO st') I'
  | [], _ :: _, _, _, _, _, _, _, h1, _, _, _, _ => by simp at h1
  | _ :: _, [], _, _, _, _, _, _, h1, _, _, _, _ => by simp at h1
  | [], [], _ :: _, _, _, _, _, _, _, h2, _, _, _ => by simp at h2
  | _ :: _, _ :: _, [], _, _, _, _, _, _, h2, _, _, _ => by simp at h2
  | [], [], [], _ :: _, _, _, _, _, _, _, _, r, _ => r.elim
  | _ :: _, _ :: _, _ :: _, [], _, _, _, _, _, _, _, r, _ => r.elim

theorem swapNames_get {line : Nat} {xs : List Nat} {ts : List Expr} (h : IsSw K line xs ts) : ∃ nms : List Str, nms.length = xs.length ∧ ts.length = xs.length ∧
    (∀ env : Env, env.scope.names = K.names → ts.filterMap (fun | .Name id pos => if env.kindOf id == some .local && pos.line == line then some id else none | _ => none) = nms) ∧ (∀ p, p ∈ xs.zip nms → K.canWr p.1 p.2 = true) := by
  induction h with
  | nil => exact ⟨[], rfl, rfl, fun _ _ => rfl, fun p hp => by simp at hp⟩
  | @cons i nm p r l h1 h2 h3 h4 ih =>
    obtain ⟨nms, q1, q2, q3, q4⟩ := ih
    refine ⟨nm :: nms, congrArg (· + 1) q1, congrArg (· + 1) q2, fun env hn => ?_, fun p hp => ?_⟩
    · have hk : env.kindOf nm = some .local := by rw [kindOf_names hn]; exact h2
      rw [List.filterMap_cons]
      simp only [hk, h3, beq_self_eq_true, Bool.and_self, if_true]
      rw [q3 env hn]
    · simp only [List.zip_cons_cons, List.mem_cons] at hp
      rcases hp with rfl | hp
      · exact h1
      · exact q4 p hp
end

end Mine

namespace Mine
open PySem PySem.Calls

theorem len_three {α : Type} {l : List α} (h : l.length = 3) : ∃ a b c, l = [a, b, c] := by
  match l, h with
  | [a, b, c], _ => exact ⟨a, b, c, rfl⟩

theorem eraseDups_nodup : ∀ l : List Str, l.Nodup → l.eraseDups = l
  | [], _ => by simp
  | a :: as, h => by
    rw [List.eraseDups_cons]
    have h' := List.nodup_cons.mp h
    have hf : as.filter (fun b => !b == a) = as := by
      rw [List.filter_eq_self]
      intro b hb
      simp only [Bool.not_eq_true', beq_eq_false_iff_ne]
      intro q
      exact h'.1 (q ▸ hb)
    rw [hf, eraseDups_nodup as h'.2]

theorem names_nodup {vars : List Str} (hv : vars.Nodup) : ∀ {xs : List Nat} {nms : List Str}, nms.length = xs.length → xs.Nodup → (∀ p, p ∈ xs.zip nms → vars[p.1]? = some p.2) → nms.Nodup
  | [], [], _, _, _ => List.nodup_nil
  | i :: xs, nm :: nms, hl, hn, hp => by
    have hn' := List.nodup_cons.mp hn
    refine List.nodup_cons.mpr ⟨fun hm => ?_, names_nodup hv (by simpa using hl) hn'.2 fun p h => hp p (by simp [h])⟩
    obtain ⟨k, hk, e⟩ := List.mem_iff_getElem.mp hm
    have hk' : k < xs.length := by simp at hl; omega
    have h1 := hp (xs[k], nms[k]) (by
      simp only [List.zip_cons_cons, List.mem_cons]
      exact .inr (List.mem_iff_getElem.mpr ⟨k, by simp; omega, by simp⟩))
    have h2 := hp (i, nm) (by simp)
    rw [e] at h1
    have hx : xs[k] = i := nodup_inj hv h1 h2
    exact hn'.1 (by rw [← hx]; exact List.getElem_mem hk')
  | [], _ :: _, hl, _, _ => by simp at hl
  | _ :: _, [], hl, _, _ => by simp at hl

theorem noStar_any {es : List E} {K : Kx} : ∀ {vs : List Expr}, IsEs es K vs → (vs.any fun | .Starred .. => true | _ => false) = false := by
  induction es with
  | nil => intro vs h; cases h; rfl
  | cons e es ih =>
    intro vs h
    cases h with
    | @mk x l h1 h2 h3 =>
      rw [List.any_cons, ih h3]
      cases x <;> first | rfl | cases h2

section
variable {T : Top} {K : Kx} {C : Cfg} {fe outer : List Env} {own fs X : List Addr} {env : Env} {A : Around} {n : Nat} {ρ ρ₁ : Vars} {g g₁ : G} {σ σ₁ : Store} {s s₁ s' : Shared} {Er : Value → Shared → Prop}

theorem sw_eq {ts vs : List Expr} {k k' : Nat} {p p' : Pos} {nms : List Str} (hk : env.scope.kind = .function) (h1 : ts.length = 2 ∨ ts.length = 3) (h2 : vs.length = ts.length) (h3 : (vs.any fun | .Starred .. => true | _ => false) = false)
    (h4 : ts.filterMap (fun | .Name id pos => if env.kindOf id == some .local && pos.line == headLine ts then some id else none | _ => none) = nms) (h5 : nms.length = ts.length) (h6 : nms.Nodup)
    (h7' : vs.all (foldedForSure 8) = false) (h8' : vs.all (constantsAlone 8) = false) : swappedStores [.Tuple ts k p] (.Tuple vs k' p') env = pure (some nms) := by
  have hl : (ts.head?.map (·.pos.line)).getD 0 = headLine ts := by cases ts <;> rfl
  have hc1 : (!(ts.length == 2 || ts.length == 3) || vs.length != ts.length || env.blockKind != .function) = false := by
    have : env.blockKind = .function := by simp [Env.blockKind, hk]
    rw [this, h2]
    rcases h1 with h | h <;> rw [h] <;> rfl
  have hc2 : (nms.length != ts.length || nms.eraseDups.length != nms.length) = false := by
    rw [eraseDups_nodup nms h6, h5]; simp
  unfold swappedStores
  simp only [hc1, Bool.false_eq_true, if_false, hl]
  refine (if_neg fun q => ?_).trans ?_
  · have q' : (vs.any fun | .Starred .. => true | _ => false) = true := q
    rw [h3] at q'; cases q'
  · have key : ∀ N : List Str, N = nms → (if (N.length != ts.length || N.eraseDups.length != N.length) = true then (pure none : Sem (Option (List Str))) else if vs.all (foldedForSure 8) = true then pure none else
        if vs.all (constantsAlone 8) = true then unsupported "assign.tuple-of-constant-expressions:order-of-the-stores" else pure (some N)) = pure (some nms) := fun N hN => by
      subst hN
      rw [hc2, h7', h8']; rfl
    exact key _ h4

theorem ss_swp (xs : List Nat) (es : List E) : SS (.swp xs es) := by
  intro T K C fe outer own env A n ρ g σ s x hc hfe cx I hH hr
  cases hc with
  | @mk ts k p vs k' p' pos h1 h2 h3 h4 h6 h7 =>
    obtain ⟨h1, h5⟩ := h1
    obtain ⟨nms, q1, q2, q3, q4⟩ := swapNames_get h1
    have wr : ∀ p, p ∈ xs.zip nms → K.vars[p.1]? = some p.2 ∧ p.2 ∈ K.wr ∧ (env.kindOf p.2 = some .local ∨ env.kindOf p.2 = some .cell) := fun p hp => canWr_ok cx.names (q4 p hp)
    have hnd : nms.Nodup := names_nodup I.nd q1 h5 fun p hp => (wr p hp).1
    rw [arm_exec_Assign]
    (first | rw [xA_1] at hr ⊢ | rw [xA_2] at hr ⊢ | rw [xA_3] at hr ⊢ | rw [xA_4] at hr ⊢ | rw [xA_5] at hr ⊢ | rw [xA_6] at hr ⊢ | rw [xA_7] at hr ⊢ | rw [xA_8] at hr ⊢ | rw [xA_9] at hr ⊢ | rw [xA_10] at hr ⊢ | rw [xA_11] at hr ⊢ | rw [xA_12] at hr ⊢ | rw [xA_13] at hr ⊢)
    refine wpAny_bind (wpAny_standAt ?_)
    show wpAny _ _ (swapsWith (.Tuple vs k' p') (some (.Tuple ts k p)) pos.line env >>= _) _ _ _
    rw [not_swaps (v := .Tuple vs k' p') rfl, pure_bind]
    simp only [Bool.false_eq_true, if_false]
    rw [arm_eval_Tuple, sw_eq I.blk.kind (.inr h3) h4 (noStar_any h2) (q3 env cx.names) (by rw [q1, q2]) hnd h6 h7]
    refine wpAny_bind (wpAny_bind (wpAny_standAt (wpAny_bind (wpAny_mono ((soundEs es).ses vs p' h2 cx I hH (bind_ne hr)) (fun ys s₁ ⟨ws, σ₁, g₁, e₁, st₁, r₁⟩ => ?_) fun _ _ h => .ofE I (fun c σ' q => by rw [q]; rfl) h))))
    rw [e₁] at hr ⊢
    simp only [Res.bind] at hr ⊢
    by_cases hq : ws.length = xs.length ∧ C.hd = false
    · rw [if_pos hq]
      have hyl : ys.length = xs.length := by rw [← r₁.length]; exact hq.1
      have hxl : xs.length ≤ 3 := by rw [← q2]; omega
      refine wpAny_newTuple ?_ (by rw [hyl, ← line_eq]; unfold line; omega)
      rw [pure_bind]
      unfold assignStores
      have st₂ : Step T g₁.mu (frsOf fe) g₁ s₁ g₁ σ₁ { s₁ with heap := s₁.heap.push { cls := .type "tuple", data := .seq ys.toArray } } := .grow st₁.st fun b o e => Heap.get?_push_of_some _ e
      refine wpAny_bind (wpAny_rule (wpAny_bind ?_))
      have hsz : nms.length = ys.toArray.size := by simp [q1, hyl]
      rw [hsz]
      refine wpAny_unpackItems_tuple (cx.ha.handled hq.2) ⟨_, Heap.get?_push_size _ rfl, rfl, _, rfl⟩ fun h' he => ?_
      have st₃ : Step T g₁.mu (frsOf fe) g₁ { s₁ with heap := s₁.heap.push { cls := .type "tuple", data := .seq ys.toArray } } g₁ σ₁ { s₁ with heap := h' } := .ext_size st₂.st he
      have I₃ := ((I.step st₁).step st₂).step st₃
      have S₃ := (st₁.trans st₂).trans st₃
      rw [show (ys.toArray.toList) = ys by simp]
      have fin : ∀ s', Step T (g₁.mu ++ own) (frsOf fe) g₁ { s₁ with heap := h' } g₁ σ₁ s' → Inv T fe own K.wr env K.vars (setTs ρ xs ws) g₁ σ₁ s'.heap →
          OkPost T K fe own env g s ρ (asgs (.swp xs es)) (Res.ok (.next (setTs ρ xs ws)) σ₁) .next s' := fun s' st' I' =>
        ⟨.next (setTs ρ xs ws), σ₁, g₁, rfl, S₃.toO.transO st', rfl, I', fun j hj => setTs_get hj⟩
      refine wpAny_bind ?_
      · rw [h3] at q2
        obtain ⟨i, j, l, rfl⟩ := len_three q2.symm
        obtain ⟨a, b, c, rfl⟩ := len_three (q1.trans q2.symm)
        obtain ⟨u, v, w, rfl⟩ := len_three (hq.1.trans q2.symm)
        obtain ⟨y, z, yz, rfl⟩ := len_three (hyl.trans q2.symm)
        have hij : i ≠ j ∧ i ≠ l ∧ j ≠ l := by simp at h5; exact ⟨fun q => h5.1.1 q, fun q => h5.1.2 q, fun q => h5.2 q⟩
        refine bind_names (fs := frsOf fe) [l, j, i] [c, b, a] [w, v, u] [yz, z, y] ρ _ _ I₃ rfl rfl (fun p hp => wr p (by simp at hp ⊢; rcases hp with h | h | h <;> simp [h])) ⟨r₁.2.2.1, r₁.2.1, r₁.1, trivial⟩ fun s' st' I' => wpAny_pure (fin s' st' ?_)
        have e : setTs ρ [l, j, i] [w, v, u] = setTs ρ [i, j, l] [u, v, w] := by
          show ((ρ.set l (some w)).set j (some v)).set i (some u) = ((ρ.set i (some u)).set j (some v)).set l (some w)
          rw [List.set_comm _ _ (Ne.symm hij.2.2), List.set_comm _ _ (Ne.symm hij.2.1), List.set_comm _ _ (Ne.symm hij.1)]
        rw [← e]; exact I'
    · rw [if_neg hq] at hr; exact absurd rfl hr
end

end Mine

namespace Mine
open PySem PySem.Calls

section
variable {T : Top} {A : Around} {s : Shared} {g : G} {Er : Value → Shared → Prop}
theorem setItem_plain {l : Addr} {items : Array Value} {m : Nat} {k : Int} {t : Tok} {v : Value} {Q : Unit → Shared → Prop} (ho : s.heap.get? l = some { cls := .type "list", dict := none, data := .seq items m, slots := #[] }) (h0 : 0 ≤ k) (hfit : k < 2 ^ 63) (hn : k < items.size)
    (hQ : ∀ h' m', h'.get? l = some { cls := .type "list", dict := none, data := .seq (items.setIfInBounds k.toNat v) m', slots := #[] } → Heap.SameBut l s.heap h' → Q () { s with heap := h' }) : wpAny (model T.prog T.w) A (setItem (.ref l) (.int k t) v) Q Er s := by
  have hT : s.TypeIs (.ref l) "list" := ⟨_, ho, rfl⟩
  unfold setItem
  refine wpAny_holding (wpAny_bind (wpAny_sequenceKey hT (by decide) (wpAny_bind (wpAny_callSpecial?_slot (name := Str.ofString "__setitem__") hT slot_list_setitem (wpAny_call_entry slot_list_setitem hT entry_list_setitem ?_ (args_list_setitem _ _ _))))))
  show wpAny _ _ (Builtin.List.listSubscript? (.int k t) >>= _) _ _ s
  refine wpAny_bind (wpAny_listSubscript_int (fitsIndex_of h0 hfit) ?_)
  clear hfit
  obtain ⟨j, rfl⟩ := Int.eq_ofNat_of_zero_le h0
  have hj : j < items.size := Int.ofNat_lt.mp hn
  show wpAny _ _ ((seqItemAt l j >>= fun r => pure (r.map (j, ·))) >>= _) _ _ s
  refine wpAny_bind (wpAny_bind (wpAny_seqItemAt ho rfl (wpAny_pure ?_)))
  rw [Array.getElem?_eq_getElem hj]
  show wpAny _ _ (setSeqItemAt l j v >>= _) _ _ s
  refine wpAny_bind (wpAny_setSeqItemAt ho rfl ?_)
  have e := Heap.get?_update_self (Obj.mapSeq (·.setIfInBounds j v)) ho rfl
  exact wpAny_bind (wpAny_pure (wpAny_pure ⟨.none, rfl, wpAny_pure (hQ _ _ e (Heap.SameBut.update ..))⟩))

theorem RepVs.set : ∀ {ws : List V} {xs : List Value} (j : Nat) {v : V} {x : Value}, RepVs T g ws xs → RepV T g v x → RepVs T g (ws.set j v) (xs.set j x)
  | [], [], _, _, _, _, _ => trivial
  | _ :: _, _ :: _, 0, _, _, h, r => ⟨r, h.2⟩
  | _ :: _, _ :: _, j + 1, _, _, h, r => ⟨h.1, RepVs.set j h.2 r⟩
  | [], _ :: _, _, _, _, h, _ => h.elim
  | _ :: _, [], _, _, _, h, _ => h.elim
end
theorem ss_set (o i v : E) : SS (.set o i v) := by
  intro T K C fe outer own env A n ρ g σ s x hc hfe cx I hH hr
  cases hc with
  | @mk oe ie p ve p' h1 h2 h3 h4 =>
  rw [arm_exec_Assign]
  rw [xA_4] at hr ⊢
  refine wpAny_bind (wpAny_standAt ?_)
  show wpAny _ _ (swapsWith ve (some (.Subscript oe ie p)) p'.line env >>= _) _ _ _
  rw [not_swaps h4, pure_bind]
  simp only [Bool.false_eq_true, if_false]
  refine wpAny_bind (wpAny_mono ((soundE v).1 _ h1 cx I hH (bind_ne hr)) (fun xv s₁ ⟨b, σ₁, g₁, e₁, st₁, r₁⟩ => ?_) fun _ _ h => .ofE I (fun c σ' q => by rw [q]; rfl) h)
  rw [e₁] at hr ⊢
  have hr : ((evalE C o ρ σ₁).bind fun y σ => (evalE C i ρ σ).bind fun z σ => (setItemV y z b σ).bind fun _ σ => (Res.ok (Fl.next ρ) σ : Res Fl)) ≠ .bad := hr
  have hsw : swappedStores [.Subscript oe ie p] ve env = pure none := by unfold swappedStores; rfl
  rw [hsw, pure_bind]
  unfold assignStores
  show wpAny _ _ (assignAll xv [assign (.Subscript oe ie p) env] >>= fun _ => pure Flow.next) _ _ _
  have hall : assignAll xv [assign (.Subscript oe ie p) env] = (assign (.Subscript oe ie p) env xv) := by
    first | rfl | (unfold assignAll; rfl)
  rw [hall, arm_assign_Subscript]
  have I₁ := I.step st₁
  have H₁ := hH.mono st₁.le
  refine wpAny_bind (wpAny_bind (wpAny_holding (wpAny_mono ((soundE o).1 _ h2 cx I₁ H₁ (bind_ne hr)) (fun ov s₂ ⟨ob, σ₂, g₂, e₂, st₂, r₂⟩ => ?_) fun _ _ h => .ofE I (r := (evalE C o ρ σ₁).bind _) (fun c σ' q => by rw [q]; rfl) (h.after st₁))))
  rw [e₂] at hr
  have hr : ((evalE C i ρ σ₂).bind fun z σ => (setItemV ob z b σ).bind fun _ σ => (Res.ok (Fl.next ρ) σ : Res Fl)) ≠ .bad := hr
  have I₂ := I₁.step st₂
  refine wpAny_bind (wpAny_holding (wpAny_mono ((soundE i).1 _ h3 cx I₂ (H₁.mono st₂.le) (bind_ne hr)) (fun iv s₃ ⟨ib, σ₃, g₃, e₃, st₃, r₃⟩ => ?_) fun _ _ h => .ofE I (r := (evalE C o ρ σ₁).bind _) (fun c σ' q => by rw [e₂]; show (evalE C i ρ σ₂).bind _ = _; rw [q]; rfl) ((h.after st₂).after st₁)))
  rw [e₃] at hr
  have hr : ((setItemV ob ib b σ₃).bind fun _ σ => (Res.ok (Fl.next ρ) σ : Res Fl)) ≠ .bad := hr
  refine wpAny_bind (wpAny_standAt ?_)
  have S₃ := (st₁.trans st₂).trans st₃
  have rb : RepV T g₃ b xv := RepV.mono st₃.le _ _ (RepV.mono st₂.le _ _ r₁)
  have ro : RepV T g₃ ob ov := RepV.mono st₃.le _ _ r₂
  have eq : ((Res.ok b σ₁).bind fun x σ => (evalE C o ρ σ).bind fun y σ => (evalE C i ρ σ).bind fun z σ => (setItemV y z x σ).bind fun _ σ => (Res.ok (Fl.next ρ) σ : Res Fl)) = ((setItemV ob ib b σ₃).bind fun _ σ => (Res.ok (Fl.next ρ) σ : Res Fl)) := by
    show ((evalE C o ρ σ₁).bind _) = _
    rw [e₂]
    show ((evalE C i ρ σ₂).bind _) = _
    rw [e₃]; rfl
  rw [eq]
  cases ob with
  | ref k =>
    obtain ⟨a, hk, rfl⟩ := ro
    cases ej : isIntV ib with
    | none => exact absurd (by show Res.bind (match isIntV ib with | some j => setAt k j b σ₃ σ₃[k]? | none => .bad) _ = _; rw [ej]; rfl) hr
    | some j =>
    obtain ⟨t, rfl⟩ := isIntV_rep r₃ ej
    have e4 : setItemV (.ref k) ib b σ₃ = setAt k j b σ₃ σ₃[k]? := by show (match isIntV ib with | some j => setAt k j b σ₃ σ₃[k]? | none => .bad) = _; rw [ej]
    rw [e4] at hr ⊢
    cases eo : σ₃[k]? with
    | none => rw [eo] at hr; exact absurd rfl hr
    | some oo => cases oo with
    | dead => rw [eo] at hr; exact absurd rfl hr
    | list ws =>
    rw [eo] at hr
    by_cases hj : 0 ≤ j ∧ j < ws.length
    · have es : setAt k j b σ₃ (some (.list ws)) = .ok (.next []) (σ₃.set k (.list (ws.set j.toNat b))) := if_pos hj
      rw [es]
      obtain ⟨x, hx, ys, m', q, hrp, hl⟩ := st₃.st.ob k a _ hk eo
      subst q
      have hsz : ys.size = ws.length := by have := hrp.length; simp at this; omega
      refine wpAny_bind (wpAny_holding (setItem_plain hx hj.1 (by have := line63 hl; omega) (by omega) fun h' m'' ho' hs => ?_))
      have st₄ : Step T g₃.mu (frsOf fe) g₃ s₃ g₃ (σ₃.set k (.list (ws.set j.toNat b))) { s₃ with heap := h' } := .turn st₃.st hk hs ho' ⟨_, m'', rfl, by rw [Array.toList_setIfInBounds]; exact RepVs.set _ hrp rb, by rw [List.length_set]; exact hl⟩
      · exact wpAny_release (wpAny_pure ⟨.next ρ, _, g₃, rfl, (S₃.trans st₄).toO, rfl, ((I₂.step st₃).step st₄), fun _ _ => rfl⟩)
    · rw [show setAt k j b σ₃ (some (.list ws)) = .bad from if_neg hj] at hr
      exact absurd rfl hr
  | _ => exact absurd rfl hr

mutual
theorem soundS : ∀ st : S, SS st
  | .asg x e => ss_asg x e
  | .unp xs e => ss_unp xs e
  | .swp xs es => ss_swp xs es
  | .set o i v => ss_set o i v
  | .exp e => ss_exp e
  | .ite c a b => ss_ite c (soundSs a) (soundSs b)
  | .for_ ts it body => ss_for ts it (soundSs body)
  | .ret e => ss_ret e
  | .raise c es => ss_raise c es
  | .try_ body hs => ss_try (soundSs body)
theorem soundSs : ∀ l : List S, SSs l
  | [] => ss_nil
  | st :: r => ss_cons (soundS st) (soundSs r)

end

end Mine

namespace Mine
open PySem PySem.Calls

theorem cellsFrom_acc : ∀ {names : List (Str × NameKind)} {k : Nat} {acc : List (Str × Addr)} {n : Str}, (∃ c, (n, c) ∈ acc) → ∃ c, (n, c) ∈ cellsFrom k names acc
  | [], _, _, _, h => h
  | (m, kd) :: r, k, acc, n, h => by
    unfold cellsFrom
    split
    · obtain ⟨c, h⟩ := h; exact cellsFrom_acc ⟨c, List.mem_cons_of_mem _ h⟩
    · exact cellsFrom_acc h
theorem cellsFrom_has : ∀ {names : List (Str × NameKind)} {k : Nat} {acc : List (Str × Addr)} {n : Str}, (n, NameKind.cell) ∈ names → ∃ c, (n, c) ∈ cellsFrom k names acc
  | (m, kd) :: r, k, acc, n, h => by
    unfold cellsFrom
    rcases List.mem_cons.mp h with h | h
    · cases h
      rw [if_pos (by decide)]
      exact cellsFrom_acc ⟨k, List.mem_cons_self ..⟩
    · split
      · exact cellsFrom_has h
      · exact cellsFrom_has h
theorem lookup_of_mem {α : Type} {n : Str} : ∀ {l : List (Str × α)}, (∃ c, (n, c) ∈ l) → ∃ c, l.lookup n = some c
  | p :: r, ⟨c, h⟩ => by
    rw [List.lookup_cons]
    split
    · exact ⟨_, rfl⟩
    · rename_i hne
      rcases List.mem_cons.mp h with h | h
      · rw [← h] at hne; simp at hne
      · exact lookup_of_mem ⟨c, h⟩

theorem bindL_out (kf : Str → Option NameKind) : ∀ {bs : List (Str × Value)} {m : Str → Option Value} {n : Str}, (∀ p, p ∈ bs → p.1 ≠ n) → bindL kf bs m n = m n
  | [], m, n, _ => rfl
  | (k, v) :: r, m, n, h => by
    show bindL kf r (if kf k = some .local then fun y => if y = k then some v else m y else m) n = m n
    rw [bindL_out kf fun p hp => h p (List.mem_cons_of_mem _ hp)]
    have := h (k, v) (List.mem_cons_self ..)
    split
    · show (if n = k then some v else m n) = m n
      rw [if_neg (fun q => this (Eq.symm q))]
    · rfl
theorem bindC_out (kf : Str → Option NameKind) : ∀ {bs : List (Str × Value)} {m : Str → Option Value} {n : Str}, (∀ p, p ∈ bs → p.1 ≠ n) → bindC kf bs m n = m n
  | [], m, n, _ => rfl
  | (k, v) :: r, m, n, h => by
    show bindC kf r (if kf k = some .local then m else fun y => if y = k then some v else m y) n = m n
    rw [bindC_out kf fun p hp => h p (List.mem_cons_of_mem _ hp)]
    have := h (k, v) (List.mem_cons_self ..)
    split
    · rfl
    · show (if n = k then some v else m n) = m n
      rw [if_neg (fun q => this (Eq.symm q))]

theorem zip_fst {ns : List Str} {vs : List Value} {p : Str × Value} (h : p ∈ ns.zip vs) : p.1 ∈ ns := (List.of_mem_zip (a := p.1) (b := p.2) h).1

theorem bind_get (kf : Str → Option NameKind) : ∀ {ns : List Str} {vs : List Value} {m : Str → Option Value} {i : Nat} {n : Str} {v : Value}, ns.Nodup → ns[i]? = some n → vs[i]? = some v →
    (kf n = some .local → bindL kf (ns.zip vs) m n = some v) ∧ (kf n ≠ some .local → bindC kf (ns.zip vs) m n = some v)
  | k :: ns, w :: vs, m, 0, n, v, hn, h1, h2 => by
    cases h1; cases h2
    have hn' := List.nodup_cons.mp hn
    have out : ∀ p, p ∈ ns.zip vs → p.1 ≠ k := fun p hp q => hn'.1 (q ▸ zip_fst hp)
    refine ⟨fun hk => ?_, fun hk => ?_⟩
    · show bindL kf (ns.zip vs) (if kf k = some .local then fun y => if y = k then some w else m y else m) k = some w
      rw [bindL_out kf out, if_pos hk]; exact if_pos rfl
    · show bindC kf (ns.zip vs) (if kf k = some .local then m else fun y => if y = k then some w else m y) k = some w
      rw [bindC_out kf out, if_neg hk]; exact if_pos rfl
  | k :: ns, w :: vs, m, i + 1, n, v, hn, h1, h2 => by
    have hn' := List.nodup_cons.mp hn
    have ih := fun m => bind_get kf (m := m) (i := i) (n := n) (v := v) hn'.2 (by simpa using h1) (by simpa using h2)
    exact ⟨fun hk => (ih _).1 hk, fun hk => (ih _).2 hk⟩
  | [], _, _, _, _, _, _, h1, _ => by simp at h1
  | _ :: _, [], _, _, _, _, _, _, h2 => by simp at h2

structure FnOk (T : Top) (gl : Str → Option GV) (fn : Fn) (a : Addr) : Prop where
  ex : ∃ (name : Str) (params : Arguments) (body : List Stmt) (scope : Scope) (pm cd doc : Value) (o : Obj) (vars : List Str),
    T.h0.get? a = some o ∧ o.data = .func (docDef name params body scope pm cd doc) ∧ T.h0.CodeRec cd name ∧ scope.kind = .function ∧ scope.isGenerator = false ∧ scope.isCoroutine = false ∧
    vars.Nodup ∧ vars.length = fn.nvars ∧ fn.nparams ≤ fn.nvars ∧ (∀ vals : List Value, vals.length = fn.nparams → bindArgs (docDef name params body scope pm cd doc) ⟨vals, []⟩ = pure ((vars.take fn.nparams).zip vals)) ∧
    (∀ n, n ∈ vars.take fn.nparams → scope.names.lookup n = some .local ∨ scope.names.lookup n = some .cell) ∧ (∀ p, p ∈ scope.names → p.2 ≠ .free) ∧
    IsSs fn.body ⟨vars, scope.names, vars, gl⟩ body

section
variable {T : Top} {fe : List Env} {own fs X : List Addr} {A : Around} {n : Nat} {g g' : G} {σ σ' : Store} {s s₁ s' : Shared} {hd : Bool}

theorem Step.out {fs' : List Addr} (hk : ∀ b o, s.heap.get? b = some o → s₁.heap.get? b = some o) (hg : s₁.gens = s.gens) (ho : s₁.os = s.os) (x : Step T (g.mu ++ own) fs' g s₁ g' σ' s') (hown : ∀ c, c ∈ own → s.heap.get? c = none)
    (hfs : ∀ c, c ∈ fs' → c ∈ fs ∨ s.heap.get? c = none) : Step T g.mu fs g s g' σ' s' := by
  have no : ∀ b o, s.heap.get? b = some o → b ∉ own := fun b o e q => by rw [hown b q] at e; cases e
  have dd : ∀ a, s₁.heap.get? a = none → s.heap.get? a = none := fun a e => by
    cases q : s.heap.get? a with
    | none => rfl
    | some o => rw [hk a o q] at e; cases e
  refine ⟨x.le, x.st, ⟨fun b o e => x.kept.alive b o (hk b o e), fun b o e nb nf => ?_, fun b o e nb hf => ?_⟩, ⟨fun a h => (x.new.mu a h).imp id (dd a), fun a o h => (x.new.fz a o h).imp id fun h => h.imp (dd a) id⟩, x.gens.trans hg, x.os.trans ho⟩
  · exact x.kept.same b o (hk b o e) (fun q => (List.mem_append.mp q).elim nb (no b o e)) fun q => (hfs b q).elim nf fun h => by rw [h] at e; cases e
  · have nb' : b ∉ g.mu ++ own := fun q => (List.mem_append.mp q).elim nb (no b o e)
    by_cases q : b ∈ fs'
    · exact x.kept.slots b o (hk b o e) nb' q
    · exact ⟨o.slots, x.kept.same b o (hk b o e) nb' q⟩

theorem Fly.out {h h₀ h₁ : Heap} {c : Nat} {x : Value} (f : FlyX T g h h₁ c x (PAt .none)) (hn : ∀ a, h₁.get? a = none → h₀.get? a = none) : Fly T g h h₀ none c x :=
  (f.toFly (L := none) fun v hv => .inl hv).le hn

theorem fn_sim {C : Cfg} {gl : Str → Option GV} {fn : Fn} {a : Addr} {vs : List V} {xs : List Value} (rd : Ready T gl C.isExc) (fo : FnOk T gl fn a) (cf : CallOk T C.cf n) (st : St T g σ s.heap) (fr : FrOk g s.heap fe) (hA : AOk fe C.hd (n + 1) A) (hH : HOk g A)
    (r : RepVs T g vs xs) : Sim T (frsOf fe) none A g s (call (.ref a) xs) (RepV T) (runFn C fn vs σ) := by
  unfold runFn
  by_cases hl : vs.length = fn.nparams
  · rw [if_pos hl]
    intro hr
    obtain ⟨name, params, body, scope, pm, cd, doc, o, vars, ho, hdat, hcd, hk, hgen, hco, hnd, hnv, hnp, hbind, hpk, hnf, hchk⟩ := fo.ex
    have hxl : xs.length = fn.nparams := by rw [← r.length]; exact hl
    have hnd' : (vars.take fn.nparams).Nodup := List.Nodup.sublist (List.take_sublist _ _) hnd
    refine wpAny_call ?_
    refine codeAny_call_cells (by show A.depth < 1000; have := hA.depth; omega) (st.keepsBase _ _ ho) hdat (rd.ok.nolimit.keeps st.keepsBase) (hcd.keeps st.keepsBase) rfl (hbind xs hxl) rfl (fun p hp => ?_) (fun s₁ ic => ?_) hco hgen hk
    · have hm := zip_fst hp
      rcases hpk p.1 hm with h | h
      · exact .inl h
      · obtain ⟨c, hc⟩ := lookup_of_mem (cellsFrom_has (k := s.heap.objs.size + 1) (acc := []) (mem_of_lookup h))
        exact .inr ⟨h, by show (List.lookup p.1 (cellsFrom (s.heap.objs.size + 1) scope.names [])).isSome = true; rw [hc]; rfl⟩
    · generalize hE : callEnvC (docDef name params body scope pm cd doc) s.heap.objs.size a = env at ic ⊢
      have eloc : env.locals = s.heap.objs.size := by rw [← hE]; rfl
      have esc : env.scope = scope := by rw [← hE]; rfl
      have ecl : env.cells = cellsFrom (s.heap.objs.size + 1) scope.names [] := by rw [← hE]; rfl
      have efr : env.frame = some s.heap.objs.size := by rw [← hE]; rfl
      have egl : env.globals = mainGlobals := by rw [← hE]; rfl
      have ebl : env.builtins = builtinsNs := by rw [← hE]; rfl
      have ekd : ∀ x, env.kindOf x = scope.names.lookup x := fun x => by unfold Env.kindOf; rw [esc]
      obtain ⟨h₁, tk₁, hs₁⟩ := ic.toInCall.same
      have st₁ : St T g σ s₁.heap := (Step.grow (X := g.mu) (fs := frsOf fe) st ic.toInCall.keep (by rw [hs₁]) (by rw [hs₁])).st
      have fr₁ : FrOk g s₁.heap fe := fr.step (Step.grow (fs := frsOf fe) st ic.toInCall.keep (by rw [hs₁]) (by rw [hs₁]))
      have hLn : s.heap.get? s.heap.objs.size = none := atSize _
      have hns := ic.toInCall.ns
      rw [eloc] at hns
      obtain ⟨oL, esL, epL, hoL, hdL, _⟩ := id hns
      have apL : Apart g s₁.heap s.heap.objs.size := ⟨st.fz_none hLn, st.mu_none hLn, oL, hoL⟩
      have cell : ∀ x, env.kindOf x = some .cell ∨ env.kindOf x = some .free → ∃ c v, env.cells.lookup x = some c ∧ s₁.heap.IsCell c v ∧ Apart g s₁.heap c ∧ s.heap.get? c = none := fun x hx => by
        have hc : scope.names.lookup x = some .cell := by
          rcases hx with h | h
          · rw [← ekd]; exact h
          · rw [ekd] at h; exact absurd rfl (hnf _ (mem_of_lookup h))
        obtain ⟨c, hc'⟩ := lookup_of_mem (cellsFrom_has (k := s.heap.objs.size + 1) (acc := []) (mem_of_lookup hc))
        rw [← ecl] at hc'
        have hic := ic.cell x c hc'
        have hab := ic.above x c (mem_of_lookup hc')
        rw [eloc] at hab
        have hcn : s.heap.get? c = none := Heap.get?_none_of_le (Nat.le_of_lt hab)
        obtain ⟨oc, hoc, hdc⟩ := id hic
        exact ⟨c, _, hc', hic, ⟨st.fz_none hcn, st.mu_none hcn, oc, hoc⟩, hcn⟩
      have cav : ∀ c, c ∈ cellsAv env → Apart g s₁.heap c ∧ s.heap.get? c = none := fun c hc => by
        obtain ⟨x, hx, hl'⟩ := of_cellsAv hc
        obtain ⟨c', v, q1, _, q3, q4⟩ := cell x hx
        rw [hl'] at q1; cases q1; exact ⟨q3, q4⟩
      have I : Inv T (env :: fe) (env.locals :: cellsAv env) vars env vars (vs.map some ++ List.replicate (fn.nvars - fn.nparams) none) g σ s₁.heap := by
        refine ⟨st₁, ⟨⟨by rw [esc, hk]; decide, by rw [esc]; exact hgen, by rw [esc]; exact hco, ebl, egl⟩, ⟨s.heap.objs.size, oL, efr, hoL, (fun ws q => by rw [hdL] at q; cases q), apL.1, apL.2.1⟩, fr₁⟩, ⟨env, fe, rfl, rfl⟩,
          ⟨by rw [esc]; exact hk, egl, ebl, by rw [eloc]; exact apL, ⟨_, by rw [eloc]; exact hns⟩, fun x hx => ?_, fun x y c hx hy => name_of_addr ic.apart (mem_of_lookup hx) (mem_of_lookup hy)⟩, fun i x v hi hv => ?_, hnd, by simp, fun x hx c hk' hc => ?_, fun c hc => ?_⟩
        · obtain ⟨c, v, q1, q2, q3, _⟩ := cell x hx
          exact ⟨c, v, q1, q2, q3⟩
        · have hi' : i < vs.length := by
            rcases Nat.lt_or_ge i vs.length with h | h
            · exact h
            · rw [List.getElem?_append_right (by simpa using h)] at hv
              rw [List.getElem?_replicate] at hv
              split at hv <;> cases hv
          rw [List.getElem?_append_left (by simpa using hi'), List.getElem?_map] at hv
          have hv' : vs[i]? = some v := by
            cases q : vs[i]? with
            | none => rw [q] at hv; cases hv
            | some w => rw [q] at hv; simpa using hv
          obtain ⟨y, hy, ry⟩ := r.get hv'
          have hx : (vars.take fn.nparams)[i]? = some x := by rw [List.getElem?_take_of_lt (by omega)]; exact hi
          have hg := bind_get env.kindOf (m := fun _ => none) hnd' hx hy
          refine ⟨fun hloc => ⟨_, y, by rw [eloc]; exact hns, hg.1 hloc, ry⟩, fun hce => ?_⟩
          obtain ⟨c, w, q1, q2, _⟩ := cell x hce
          have hq := ic.cell x c q1
          have hnl : env.kindOf x ≠ some .local := by rcases hce with h | h <;> rw [h] <;> simp
          rw [hg.2 hnl] at hq
          exact ⟨c, y, q1, hq, ry⟩
        · exact List.mem_cons_of_mem _ (mem_cellsAv (.inl hk') hc)
        · rcases List.mem_cons.mp hc with rfl | hc
          · rw [eloc]; exact apL
          · exact (cav c hc).1
      have hA' : AOk (env :: fe) C.hd n (A.deeper env) := ⟨by show A.frames.map _ = _; rw [hA.frames]; rfl, by show A.depth + 1 + n ≤ 600; have := hA.depth; omega, by show A.units + 3 + 100 * n ≤ 9000; have := hA.units; omega, hA.handled⟩
      have cx : Cx T ⟨vars, scope.names, vars, gl⟩ C (env :: fe) env (A.deeper env) n := ⟨rd, by rw [esc], hA', cf⟩
      have hown : ∀ c, c ∈ env.locals :: cellsAv env → s.heap.get? c = none := fun c hc => by
        rcases List.mem_cons.mp hc with rfl | hc
        · rw [eloc]; exact hLn
        · exact (cav c hc).2
      have hfs : ∀ c, c ∈ frsOf (env :: fe) → c ∈ frsOf fe ∨ s.heap.get? c = none := fun c hc => by
        unfold frsOf at hc
        rw [List.filterMap_cons_some efr] at hc
        rcases List.mem_cons.mp hc with rfl | hc
        · exact .inr hLn
        · exact .inl hc
      have dd : ∀ a, s₁.heap.get? a = none → s.heap.get? a = none := fun a e => by
        cases q : s.heap.get? a with
        | none => rfl
        | some o => rw [ic.toInCall.keep a o q] at e; cases e
      have hg₁ : s₁.gens = s.gens := by rw [hs₁]
      have ho₁ : s₁.os = s.os := by rw [hs₁]
      have hrb : execSs C fn.body (vs.map some ++ List.replicate (fn.nvars - fn.nparams) none) σ ≠ .bad := fun q => hr (by rw [q]; rfl)
      refine wpAny_mono (soundSs fn.body (outer := fe) body hchk rfl cx I hH hrb) (fun f s₂ ⟨fl, σ₂, g₂, e₂, st₂, hf⟩ => ?_) fun x s₂ ⟨c, σ₂, g₂, ρ₂, e₂, st₂, fl, I₂, _⟩ => ?_
      · have S₂ := Step.out (fs := frsOf fe) ic.toInCall.keep hg₁ ho₁ st₂ hown hfs
        rw [e₂]
        cases fl with
        | next ρ' =>
          obtain ⟨rfl, _, _⟩ := hf
          exact ⟨.d .none, σ₂, g₂, rfl, S₂, rfl⟩
        | ret v =>
          obtain ⟨y, rfl, ry, _⟩ := hf
          exact ⟨v, σ₂, g₂, rfl, S₂, ry⟩
      · rw [e₂]
        rw [efr] at fl
        have dead : ∀ its : List Addr, (∀ a, a ∈ its → g₂.fz a = none ∧ a ∉ g₂.mu ∧ s₁.heap.get? a = none) → (∀ c, c ∈ its → c ∉ avOf (env :: fe) (env.locals :: cellsAv env) env) := fun its hi c hc q => by
          obtain ⟨o, eo⟩ := (Inv.avAp (K := ⟨vars, scope.names, vars, gl⟩) I c q).2.2
          rw [(hi c hc).2.2] at eo; cases eo
        unfold leaving
        refine wpAny_bind (note_fly (s₀ := s₁) hA'.frames efr I₂.st I₂.fr fl.toX (fun a e => st₂.kept.dead e) fun h₃ its₃ nr₃ hi₃ fl₃ => ?_)
        have st₃ := st₂.near I₂.fr (fun a ha => ⟨(hi₃ a ha).1, (hi₃ a ha).2.1⟩) (fun a ha => (hi₃ a ha).2.2) nr₃
        have I₃ := I₂.near (fun a ha => ⟨(hi₃ a ha).1, (hi₃ a ha).2.1⟩) (dead its₃ hi₃) nr₃
        refine flight_fly (s := { s₂ with heap := h₃ }) (L := none) (fs := frsOf (env :: fe)) fl₃ fun h₄ its₄ nr₄ hi₄ fl₄ => ?_
        have st₄ := st₃.near I₃.fr (fun a ha => ⟨(hi₄ a ha).1, (hi₄ a ha).2.1⟩) (fun a ha => (hi₄ a ha).2.2) nr₄
        exact ⟨c, σ₂, g₂, rfl, Step.out ic.toInCall.keep hg₁ ho₁ st₄ hown hfs, Fly.out fl₄ dd⟩
  · rw [if_neg hl]; exact Sim.bad
end

end Mine

namespace Mine
open PySem PySem.Calls

section
variable {T : Top} {fe : List Env} {A : Around} {n : Nat} {g g' : G} {σ σ' : Store} {s s' : Shared} {hd : Bool} {fz' : Addr → Option Obj}


theorem noList_rep {f f' : Addr → Option Obj} {y : PyData} {x : Value} (h : noList y = true) (r : RepD f y x) : RepD f' y x := by
  cases y with
  | none => exact r
  | bool b => exact r
  | int i => exact r
  | str s => exact r
  | list _ => cases h
  | tuple _ => cases h
  | dict _ => cases h

theorem FrOk.other {h : Heap} : ∀ {l : List Env}, (∀ c, c ∈ frsOf l → g'.fz c = none ∧ c ∉ g'.mu) → FrOk g h l → FrOk g' h l
  | [], _, _ => trivial
  | e :: r, hc, ⟨k, ⟨L, o, hf, ho, hd, h1, h2⟩, hr⟩ => by
    have hm : L ∈ frsOf (e :: r) := by unfold frsOf; rw [List.filterMap_cons_some hf]; exact List.mem_cons_self ..
    exact ⟨k, ⟨L, o, hf, ho, hd, (hc L hm).1, (hc L hm).2⟩, FrOk.other (fun c h => hc c (by unfold frsOf; rw [List.filterMap_cons_some hf]; exact List.mem_cons_of_mem _ h)) hr⟩

theorem Step.quiet {gc gc' : G} {σc : Store} (st : St T g σ s.heap) (fr : FrOk g s.heap fe) (x : Step T [] (frsOf fe) gc s gc' σc s') : Step T g.mu (frsOf fe) g s g σ s' := by
  have keepM : ∀ a o, a ∈ g.mu → s.heap.get? a = some o → s'.heap.get? a = some o := fun a o hm e => x.kept.same a o e (by simp) fun q => (fr.mem q).2.1 hm
  have keepF : ∀ a o, g.fz a = some o → s'.heap.get? a = some o := fun a o e => x.kept.same a o (st.fz a o e) (by simp) fun q => by rw [(fr.mem q).1] at e; cases e
  refine ⟨.refl g, ⟨keepF, st.len, st.nd, st.ap, fun k a o e1 e2 => ?_, st.base⟩, ⟨x.kept.alive, fun b o e _ nf => x.kept.same b o e (by simp) nf, fun b o e _ hf => x.kept.slots b o e (by simp) hf⟩, .refl .., x.gens, x.os⟩
  obtain ⟨y, h1, h2⟩ := st.ob k a o e1 e2
  exact ⟨y, keepM a y (List.mem_of_getElem? e1) h1, h2⟩

theorem Fly.caller {gc' : G} {h h₀ : Heap} {c : Nat} {x : Value} (hz : ∀ a, h₀.get? a = none → g.fz a = none ∧ a ∉ g.mu) (f : Fly T gc' h h₀ none c x) : Fly T g h h₀ none c x := by
  obtain ⟨e, oe, vs, q1, q2, q3, q4, _, _, q7, q8, q9⟩ := f
  refine ⟨e, oe, vs, q1, q2, q3, q4, (hz e q7).1, (hz e q7).2, q7, q8, q9.imp id ?_⟩
  rintro ⟨tb, ot, ts, k1, k2, k3, k4, _, _, k7, k8⟩
  exact ⟨tb, ot, ts, k1, k2, k3, k4, (hz tb k7).1, (hz tb k7).2, k7, k8⟩

theorem iso_core {run : List V → Store → Res V} {vs : List V} {a : Addr} {xs : List Value} {gc : G} {flat : Bool} (hg : gc.mu = []) (st : St T g σ s.heap) (fr : FrOk g s.heap fe) (hb : Sim T (frsOf fe) none A gc s (call (.ref a) xs) (RepV T) (run vs []))
    (hF : ∀ (v : V) (x : Value) (y : PyData) (σ' : Store) (g' : G) (s' : Shared), Step T [] (frsOf fe) gc s g' σ' s' → RepV T g' v x → ansOf1 flat σ' v = some y → ∃ F : Addr → Option Obj, FzLe g.fz F ∧ (∀ b o, F b = some o → g.fz b = some o ∨ (s.heap.get? b = none ∧ s'.heap.get? b = some o)) ∧ RepD F y x) :
    Sim T (frsOf fe) none A g s (call (.ref a) xs) (RepV T) (isoCall run vs flat σ) := by
  intro hr
  unfold isoCall at hr ⊢
  have hrun : run vs [] ≠ .bad := fun q => hr (by rw [q])
  refine wpAny_mono (hb hrun) (fun x s' ⟨v, σ', g', e, st', rv⟩ => ?_) fun x s' ⟨c, σ', g', e, st', fl⟩ => ?_
  · rw [e] at hr ⊢
    rw [hg] at st'
    dsimp only at hr ⊢
    cases hs : ansOf1 flat σ' v with
    | none => rw [hs] at hr; exact absurd rfl hr
    | some y =>
    obtain ⟨F, h1, h2, h3⟩ := hF v x y σ' g' s' st' rv hs
    have q := Step.quiet st fr st'
    have le : G.le g ⟨F, g.mu⟩ := ⟨h1, fun _ _ h => h⟩
    refine ⟨.d y, σ, ⟨F, g.mu⟩, rfl, ⟨le, ⟨fun b o hb => (h2 b o hb).elim (fun h => q.st.fz b o h) fun h => h.2, st.len, st.nd, fun b hb => ?_, fun k b o e1 e2 => ?_, fun b o hb => h1 b o (st.base b o hb)⟩, q.kept, ⟨fun _ h => .inl h, fun b o hb => (h2 b o hb).imp id fun h => .inl h.1⟩, q.gens, q.os⟩, h3⟩
    · cases hz : F b with
      | none => exact hz
      | some o =>
        obtain ⟨o', al⟩ := st.mu_alive hb
        rcases h2 b o hz with h | h
        · rw [st.ap b hb] at h; cases h
        · rw [h.1] at al; cases al
    · obtain ⟨z, h1, h2⟩ := q.st.ob k b o e1 e2
      exact ⟨z, h1, RepO.mono le _ _ h2⟩
  · rw [e]
    rw [hg] at st'
    exact ⟨c, σ, g, rfl, Step.quiet st fr st', Fly.caller (fun b hb => ⟨st.fz_none hb, st.mu_none hb⟩) fl⟩

theorem iso_inert {run : List V → Store → Res V} {vs : List V} {a : Addr} {xs : List Value} (st : St T g σ s.heap) (fr : FrOk g s.heap fe) (hb : Sim T (frsOf fe) none A ⟨g.fz, []⟩ s (call (.ref a) xs) (RepV T) (run vs [])) :
    Sim T (frsOf fe) none A g s (call (.ref a) xs) (RepV T) (isoCall run vs false σ) := by
  refine iso_core rfl st fr hb fun v x y σ' g' s' st' rv hs => ?_
  have nm : ∀ {b : Addr}, b ∈ g'.mu → s.heap.get? b = none := fun {b} hb => (st'.new.mu b hb).elim (fun h => by cases h) id
  have out : ∀ {b : Addr} {o : Obj}, g'.fz b = some o → b ∉ g'.mu := fun {b o} hb hm => by rw [st'.st.ap b hm] at hb; cases hb
  refine ⟨fun b => if b ∈ g'.mu then s'.heap.get? b else g'.fz b, fun b o hb => ?_, fun b o hb => ?_, snap_fz st'.st (fun b o hb => ?_) (fun b hb o ho => ?_) 8 v x y rv hs⟩
  · have h1 : g'.fz b = some o := st'.le.fz b o hb
    show (if b ∈ g'.mu then s'.heap.get? b else g'.fz b) = some o
    rw [if_neg (out h1)]; exact h1
  · have hb' : (if b ∈ g'.mu then s'.heap.get? b else g'.fz b) = some o := hb
    by_cases hm : b ∈ g'.mu
    · rw [if_pos hm] at hb'; exact .inr ⟨nm hm, hb'⟩
    · rw [if_neg hm] at hb'
      rcases st'.new.fz b o hb' with h | h | h
      · exact .inl h
      · exact .inr ⟨h, st'.st.fz b o hb'⟩
      · cases h
  · show (if b ∈ g'.mu then s'.heap.get? b else g'.fz b) = some o
    rw [if_neg (out hb)]; exact hb
  · show (if b ∈ g'.mu then s'.heap.get? b else g'.fz b) = some o
    rw [if_pos hb]; exact ho

theorem fresh_fz {fz' : Addr → Option Obj} (st : St T g σ s.heap) (h2 : ∀ a, a ∈ g.mu → ∀ o, s.heap.get? a = some o → fz' a = some o) : ∀ (n : Nat) (v : V) (x : Value) (d : PyData), RepV T g v x → fresh σ n v = some d → RepD fz' d x := by
  intro n
  induction n with
  | zero =>
    intro v x d r e
    cases v with
    | d y => obtain ⟨hn, rfl⟩ := if_some e; exact noList_rep hn r
    | _ => exact none_ne e
  | succ n ih =>
    intro v x d r e
    cases v with
    | d y => obtain ⟨hn, rfl⟩ := if_some e; exact noList_rep hn r
    | ref k =>
      obtain ⟨a, e1, rfl⟩ := r
      have e : snapO (fresh σ n) σ[k]? = some d := e
      cases ho : σ[k]? with
      | none => rw [ho] at e; exact none_ne e
      | some o => cases o with
      | dead => rw [ho] at e; exact none_ne e
      | list ws =>
      rw [ho] at e
      have e : (match snapL (fresh σ n) ws with | some xs => some (.list xs) | none => none) = some d := e
      cases hx : snapL (fresh σ n) ws with
      | none => rw [hx] at e; exact none_ne e
      | some ds =>
        rw [hx] at e
        rw [← Option.some.inj e]
        obtain ⟨y, hy, xs, m, q, hr, hl⟩ := st.ob k a _ e1 ho
        subst q
        have h3 := snapL_fz ih ws xs.toList ds hr hx
        exact ⟨a, _, xs, m, rfl, h2 a (List.mem_of_getElem? e1) _ hy, rfl, rfl, h3, by rw [h3.length, ← hr.length]; exact hl⟩
    | _ => exact none_ne e

theorem iso_lent {run : List V → Store → Res V} {vs : List V} {a : Addr} {xs : List Value} {gc : G} (hg : gc.mu = []) (st : St T g σ s.heap) (fr : FrOk g s.heap fe) (hb : Sim T (frsOf fe) none A gc s (call (.ref a) xs) (RepV T) (run vs [])) :
    Sim T (frsOf fe) none A g s (call (.ref a) xs) (RepV T) (isoCall run vs true σ) := by
  refine iso_core hg st fr hb fun v x y σ' g' s' st' rv hs => ?_
  have nm : ∀ {b : Addr}, b ∈ g'.mu → s.heap.get? b = none := fun {b} hb => (st'.new.mu b hb).elim (fun h => by rw [hg] at h; cases h) id
  refine ⟨fun b => if b ∈ g'.mu then s'.heap.get? b else g.fz b, fun b o hb => ?_, fun b o hb => ?_, fresh_fz st'.st (fun b hb o ho => ?_) 8 v x y rv hs⟩
  · show (if b ∈ g'.mu then s'.heap.get? b else g.fz b) = some o
    rw [if_neg (fun hm => by have := st.fz b o hb; rw [nm hm] at this; cases this)]; exact hb
  · have hb' : (if b ∈ g'.mu then s'.heap.get? b else g.fz b) = some o := hb
    by_cases hm : b ∈ g'.mu
    · rw [if_pos hm] at hb'; exact .inr ⟨nm hm, hb'⟩
    · rw [if_neg hm] at hb'; exact .inl hb'
  · show (if b ∈ g'.mu then s'.heap.get? b else g.fz b) = some o
    rw [if_pos hb]; exact ho

theorem inert_rep : ∀ {vs : List V} {xs : List Value}, inert vs = true → RepVs T g vs xs → RepVs T ⟨g.fz, []⟩ vs xs
  | [], [], _, _ => trivial
  | .d y :: vs, x :: xs, h, r => ⟨r.1, inert_rep h r.2⟩
  | .exc c :: vs, x :: xs, h, r => ⟨r.1, inert_rep h r.2⟩
  | .cls c :: vs, x :: xs, h, r => ⟨r.1, inert_rep h r.2⟩
  | .ref _ :: _, _ :: _, h, _ => by cases h
  | .tup _ :: _, _ :: _, h, _ => by cases h
  | [], _ :: _, _, r => r.elim
  | _ :: _, [], _, r => r.elim

noncomputable def G.lend (g : G) (h : Heap) : G := ⟨fun b => if b ∈ g.mu then h.get? b else g.fz b, []⟩

theorem lent_rep (st : St T g σ s.heap) : ∀ {vs : List V} {xs : List Value} {ws : List V}, lent σ vs = some ws → RepVs T g vs xs → RepVs T (g.lend s.heap) ws xs := by
  have h1 : FzLe g.fz (g.lend s.heap).fz := fun b o hb => by
    show (if b ∈ g.mu then s.heap.get? b else g.fz b) = some o
    rw [if_neg (fun hm => by rw [st.ap b hm] at hb; cases hb)]; exact hb
  have h2 : ∀ a, a ∈ g.mu → ∀ o, s.heap.get? a = some o → (g.lend s.heap).fz a = some o := fun b hb o ho => by
    show (if b ∈ g.mu then s.heap.get? b else g.fz b) = some o
    rw [if_pos hb]; exact ho
  have dat : ∀ {v : V} {x : Value} {d : PyData}, snap σ 8 v = some d → RepV T g v x → RepV T (g.lend s.heap) (.d d) x := fun hs r => snap_fz st h1 h2 8 _ _ _ r hs
  intro vs
  induction vs with
  | nil =>
    intro xs ws h r
    simp only [lent, Option.some.injEq] at h
    subst h
    cases xs with
    | nil => exact trivial
    | cons _ _ => exact r.elim
  | cons v vs ih =>
    intro xs ws h r
    cases xs with
    | nil => exact r.elim
    | cons x xs =>
      have gen : ∀ (d : PyData) (ys : List V), snap σ 8 v = some d → lent σ vs = some ys → RepVs T (g.lend s.heap) (.d d :: ys) (x :: xs) := fun d ys e1 e2 => ⟨dat e1 r.1, ih e2 r.2⟩
      cases v with
      | exc c =>
        simp only [lent] at h
        cases e : lent σ vs with
        | none => rw [e] at h; cases h
        | some ys =>
          rw [e] at h
          cases h
          obtain ⟨a, o, q1, q2, q3⟩ := r.1
          exact ⟨⟨a, o, q1, h1 a o q2, q3⟩, ih e r.2⟩
      | _ =>
        simp only [lent] at h
        split at h
        · rename_i d ys e1 e2
          cases h
          exact gen d ys e1 e2
        · cases h

theorem callF_ok {P : Nat → Option Fn} {isExc : Nat → Nat → Option Bool} {gl : Str → Option GV} (fuel : Nat) (rd : Ready T gl isExc) (fns : ∀ f fn a, P f = some fn → T.fn f = some a → FnOk T gl fn a) : ∀ n, CallOk T (callF P isExc fuel n) n := by
  intro n
  induction n with
  | zero =>
    intro fe hd A g σ s m f a vs xs hf st fr hne hA hH r
    exact Sim.bad
  | succ n ih =>
    intro fe hd A g σ s m f a vs xs hf st fr hne hA hH r
    unfold callF
    cases hP : P f with
    | none => exact Sim.bad
    | some fn =>
      have fo := fns f fn a hP hf
      have base : ∀ {g : G} {σ : Store} {vs : List V}, St T g σ s.heap → FrOk g s.heap fe → HOk g A → RepVs T g vs xs → Sim T (frsOf fe) none A g s (call (.ref a) xs) (RepV T) (runFn ⟨callF P isExc fuel n, isExc, fuel, hd⟩ fn vs σ) :=
        fun st fr hH r => fn_sim (C := ⟨callF P isExc fuel n, isExc, fuel, hd⟩) rd fo ih st fr hA hH r
      cases m with
      | shared => exact base st fr hH r
      | iso => exact Sim.bad
      | frz =>
        dsimp only
        cases hi : inert vs with
        | true =>
          dsimp only
          refine iso_inert st fr (base ⟨st.fz, rfl, List.nodup_nil, (fun b hb => by cases hb), (fun k b o e1 _ => by simp at e1), st.base⟩ (fr.other fun c hc => ⟨(fr.mem hc).1, by simp⟩) ?_ (inert_rep hi r))
          exact hH.imp id fun ⟨b, o, ws, q1, q2, q3⟩ => ⟨b, o, ws, q1, q2, q3⟩
        | false =>
          dsimp only
          cases hl : lent σ vs with
          | none => exact Sim.bad
          | some ws =>
            dsimp only
            have fzl : ∀ b o, (g.lend s.heap).fz b = some o → s.heap.get? b = some o := fun b o hb => by
              have hb' : (if b ∈ g.mu then s.heap.get? b else g.fz b) = some o := hb
              split at hb'
              · exact hb'
              · exact st.fz b o hb'
            have up : ∀ b o, g.fz b = some o → (g.lend s.heap).fz b = some o := fun b o hb => by
              show (if b ∈ g.mu then s.heap.get? b else g.fz b) = some o
              rw [if_neg (fun hm => by rw [st.ap b hm] at hb; cases hb)]; exact hb
            refine iso_lent (gc := g.lend s.heap) rfl st fr (base ⟨fzl, rfl, List.nodup_nil, (fun b hb => by cases hb), (fun k b o e1 _ => by simp [G.lend] at e1), fun b o hb => up b o (st.base b o hb)⟩ (fr.other fun c hc => ⟨?_, by simp [G.lend]⟩) ?_ (lent_rep st hl r))
            · show (if c ∈ g.mu then s.heap.get? c else g.fz c) = none
              rw [if_neg (fr.mem hc).2.1]; exact (fr.mem hc).1
            · exact hH.imp id fun ⟨b, o, ws, q1, q2, q3⟩ => ⟨b, o, ws, q1, up b o q2, q3⟩
end

end Mine

namespace Mine
open PySem PySem.Calls PyProof.Rows

theorem raise_of {T : Top} (own : ∀ c v, c ≠ 0 → T.cls c = some v → ∃ (x : Str) (C : Addr) (bm : List Value) (newId B initId : String) (mg : Str → Option Value), v = .ref C ∧ OwnCls x C bm newId mg T.h0 ∧ ExcBaseFacts B newId initId bm) : RaiseOk T := by
  intro c v hc hv A env s nm np cp pos args Q E hh hplain h
  obtain ⟨x, C, bm, newId, B, initId, mg, rfl, O, FB⟩ := own c v hc hv
  obtain ⟨tl, N, nm', q, bs, hdct, sn, sub, ab, col, dd, k0, k1, k2, k3, k5, mN, hC, hN, hni, Tl⟩ := O.obj
  refine wpAny_Raise_call_subT (C := C) (nm := nm') (q := q) (N := N) (bs := bs) (bm := tl) (hdct := hdct) (sn := sn) (sub := sub) (ab := ab) (col := col) (dd := dd) (k0 := k0) (k1 := k1) (k2 := k2) (k3 := k3) (k5 := k5)
    FB (mN := mN) (Tl.hasType FB.hasBase) hh hplain hni (wpAny_mono h (fun f s₁ h₁ => ⟨h₁.1, wpAny_mono h₁.2 (fun a s₂ h₂ => ?_) fun _ _ y => y⟩) fun _ _ y => y)
  exact ⟨h₂.1, h₂.2.1, h₂.2.2.1 _ _ hC, hN.keeps h₂.2.2.1, Tl.keeps h₂.2.2.1, h₂.2.2.2⟩

end Mine

namespace Mine
open PySem PySem.Calls
theorem lookup_zip_some {ns : List Str} {vals : List Value} (h : vals.length = ns.length) {n : Str} (hn : n ∈ ns) : ((ns.zip vals).lookup n).isNone = false := by
  induction ns generalizing vals with
  | nil => simp at hn
  | cons a ns ih =>
    cases vals with
    | nil => simp at h
    | cons v vals =>
      rw [List.zip_cons_cons, List.lookup_cons]
      by_cases e : n == a
      · rw [e]; rfl
      · have e' : (n == a) = false := by simpa using e
        rw [e']
        refine ih (by simpa using h) ?_
        simp only [List.mem_cons] at hn
        rcases hn with hn | hn
        · rw [hn] at e; simp at e
        · exact hn
theorem filterMap_zip : ∀ {ns : List Str} {vals : List Value}, vals.length = ns.length → ns.Nodup → ns.filterMap (fun n => ((ns.zip vals).lookup n).map (n, ·)) = ns.zip vals
  | [], [], _, _ => rfl
  | [], _ :: _, h, _ => by simp at h
  | _ :: _, [], h, _ => by simp at h
  | a :: ns, v :: vals, h, hn => by
    rw [List.nodup_cons] at hn
    rw [List.zip_cons_cons, List.filterMap_cons]
    have h0 : List.lookup a ((a, v) :: ns.zip vals) = some v := by rw [List.lookup_cons]; simp
    rw [h0]
    simp only [Option.map_some]
    congr 1
    have : ∀ x ∈ ns, (List.lookup x ((a, v) :: ns.zip vals)) = List.lookup x (ns.zip vals) := by
      intro x hx
      rw [List.lookup_cons]
      have : (x == a) = false := by
        simp only [beq_eq_false_iff_ne]; intro e; exact hn.1 (e ▸ hx)
      rw [this]
    have e : ∀ l : List Str, (∀ x ∈ l, x ∈ ns) → l.filterMap (fun n => Option.map (n, ·) (List.lookup n ((a, v) :: ns.zip vals))) = l.filterMap (fun n => Option.map (n, ·) (List.lookup n (ns.zip vals))) := by
      intro l hl
      induction l with
      | nil => rfl
      | cons b l ih => rw [List.filterMap_cons, List.filterMap_cons, this b (hl b (by simp)), ih (fun x hx => hl x (by simp [hx]))]
    rw [e ns (fun _ h => h)]
    exact filterMap_zip (ns := ns) (vals := vals) (by simpa using h) hn.2
theorem bind_plain {name : Str} {as : List Arg} {kd : List (Option Expr)} {df : List Expr} {body : List Stmt} {scope : Scope} {pm cd doc : Value} {vals : List Value} (h : vals.length = as.length) (hn : (as.map (·.arg)).Nodup) :
    bindArgs (docDef name ⟨[], as, none, [], kd, none, df⟩ body scope pm cd doc) ⟨vals, []⟩ = pure ((as.map (·.arg)).zip vals) := by
  have hl : vals.length = (as.map (·.arg)).length := by simpa using h
  have h1 : (List.filter (fun n => (List.lookup n ((as.map (·.arg)).zip vals)).isNone) (as.map (·.arg))) = [] := by
    rw [List.filter_eq_nil_iff]
    intro n hn
    rw [lookup_zip_some hl hn]; simp
  have h2 := filterMap_zip hl hn
  have h3 : ¬ (as.map (·.arg)).length < vals.length := by omega
  have h4 : decide (vals.length > (as.map (·.arg)).length) = false := by rw [decide_eq_false_iff_not]; omega
  have h5 : notAStandIn .none = pure () := rfl
  unfold bindArgs docDef seqItems?
  simp only [List.map_nil, List.nil_append, List.forIn_nil, pure_bind, List.append_nil, Option.isNone_none, Bool.and_true, List.length_nil, h4, h5, Option.getD_none, Bool.false_eq_true, if_false, List.drop_nil, List.zip_nil_right, Nat.sub_zero, List.take_length, h1, List.isEmpty_nil, Bool.not_true, h2]
end Mine

namespace Mine
open PySem PySem.Calls PyProof.Rows

noncomputable def bodyOf (p : Program) (n : Str) : List Stmt := match (recsOf p).find? (·.name == n) with | some d => d.body | none => []
noncomputable def okFn (p : Program) (gl : Str → Option GV) (x : Nat × Str × Fn × List Str) : Bool :=
  match (recsOf p).find? (·.name == x.2.1) with
  | some d => decide (d.scope.kind = .function) && !d.scope.isGenerator && !d.scope.isCoroutine && decide (x.2.2.2.Nodup) && decide (x.2.2.2.length = x.2.2.1.nvars) && decide (x.2.2.1.nparams ≤ x.2.2.1.nvars) &&
      (x.2.2.2.take x.2.2.1.nparams).all (fun n => match d.scope.names.lookup n with | some .local => true | some .cell => true | _ => false) && d.scope.names.all (fun q => decide (q.2 ≠ .free)) &&
      (d.params.posonlyargs.isEmpty && d.params.vararg.isNone && d.params.kwonlyargs.isEmpty && d.params.kwarg.isNone && decide (d.params.args.map (·.arg) = x.2.2.2.take x.2.2.1.nparams)) &&
      okSs x.2.2.1.body ⟨x.2.2.2, d.scope.names, x.2.2.2, gl⟩ d.body
  | none => false

section
variable {p : Program} {loose : List Str} {mean : ExcName → Option Value} {mg mb : Str → Option Value} {T : Mine.Top} {gl : Str → Option GV}

theorem okFn_rec {x : Nat × Str × Fn × List Str} (h : okFn p gl x = true) : ∃ d, d ∈ recsOf p ∧ d.name = x.2.1 := by
  unfold okFn at h
  split at h
  · rename_i d hd
    exact ⟨d, List.mem_of_find?_eq_some hd, by have := List.find?_some hd; simpa using this⟩
  · cases h

theorem fnOk_of (Tp : PyProof.Rows.Top p loose mean mg mb T.h0) {x : Nat × Str × Fn × List Str} (h : okFn p gl x = true) (hem : emSs x.2.2.1.body (bodyOf p x.2.1) = bodyOf p x.2.1) {a : Addr} (ha : mg x.2.1 = some (.ref a)) : FnOk T gl x.2.2.1 a := by
  unfold okFn at h
  split at h
  · rename_i d hd
    have hm := List.mem_of_find?_eq_some hd
    have hn : d.name = x.2.1 := by have := List.find?_some hd; simpa using this
    simp only [Bool.and_eq_true, decide_eq_true_eq, Bool.not_eq_true', List.all_eq_true, List.isEmpty_iff, Option.isNone_iff_eq_none] at h
    obtain ⟨⟨⟨⟨⟨⟨⟨⟨⟨h1, h2⟩, h3⟩, h4⟩, h5⟩, h6⟩, h7⟩, h8⟩, ⟨⟨⟨⟨p1, p2⟩, p3⟩, p4⟩, p5⟩⟩, h9⟩ := h
    obtain ⟨a', o, pm, code, doc, e1, e2, e3, e4⟩ := Tp.fn d hm
    rw [hn, ha] at e1
    cases e1
    have hbo : bodyOf p x.2.1 = d.body := by unfold bodyOf; rw [hd]
    rw [hbo] at hem
    refine ⟨d.name, d.params, d.body, d.scope, pm, code, doc, o, x.2.2.2, e2, e3, e4, h1, h2, h3, h4, h5, h6, fun vals hv => ?_, fun n hn => ?_, fun q hq => ?_, hem ▸ isSs_of _ h9⟩
    · rcases hP : d.params with ⟨po, as, va, ko, kd, kw, df⟩
      rw [hP] at p1 p2 p3 p4 p5
      simp only at p1 p2 p3 p4 p5
      subst p1 p2 p3 p4
      rw [← p5]
      refine bind_plain ?_ ?_
      · have : as.length = (as.map (·.arg)).length := by simp
        rw [this, p5, List.length_take, h5, hv]; omega
      · rw [p5]; exact List.Nodup.sublist (List.take_sublist _ _) h4
    · have := h7 n hn
      split at this
      · exact .inl (by assumption)
      · exact .inr (by assumption)
      · cases this
    · exact h8 q hq
  · cases h

noncomputable def freeOk (p : Program) (loose : List Str) (x : Str) : Bool :=
  !startupNames.contains x && !loose.contains x && !((recsOf p).map (·.name)).contains x && !((litsOf p).map (·.1)).contains x && !((clssOf p loose).map (·.name)).contains x && (x != ("__name__" : Str))

theorem free_of (Tp : PyProof.Rows.Top p loose mean mg mb T.h0) {x : Str} (h : freeOk p loose x = true) : mg x = none ∧ mb x = bootBuiltins x := by
  unfold freeOk at h
  simp only [Bool.and_eq_true, Bool.not_eq_true', bne_iff_ne, ne_eq] at h
  obtain ⟨⟨⟨⟨⟨h1, h2⟩, h3⟩, h4⟩, h5⟩, h6⟩ := h
  have nc : ∀ (l : List Str), l.contains x = false → x ∉ l := fun l hl hm => by
    rw [List.contains_iff_mem.mpr hm] at hl; cases hl
  exact ⟨Tp.free x (nc _ h1) (nc _ h2) (nc _ h3) (nc _ h4) (nc _ h5), Tp.builtins x h6⟩

noncomputable def okGl (p : Program) (loose : List Str) (fns : List (Nat × Str × Fn × List Str)) (cn : List (Nat × Str)) (e : Str × GV) : Bool :=
  match e.2 with
  | .fn f => (match fns.find? (·.1 == f) with | some x => x.2.1 == e.1 | none => false)
  | .cls c => if c == 0 then freeOk p loose e.1 && (bootBuiltins e.1 == some (.type "ValueError")) else (cn.lookup c == some e.1) && (ownsOf p).any (·.name == e.1)
  | .con d => (match valOf p e.1 with | some d' => dataIs d d' && (match d with | .int _ => true | .str x => decide (x.length ≤ line) | _ => false) | none => false)
  | .bi b => freeOk p loose e.1 && (bootBuiltins e.1 == some (biVal b))
  | .ty t => freeOk p loose e.1 && (bootBuiltins e.1 == some (.type t))

noncomputable def fnsOf (mg : Str → Option Value) (fns : List (Nat × Str × Fn × List Str)) (f : Nat) : Option Addr :=
  match fns.find? (·.1 == f) with
  | some x => (match mg x.2.1 with | some (.ref a) => some a | _ => none)
  | none => none
noncomputable def clsOf (mg : Str → Option Value) (cn : List (Nat × Str)) (c : Nat) : Option Value :=
  if c = 0 then some (.type "ValueError") else match cn.lookup c with
    | some n => mg n
    | none => none

noncomputable def okOwn (p : Program) (e : Nat × Str) : Bool := (ownsOf p).any fun o => o.name == e.2 && o.newId == "ValueError.__new__" && o.bm == [.type "ValueError", .type "Exception", .type "BaseException", .type "object"]

theorem ns_of (Tp : PyProof.Rows.Top p loose mean mg mb T.h0) {fns : List (Nat × Str × Fn × List Str)} {cn : List (Nat × Str)} {L : List (Str × GV)} (hfn : T.fn = fnsOf mg fns) (hcl : T.cls = clsOf mg cn)
    (hok : ∀ x ∈ fns, okFn p gl x = true) (h : ∀ e ∈ L, okGl p loose fns cn e = true) :
    ∃ mg mb, T.h0.Ns mainGlobals mg ∧ T.h0.Ns builtinsNs mb ∧ ∀ n v, L.lookup n = some v → (match v with
     | .fn f => ∃ a, T.fn f = some a ∧ mg n = some (.ref a)
     | .cls c => ∃ x, T.cls c = some x ∧ (mg n = some x ∨ (mg n = none ∧ mb n = some x))
     | .con d => ∃ x, mg n = some x ∧ RepD (fun a => T.h0.get? a) d x
     | .bi b => mg n = none ∧ mb n = some (biVal b)
     | .ty t => mg n = none ∧ mb n = some (.type t)) := by
  refine ⟨mg, mb, Tp.g, Tp.b, fun n v hv => ?_⟩
  have he := h (n, v) (mem_of_lookup hv)
  unfold okGl at he
  cases v with
  | fn f =>
    simp only at he ⊢
    split at he
    · rename_i x hx
      have hn : x.2.1 = n := by simpa using he
      obtain ⟨d, hd, hdn⟩ := okFn_rec (hok x (List.mem_of_find?_eq_some hx))
      obtain ⟨a, o, pm, code, doc, e1, _⟩ := Tp.fn d hd
      rw [hdn, hn] at e1
      refine ⟨a, ?_, e1⟩
      rw [hfn]; unfold fnsOf
      rw [hx]
      simp only [hn, e1]
    · cases he
  | cls c =>
    simp only at he ⊢
    split at he
    · rename_i hc
      have hc : c = 0 := by simpa using hc
      simp only [Bool.and_eq_true] at he
      obtain ⟨f1, f2⟩ := free_of Tp he.1
      refine ⟨.type "ValueError", by rw [hcl]; unfold clsOf; rw [if_pos hc], .inr ⟨f1, by rw [f2]; exact beq_iff_eq.mp he.2⟩⟩
    · rename_i hc
      have hc : c ≠ 0 := by simpa using hc
      simp only [Bool.and_eq_true, List.any_eq_true] at he
      obtain ⟨h1, o, h2, h3⟩ := he
      obtain ⟨C, O, _⟩ := Tp.own o h2
      have hn : o.name = n := by simpa using h3
      have hb := O.bound
      rw [hn] at hb
      have h1 : cn.lookup c = some n := by simpa using h1
      refine ⟨.ref C, ?_, .inl hb⟩
      rw [hcl]; unfold clsOf
      rw [if_neg hc, h1]; exact hb
  | con d =>
    simp only at he ⊢
    split at he
    · rename_i d' hd
      simp only [Bool.and_eq_true] at he
      obtain ⟨h1, h2⟩ := he
      have := dataIs_eq h1; subst this
      obtain ⟨v, q1, q2⟩ := Tp.const n d hd
      refine ⟨v, q1, ?_⟩
      cases d with
      | int i =>
        have := q2 default
        cases this
        exact ⟨_, rfl⟩
      | str x =>
        have := q2 default
        cases this
        exact ⟨_, rfl, by simpa using h2⟩
      | _ => cases h2
    · cases he
  | bi b =>
    simp only [Bool.and_eq_true] at he ⊢
    obtain ⟨f1, f2⟩ := free_of Tp he.1
    exact ⟨f1, by rw [f2]; exact beq_iff_eq.mp he.2⟩
  | ty t =>
    simp only [Bool.and_eq_true] at he ⊢
    obtain ⟨f1, f2⟩ := free_of Tp he.1
    exact ⟨f1, by rw [f2]; exact beq_iff_eq.mp he.2⟩

theorem fnob_of (Tp : PyProof.Rows.Top p loose mean mg mb T.h0) {fns : List (Nat × Str × Fn × List Str)} (hfn : T.fn = fnsOf mg fns) (hok : ∀ x ∈ fns, okFn p gl x = true) :
    ∀ f a, T.fn f = some a → ∃ o fd, T.h0.get? a = some o ∧ o.data = .func fd := by
  intro f a h
  rw [hfn] at h
  unfold fnsOf at h
  split at h
  · rename_i x hx
    obtain ⟨d, hd, hdn⟩ := okFn_rec (hok x (List.mem_of_find?_eq_some hx))
    obtain ⟨a', o, pm, code, doc, e1, e2, e3, _⟩ := Tp.fn d hd
    rw [← hdn, e1] at h
    cases h
    exact ⟨o, _, e2, e3⟩
  · cases h
theorem fns_ok (Tp : PyProof.Rows.Top p loose mean mg mb T.h0) {fns : List (Nat × Str × Fn × List Str)} (hfn : T.fn = fnsOf mg fns) (hok : ∀ x ∈ fns, okFn p gl x = true) (hem : ∀ x ∈ fns, emSs x.2.2.1.body (bodyOf p x.2.1) = bodyOf p x.2.1) {P : Nat → Option Fn}
    (hP : ∀ f fn, P f = some fn → ∃ x, fns.find? (·.1 == f) = some x ∧ x.2.2.1 = fn) : ∀ f fn a, P f = some fn → T.fn f = some a → FnOk T gl fn a := by
  intro f fn a h1 h2
  obtain ⟨x, hx, rfl⟩ := hP f fn h1
  rw [hfn] at h2
  unfold fnsOf at h2
  rw [hx] at h2
  simp only at h2
  refine fnOk_of Tp (hok x (List.mem_of_find?_eq_some hx)) (hem x (List.mem_of_find?_eq_some hx)) ?_
  split at h2
  · cases h2; assumption
  · cases h2
theorem mem_of_lookupN {c : Nat} {n : Str} : ∀ {l : List (Nat × Str)}, l.lookup c = some n → (c, n) ∈ l
  | [], h => by cases h
  | b :: l, h => by
    rw [List.lookup_cons] at h
    split at h
    · rename_i hb
      have : c = b.1 := by simpa using hb
      cases h; subst this; exact List.mem_cons_self ..
    · exact List.mem_cons_of_mem _ (mem_of_lookupN h)
theorem own_of (Tp : PyProof.Rows.Top p loose mean mg mb T.h0) {cn : List (Nat × Str)} (hcl : T.cls = clsOf mg cn) (hok : ∀ e ∈ cn, okOwn p e = true) :
    ∀ c v, c ≠ 0 → T.cls c = some v → ∃ (x : Str) (C : Addr) (bm : List Value) (newId B initId : String) (mg : Str → Option Value), v = .ref C ∧ OwnCls x C bm newId mg T.h0 ∧ ExcBaseFacts B newId initId bm := by
  intro c v hc hv
  rw [hcl] at hv
  unfold clsOf at hv
  rw [if_neg hc] at hv
  split at hv
  · rename_i n hn
    have he := hok (c, n) (mem_of_lookupN hn)
    unfold okOwn at he
    rw [List.any_eq_true] at he
    obtain ⟨o, ho, h⟩ := he
    simp only [Bool.and_eq_true, beq_iff_eq] at h
    obtain ⟨⟨h1, h2⟩, h3⟩ := h
    obtain ⟨C, O, _⟩ := Tp.own o ho
    have hb := O.bound
    rw [h1] at hb
    have : v = .ref C := by
      have := hv.symm.trans hb
      exact Option.some.inj this
    refine ⟨o.name, C, o.bm, o.newId, "ValueError", "ValueError.__init__", mg, this, O.own, ?_⟩
    rw [h2, h3]
    exact F.excBase_ValueError
  · cases hv
end
end Mine

set_option maxRecDepth 100000
namespace Mine
open PySem PySem.W PyProof.Rows
noncomputable def view02 : Program := { PySem.Challenge.pw_uf010019_02 with main := { PySem.Challenge.pw_uf010019_02.main with body := PySem.Challenge.pw_uf010019_02.main.body.filter fun st => match st with | .Assign [.Name x _] _ _ => x != Str.ofString "__name__" | _ => true } }
theorem said02 : PySem.Challenge.rw_uf010019_02.wellSaid = true := by kernel_rfl
noncomputable def fragAt (as : List Addr) (h : Heap) : Frag := as.filterMap fun a => (h.get? a).map fun o => (a, o)
theorem fragAt_in (as : List Addr) (h : Heap) : (fragAt as h).In h := by
  intro a o e
  unfold fragAt at e
  induction as with
  | nil => cases e
  | cons b l ih =>
    rw [List.filterMap_cons] at e
    cases hb : h.get? b with
    | none => rw [hb] at e; exact ih e
    | some ob =>
      rw [hb] at e
      simp only [Option.map_some, List.lookup_cons] at e
      split at e
      · rename_i he
        have : a = b := by simpa using he
        rw [this, hb]; exact e
      · exact ih e
noncomputable def cn02 : List (Nat × Str) := [(1, Str.ofString "WeaveError"), (2, Str.ofString "BadChange"), (3, Str.ofString "NotLeaned"), (4, Str.ofString "NoNote")]
noncomputable def hookOf (as : List Addr) (chk : Frag → Bool) : Hook :=
  ⟨Bool, fun s => chk (fragAt as s.heap), fun _ => true, fun _ h => ∃ K : Frag, K.In h ∧ chk K = true, fun _ s e => ⟨_, fragAt_in as s.heap, e⟩, fun _ _ _ ⟨K, hK, e⟩ hk => ⟨K, fun a o q => hk a o (hK a o q), e⟩⟩
noncomputable def hook02 : Hook := hookOf [] fun _ => true
end Mine

namespace Mine
open PySem
noncomputable def F_is_name : Fn := ⟨1, 2,
 [
  .ite (.bop .Or [.cmp .Lt (.bcall .len true [.var 0]) (.cst (.int 1)), .cmp .Gt (.bcall .len true [.var 0]) (.glo (.int 12))])
    [
     .ret (.cst (.bool false))]
    [],
  .for_ [1] (.of (.var 0))
    [
     .ite (.cmp .NotIn (.var 1) (.glo (.str (Str.ofString "abcdefghijklmnopqrstuvwxyz0123456789"))))
       [
        .ret (.cst (.bool false))]
       []],
  .ret (.cst (.bool true))]⟩

noncomputable def F_is_line : Fn := ⟨1, 2,
 [
  .ite (.cmp .Gt (.bcall .len true [.var 0]) (.glo (.int 200)))
    [
     .ret (.cst (.bool false))]
    [],
  .for_ [1] (.of (.var 0))
    [
     .ite (.bop .Or [.cmp .Lt (.bcall .ord true [.var 1]) (.cst (.int 32)), .cmp .Gt (.bcall .ord true [.var 1]) (.cst (.int 126))])
       [
        .ret (.cst (.bool false))]
       []],
  .ret (.cst (.bool true))]⟩

noncomputable def F_check_leans : Fn := ⟨2, 5,
 [
  .ite (.not (.fcall .frz 1 [.var 0]))
    [
     .raise 2 [.cst (.str (Str.ofString "no name"))]]
    [],
  .for_ [2] (.of (.var 1))
    [
     .ite (.not (.fcall .frz 1 [.var 2]))
       [
        .raise 2 [.cst (.str (Str.ofString "no name to lean on"))]]
       []],
  .for_ [3, 4] (.zip (.var 1) (.slc true (.var 1) (some (.cst (.int 1))) none))
    [
     .ite (.cmp .GtE (.var 3) (.var 4))
       [
        .raise 2 [.cst (.str (Str.ofString "the leans do not rise"))]]
       []],
  .ite (.cmp .In (.var 0) (.var 1))
    [
     .raise 2 [.cst (.str (Str.ofString "a change leans on itself"))]]
    []]⟩

noncomputable def F_check_deed : Fn := ⟨1, 1,
 [
  .ite (.bop .And [.cmp .NotEq (.sub (.var 0) (.cst (.int 0))) (.cst (.str (Str.ofString "add"))), .cmp .NotEq (.sub (.var 0) (.cst (.int 0))) (.cst (.str (Str.ofString "cut"))), .cmp .NotEq (.sub (.var 0) (.cst (.int 0))) (.cst (.str (Str.ofString "set")))])
    [
     .raise 2 [.cst (.str (Str.ofString "no deed"))]]
    [],
  .ite (.bop .And [.cmp .NotEq (.sub (.var 0) (.cst (.int 0))) (.cst (.str (Str.ofString "add"))), .cmp .Is (.sub (.var 0) (.cst (.int 1))) (.cst .none)])
    [
     .raise 2 [.cst (.str (Str.ofString "no line to cut or to set"))]]
    [],
  .ite (.bop .And [.cmp .NotEq (.sub (.var 0) (.cst (.int 0))) (.cst (.str (Str.ofString "cut"))), .not (.fcall .frz 2 [.sub (.var 0) (.cst (.int 2))])])
    [
     .raise 2 [.cst (.str (Str.ofString "no line"))]]
    []]⟩

noncomputable def F_check : Fn := ⟨1, 5,
 [
  .swp [1, 2, 3] [.sub (.var 0) (.cst (.int 0)), .sub (.var 0) (.cst (.int 1)), .sub (.var 0) (.cst (.int 2))],
  .exp (.fcall .frz 3 [.var 1, .var 2]),
  .ite (.cmp .Gt (.bcall .len true [.var 3]) (.glo (.int 20)))
    [
     .raise 2 [.cst (.str (Str.ofString "too many deeds"))]]
    [],
  .for_ [4] (.of (.var 3))
    [
     .exp (.fcall .frz 4 [.var 4])],
  .for_ [4] (.of (.var 3))
    [
     .ite (.bop .And [.cmp .IsNot (.sub (.var 4) (.cst (.int 1))) (.cst .none), .cmp .NotEq (.sub (.sub (.var 4) (.cst (.int 1))) (.cst (.int 0))) (.var 1), .cmp .NotIn (.sub (.sub (.var 4) (.cst (.int 1))) (.cst (.int 0))) (.var 2)])
       [
        .raise 3 [.cst (.str (Str.ofString "a mark of a change that is not leaned on"))]]
       []]]⟩

noncomputable def F_mark_text : Fn := ⟨1, 1,
 [
  .ite (.cmp .Is (.var 0) (.cst .none))
    [
     .ret (.cst (.str (Str.ofString "-")))]
    [],
  .ret (.bin true .Add (.bin true .Add (.sub (.var 0) (.cst (.int 0))) (.cst (.str (Str.ofString " ")))) (.bcall .str true [.sub (.var 0) (.cst (.int 1))]))]⟩

noncomputable def F_written : Fn := ⟨1, 5,
 [
  .asg 1 (.bin true .Add (.cst (.str (Str.ofString "change "))) (.sub (.var 0) (.cst (.int 0)))),
  .ite (.cmp .Gt (.bcall .len true [.sub (.var 0) (.cst (.int 1))]) (.cst (.int 0)))
    [
     .asg 1 (.bin true .Add (.bin true .Add (.var 1) (.cst (.str (Str.ofString " on ")))) (.meth .join true (.cst (.str (Str.ofString " "))) [.sub (.var 0) (.cst (.int 1))]))]
    [],
  .asg 2 (.lst false [.var 1]),
  .for_ [3] (.of (.sub (.var 0) (.cst (.int 2))))
    [
     .asg 4 (.bin true .Add (.bin true .Add (.sub (.var 3) (.cst (.int 0))) (.cst (.str (Str.ofString " ")))) (.fcall .frz 6 [.sub (.var 3) (.cst (.int 1))])),
     .ite (.cmp .NotEq (.sub (.var 3) (.cst (.int 0))) (.cst (.str (Str.ofString "cut"))))
       [
        .asg 4 (.bin true .Add (.bin true .Add (.var 4) (.cst (.str (Str.ofString ": ")))) (.sub (.var 3) (.cst (.int 2))))]
       [],
     .exp (.meth .append true (.var 2) [.var 4])],
  .ret (.meth .join true (.cst (.str (Str.ofString "\n"))) [.var 2])]⟩

noncomputable def F_number_of : Fn := ⟨1, 2,
 [
  .ite (.bop .Or [.cmp .Lt (.bcall .len true [.var 0]) (.cst (.int 1)), .cmp .Gt (.bcall .len true [.var 0]) (.glo (.int 9))])
    [
     .raise 4 [.cst (.str (Str.ofString "no number"))]]
    [],
  .ite (.bop .And [.cmp .Eq (.sub (.var 0) (.cst (.int 0))) (.cst (.str (Str.ofString "0"))), .cmp .Gt (.bcall .len true [.var 0]) (.cst (.int 1))])
    [
     .raise 4 [.cst (.str (Str.ofString "no number"))]]
    [],
  .for_ [1] (.of (.var 0))
    [
     .ite (.cmp .NotIn (.var 1) (.glo (.str (Str.ofString "0123456789"))))
       [
        .raise 4 [.cst (.str (Str.ofString "no number"))]]
       []],
  .ret (.bcall .int true [.var 0])]⟩

noncomputable def F_mark_of : Fn := ⟨1, 2,
 [
  .ite (.cmp .Eq (.var 0) (.cst (.str (Str.ofString "-"))))
    [
     .ret (.cst .none)]
    [],
  .asg 1 (.meth .partition true (.var 0) [.cst (.str (Str.ofString " "))]),
  .ret (.tup [.sub (.var 1) (.cst (.int 0)), .fcall .frz 8 [.sub (.var 1) (.cst (.int 2))]])]⟩

noncomputable def F_deed_of : Fn := ⟨1, 3,
 [
  .asg 1 (.slc true (.var 0) none (some (.cst (.int 3)))),
  .ite (.bop .Or [.bop .And [.cmp .NotEq (.var 1) (.cst (.str (Str.ofString "add"))), .cmp .NotEq (.var 1) (.cst (.str (Str.ofString "cut"))), .cmp .NotEq (.var 1) (.cst (.str (Str.ofString "set")))], .cmp .NotEq (.slc true (.var 0) (some (.cst (.int 3))) (some (.cst (.int 4)))) (.cst (.str (Str.ofString " ")))])
    [
     .raise 4 [.cst (.str (Str.ofString "no deed"))]]
    [],
  .ite (.cmp .Eq (.var 1) (.cst (.str (Str.ofString "cut"))))
    [
     .ret (.tup [.var 1, .fcall .frz 9 [.slc true (.var 0) (some (.cst (.int 4))) none]])]
    [],
  .asg 2 (.meth .find true (.var 0) [.cst (.str (Str.ofString ": "))]),
  .ite (.cmp .Lt (.var 2) (.cst (.int 4)))
    [
     .raise 4 [.cst (.str (Str.ofString "no line"))]]
    [],
  .ret (.tup [.var 1, .fcall .frz 9 [.slc true (.var 0) (some (.cst (.int 4))) (some (.var 2))], .slc true (.var 0) (some (.bin true .Add (.var 2) (.cst (.int 2)))) none])]⟩

noncomputable def F_head_of : Fn := ⟨1, 2,
 [
  .asg 1 (.meth .split true (.var 0) [.cst (.str (Str.ofString " "))]),
  .ite (.bop .Or [.cmp .Lt (.bcall .len true [.var 1]) (.cst (.int 2)), .cmp .NotEq (.sub (.var 1) (.cst (.int 0))) (.cst (.str (Str.ofString "change")))])
    [
     .raise 4 [.cst (.str (Str.ofString "no change"))]]
    [],
  .ite (.cmp .Eq (.bcall .len true [.var 1]) (.cst (.int 2)))
    [
     .ret (.tup [.sub (.var 1) (.cst (.int 1)), .lst false []])]
    [],
  .ite (.bop .Or [.cmp .NotEq (.sub (.var 1) (.cst (.int 2))) (.cst (.str (Str.ofString "on"))), .cmp .Lt (.bcall .len true [.var 1]) (.cst (.int 4))])
    [
     .raise 4 [.cst (.str (Str.ofString "no leans"))]]
    [],
  .ret (.tup [.sub (.var 1) (.cst (.int 1)), .slc false (.var 1) (some (.cst (.int 3))) none])]⟩

noncomputable def F_read : Fn := ⟨1, 5,
 [
  .asg 1 (.meth .split true (.var 0) [.cst (.str (Str.ofString "\n"))]),
  .asg 2 (.fcall .shared 11 [.sub (.var 1) (.cst (.int 0))]),
  .asg 3 (.tup [.sub (.var 2) (.cst (.int 0)), .sub (.var 2) (.cst (.int 1)), .comp false (.fcall .frz 10 [.var 4]) [4] (.of (.slc true (.var 1) (some (.cst (.int 1))) none)) []]),
  .try_
    [
     .exp (.fcall .frz 5 [.var 3])]
    [(1, none,
      [
       .raise 4 [.cst (.str (Str.ofString "no change that can come"))]])],
  .ite (.cmp .NotEq (.fcall .frz 7 [.var 3]) (.var 0))
    [
     .raise 4 [.cst (.str (Str.ofString "not as a change is written"))]]
    [],
  .ret (.var 3)]⟩

noncomputable def Flaw_cell : Fn := ⟨2, 2,
 [
  .ite (.cmp .Lt (.var 1) (.bcall .len true [.var 0]))
    [
     .ret (.sub (.var 0) (.var 1))]
    [],
  .ret (.cst (.int 0))]⟩

noncomputable def Flaw_mixed : Fn := ⟨2, 2,
 [
  .ret (.bin true .Mod (.bin true .Mult (.bin true .Add (.var 0) (.bin true .Mult (.cst (.int 7919)) (.var 1))) (.cst (.int 48271))) (.cst (.int 2147483647)))]⟩

noncomputable def Flaw_name : Fn := ⟨2, 7,
 [
  .asg 2 (.cst (.str (Str.ofString "abcdefghijklmnopqrstuvwxyz0123456789"))),
  .asg 3 (.fcall .frz 14 [.var 0, .cst (.int 5)]),
  .asg 4 (.meth .join true (.cst (.str (Str.ofString ""))) [.comp true (.sub (.var 2) (.bin true .Mod (.fcall .frz 14 [.var 0, .var 5]) (.cst (.int 36)))) [5] (.range [.bin true .Add (.cst (.int 1)) (.bin true .Mod (.var 3) (.cst (.int 12)))]) []]),
  .ite (.cmp .Eq (.bin true .Mod (.var 0) (.cst (.int 8))) (.cst (.int 1)))
    [
     .asg 4 (.bcall .str true [.bin true .Mod (.var 3) (.cst (.int 130))])]
    [],
  .ite (.bop .And [.cmp .Eq (.bin true .Mod (.var 0) (.cst (.int 8))) (.cst (.int 2)), .var 1])
    [
     .asg 4 (.bin true .Add (.slc true (.sub (.var 1) (.neg (.cst (.int 1)))) none (some (.cst (.int 11)))) (.sub (.var 2) (.bin true .Mod (.var 3) (.cst (.int 36)))))]
    [],
  .ite (.bop .And [.cmp .Gt (.bin true .Mod (.var 0) (.cst (.int 8))) (.cst (.int 4)), .var 1])
    [
     .asg 4 (.sub (.var 1) (.bin true .Mod (.var 3) (.bcall .len true [.var 1]))),
     .asg 6 (.bin true .Mod (.bin true .FloorDiv (.var 3) (.cst (.int 60))) (.bcall .len true [.var 4])),
     .asg 4 (.bin true .Add (.bin true .Add (.slc true (.var 4) none (some (.var 6))) (.sub (.var 2) (.bin true .Mod (.bin true .FloorDiv (.var 3) (.cst (.int 720))) (.cst (.int 36))))) (.slc true (.var 4) (some (.bin true .Add (.var 6) (.cst (.int 1)))) none))]
    [],
  .ite (.cmp .NotIn (.var 4) (.var 1))
    [
     .ret (.var 4)]
    [],
  .ret (.sub (.comp true (.bcall .str true [.var 5]) [5] (.range [.bin true .Add (.bcall .len true [.var 1]) (.cst (.int 1))]) [.cmp .NotIn (.bcall .str true [.var 5]) (.var 1)]) (.cst (.int 0)))]⟩

noncomputable def Flaw_line : Fn := ⟨1, 5,
 [
  .asg 1 (.cst (.str (Str.ofString " !\"#$&'()*+,-./0123456789:;<=>?\x40ABCDEFGHIJKLMNOPQRSTUVWXYZ[\\]^_`"))),
  .asg 1 (.bin true .Add (.var 1) (.cst (.str (Str.ofString "abcdefghijklmnopqrstuvwxyz{|}~")))),
  .asg 2 (.bin true .Mod (.var 0) (.cst (.int 4))),
  .ite (.cmp .Eq (.bin true .Mod (.bin true .FloorDiv (.var 0) (.cst (.int 4))) (.cst (.int 9))) (.cst (.int 1)))
    [
     .asg 2 (.bin true .Mod (.bin true .FloorDiv (.var 0) (.cst (.int 36))) (.cst (.int 201)))]
    [],
  .asg 3 (.meth .join true (.cst (.str (Str.ofString ""))) [.comp true (.sub (.var 1) (.bin true .Mod (.bin true .Add (.bin true .FloorDiv (.var 0) (.cst (.int 7))) (.bin true .Mult (.var 4) (.bin true .Add (.cst (.int 1)) (.bin true .Mod (.var 0) (.cst (.int 5)))))) (.cst (.int 94)))) [4] (.range [.var 2]) []]),
  .ite (.bop .And [.cmp .Eq (.bin true .Mod (.bin true .FloorDiv (.var 0) (.cst (.int 3))) (.cst (.int 8))) (.cst (.int 1)), .cmp .Lt (.var 2) (.cst (.int 199))])
    [
     .ret (.bin true .Add (.bin true .Add (.slc true (.var 3) none (some (.cst (.int 1)))) (.cst (.str (Str.ofString ": ")))) (.slc true (.var 3) (some (.cst (.int 1))) none))]
    [],
  .ret (.var 3)]⟩

noncomputable def Flaw_leans : Fn := ⟨2, 7,
 [
  .asg 2 (.fcall .frz 14 [.var 0, .cst (.int 1)]),
  .asg 3 (.lst false []),
  .for_ [4, 5] (.enum (.var 1))
    [
     .asg 6 (.bop .And [.cmp .Eq (.var 4) (.bin true .Sub (.bcall .len true [.var 1]) (.cst (.int 1))), .cmp .Eq (.bin true .Mod (.var 0) (.cst (.int 7))) (.cst (.int 3))]),
     .ite (.bop .Or [.var 6, .bop .And [.cmp .Eq (.bin true .Mod (.var 2) (.bin true .Add (.cst (.int 2)) (.bin true .Mod (.var 0) (.cst (.int 3))))) (.cst (.int 0)), .bop .Or [.cmp .Lt (.bcall .len true [.var 1]) (.cst (.int 20)), .cmp .Eq (.bin true .Mod (.var 4) (.cst (.int 7))) (.bin true .Mod (.bin true .FloorDiv (.var 2) (.cst (.int 4))) (.cst (.int 7)))]]])
       [
        .exp (.meth .append true (.var 3) [.sub (.var 5) (.cst (.int 0))])]
       [],
     .asg 2 (.bin true .FloorDiv (.var 2) (.cst (.int 3))),
     .ite (.cmp .Lt (.var 2) (.cst (.int 100)))
       [
        .asg 2 (.fcall .frz 14 [.var 0, .bin true .Add (.var 4) (.cst (.int 2))])]
       []],
  .ret (.bcall .sorted false [.var 3])]⟩

noncomputable def Flaw_marks : Fn := ⟨1, 4,
 [
  .asg 1 (.bcall .len true [.comp true (.var 2) [2] (.of (.sub (.var 0) (.cst (.int 2)))) [.cmp .Eq (.sub (.var 2) (.cst (.int 0))) (.cst (.str (Str.ofString "add")))]]),
  .ret (.comp true (.tup [.sub (.var 0) (.cst (.int 0)), .var 3]) [3] (.range [.var 1]) [])]⟩

noncomputable def Flaw_deeds : Fn := ⟨4, 13,
 [
  .asg 4 (.lst false []),
  .asg 5 (.cst (.int 0)),
  .for_ [6] (.range [.var 2])
    [
     .asg 7 (.bin true .Add (.var 3) (.comp true (.tup [.var 0, .var 12]) [12] (.range [.var 5]) [])),
     .asg 8 (.fcall .frz 14 [.var 1, .var 6]),
     .asg 9 (.bin true .Mod (.bin true .FloorDiv (.var 8) (.cst (.int 5))) (.bin true .Add (.bcall .len true [.var 7]) (.cst (.int 1)))),
     .asg 10 (.fcall .frz 16 [.bin true .FloorDiv (.var 8) (.cst (.int 365))]),
     .ite (.bop .Or [.cmp .Lt (.bin true .Mod (.var 8) (.cst (.int 5))) (.cst (.int 3)), .not (.var 7)])
       [
        .asg 11 (.cst .none),
        .ite (.cmp .Gt (.var 9) (.cst (.int 0)))
          [
           .asg 11 (.sub (.var 7) (.bin true .Sub (.var 9) (.cst (.int 1))))]
          [],
        .exp (.meth .append true (.var 4) [.tup [.cst (.str (Str.ofString "add")), .var 11, .var 10]]),
        .asg 5 (.bin true .Add (.var 5) (.cst (.int 1)))]
       [
        .ite (.cmp .Eq (.bin true .Mod (.var 8) (.cst (.int 5))) (.cst (.int 3)))
          [
           .exp (.meth .append true (.var 4) [.tup [.cst (.str (Str.ofString "cut")), .sub (.var 7) (.bin true .Mod (.var 9) (.bcall .len true [.var 7]))]])]
          [
           .exp (.meth .append true (.var 4) [.tup [.cst (.str (Str.ofString "set")), .sub (.var 7) (.bin true .Mod (.var 9) (.bcall .len true [.var 7])), .var 10]])]]],
  .ret (.var 4)]⟩

noncomputable def Flaw_changes : Fn := ⟨2, 10,
 [
  .asg 2 (.lst false []),
  .asg 3 (.lst false [.cst (.str (Str.ofString "0"))]),
  .for_ [4] (.range [.bcall .min true [.bin true .FloorDiv (.bcall .len true [.var 0]) (.cst (.int 4)), .var 1]])
    [
     .asg 5 (.fcall .frz 15 [.sub (.var 0) (.bin true .Mult (.cst (.int 4)) (.var 4)), .var 3]),
     .exp (.meth .append true (.var 3) [.var 5]),
     .asg 6 (.fcall .frz 17 [.sub (.var 0) (.bin true .Add (.bin true .Mult (.cst (.int 4)) (.var 4)) (.cst (.int 1))), .var 2]),
     .asg 7 (.lst true []),
     .for_ [8] (.of (.var 2))
       [
        .ite (.cmp .In (.sub (.var 8) (.cst (.int 0))) (.var 6))
          [
           .asg 7 (.bin true .Add (.var 7) (.fcall .frz 18 [.var 8]))]
          []],
     .asg 9 (.bin true .Mod (.sub (.var 0) (.bin true .Add (.bin true .Mult (.cst (.int 4)) (.var 4)) (.cst (.int 3)))) (.cst (.int 5))),
     .ite (.cmp .Eq (.bin true .Mod (.bin true .FloorDiv (.sub (.var 0) (.bin true .Add (.bin true .Mult (.cst (.int 4)) (.var 4)) (.cst (.int 3)))) (.cst (.int 5))) (.cst (.int 16))) (.cst (.int 1)))
       [
        .asg 9 (.bin true .Sub (.cst (.int 20)) (.bin true .Mod (.bin true .FloorDiv (.sub (.var 0) (.bin true .Add (.bin true .Mult (.cst (.int 4)) (.var 4)) (.cst (.int 3)))) (.cst (.int 80))) (.cst (.int 16))))]
       [],
     .exp (.meth .append true (.var 2) [.tup [.var 5, .var 6, .fcall .frz 19 [.var 5, .sub (.var 0) (.bin true .Add (.bin true .Mult (.cst (.int 4)) (.var 4)) (.cst (.int 2))), .var 9, .var 7]]])],
  .ret (.var 2)]⟩

noncomputable def Flaw_numbered : Fn := ⟨2, 6,
 [
  .asg 2 (.lst false []),
  .for_ [3, 4] (.enum (.sub (.var 0) (.cst (.int 2))))
    [
     .asg 5 (.sub (.var 4) (.cst (.int 1))),
     .ite (.bop .And [.cmp .IsNot (.var 5) (.cst .none), .cmp .Eq (.bin true .Mod (.bin true .Add (.var 1) (.var 3)) (.cst (.int 3))) (.cst (.int 1))])
       [
        .asg 5 (.tup [.sub (.var 5) (.cst (.int 0)), .bin true .Mod (.fcall .frz 14 [.var 1, .var 3]) (.cst (.int 1000000000))])]
       [],
     .ite (.bop .And [.cmp .IsNot (.var 5) (.cst .none), .cmp .Eq (.bin true .Mod (.bin true .Add (.var 1) (.var 3)) (.cst (.int 5))) (.cst (.int 2))])
       [
        .asg 5 (.tup [.sub (.var 0) (.cst (.int 0)), .sub (.var 5) (.cst (.int 1))])]
       [],
     .exp (.meth .append true (.var 2) [.bin true .Add (.tup [.sub (.var 4) (.cst (.int 0)), .var 5]) (.slc true (.var 4) (some (.cst (.int 2))) none)])],
  .ret (.tup [.sub (.var 0) (.cst (.int 0)), .sub (.var 0) (.cst (.int 1)), .var 2])]⟩

noncomputable def Flaw_one : Fn := ⟨2, 4,
 [
  .asg 2 (.fcall .frz 20 [.var 0, .var 1]),
  .ite (.not (.var 2))
    [
     .ret (.tup [.cst (.str (Str.ofString "a")), .lst true [], .lst true []])]
    [],
  .asg 3 (.fcall .frz 13 [.var 0, .cst (.int 1)]),
  .ret (.fcall .frz 21 [.sub (.var 2) (.bin true .Mod (.var 3) (.bcall .len true [.var 2])), .bin true .FloorDiv (.var 3) (.cst (.int 7))])]⟩

noncomputable def Flaw_mark_row : Fn := ⟨1, 1,
 [
  .ite (.cmp .Is (.var 0) (.cst .none))
    [
     .ret (.cst (.str (Str.ofString "-")))]
    [],
  .ret (.bin true .Add (.bin true .Add (.sub (.var 0) (.cst (.int 0))) (.cst (.str (Str.ofString " ")))) (.bcall .str true [.sub (.var 0) (.cst (.int 1))]))]⟩

noncomputable def Flaw_deed_row : Fn := ⟨1, 1,
 [
  .ite (.cmp .Eq (.sub (.var 0) (.cst (.int 0))) (.cst (.str (Str.ofString "cut"))))
    [
     .ret (.bin true .Add (.cst (.str (Str.ofString "cut "))) (.fcall .frz 23 [.sub (.var 0) (.cst (.int 1))]))]
    [],
  .ret (.bin true .Add (.bin true .Add (.bin true .Add (.bin true .Add (.sub (.var 0) (.cst (.int 0))) (.cst (.str (Str.ofString " ")))) (.fcall .frz 23 [.sub (.var 0) (.cst (.int 1))])) (.cst (.str (Str.ofString ": ")))) (.sub (.var 0) (.cst (.int 2))))]⟩

noncomputable def Flaw_written : Fn := ⟨1, 3,
 [
  .asg 1 (.lst false [.bin true .Add (.cst (.str (Str.ofString "change "))) (.sub (.var 0) (.cst (.int 0)))]),
  .ite (.sub (.var 0) (.cst (.int 1)))
    [
     .set (.var 1) (.cst (.int 0)) (.meth .join true (.cst (.str (Str.ofString " "))) [.bin true .Add (.lst true [.sub (.var 1) (.cst (.int 0)), .cst (.str (Str.ofString "on"))]) (.sub (.var 0) (.cst (.int 1)))])]
    [],
  .ret (.meth .join true (.cst (.str (Str.ofString "\n"))) [.bin true .Add (.var 1) (.comp true (.fcall .frz 24 [.var 2]) [2] (.of (.sub (.var 0) (.cst (.int 2)))) [])])]⟩

noncomputable def Flaw_deed_like : Fn := ⟨2, 4,
 [
  .ite (.bop .Or [.not (.bcall .isinstance true [.var 0, .ty "tuple"]), .cmp .NotEq (.bcall .len true [.var 0]) (.bcall .len true [.var 1]), .not (.bcall .isinstance true [.sub (.var 0) (.cst (.int 0)), .ty "str"])])
    [
     .ret (.cst (.bool false))]
    [],
  .ite (.cmp .IsNot (.sub (.var 1) (.cst (.int 1))) (.cst .none))
    [
     .asg 2 (.sub (.var 0) (.cst (.int 1))),
     .ite (.bop .Or [.not (.bcall .isinstance true [.var 2, .ty "tuple"]), .cmp .NotEq (.bcall .len true [.var 2]) (.cst (.int 2)), .not (.bcall .isinstance true [.sub (.var 2) (.cst (.int 0)), .ty "str"])])
       [
        .ret (.cst (.bool false))]
       [],
     .ite (.bop .Or [.not (.bcall .isinstance true [.sub (.var 2) (.cst (.int 1)), .ty "int"]), .bcall .isinstance true [.sub (.var 2) (.cst (.int 1)), .ty "bool"]])
       [
        .ret (.cst (.bool false))]
       []]
    [],
  .ret (.bop .And [.bcall .all true [.comp true (.bcall .isinstance true [.var 3, .ty "str"]) [3] (.of (.slc true (.var 0) (some (.cst (.int 2))) none)) []], .cmp .Eq (.var 0) (.var 1)])]⟩

noncomputable def Flaw_change_like : Fn := ⟨2, 5,
 [
  .ite (.bop .Or [.not (.bcall .isinstance true [.var 0, .ty "tuple"]), .cmp .NotEq (.bcall .len true [.var 0]) (.cst (.int 3)), .not (.bcall .isinstance true [.sub (.var 0) (.cst (.int 0)), .ty "str"])])
    [
     .ret (.cst (.bool false))]
    [],
  .ite (.bop .Or [.not (.bcall .isinstance true [.sub (.var 0) (.cst (.int 1)), .ty "list"]), .not (.bcall .isinstance true [.sub (.var 0) (.cst (.int 2)), .ty "list"])])
    [
     .ret (.cst (.bool false))]
    [],
  .ite (.bop .Or [.not (.bcall .all true [.comp true (.bcall .isinstance true [.var 2, .ty "str"]) [2] (.of (.sub (.var 0) (.cst (.int 1)))) []]), .cmp .NotEq (.bcall .len true [.sub (.var 0) (.cst (.int 2))]) (.bcall .len true [.sub (.var 1) (.cst (.int 2))])])
    [
     .ret (.cst (.bool false))]
    [],
  .ite (.bop .Or [.cmp .NotEq (.sub (.var 0) (.cst (.int 0))) (.sub (.var 1) (.cst (.int 0))), .cmp .NotEq (.sub (.var 0) (.cst (.int 1))) (.sub (.var 1) (.cst (.int 1)))])
    [
     .ret (.cst (.bool false))]
    [],
  .ret (.bcall .all true [.comp true (.fcall .frz 26 [.var 3, .var 4]) [3, 4] (.zip (.sub (.var 0) (.cst (.int 2))) (.sub (.var 1) (.cst (.int 2)))) []])]⟩

noncomputable def Flaw_copy : Fn := ⟨1, 1,
 [
  .ret (.tup [.sub (.var 0) (.cst (.int 0)), .bcall .list true [.sub (.var 0) (.cst (.int 1))], .bcall .list true [.sub (.var 0) (.cst (.int 2))]])]⟩

noncomputable def FLaw : Fn := ⟨1, 6,
 [
  .asg 1 (.fcall .frz 22 [.var 0, .cst (.int 12)]),
  .asg 2 (.fcall .frz 28 [.var 1]),
  .asg 3 (.fcall .frz 7 [.var 2]),
  .ite (.bop .Or [.not (.bcall .isinstance true [.var 3, .ty "str"]), .cmp .NotEq (.var 3) (.fcall .frz 25 [.var 1]), .cmp .NotEq (.var 2) (.var 1)])
    [
     .ret (.cst (.bool false))]
    [],
  .asg 4 (.fcall .shared 12 [.var 3]),
  .exp (.fcall .shared 12 [.cst (.str (Str.ofString "change zz on a\nadd -: x\ncut a 0"))]),
  .asg 5 (.fcall .shared 12 [.var 3]),
  .ite (.not (.fcall .frz 27 [.var 5, .var 1]))
    [
     .ret (.cst (.bool false))]
    [],
  .exp (.meth .append true (.sub (.var 5) (.cst (.int 1))) [.cst (.str (Str.ofString "a"))]),
  .exp (.meth .clear true (.sub (.var 5) (.cst (.int 2))) []),
  .ret (.bop .And [.fcall .frz 27 [.var 4, .var 1], .fcall .frz 27 [.fcall .shared 12 [.var 3], .var 1]])]⟩


noncomputable def fns02 : List (Nat × Str × Fn × List Str) := [
  (1, Str.ofString "is_name", F_is_name, [Str.ofString "thing", Str.ofString "sign"]),
  (2, Str.ofString "is_line", F_is_line, [Str.ofString "thing", Str.ofString "sign"]),
  (3, Str.ofString "check_leans", F_check_leans, [Str.ofString "name", Str.ofString "leans", Str.ofString "lean", Str.ofString "one", Str.ofString "other"]),
  (4, Str.ofString "check_deed", F_check_deed, [Str.ofString "deed"]),
  (5, Str.ofString "check", F_check, [Str.ofString "change", Str.ofString "name", Str.ofString "leans", Str.ofString "deeds", Str.ofString "deed"]),
  (6, Str.ofString "mark_text", F_mark_text, [Str.ofString "mark"]),
  (7, Str.ofString "written", F_written, [Str.ofString "change", Str.ofString "head", Str.ofString "rows", Str.ofString "deed", Str.ofString "row"]),
  (8, Str.ofString "number_of", F_number_of, [Str.ofString "figures", Str.ofString "sign"]),
  (9, Str.ofString "mark_of", F_mark_of, [Str.ofString "text", Str.ofString "parts"]),
  (10, Str.ofString "deed_of", F_deed_of, [Str.ofString "row", Str.ofString "word", Str.ofString "at"]),
  (11, Str.ofString "head_of", F_head_of, [Str.ofString "row", Str.ofString "words"]),
  (12, Str.ofString "read", F_read, [Str.ofString "text", Str.ofString "rows", Str.ofString "head", Str.ofString "change", Str.ofString "row"]),
  (13, Str.ofString "_law_cell", Flaw_cell, [Str.ofString "_law_script", Str.ofString "_law_k"]),
  (14, Str.ofString "_law_mixed", Flaw_mixed, [Str.ofString "_law_cell_here", Str.ofString "_law_k"]),
  (15, Str.ofString "_law_name", Flaw_name, [Str.ofString "_law_cell_here", Str.ofString "_law_taken", Str.ofString "_law_signs", Str.ofString "_law_left", Str.ofString "_law_found", Str.ofString "_law_j", Str.ofString "_law_at"]),
  (16, Str.ofString "_law_line", Flaw_line, [Str.ofString "_law_cell_here", Str.ofString "_law_some", Str.ofString "_law_size", Str.ofString "_law_found", Str.ofString "_law_j"]),
  (17, Str.ofString "_law_leans", Flaw_leans, [Str.ofString "_law_cell_here", Str.ofString "_law_ahead", Str.ofString "_law_left", Str.ofString "_law_found", Str.ofString "_law_k", Str.ofString "_law_change", Str.ofString "_law_last"]),
  (18, Str.ofString "_law_marks", Flaw_marks, [Str.ofString "_law_change", Str.ofString "_law_many", Str.ofString "_law_deed", Str.ofString "_law_j"]),
  (19, Str.ofString "_law_deeds", Flaw_deeds, [Str.ofString "_law_name_here", Str.ofString "_law_cell_here", Str.ofString "_law_many", Str.ofString "_law_marks_here", Str.ofString "_law_deeds_here", Str.ofString "_law_own", Str.ofString "_law_k", Str.ofString "_law_known", Str.ofString "_law_left", Str.ofString "_law_at", Str.ofString "_law_line_here", Str.ofString "_law_mark", Str.ofString "_law_j"]),
  (20, Str.ofString "_law_changes", Flaw_changes, [Str.ofString "_law_cells", Str.ofString "_law_most", Str.ofString "_law_found", Str.ofString "_law_taken", Str.ofString "_law_k", Str.ofString "_law_name_here", Str.ofString "_law_leans_here", Str.ofString "_law_marks_here", Str.ofString "_law_change", Str.ofString "_law_many"]),
  (21, Str.ofString "_law_numbered", Flaw_numbered, [Str.ofString "_law_change", Str.ofString "_law_cell_here", Str.ofString "_law_deeds_here", Str.ofString "_law_k", Str.ofString "_law_deed", Str.ofString "_law_mark"]),
  (22, Str.ofString "_law_one", Flaw_one, [Str.ofString "_law_script", Str.ofString "_law_most", Str.ofString "_law_changes_here", Str.ofString "_law_cell_here"]),
  (23, Str.ofString "_law_mark_row", Flaw_mark_row, [Str.ofString "_law_mark"]),
  (24, Str.ofString "_law_deed_row", Flaw_deed_row, [Str.ofString "_law_deed"]),
  (25, Str.ofString "_law_written", Flaw_written, [Str.ofString "_law_change", Str.ofString "_law_rows", Str.ofString "_law_deed"]),
  (26, Str.ofString "_law_deed_like", Flaw_deed_like, [Str.ofString "_law_found", Str.ofString "_law_due", Str.ofString "_law_mark", Str.ofString "_law_one_here"]),
  (27, Str.ofString "_law_change_like", Flaw_change_like, [Str.ofString "_law_found", Str.ofString "_law_due", Str.ofString "_law_lean", Str.ofString "_law_one_here", Str.ofString "_law_other"]),
  (28, Str.ofString "_law_copy", Flaw_copy, [Str.ofString "_law_change"]),
  (29, Str.ofString "law", FLaw, [Str.ofString "_law_script", Str.ofString "_law_change", Str.ofString "_law_handed", Str.ofString "_law_found", Str.ofString "_law_held", Str.ofString "_law_again"])]
noncomputable def P02 (f : Nat) : Option Fn := (fns02.find? (·.1 == f)).map (·.2.2.1)
end Mine

namespace Mine
noncomputable def isExc (_ _ : Nat) : Option Bool := none
end Mine

set_option maxRecDepth 100000
namespace Mine
open PySem PyProof.Rows
noncomputable def gll02 : List (Str × GV) := [
  (Str.ofString "is_name", GV.fn 1),
  (Str.ofString "is_line", GV.fn 2),
  (Str.ofString "check_leans", GV.fn 3),
  (Str.ofString "check_deed", GV.fn 4),
  (Str.ofString "check", GV.fn 5),
  (Str.ofString "mark_text", GV.fn 6),
  (Str.ofString "written", GV.fn 7),
  (Str.ofString "number_of", GV.fn 8),
  (Str.ofString "mark_of", GV.fn 9),
  (Str.ofString "deed_of", GV.fn 10),
  (Str.ofString "head_of", GV.fn 11),
  (Str.ofString "read", GV.fn 12),
  (Str.ofString "_law_cell", GV.fn 13),
  (Str.ofString "_law_mixed", GV.fn 14),
  (Str.ofString "_law_name", GV.fn 15),
  (Str.ofString "_law_line", GV.fn 16),
  (Str.ofString "_law_leans", GV.fn 17),
  (Str.ofString "_law_marks", GV.fn 18),
  (Str.ofString "_law_deeds", GV.fn 19),
  (Str.ofString "_law_changes", GV.fn 20),
  (Str.ofString "_law_numbered", GV.fn 21),
  (Str.ofString "_law_one", GV.fn 22),
  (Str.ofString "_law_mark_row", GV.fn 23),
  (Str.ofString "_law_deed_row", GV.fn 24),
  (Str.ofString "_law_written", GV.fn 25),
  (Str.ofString "_law_deed_like", GV.fn 26),
  (Str.ofString "_law_change_like", GV.fn 27),
  (Str.ofString "_law_copy", GV.fn 28),
  (Str.ofString "law", GV.fn 29),
  (Str.ofString "ValueError", GV.cls 0),
  (Str.ofString "WeaveError", GV.cls 1),
  (Str.ofString "BadChange", GV.cls 2),
  (Str.ofString "NotLeaned", GV.cls 3),
  (Str.ofString "NoNote", GV.cls 4),
  (Str.ofString "MOST_NAME", GV.con (.int 12)),
  (Str.ofString "MOST_DEEDS", GV.con (.int 20)),
  (Str.ofString "MOST_LINE", GV.con (.int 200)),
  (Str.ofString "NAME_SIGNS", GV.con (.str (Str.ofString "abcdefghijklmnopqrstuvwxyz0123456789"))),
  (Str.ofString "FIGURES", GV.con (.str (Str.ofString "0123456789"))),
  (Str.ofString "MOST_FIGURES", GV.con (.int 9)),
  (Str.ofString "len", GV.bi .len),
  (Str.ofString "ord", GV.bi .ord),
  (Str.ofString "sorted", GV.bi .sorted),
  (Str.ofString "min", GV.bi .min),
  (Str.ofString "isinstance", GV.bi .isinstance),
  (Str.ofString "all", GV.bi .all),
  (Str.ofString "list", GV.ty "list"),
  (Str.ofString "str", GV.ty "str"),
  (Str.ofString "int", GV.ty "int"),
  (Str.ofString "bool", GV.ty "bool"),
  (Str.ofString "tuple", GV.ty "tuple"),
  (Str.ofString "range", GV.ty "range"),
  (Str.ofString "zip", GV.ty "zip"),
  (Str.ofString "enumerate", GV.ty "enumerate")]
noncomputable def gl02 (n : Str) : Option GV := List.lookup n gll02

theorem okf0 : okFn view02 gl02 (fns02[0]'(by decide)) = true := by decide +kernel
theorem okf1 : okFn view02 gl02 (fns02[1]'(by decide)) = true := by decide +kernel
theorem okf2 : okFn view02 gl02 (fns02[2]'(by decide)) = true := by decide +kernel
theorem okf3 : okFn view02 gl02 (fns02[3]'(by decide)) = true := by decide +kernel
theorem okf4 : okFn view02 gl02 (fns02[4]'(by decide)) = true := by decide +kernel
theorem okf5 : okFn view02 gl02 (fns02[5]'(by decide)) = true := by decide +kernel
theorem okf6 : okFn view02 gl02 (fns02[6]'(by decide)) = true := by decide +kernel
theorem okf7 : okFn view02 gl02 (fns02[7]'(by decide)) = true := by decide +kernel
theorem okf8 : okFn view02 gl02 (fns02[8]'(by decide)) = true := by decide +kernel
theorem okf9 : okFn view02 gl02 (fns02[9]'(by decide)) = true := by decide +kernel
theorem okf10 : okFn view02 gl02 (fns02[10]'(by decide)) = true := by decide +kernel
theorem okf11 : okFn view02 gl02 (fns02[11]'(by decide)) = true := by decide +kernel
theorem okf12 : okFn view02 gl02 (fns02[12]'(by decide)) = true := by decide +kernel
theorem okf13 : okFn view02 gl02 (fns02[13]'(by decide)) = true := by decide +kernel
theorem okf14 : okFn view02 gl02 (fns02[14]'(by decide)) = true := by decide +kernel
theorem okf15 : okFn view02 gl02 (fns02[15]'(by decide)) = true := by decide +kernel
theorem okf16 : okFn view02 gl02 (fns02[16]'(by decide)) = true := by decide +kernel
theorem okf17 : okFn view02 gl02 (fns02[17]'(by decide)) = true := by decide +kernel
theorem okf18 : okFn view02 gl02 (fns02[18]'(by decide)) = true := by decide +kernel
theorem okf19 : okFn view02 gl02 (fns02[19]'(by decide)) = true := by decide +kernel
theorem okf20 : okFn view02 gl02 (fns02[20]'(by decide)) = true := by decide +kernel
theorem okf21 : okFn view02 gl02 (fns02[21]'(by decide)) = true := by decide +kernel
theorem okf22 : okFn view02 gl02 (fns02[22]'(by decide)) = true := by decide +kernel
theorem okf23 : okFn view02 gl02 (fns02[23]'(by decide)) = true := by decide +kernel
theorem okf24 : okFn view02 gl02 (fns02[24]'(by decide)) = true := by decide +kernel
theorem okf25 : okFn view02 gl02 (fns02[25]'(by decide)) = true := by decide +kernel
theorem okf26 : okFn view02 gl02 (fns02[26]'(by decide)) = true := by decide +kernel
theorem okf27 : okFn view02 gl02 (fns02[27]'(by decide)) = true := by decide +kernel
theorem okf28 : okFn view02 gl02 (fns02[28]'(by decide)) = true := by decide +kernel
theorem emf0 : emSs (fns02[0]'(by decide)).2.2.1.body (bodyOf view02 (fns02[0]'(by decide)).2.1) = bodyOf view02 (fns02[0]'(by decide)).2.1 := by kernel_rfl
theorem emf1 : emSs (fns02[1]'(by decide)).2.2.1.body (bodyOf view02 (fns02[1]'(by decide)).2.1) = bodyOf view02 (fns02[1]'(by decide)).2.1 := by kernel_rfl
theorem emf2 : emSs (fns02[2]'(by decide)).2.2.1.body (bodyOf view02 (fns02[2]'(by decide)).2.1) = bodyOf view02 (fns02[2]'(by decide)).2.1 := by kernel_rfl
theorem emf3 : emSs (fns02[3]'(by decide)).2.2.1.body (bodyOf view02 (fns02[3]'(by decide)).2.1) = bodyOf view02 (fns02[3]'(by decide)).2.1 := by kernel_rfl
theorem emf4 : emSs (fns02[4]'(by decide)).2.2.1.body (bodyOf view02 (fns02[4]'(by decide)).2.1) = bodyOf view02 (fns02[4]'(by decide)).2.1 := by kernel_rfl
theorem emf5 : emSs (fns02[5]'(by decide)).2.2.1.body (bodyOf view02 (fns02[5]'(by decide)).2.1) = bodyOf view02 (fns02[5]'(by decide)).2.1 := by kernel_rfl
theorem emf6 : emSs (fns02[6]'(by decide)).2.2.1.body (bodyOf view02 (fns02[6]'(by decide)).2.1) = bodyOf view02 (fns02[6]'(by decide)).2.1 := by kernel_rfl
theorem emf7 : emSs (fns02[7]'(by decide)).2.2.1.body (bodyOf view02 (fns02[7]'(by decide)).2.1) = bodyOf view02 (fns02[7]'(by decide)).2.1 := by kernel_rfl
theorem emf8 : emSs (fns02[8]'(by decide)).2.2.1.body (bodyOf view02 (fns02[8]'(by decide)).2.1) = bodyOf view02 (fns02[8]'(by decide)).2.1 := by kernel_rfl
theorem emf9 : emSs (fns02[9]'(by decide)).2.2.1.body (bodyOf view02 (fns02[9]'(by decide)).2.1) = bodyOf view02 (fns02[9]'(by decide)).2.1 := by kernel_rfl
theorem emf10 : emSs (fns02[10]'(by decide)).2.2.1.body (bodyOf view02 (fns02[10]'(by decide)).2.1) = bodyOf view02 (fns02[10]'(by decide)).2.1 := by kernel_rfl
theorem emf11 : emSs (fns02[11]'(by decide)).2.2.1.body (bodyOf view02 (fns02[11]'(by decide)).2.1) = bodyOf view02 (fns02[11]'(by decide)).2.1 := by kernel_rfl
theorem emf12 : emSs (fns02[12]'(by decide)).2.2.1.body (bodyOf view02 (fns02[12]'(by decide)).2.1) = bodyOf view02 (fns02[12]'(by decide)).2.1 := by kernel_rfl
theorem emf13 : emSs (fns02[13]'(by decide)).2.2.1.body (bodyOf view02 (fns02[13]'(by decide)).2.1) = bodyOf view02 (fns02[13]'(by decide)).2.1 := by kernel_rfl
theorem emf14 : emSs (fns02[14]'(by decide)).2.2.1.body (bodyOf view02 (fns02[14]'(by decide)).2.1) = bodyOf view02 (fns02[14]'(by decide)).2.1 := by kernel_rfl
theorem emf15 : emSs (fns02[15]'(by decide)).2.2.1.body (bodyOf view02 (fns02[15]'(by decide)).2.1) = bodyOf view02 (fns02[15]'(by decide)).2.1 := by kernel_rfl
theorem emf16 : emSs (fns02[16]'(by decide)).2.2.1.body (bodyOf view02 (fns02[16]'(by decide)).2.1) = bodyOf view02 (fns02[16]'(by decide)).2.1 := by kernel_rfl
theorem emf17 : emSs (fns02[17]'(by decide)).2.2.1.body (bodyOf view02 (fns02[17]'(by decide)).2.1) = bodyOf view02 (fns02[17]'(by decide)).2.1 := by kernel_rfl
theorem emf18 : emSs (fns02[18]'(by decide)).2.2.1.body (bodyOf view02 (fns02[18]'(by decide)).2.1) = bodyOf view02 (fns02[18]'(by decide)).2.1 := by kernel_rfl
theorem emf19 : emSs (fns02[19]'(by decide)).2.2.1.body (bodyOf view02 (fns02[19]'(by decide)).2.1) = bodyOf view02 (fns02[19]'(by decide)).2.1 := by kernel_rfl
theorem emf20 : emSs (fns02[20]'(by decide)).2.2.1.body (bodyOf view02 (fns02[20]'(by decide)).2.1) = bodyOf view02 (fns02[20]'(by decide)).2.1 := by kernel_rfl
theorem emf21 : emSs (fns02[21]'(by decide)).2.2.1.body (bodyOf view02 (fns02[21]'(by decide)).2.1) = bodyOf view02 (fns02[21]'(by decide)).2.1 := by kernel_rfl
theorem emf22 : emSs (fns02[22]'(by decide)).2.2.1.body (bodyOf view02 (fns02[22]'(by decide)).2.1) = bodyOf view02 (fns02[22]'(by decide)).2.1 := by kernel_rfl
theorem emf23 : emSs (fns02[23]'(by decide)).2.2.1.body (bodyOf view02 (fns02[23]'(by decide)).2.1) = bodyOf view02 (fns02[23]'(by decide)).2.1 := by kernel_rfl
theorem emf24 : emSs (fns02[24]'(by decide)).2.2.1.body (bodyOf view02 (fns02[24]'(by decide)).2.1) = bodyOf view02 (fns02[24]'(by decide)).2.1 := by kernel_rfl
theorem emf25 : emSs (fns02[25]'(by decide)).2.2.1.body (bodyOf view02 (fns02[25]'(by decide)).2.1) = bodyOf view02 (fns02[25]'(by decide)).2.1 := by kernel_rfl
theorem emf26 : emSs (fns02[26]'(by decide)).2.2.1.body (bodyOf view02 (fns02[26]'(by decide)).2.1) = bodyOf view02 (fns02[26]'(by decide)).2.1 := by kernel_rfl
theorem emf27 : emSs (fns02[27]'(by decide)).2.2.1.body (bodyOf view02 (fns02[27]'(by decide)).2.1) = bodyOf view02 (fns02[27]'(by decide)).2.1 := by kernel_rfl
theorem emf28 : emSs (fns02[28]'(by decide)).2.2.1.body (bodyOf view02 (fns02[28]'(by decide)).2.1) = bodyOf view02 (fns02[28]'(by decide)).2.1 := by kernel_rfl
theorem okAll02 : ∀ x ∈ fns02, okFn view02 gl02 x = true := by
  intro x hx
  simp only [fns02, List.mem_cons, List.not_mem_nil, or_false] at hx
  rcases hx with rfl | rfl | rfl | rfl | rfl | rfl | rfl | rfl | rfl | rfl | rfl | rfl | rfl | rfl | rfl | rfl | rfl | rfl | rfl | rfl | rfl | rfl | rfl | rfl | rfl | rfl | rfl | rfl | rfl
  · exact okf0
  · exact okf1
  · exact okf2
  · exact okf3
  · exact okf4
  · exact okf5
  · exact okf6
  · exact okf7
  · exact okf8
  · exact okf9
  · exact okf10
  · exact okf11
  · exact okf12
  · exact okf13
  · exact okf14
  · exact okf15
  · exact okf16
  · exact okf17
  · exact okf18
  · exact okf19
  · exact okf20
  · exact okf21
  · exact okf22
  · exact okf23
  · exact okf24
  · exact okf25
  · exact okf26
  · exact okf27
  · exact okf28
theorem emAll02 : ∀ x ∈ fns02, emSs x.2.2.1.body (bodyOf view02 x.2.1) = bodyOf view02 x.2.1 := by
  intro x hx
  simp only [fns02, List.mem_cons, List.not_mem_nil, or_false] at hx
  rcases hx with rfl | rfl | rfl | rfl | rfl | rfl | rfl | rfl | rfl | rfl | rfl | rfl | rfl | rfl | rfl | rfl | rfl | rfl | rfl | rfl | rfl | rfl | rfl | rfl | rfl | rfl | rfl | rfl | rfl
  · exact emf0
  · exact emf1
  · exact emf2
  · exact emf3
  · exact emf4
  · exact emf5
  · exact emf6
  · exact emf7
  · exact emf8
  · exact emf9
  · exact emf10
  · exact emf11
  · exact emf12
  · exact emf13
  · exact emf14
  · exact emf15
  · exact emf16
  · exact emf17
  · exact emf18
  · exact emf19
  · exact emf20
  · exact emf21
  · exact emf22
  · exact emf23
  · exact emf24
  · exact emf25
  · exact emf26
  · exact emf27
  · exact emf28
theorem okGl02 : ∀ e ∈ gll02, okGl view02 (PySem.W.looseW view02 []) fns02 cn02 e = true := by decide +kernel
theorem okOwn02 : ∀ e ∈ cn02, okOwn view02 e = true := by decide +kernel
theorem okP02 : ∀ f fn, P02 f = some fn → ∃ x, fns02.find? (·.1 == f) = some x ∧ x.2.2.1 = fn := by
  intro f fn h
  unfold P02 at h
  cases e : fns02.find? (·.1 == f) with
  | none => rw [e] at h; cases h
  | some x => rw [e] at h; exact ⟨x, rfl, Option.some.inj h⟩
end Mine

namespace Mine
open PySem
noncomputable def Tx (l : List Nat) : Str := ⟨l.toArray⟩
theorem Tx_app (a b : List Nat) : Tx a ++ Tx b = Tx (a ++ b) := by
  show Str.append _ _ = _
  simp [Str.append, Tx]
theorem Tx_len (a : List Nat) : (Tx a).length = a.length := by simp [Str.length, Tx]
theorem Tx_size (a : List Nat) : (Tx a).cps.size = a.length := by simp [Tx]
theorem Tx_list (a : List Nat) : (Tx a).cps.toList = a := by simp [Tx]
theorem Tx_inj {a b : List Nat} (h : Tx a = Tx b) : a = b := by
  have := congrArg (fun s => s.cps.toList) h
  simpa [Tx] using this
theorem Tx_eta (x : Str) : Tx x.cps.toList = x := by simp [Tx]
theorem Tx_cut (lo hi : Option Int) (a : List Nat) : cutS lo hi (Tx a) = Tx (cutAt lo hi a) := by simp [cutS, Tx]
theorem Tx_at (a : List Nat) (i : Int) : Txt.charAt (Tx a) i = (seqIndex? i a.length).bind (a[·]?) := by
  simp [Txt.charAt, Tx, Str.length]
theorem Tx_lt (a b : List Nat) : ltStr (Tx a) (Tx b) = decide (a < b) := by
  unfold ltStr; congr
theorem Tx_beq (a b : List Nat) : (Tx a == Tx b) = decide (a = b) := by
  by_cases h : a = b
  · subst h; simp
  · have h1 : Tx a ≠ Tx b := fun e => h (Tx_inj e)
    simp [h, h1]
theorem Tx_nil : Str.empty = Tx [] := rfl
theorem chr1_Tx (c : Nat) : chr1 c = Tx [c] := rfl
noncomputable abbrev vs (l : List Nat) : V := .d (.str (Tx l))
noncomputable abbrev vi (i : Int) : V := .d (.int i)
noncomputable abbrev vb (b : Bool) : V := .d (.bool b)

section
variable {α β : Type} {fz : Bool} {i j : Int} {x y : Str} {σ σ₁ σ₂ : Store} {C : Cfg} {ρ : Vars} {v : V} {e c : E} {r a b : List S}
theorem ok_bind (a : α) (σ : Store) (f : α → Store → Res β) : (Res.ok a σ).bind f = f a σ := rfl
theorem exc_bind (c : Nat) (σ : Store) (f : α → Store → Res β) : (Res.exc c σ).bind f = .exc c σ := rfl
theorem bind_bind {γ : Type} (r : Res α) (f : α → Store → Res β) (g : β → Store → Res γ) : (r.bind f).bind g = r.bind fun a σ => (f a σ).bind g := by cases r <;> rfl
theorem bc_len_s {X : Nat → Nat → Option Bool} {h : Bool} : bcall X h .len fz [.d (.str x)] σ = .ok (.d (.int x.cps.size)) σ := rfl
theorem bc_len_l {X : Nat → Nat → Option Bool} {h : Bool} {xs : List PyData} : bcall X h .len fz [.d (.list xs)] σ = .ok (.d (.int xs.length)) σ := by
  rw [← List.length_map (f := V.d)]; rfl
theorem bc_len_t {X : Nat → Nat → Option Bool} {h : Bool} {xs : List PyData} : bcall X h .len fz [.d (.tuple xs)] σ = .ok (.d (.int xs.length)) σ := by
  rw [← List.length_map (f := V.d)]; rfl
theorem c_eq {p q : V} : cmpop .Eq p q σ = eqV σ p q := rfl
theorem c_ne {p q : V} : cmpop .NotEq p q σ = notO (eqV σ p q) := rfl
theorem c_in {p q : V} : cmpop .In p q σ = inV σ p q := rfl
theorem c_nin {p q : V} : cmpop .NotIn p q σ = notO (inV σ p q) := rfl
theorem c_is {p q : V} : cmpop .Is p q σ = isV p q := rfl
theorem c_isn {p q : V} : cmpop .IsNot p q σ = notO (isV p q) := rfl
theorem c_lt {p q : V} : cmpop .Lt p q σ = ltV p q := rfl
theorem c_gt {p q : V} : cmpop .Gt p q σ = gtV p q := rfl
theorem c_ge {p q : V} : cmpop .GtE p q σ = geV p q := rfl
theorem c_le {p q : V} : cmpop .LtE p q σ = leV p q := rfl
theorem lt_i : ltV (.d (.int i)) (.d (.int j)) = some (decide (i < j)) := rfl
theorem gt_i : gtV (.d (.int i)) (.d (.int j)) = some (decide (i > j)) := rfl
theorem ge_s : geV (.d (.str x)) (.d (.str y)) = some (!ltStr x y) := rfl
theorem no_s {t : Bool} : notO (some t) = some (!t) := rfl
theorem tr_b {t : Bool} : truth σ (.d (.bool t)) = some t := rfl
theorem b_add : binop fz .Add (.d (.int i)) (.d (.int j)) σ = .ok (.d (.int (i + j))) σ := rfl
theorem b_sub : binop fz .Sub (.d (.int i)) (.d (.int j)) σ = .ok (.d (.int (i - j))) σ := rfl
theorem b_mul (h : (small i || small j) = true) : binop fz .Mult (.d (.int i)) (.d (.int j)) σ = .ok (.d (.int (i * j))) σ := if_pos h
theorem b_div (h : j ≠ 0) : binop fz .FloorDiv (.d (.int i)) (.d (.int j)) σ = .ok (.d (.int (i.fdiv j))) σ := if_neg h
theorem b_mod (h : j ≠ 0) : binop fz .Mod (.d (.int i)) (.d (.int j)) σ = .ok (.d (.int (i.fmod j))) σ := if_neg h
theorem b_cat (a b : List Nat) (h : a.length + b.length ≤ line) : binop fz .Add (.d (.str (Tx a))) (.d (.str (Tx b))) σ = .ok (.d (.str (Tx (a ++ b)))) σ := by
  have h' : (Tx a).length + (Tx b).length ≤ line := by rw [Tx_len, Tx_len]; exact h
  refine (if_pos h').trans ?_
  rw [Tx_app]
theorem b_catL (a b : List PyData) (h : a.length + b.length ≤ line) : binop true .Add (.d (.list a)) (.d (.list b)) σ = .ok (.d (.list (a ++ b))) σ := by
  have hd : ∀ l : List PyData, allD (l.map .d) = some l := by
    intro l; induction l with
    | nil => rfl
    | cons x r ih => simp [allD, ih]
  have h2 : ((a.map V.d) ++ b.map V.d) = (a ++ b).map V.d := by simp
  have h3 : ((a ++ b).map V.d).length ≤ line := by simpa using h
  show mkList true (a.map V.d ++ b.map V.d) σ = _
  rw [h2]
  simp only [mkList, if_pos h3, hd]
theorem allD_map (l : List PyData) : allD (l.map .d) = some l := by
  induction l with
  | nil => rfl
  | cons x r ih => simp [allD, ih]
theorem mkListT (l : List PyData) (h : l.length ≤ line) : mkList true (l.map .d) σ = .ok (.d (.list l)) σ := by
  simp [mkList, h, allD_map]
theorem x_append : execSs C (a ++ b) ρ σ = (execSs C a ρ σ).bind fun f σ => (match f with | .next ρ => execSs C b ρ σ | .ret v => .ok (.ret v) σ) := by
  induction a generalizing ρ σ with
  | nil => simp only [List.nil_append, xB_1, xB_2, ok_bind]
  | cons s r ih =>
    simp only [List.cons_append, xB_1, xB_2, bind_bind]
    congr 1; funext f σ
    cases f with
    | next ρ => exact ih
    | ret v => rfl
theorem x_asg {x : Nat} (h : evalE C e ρ σ = .ok v σ₁) : execSs C (.asg x e :: r) ρ σ = execSs C r (ρ.set x (some v)) σ₁ := by
  simp only [xB_1, xB_2, xA_1, xA_2, xA_3, xA_6, xA_7, xA_8, xA_10, xA_11, xA_12, h, ok_bind]
theorem x_exp (h : evalE C e ρ σ = .ok v σ₁) : execSs C (.exp e :: r) ρ σ = execSs C r ρ σ₁ := by
  simp only [xB_1, xB_2, xA_1, xA_2, xA_3, xA_6, xA_7, xA_8, xA_10, xA_11, xA_12, h, ok_bind]
theorem x_exp_exc {k : Nat} (h : evalE C e ρ σ = .exc k σ₁) : execSs C (.exp e :: r) ρ σ = .exc k σ₁ := by
  simp only [xB_1, xB_2, xA_1, xA_2, xA_3, xA_6, xA_7, xA_8, xA_10, xA_11, xA_12, h, exc_bind]
theorem x_ret (h : evalE C e ρ σ = .ok v σ₁) : execSs C (.ret e :: r) ρ σ = .ok (.ret v) σ₁ := by
  simp only [xB_1, xB_2, xA_1, xA_2, xA_3, xA_6, xA_7, xA_8, xA_10, xA_11, xA_12, h, ok_bind]
theorem x_ite {t : Bool} (h : evalE C c ρ σ = .ok v σ₁) (ht : truth σ₁ v = some t) : execSs C (.ite c a b :: r) ρ σ = execSs C ((bif t then a else b) ++ r) ρ σ₁ := by
  rw [x_append]
  cases t <;> simp only [xB_1, xB_2, xA_1, xA_2, xA_3, xA_6, xA_7, xA_8, xA_10, xA_11, xA_12, h, ok_bind, ht, cond] <;> rfl
theorem x_ite_t (h : evalE C c ρ σ = .ok v σ₁) (ht : truth σ₁ v = some true) : execSs C (.ite c a b :: r) ρ σ = execSs C (a ++ r) ρ σ₁ := x_ite h ht
theorem x_ite_f (h : evalE C c ρ σ = .ok v σ₁) (ht : truth σ₁ v = some false) : execSs C (.ite c a b :: r) ρ σ = execSs C (b ++ r) ρ σ₁ := x_ite h ht
theorem x_iteB {t : Bool} (h : evalE C c ρ σ = .ok (.d (.bool t)) σ₁) : execSs C (.ite c a b :: r) ρ σ = execSs C ((bif t then a else b) ++ r) ρ σ₁ := x_ite h rfl
theorem x_raise {k : Nat} {es : List E} {ws : List V} (hd : C.hd = false) (h : evalEs C es ρ σ = .ok ws σ₁) : execSs C (.raise k es :: r) ρ σ = .exc k σ₁ := by
  simp [xB_1, xB_2, xA_1, xA_2, xA_3, xA_6, xA_7, xA_8, xA_10, xA_11, xA_12, hd, h, ok_bind, exc_bind]
theorem x_nil : execSs C [] ρ σ = .ok (.next ρ) σ := by simp only [xB_1, xB_2]
theorem forS_items {f : V → Vars → Store → Res Fl} : ∀ (ws : List V) (ρ : Vars) (σ : Store), forS f (ws.length + 1) (.items ws) ρ σ = forGo f ws ρ σ
  | [], _, _ => rfl
  | v :: r, ρ, σ => by
    show (f v ρ σ).bind (fun x σ => (match x with | .next ρ => forS f (r.length + 1) (.items r) ρ σ | .ret y => .ok (.ret y) σ)) = (f v ρ σ).bind fun x σ => (match x with | .next ρ => forGo f r ρ σ | .ret y => .ok (.ret y) σ)
    congr 1; funext x σ
    cases x with
    | next ρ => exact forS_items r ρ σ
    | ret _ => rfl
theorem compS_items {f : V → Store → Res (Option V)} : ∀ (ws : List V) (σ : Store), compS f (ws.length + 1) (.items ws) σ = compGo f ws σ
  | [], _ => rfl
  | v :: r, σ => by
    show compOne (compS f (r.length + 1)) f σ (some (some (v, .items r))) = _
    unfold compOne compGo
    dsimp only
    cases f v σ with
    | ok x σ => dsimp only; rw [compS_items r σ]
    | _ => rfl
theorem x_for {ts : List Nat} {it : It} {body : List S} {ws : List V} (h : evalIt C it ρ σ = .ok (.items ws) σ₁) :
    execSs C (.for_ ts it body :: r) ρ σ = (forGo (forStep C.hd ts (fun ρ σ => execSs C body ρ σ)) ws ρ σ₁).bind fun f σ => (match f with | .next ρ => execSs C r ρ σ | .ret v => .ok (.ret v) σ) := by
  rw [xB_2, xA_8, h, ok_bind]
  show (forS _ (ws.length + 1) (.items ws) ρ σ₁).bind _ = _
  rw [forS_items] <;> rfl

theorem forGo_fold {f : V → Vars → Store → Res Fl} {γ : Type} (I : γ → Vars → Store → Prop) (w : α → V) :
    ∀ (l : List α) (R : List α → γ → Prop) (pre : List α) (s : γ) (ρ : Vars) (σ : Store), R pre s → I s ρ σ →
    (∀ p a q s ρ σ, pre ++ l = p ++ a :: q → R p s → I s ρ σ → ∃ s' ρ' σ', R (p ++ [a]) s' ∧ I s' ρ' σ' ∧ f (w a) ρ σ = .ok (.next ρ') σ') →
    ∃ s' ρ' σ', R (pre ++ l) s' ∧ I s' ρ' σ' ∧ forGo f (l.map w) ρ σ = .ok (.next ρ') σ'
  | [], R, pre, s, ρ, σ, hR, hI, _ => ⟨s, ρ, σ, by simpa using hR, hI, by simp only [List.map_nil, forGo]⟩
  | a :: l, R, pre, s, ρ, σ, hR, hI, hf => by
    obtain ⟨s', ρ', σ', h1, h2, h3⟩ := hf pre a l s ρ σ rfl hR hI
    obtain ⟨s2, ρ2, σ2, k1, k2, k3⟩ := forGo_fold I w l R (pre ++ [a]) s' ρ' σ' h1 h2 (by
      intro p b q s ρ σ he; exact hf p b q s ρ σ (by simpa using he))
    refine ⟨s2, ρ2, σ2, by simpa using k1, k2, ?_⟩
    simp only [List.map_cons, forGo, h3, ok_bind]
    exact k3
theorem rangeV_eq (lo : Int) (n : Nat) : rangeV lo n = (List.range n).map fun j : Nat => V.d (.int (lo + (j : Int))) := by
  induction n generalizing lo with
  | zero => rfl
  | succ n ih =>
    rw [rangeV, ih, List.range_succ_eq_map]
    simp only [List.map_cons, List.map_map]
    congr 1
    · simp
    · apply List.map_congr_left; intro j _; simp; omega
theorem range0 (n : Nat) : rangeV 0 n = (List.range n).map fun j : Nat => V.d (.int (j : Int)) := by simp [rangeV_eq]
theorem it_range {es : List E} {n : Int} (hd : C.hd = false) (h : evalEs C es ρ σ = .ok [.d (.int n)] σ₁) (h1 : n ≤ 1000000) (h2 : -1000000 ≤ n) :
    evalIt C (.range es) ρ σ = .ok (.items ((List.range n.toNat).map fun j : Nat => V.d (.int (j : Int)))) σ₁ := by
  simp [eI_1, eI_2, eI_4, h, ok_bind, rangeOf, isIntV, hd, h1, h2, range0]
theorem it_of {ws : Src} (h : evalE C e ρ σ = .ok v σ₁) (h1 : itemsOf C.hd σ₁ v = some ws) : evalIt C (.of e) ρ σ = .ok ws σ₁ := by
  simp [eI_1, eI_2, eI_4, h, ok_bind, h1]
theorem compGo_map {f : V → Store → Res (Option V)} (w : α → V) (g : α → Option V) : ∀ (l : List α), (∀ a ∈ l, f (w a) σ = .ok (g a) σ) → compGo f (l.map w) σ = .ok (l.filterMap g) σ
  | [], _ => rfl
  | a :: l, h => by
    have h1 := h a (by simp)
    have h2 := compGo_map w g l (fun b hb => h b (by simp [hb]))
    simp only [List.map_cons, compGo, h1, h2, List.filterMap_cons]
    cases g a <;> rfl
theorem e_comp {elt : E} {t : Nat} {it : It} {ifs : List E} {fz : Bool} {l : List α} (w : α → V) (p : α → Bool) (g : α → V)
    (hi : evalIt C it ρ σ = .ok (.items (l.map w)) σ₁)
    (hp : ∀ a ∈ l, evalIfs C ifs ((ρ.set t none).set t (some (w a))) σ₁ = .ok (p a) σ₁)
    (hg : ∀ a ∈ l, p a = true → evalE C elt ((ρ.set t none).set t (some (w a))) σ₁ = .ok (g a) σ₁) :
    evalE C (.comp fz elt [t] it ifs) ρ σ = mkList fz ((l.filter p).map g) σ₁ := by
  simp only [eA_1, eA_2, eA_4, eA_5, eA_6, eA_7, eA_8, eA_9, eA_10, eA_12, eA_13, eA_15, eA_16, eA_17, eA_18, eA_19, eA_20, hi, ok_bind]
  show (compS _ ((l.map w).length + 1) (.items (l.map w)) σ₁).bind _ = _
  rw [compS_items, compGo_map w (fun a => if p a then some (g a) else none) l]
  · rw [ok_bind]
    congr 1
    clear hi hp hg
    induction l with
    | nil => rfl
    | cons a l ih => cases h : p a <;> simp [List.filterMap_cons, List.filter_cons, h, ih]
  · intro a ha
    have h1 := hp a ha
    simp only [compStep, clearTs, List.foldl, bindTs, h1, ok_bind]
    cases h : p a with
    | true => simp only [hg a ha h, ok_bind, if_true]
    | false => simp
theorem e_comp1 {elt : E} {t : Nat} {it : It} {fz : Bool} {l : List α} (w : α → V) (g : α → V)
    (hi : evalIt C it ρ σ = .ok (.items (l.map w)) σ₁)
    (hg : ∀ a ∈ l, evalE C elt ((ρ.set t none).set t (some (w a))) σ₁ = .ok (g a) σ₁) :
    evalE C (.comp fz elt [t] it []) ρ σ = mkList fz (l.map g) σ₁ := by
  have := e_comp (elt := elt) (fz := fz) (t := t) (ifs := []) w (fun _ => true) g hi (fun a _ => by simp only [eF_1, eF_2]) (fun a ha _ => hg a ha)
  rw [List.filter_eq_self.mpr (by simp)] at this
  exact this
theorem e_bin {op : Operator} {a b : E} {x y : V} (h1 : evalE C a ρ σ = .ok x σ₁) (h2 : evalE C b ρ σ₁ = .ok y σ₂) : evalE C (.bin fz op a b) ρ σ = binop fz op x y σ₂ := by
  simp only [eA_1, eA_2, eA_4, eA_5, eA_6, eA_7, eA_8, eA_9, eA_10, eA_12, eA_13, eA_15, eA_16, eA_17, eA_18, eA_19, eA_20, h1, h2, ok_bind]
theorem e_join {l : List (List Nat)} {sep : List Nat} (h : evalE C e ρ σ = .ok (.d (.list (l.map fun t => .str (Tx t)))) σ₁) (hok : JoinOk (Tx sep) (l.map Tx) = true) :
    evalE C (.meth .join fz (.cst (.str (Tx sep))) [e]) ρ σ = .ok (.d (.str (Txt.join (Tx sep) (l.map Tx)))) σ₁ := by
  have hs : strsV (l.map (fun t => V.d (.str (Tx t)))) = some (l.map Tx) := by
    clear hok h
    induction l with
    | nil => rfl
    | cons a l ih => simp only [List.map_cons, strsV, isStrV, ih]
  have h2 : (l.map fun t => PyData.str (Tx t)).map V.d = l.map (fun t => V.d (.str (Tx t))) := by simp
  simp only [eA_1, eA_2, eA_4, eA_5, eA_6, eA_7, eA_8, eA_9, eA_10, eA_12, eA_13, eA_15, eA_16, eA_17, eA_18, eA_19, eA_20, eB_1, eB_2, h, ok_bind, methPre, if_true, methcall, methcall1, joinBy, isStrV, lstOf, h2, hs, hok]
end
section
variable {P : Nat → Option Fn} {isX : Nat → Nat → Option Bool} {fuel n f : Nat} {hd : Bool} {fn : Fn} {ws xs : List V} {σ σ₁ : Store} {y : PyData} {v : V} {k : Nat}
theorem frz_ok (hP : P f = some fn) (hi : inert ws = true) (h : runFn ⟨callF P isX fuel n, isX, fuel, hd⟩ fn ws [] = .ok v σ₁) (hs : snap σ₁ 8 v = some y) : callF P isX fuel (n + 1) hd .frz f ws σ = .ok (.d y) σ := by
  simp [callF, hP, hi, isoCall, ansOf1, h, hs]
theorem frz_exc (hP : P f = some fn) (hi : inert ws = true) (h : runFn ⟨callF P isX fuel n, isX, fuel, hd⟩ fn ws [] = .exc k σ₁) : callF P isX fuel (n + 1) hd .frz f ws σ = .exc k σ := by
  simp [callF, hP, hi, isoCall, h]
theorem frz_lent (hP : P f = some fn) (hi : inert ws = false) (hl : lent σ ws = some xs) (h : runFn ⟨callF P isX fuel n, isX, fuel, hd⟩ fn xs [] = .ok v σ₁) (hs : fresh σ₁ 8 v = some y) : callF P isX fuel (n + 1) hd .frz f ws σ = .ok (.d y) σ := by
  simp [callF, hP, hi, hl, isoCall, ansOf1, h, hs]
theorem run_ret {C : Cfg} (hl : ws.length = fn.nparams) (h : execSs C fn.body (ws.map some ++ List.replicate (fn.nvars - fn.nparams) none) [] = .ok (.ret v) σ₁) : runFn C fn ws [] = .ok v σ₁ := by
  simp [runFn, hl, h, ok_bind]
theorem run_none {C : Cfg} {ρ : Vars} (hl : ws.length = fn.nparams) (h : execSs C fn.body (ws.map some ++ List.replicate (fn.nvars - fn.nparams) none) [] = .ok (.next ρ) σ₁) : runFn C fn ws [] = .ok (.d .none) σ₁ := by
  simp [runFn, hl, h, ok_bind]
theorem run_exc {C : Cfg} (hl : ws.length = fn.nparams) (h : execSs C fn.body (ws.map some ++ List.replicate (fn.nvars - fn.nparams) none) [] = .exc k σ₁) : runFn C fn ws [] = .exc k σ₁ := by
  simp [runFn, hl, h, exc_bind]
end
end Mine

namespace Mine
open PySem
theorem contains1 (l : List Nat) (c : Nat) : Txt.contains (Tx l) (Tx [c]) = decide (c ∈ l) := by
  have h := StrLaws.found_one (Tx l) c
  rw [Tx_list] at h
  exact h
theorem join0 (l : List (List Nat)) : Txt.join (Tx []) (l.map Tx) = Tx l.flatten := by
  show Builtin.Str.glued _ _ = _
  rw [StrLaws.glued_eq_join]
  induction l with
  | nil => rfl
  | cons a l ih =>
    cases l with
    | nil => simp [Str.join]
    | cons b l =>
      simp only [List.map_cons, Str.join] at ih ⊢
      rw [ih, Tx_app, Tx_app]; simp
theorem joinOk0 (l : List (List Nat)) (h : l.length ≤ 1000000) (h1 : ∀ t ∈ l, t.length ≤ 1) : JoinOk (Tx []) (l.map Tx) = true := by
  refine PyProof.Rows.joinOk_of ?_
  have h2 : ((l.map Tx).map (·.length)).sum ≤ l.length := by
    clear h
    induction l with
    | nil => simp
    | cons a l ih =>
      have := h1 a (by simp)
      have := ih (fun t ht => h1 t (by simp [ht]))
      simp only [List.map_cons, List.sum_cons, List.length_cons, Tx_len]; omega
  simp only [Tx_len, List.length_nil, Nat.mul_zero]
  omega
end Mine

namespace Mine
open PySem
section
variable {σ σ₁ : Store} {C : Cfg} {ρ : Vars} {p q r : Bool} {a b c : E} {x y : V}
theorem e_or2 (h1 : evalE C a ρ σ = .ok (vb p) σ) (h2 : p = false → evalE C b ρ σ = .ok (vb q) σ) : evalE C (.bop .Or [a, b]) ρ σ = .ok (vb (p || q)) σ := by
  cases p <;> simp [eA_1, eA_2, eA_4, eA_5, eA_6, eA_7, eA_8, eA_9, eA_10, eA_12, eA_13, eA_15, eA_16, eA_17, eA_18, eA_19, eA_20, eC_2, eC_3, h1, h2, ok_bind, tr_b]
theorem e_and2 (h1 : evalE C a ρ σ = .ok (vb p) σ) (h2 : p = true → evalE C b ρ σ = .ok (vb q) σ) : evalE C (.bop .And [a, b]) ρ σ = .ok (vb (p && q)) σ := by
  cases p <;> simp [eA_1, eA_2, eA_4, eA_5, eA_6, eA_7, eA_8, eA_9, eA_10, eA_12, eA_13, eA_15, eA_16, eA_17, eA_18, eA_19, eA_20, eC_2, eC_3, h1, h2, ok_bind, tr_b]
theorem e_and3 (h1 : evalE C a ρ σ = .ok (vb p) σ) (h2 : p = true → evalE C b ρ σ = .ok (vb q) σ) (h3 : p = true → q = true → evalE C c ρ σ = .ok (vb r) σ) : evalE C (.bop .And [a, b, c]) ρ σ = .ok (vb (p && q && r)) σ := by
  cases p <;> cases q <;> simp_all [eA_1, eA_2, eA_4, eA_5, eA_6, eA_7, eA_8, eA_9, eA_10, eA_12, eA_13, eA_15, eA_16, eA_17, eA_18, eA_19, eA_20, eC_2, eC_3, ok_bind, tr_b]
theorem e_and2v (h1 : evalE C a ρ σ = .ok (vb p) σ) (h2 : p = true → evalE C b ρ σ = .ok y σ ∧ truth σ y = some q) : ∃ z, evalE C (.bop .And [a, b]) ρ σ = .ok z σ ∧ truth σ z = some (p && q) := by
  cases p with
  | false => exact ⟨vb false, by simp [eA_1, eA_2, eA_4, eA_5, eA_6, eA_7, eA_8, eA_9, eA_10, eA_12, eA_13, eA_15, eA_16, eA_17, eA_18, eA_19, eA_20, eC_2, eC_3, h1, ok_bind, tr_b], rfl⟩
  | true => exact ⟨y, by simp [eA_1, eA_2, eA_4, eA_5, eA_6, eA_7, eA_8, eA_9, eA_10, eA_12, eA_13, eA_15, eA_16, eA_17, eA_18, eA_19, eA_20, eC_2, eC_3, h1, (h2 rfl).1, ok_bind, tr_b], by simpa using (h2 rfl).2⟩
theorem e_not (h1 : evalE C a ρ σ = .ok (vb p) σ) : evalE C (.not a) ρ σ = .ok (vb !p) σ := by
  simp only [eA_1, eA_2, eA_4, eA_5, eA_6, eA_7, eA_8, eA_9, eA_10, eA_12, eA_13, eA_15, eA_16, eA_17, eA_18, eA_19, eA_20, h1, ok_bind, tr_b]
end
section
variable {σ : Store} {i j : Int} {a b : List Nat}
theorem eq_int : eqV σ (vi i) (vi j) = some (decide (i = j)) := rfl
theorem eq_str : eqV σ (vs a) (vs b) = some (decide (a = b)) := by
  show some (Tx a == Tx b) = _
  rw [Tx_beq]
theorem inD_str (a : List Nat) (l : List (List Nat)) : inD (.str (Tx a)) (l.map fun t => .str (Tx t)) = some (decide (a ∈ l)) := by
  induction l with
  | nil => rfl
  | cons b l ih =>
    have h : eqN eqDepth (.str (Tx b)) (.str (Tx a)) = some (decide (b = a)) := by
      show some (Tx b == Tx a) = _
      rw [Tx_beq]
    simp only [List.map_cons, inD, ih, h, List.mem_cons, Bool.decide_or, eq_comm]
theorem in_strs (a : List Nat) (l : List (List Nat)) : inV σ (vs a) (.d (.list (l.map fun t => .str (Tx t)))) = some (decide (a ∈ l)) := by
  exact inD_str a l
theorem in_sign (c : Nat) (l : List Nat) : inV σ (vs [c]) (vs l) = some (decide (c ∈ l)) := by
  show some (Txt.contains (Tx l) (Tx [c])) = _
  rw [contains1]
theorem seqI {k : Int} {n : Nat} (h0 : 0 ≤ k) (h : k < n) : seqIndex? k n = some k.toNat := by
  have h1 : ¬ k < 0 := by omega
  simp [seqIndex?, h1, h0, h]
theorem at_list {l : List PyData} {y : PyData} (k : Int) (h0 : 0 ≤ k) (hs : k < 9223372036854775808) (h : l[k.toNat]? = some y) : subscr (.d (.list l)) (vi k) σ = some (.d y) := by
  have h1 : k.toNat < l.length := by
    rw [List.getElem?_eq_some_iff] at h; exact h.1
  have h2 : small k = true := by simp [small]; omega
  have h3 : seqIndex? k l.length = some k.toNat := seqI h0 (by omega)
  have h4 : l.getD k.toNat .none = y := by simp [List.getD, h]
  simp [subscr, h2, seqOf, h3, h]
theorem at_text {l : List Nat} {y : Nat} (k : Int) (h0 : 0 ≤ k) (hs : k < 9223372036854775808) (h : l[k.toNat]? = some y) : subscr (vs l) (vi k) σ = some (vs [y]) := by
  have h1 : k.toNat < l.length := by
    rw [List.getElem?_eq_some_iff] at h; exact h.1
  have h2 : small k = true := by simp [small]; omega
  have h3 : seqIndex? k l.length = some k.toNat := seqI h0 (by omega)
  simp [subscr, h2, Tx_at, h3, h, chr1_Tx]
theorem at_tup {l : List PyData} {y : PyData} (k : Int) (h0 : 0 ≤ k) (hs : k < 9223372036854775808) (h : l[k.toNat]? = some y) : subscr (.d (.tuple l)) (vi k) σ = some (.d y) := by
  have h1 : k.toNat < l.length := by
    rw [List.getElem?_eq_some_iff] at h; exact h.1
  have h2 : small k = true := by simp [small]; omega
  have h3 : seqIndex? k l.length = some k.toNat := seqI h0 (by omega)
  simp [subscr, h2, seqOf, h3, h]
theorem at_last {l : List PyData} {y : PyData} (hs : l.length < 9223372036854775808) (h : l.getLast? = some y) : subscr (.d (.list l)) (vi (-1)) σ = some (.d y) := by
  have h0 : l ≠ [] := by intro e; simp [e] at h
  have h1 : 0 < l.length := List.length_pos_iff.mpr h0
  have h2 : small (-1) = true := by decide
  have h3 : seqIndex? (-1) l.length = some (l.length - 1) := by
    have h4 : (0 : Int) ≤ -1 + l.length := by omega
    have h5 : (-1 + (l.length : Int)) < l.length := by omega
    have h6 : (-1 + (l.length : Int)).toNat = l.length - 1 := by omega
    simp [seqIndex?, h4, h5, h6]
  rw [List.getLast?_eq_getElem?] at h
  simp [subscr, h2, seqOf, h3, h]
theorem small_of (h1 : -1000000000000 < i) (h2 : i < 1000000000000) : small i = true := by simp [small]; omega
theorem cut_to {α : Type} (l : List α) (k : Nat) : cutAt none (some (k : Int)) l = l.take k := by
  have : clipAt l.length (k : Int) = min k l.length := by simp only [clipAt]; split <;> omega
  simp only [cutAt, Option.elim, this, List.drop_zero, Nat.sub_zero]
  rcases Nat.le_total k l.length with h | h
  · rw [Nat.min_eq_left h]
  · rw [Nat.min_eq_right h, List.take_of_length_le (Nat.le_refl _), List.take_of_length_le h]
theorem cut_from {α : Type} (l : List α) (k : Nat) : cutAt (some (k : Int)) none l = l.drop k := by
  have : clipAt l.length (k : Int) = min k l.length := by simp only [clipAt]; split <;> omega
  simp only [cutAt, Option.elim, this]
  rcases Nat.le_total k l.length with h | h
  · rw [Nat.min_eq_left h, List.take_of_length_le (by simp)]
  · rw [Nat.min_eq_right h]; simp [List.drop_eq_nil_of_le h]
theorem sl_toI (h : small i = true) : slice true (vs a) none (some (vi i)) σ = .ok (vs (cutAt none (some i) a)) σ := by
  simp only [slice, endOf, h, if_true, sliceAt, isStrV, isTupV, Tx_cut]
theorem sl_fromI (h : small i = true) : slice true (vs a) (some (vi i)) none σ = .ok (vs (cutAt (some i) none a)) σ := by
  simp only [slice, endOf, h, if_true, sliceAt, isStrV, isTupV, Tx_cut]
theorem slL_fromI {l : List PyData} (h : small i = true) : slice true (.d (.list l)) (some (vi i)) none σ = mkList true (cutAt (some i) none (l.map .d)) σ := by
  simp only [slice, endOf, h, if_true, sliceAt, isStrV, isTupV, lstOf]
theorem sl_to {k : Nat} (hk : k ≤ 1000000) : slice true (vs a) none (some (vi k)) σ = .ok (vs (a.take k)) σ := by
  rw [sl_toI (small_of (by omega) (by omega)), cut_to]
theorem sl_from {k : Nat} (hk : k ≤ 1000000) : slice true (vs a) (some (vi k)) none σ = .ok (vs (a.drop k)) σ := by
  rw [sl_fromI (small_of (by omega) (by omega)), cut_from]
theorem slL_from {l : List PyData} {k : Nat} (hk : k ≤ 1000000) (hl : l.length ≤ line) : slice true (.d (.list l)) (some (vi k)) none σ = .ok (.d (.list (l.drop k))) σ := by
  have h2 : (l.drop k).length ≤ line := by simp; omega
  rw [slL_fromI (small_of (by omega) (by omega)), cut_from, ← List.map_drop, mkListT _ h2]
theorem sl_toZ (h0 : 0 ≤ i) (h1 : i ≤ 1000000) : slice true (vs a) none (some (vi i)) σ = .ok (vs (a.take i.toNat)) σ := by
  rw [sl_toI (small_of (by omega) (by omega)), ← cut_to, Int.toNat_of_nonneg h0]
theorem sl_fromZ (h0 : 0 ≤ i) (h1 : i ≤ 1000000) : slice true (vs a) (some (vi i)) none σ = .ok (vs (a.drop i.toNat)) σ := by
  rw [sl_fromI (small_of (by omega) (by omega)), ← cut_from, Int.toNat_of_nonneg h0]
theorem fmod_lt (i : Int) {j : Int} (h : 0 < j) : 0 ≤ i.fmod j ∧ i.fmod j < j := ⟨Int.fmod_nonneg_of_pos i h, Int.fmod_lt_of_pos i h⟩
end
end Mine

namespace Mine
open PySem
noncomputable def Ends (Q : Res Fl → Prop) (r : Res Fl) : Prop := Q r
section
variable {α : Type} {C : Cfg} {ρ : Vars} {σ σ₁ : Store} {Q : Res Fl → Prop} {e c : E} {v : V} {r a b : List S} {x : Nat} {w : α → V} {l : List α} {p : α → Bool} {o : Res Fl} {I : Vars → Prop} {body : List S} {it : It}
theorem go_asg (h : evalE C e ρ σ = .ok v σ₁) (k : Ends Q (execSs C r (ρ.set x (some v)) σ₁)) : Ends Q (execSs C (.asg x e :: r) ρ σ) := by
  rw [x_asg h]; exact k
theorem go_exp (h : evalE C e ρ σ = .ok v σ₁) (k : Ends Q (execSs C r ρ σ₁)) : Ends Q (execSs C (.exp e :: r) ρ σ) := by
  rw [x_exp h]; exact k
theorem go_exp_exc {i : Nat} (h : evalE C e ρ σ = .exc i σ₁) (k : Q (.exc i σ₁)) : Ends Q (execSs C (.exp e :: r) ρ σ) := by
  rw [x_exp_exc h]; exact k
theorem go_ret (h : evalE C e ρ σ = .ok v σ₁) (k : Q (.ok (.ret v) σ₁)) : Ends Q (execSs C (.ret e :: r) ρ σ) := by
  rw [x_ret h]; exact k
theorem go_nil (k : Q (.ok (.next ρ) σ)) : Ends Q (execSs C [] ρ σ) := by rw [x_nil]; exact k
theorem go_raise {i : Nat} {es : List E} {ws : List V} (hd : C.hd = false) (h : evalEs C es ρ σ = .ok ws σ₁) (k : Q (.exc i σ₁)) : Ends Q (execSs C (.raise i es :: r) ρ σ) := by
  rw [x_raise hd h]; exact k
theorem go_ite {t : Bool} (h : evalE C c ρ σ = .ok (.d (.bool t)) σ₁) (kt : t = true → Ends Q (execSs C (a ++ r) ρ σ₁)) (kf : t = false → Ends Q (execSs C (b ++ r) ρ σ₁)) : Ends Q (execSs C (.ite c a b :: r) ρ σ) := by
  rw [x_iteB h]; cases t with
  | true => exact kt rfl
  | false => exact kf rfl
theorem go_iteV {t : Bool} (h : ∃ v, evalE C c ρ σ = .ok v σ₁ ∧ truth σ₁ v = some t) (kt : t = true → Ends Q (execSs C (a ++ r) ρ σ₁)) (kf : t = false → Ends Q (execSs C (b ++ r) ρ σ₁)) : Ends Q (execSs C (.ite c a b :: r) ρ σ) := by
  obtain ⟨v, h1, h2⟩ := h
  rw [x_ite h1 h2]; cases t with
  | true => exact kt rfl
  | false => exact kf rfl
theorem for_stop (hI : I ρ)
    (ho : ∀ g : Fl → Store → Res Fl, (∀ y σ, g (.ret y) σ = .ok (.ret y) σ) → o.bind g = o)
    (hf : ∀ a ∈ l, ∀ ρ, I ρ → (p a = true → execSs C body (ρ.set x (some (w a))) σ = o) ∧ (p a = false → ∃ ρ', I ρ' ∧ execSs C body (ρ.set x (some (w a))) σ = .ok (.next ρ') σ)) :
    (l.any p = true → forGo (forStep C.hd [x] (fun ρ σ => execSs C body ρ σ)) (l.map w) ρ σ = o) ∧ (l.any p = false → ∃ ρ', I ρ' ∧ forGo (forStep C.hd [x] (fun ρ σ => execSs C body ρ σ)) (l.map w) ρ σ = .ok (.next ρ') σ) := by
  induction l generalizing ρ with
  | nil => exact ⟨by simp, fun _ => ⟨ρ, hI, by simp only [List.map_nil, forGo]⟩⟩
  | cons a l ih =>
    have h1 := hf a (by simp) ρ hI
    have hs : forStep C.hd [x] (fun ρ σ => execSs C body ρ σ) (w a) ρ σ = execSs C body (ρ.set x (some (w a))) σ := by simp only [forStep, bindTs]
    simp only [List.any_cons, List.map_cons, forGo, hs]
    cases hp : p a with
    | true =>
      rw [(h1.1 hp)]
      exact ⟨fun _ => ho _ (fun _ _ => rfl), by simp⟩
    | false =>
      obtain ⟨ρ', h2, h3⟩ := h1.2 hp
      rw [h3]
      simp only [Bool.false_or, ok_bind]
      exact ih h2 (fun b hb => hf b (by simp [hb]))
theorem ends_ret {v : V} {σ : Store} (g : Fl → Store → Res Fl) (hg : ∀ y σ, g (.ret y) σ = .ok (.ret y) σ) : (Res.ok (Fl.ret v) σ).bind g = .ok (.ret v) σ := hg v σ
theorem ends_exc {c : Nat} {σ : Store} (g : Fl → Store → Res Fl) (_ : ∀ y σ, g (.ret y) σ = .ok (.ret y) σ) : (Res.exc c σ).bind g = .exc c σ := rfl
theorem go_for (p : α → Bool) (o : Res Fl) (I : Vars → Prop) (hit : evalIt C it ρ σ = .ok (.items (l.map w)) σ) (hI : I ρ)
    (ho : ∀ g : Fl → Store → Res Fl, (∀ y σ, g (.ret y) σ = .ok (.ret y) σ) → o.bind g = o)
    (hf : ∀ a ∈ l, ∀ ρ, I ρ → (p a = true → execSs C body (ρ.set x (some (w a))) σ = o) ∧ (p a = false → ∃ ρ', I ρ' ∧ execSs C body (ρ.set x (some (w a))) σ = .ok (.next ρ') σ))
    (kt : l.any p = true → Q o) (kf : l.any p = false → ∀ ρ', I ρ' → Ends Q (execSs C r ρ' σ)) : Ends Q (execSs C (.for_ [x] it body :: r) ρ σ) := by
  have h := for_stop (C := C) (x := x) (w := w) (l := l) (body := body) hI ho hf
  rw [x_for hit]
  cases hp : l.any p with
  | true =>
    rw [h.1 hp]
    have hq : ∀ g : Fl → Store → Res Fl, (∀ y σ, g (.ret y) σ = .ok (.ret y) σ) → Ends Q (o.bind g) := fun g hg => by rw [ho g hg]; exact kt hp
    exact hq _ (fun _ _ => rfl)
  | false =>
    obtain ⟨ρ', h1, h2⟩ := h.2 hp
    rw [h2, ok_bind]; exact kf hp ρ' h1
theorem for_stop2 {ts : List Nat} (bd : α → Vars → Vars) (hI : I ρ)
    (ho : ∀ g : Fl → Store → Res Fl, (∀ y σ, g (.ret y) σ = .ok (.ret y) σ) → o.bind g = o)
    (hf : ∀ a ∈ l, ∀ ρ, I ρ → bindTs C.hd ρ ts (w a) = some (bd a ρ) ∧ (p a = true → execSs C body (bd a ρ) σ = o) ∧ (p a = false → ∃ ρ', I ρ' ∧ execSs C body (bd a ρ) σ = .ok (.next ρ') σ)) :
    (l.any p = true → forGo (forStep C.hd ts (fun ρ σ => execSs C body ρ σ)) (l.map w) ρ σ = o) ∧ (l.any p = false → ∃ ρ', I ρ' ∧ forGo (forStep C.hd ts (fun ρ σ => execSs C body ρ σ)) (l.map w) ρ σ = .ok (.next ρ') σ) := by
  induction l generalizing ρ with
  | nil => exact ⟨by simp, fun _ => ⟨ρ, hI, by simp only [List.map_nil, forGo]⟩⟩
  | cons a l ih =>
    have h1 := hf a (by simp) ρ hI
    have hs : forStep C.hd ts (fun ρ σ => execSs C body ρ σ) (w a) ρ σ = execSs C body (bd a ρ) σ := by simp only [forStep, h1.1]
    simp only [List.any_cons, List.map_cons, forGo, hs]
    cases hp : p a with
    | true =>
      rw [(h1.2.1 hp)]
      exact ⟨fun _ => ho _ (fun _ _ => rfl), by simp⟩
    | false =>
      obtain ⟨ρ', h2, h3⟩ := h1.2.2 hp
      rw [h3]
      simp only [Bool.false_or, ok_bind]
      exact ih h2 (fun b hb => hf b (by simp [hb]))
theorem go_for2 {ts : List Nat} (bd : α → Vars → Vars) (p : α → Bool) (o : Res Fl) (I : Vars → Prop) (hit : evalIt C it ρ σ = .ok (.items (l.map w)) σ) (hI : I ρ)
    (ho : ∀ g : Fl → Store → Res Fl, (∀ y σ, g (.ret y) σ = .ok (.ret y) σ) → o.bind g = o)
    (hf : ∀ a ∈ l, ∀ ρ, I ρ → bindTs C.hd ρ ts (w a) = some (bd a ρ) ∧ (p a = true → execSs C body (bd a ρ) σ = o) ∧ (p a = false → ∃ ρ', I ρ' ∧ execSs C body (bd a ρ) σ = .ok (.next ρ') σ))
    (kt : l.any p = true → Q o) (kf : l.any p = false → ∀ ρ', I ρ' → Ends Q (execSs C r ρ' σ)) : Ends Q (execSs C (.for_ ts it body :: r) ρ σ) := by
  have h := for_stop2 (C := C) (w := w) (l := l) (body := body) bd hI ho hf
  rw [x_for hit]
  cases hp : l.any p with
  | true =>
    rw [h.1 hp]
    have hq : ∀ g : Fl → Store → Res Fl, (∀ y σ, g (.ret y) σ = .ok (.ret y) σ) → Ends Q (o.bind g) := fun g hg => by rw [ho g hg]; exact kt hp
    exact hq _ (fun _ _ => rfl)
  | false =>
    obtain ⟨ρ', h1, h2⟩ := h.2 hp
    rw [h2, ok_bind]; exact kf hp ρ' h1
theorem zipV_d (a b : List PyData) : zipV (a.map .d) (b.map .d) = (a.zip b).map fun p => V.d (.tuple [p.1, p.2]) := by
  induction a generalizing b with
  | nil => rfl
  | cons x a ih => cases b with
    | nil => rfl
    | cons y b => simp only [List.map_cons, zipV, List.zip_cons_cons, ih]; rfl
theorem go_foldl {γ : Type} (R : List α → γ → Prop) (I : γ → Vars → Store → Prop) (s : γ) (hit : evalIt C it ρ σ = .ok (.items (l.map w)) σ₁) (hR : R [] s) (hI : I s ρ σ₁)
    (hf : ∀ p a q s ρ σ, l = p ++ a :: q → R p s → I s ρ σ → ∃ s' ρ' σ', R (p ++ [a]) s' ∧ I s' ρ' σ' ∧ execSs C body (ρ.set x (some (w a))) σ = .ok (.next ρ') σ')
    (k : ∀ s' ρ' σ', R l s' → I s' ρ' σ' → Ends Q (execSs C r ρ' σ')) : Ends Q (execSs C (.for_ [x] it body :: r) ρ σ) := by
  have hs : ∀ v ρ σ, forStep C.hd [x] (fun ρ σ => execSs C body ρ σ) v ρ σ = execSs C body (ρ.set x (some v)) σ := by intro v ρ σ; simp only [forStep, bindTs]
  obtain ⟨s', ρ', σ', h1, h2, h3⟩ := forGo_fold (f := forStep C.hd [x] (fun ρ σ => execSs C body ρ σ)) I w l R [] s ρ σ₁ hR hI (by
    intro p a q s ρ σ he hR hI
    rw [hs]
    exact hf p a q s ρ σ (by simpa using he) hR hI)
  rw [x_for hit, h3, ok_bind]
  exact k s' ρ' σ' (by simpa using h1) h2
end
end Mine

namespace Mine
open PySem
section
variable {α : Type} {C : Cfg} {ρ : Vars} {σ σ₁ : Store} {Q : Res Fl → Prop} {r : List S} {s : S} {x : Nat}
theorem go_mid {M : Vars → Store → Prop} (h : Ends (fun r => ∃ ρ' σ', M ρ' σ' ∧ r = .ok (.next ρ') σ') (execSs C [s] ρ σ)) (k : ∀ ρ' σ', M ρ' σ' → Ends Q (execSs C r ρ' σ')) : Ends Q (execSs C (s :: r) ρ σ) := by
  obtain ⟨ρ', σ', h1, h2⟩ := h
  have : s :: r = [s] ++ r := rfl
  rw [this, x_append, h2, ok_bind]
  exact k ρ' σ' h1
theorem e_compD {elt : E} {t : Nat} {it : It} {ifs : List E} {l : List α} (w : α → V) (p : α → Bool) (g : α → PyData)
    (hi : evalIt C it ρ σ = .ok (.items (l.map w)) σ₁) (hl : l.length ≤ line)
    (hp : ∀ a ∈ l, evalIfs C ifs ((ρ.set t none).set t (some (w a))) σ₁ = .ok (p a) σ₁)
    (hg : ∀ a ∈ l, p a = true → evalE C elt ((ρ.set t none).set t (some (w a))) σ₁ = .ok (.d (g a)) σ₁) :
    evalE C (.comp true elt [t] it ifs) ρ σ = .ok (.d (.list ((l.filter p).map g))) σ₁ := by
  rw [e_comp (elt := elt) w p (fun a => .d (g a)) hi hp hg]
  have h : ((l.filter p).map g).length ≤ line := by
    have := List.length_filter_le p l
    simp; omega
  rw [← mkListT _ h, List.map_map]; rfl
theorem e_comp1D {elt : E} {t : Nat} {it : It} {l : List α} (w : α → V) (g : α → PyData)
    (hi : evalIt C it ρ σ = .ok (.items (l.map w)) σ₁) (hl : l.length ≤ line)
    (hg : ∀ a ∈ l, evalE C elt ((ρ.set t none).set t (some (w a))) σ₁ = .ok (.d (g a)) σ₁) :
    evalE C (.comp true elt [t] it []) ρ σ = .ok (.d (.list (l.map g))) σ₁ := by
  rw [e_comp1 (elt := elt) w (fun a => .d (g a)) hi hg]
  have h : (l.map g).length ≤ line := by simp; omega
  rw [← mkListT _ h, List.map_map]; rfl
theorem flatten1 (l : List α) (f : α → Nat) : (l.map fun j => [f j]).flatten = l.map f := by
  induction l with
  | nil => rfl
  | cons a l ih => simp [ih]
theorem e_signs {elt : E} {t : Nat} {it : It} {l : List α} {fz : Bool} (w : α → V) (g : α → Nat)
    (hi : evalIt C it ρ σ = .ok (.items (l.map w)) σ₁) (hl : l.length ≤ 1000)
    (hg : ∀ a ∈ l, evalE C elt ((ρ.set t none).set t (some (w a))) σ₁ = .ok (vs [g a]) σ₁) :
    evalE C (.meth .join fz (.cst (.str (Str.ofString ""))) [.comp true elt [t] it []]) ρ σ = .ok (vs (l.map g)) σ₁ := by
  have h0 : Str.ofString "" = Tx [] := by decide +kernel
  have h1 := e_comp1D (elt := elt) (t := t) w (fun a => .str (Tx [g a])) hi (by simp [line]; omega) hg
  rw [h0]
  have h2 := e_join (fz := fz) (l := l.map fun a => [g a]) (sep := []) (h1.trans (by simp only [List.map_map]; rfl)) (joinOk0 _ (by simp; omega) (by simp))
  rw [h2, join0, flatten1]
theorem e_signsR {elt : E} {t : Nat} {es : List E} {fz : Bool} {m : Int} (g : Int → Nat) (hd : C.hd = false)
    (hi : evalEs C es ρ σ = .ok [.d (.int m)] σ₁) (hl : m ≤ 1000) (hl2 : -1000 ≤ m)
    (hg : ∀ i : Int, 0 ≤ i → i < m → evalE C elt ((ρ.set t none).set t (some (vi i))) σ₁ = .ok (vs [g i]) σ₁) :
    evalE C (.meth .join fz (.cst (.str (Str.ofString ""))) [.comp true elt [t] (.range es) []]) ρ σ = .ok (vs ((List.range m.toNat).map fun j : Nat => g (j : Int))) σ₁ :=
  e_signs (fun j : Nat => vi (j : Int)) (fun j : Nat => g (j : Int)) (it_range hd hi (by omega) (by omega)) (by simp; omega) (fun j hj => hg j (by omega) (by simp at hj; omega))
theorem e_compR {elt : E} {t : Nat} {es ifs : List E} {m : Int} (p : Int → Bool) (g : Int → PyData) (hd : C.hd = false)
    (hi : evalEs C es ρ σ = .ok [.d (.int m)] σ₁) (hl : m ≤ 1000000) (hl2 : -1000000 ≤ m)
    (hp : ∀ i : Int, 0 ≤ i → i < m → evalIfs C ifs ((ρ.set t none).set t (some (vi i))) σ₁ = .ok (p i) σ₁)
    (hg : ∀ i : Int, 0 ≤ i → i < m → p i = true → evalE C elt ((ρ.set t none).set t (some (vi i))) σ₁ = .ok (.d (g i)) σ₁) :
    evalE C (.comp true elt [t] (.range es) ifs) ρ σ = .ok (.d (.list (((List.range m.toNat).filter fun j : Nat => p (j : Int)).map fun j : Nat => g (j : Int)))) σ₁ :=
  e_compD (fun j : Nat => vi (j : Int)) (fun j : Nat => p (j : Int)) (fun j : Nat => g (j : Int)) (it_range hd hi hl hl2) (by simp [line]; omega) (fun j hj => hp j (by omega) (by simp at hj; omega)) (fun j hj => hg j (by omega) (by simp at hj; omega))
theorem ar1 {n m k : Nat} (h : n ≤ m) (hk : m ≤ k := by decide) : n ≤ k := Nat.le_trans h hk
theorem ar3 {a : Int} {n k : Nat} (h : a < (n : Int)) (hn : n ≤ k) (hk : k ≤ 1000 := by decide) : a ≤ 1000000 := by omega
theorem ar3' {a : Int} {n k : Nat} (h : a < (n : Int)) (hn : n ≤ k) (hk : k ≤ 1000 := by decide) : a + 1 ≤ 1000000 := by omega
theorem ar3s {a : Int} {n k : Nat} (h : a < (n : Int)) (hn : n ≤ k) (hk : k ≤ 1000000 := by decide) : a < 9223372036854775808 := by omega
theorem ar4 {a : Int} {n : Nat} (h0 : 0 ≤ a) (h : a < (n : Int)) : a.toNat < n := by omega
theorem arp {n : Nat} : (0 : Int) < (n : Int) + 1 := by omega
theorem arq {n : Nat} : (n : Int) + 1 ≠ 0 := by omega
theorem arr {n : Nat} (h : 0 < n) : (0 : Int) < (n : Int) := by omega
theorem ars {n : Nat} (h : 0 < n) : (n : Int) ≠ 0 := by omega
theorem ar9 {a : Int} (h : 0 ≤ a) : 0 ≤ a + 1 := by omega
section
variable {β : Type}
theorem ln_t1 {l : List α} {y : α} {i k : Nat} (h : l.length ≤ k) (hk : k + 1 ≤ 16777216 := by decide) : (l.take i).length + [y].length ≤ line := by simp [line]; omega
theorem ln_t2 {l : List α} {x : α} {i j k : Nat} (h : l.length ≤ k) (hk : 2 * k + 1 ≤ 16777216 := by decide) : (l.take i ++ [x]).length + (l.drop j).length ≤ line := by simp [line]; omega
theorem ln_l {l : List α} {k : Nat} (h : l.length ≤ k) (hk : k ≤ 16777216 := by decide) : l.length ≤ line := Nat.le_trans h hk
end
theorem pigeon {β : Type} [DecidableEq β] : ∀ (l m : List β), l.Nodup → (∀ x ∈ l, x ∈ m) → l.length ≤ m.length
  | [], m, _, _ => by simp
  | a :: l, m, hn, hs => by
    have ha : a ∈ m := hs a (by simp)
    rw [List.nodup_cons] at hn
    have := pigeon l (m.erase a) hn.2 (by
      intro x hx
      have hne : x ≠ a := fun e => hn.1 (e ▸ hx)
      exact (List.mem_erase_of_ne hne).mpr (hs x (by simp [hx])))
    rw [List.length_erase_of_mem ha] at this
    have h0 : 0 < m.length := List.length_pos_iff.mpr (fun e => by simp [e] at ha)
    simp; omega
end
end Mine

namespace Mine
open PySem
noncomputable def signs : List Nat := [97,98,99,100,101,102,103,104,105,106,107,108,109,110,111,112,113,114,115,116,117,118,119,120,121,122,48,49,50,51,52,53,54,55,56,57]
theorem k_signs : Str.ofString "abcdefghijklmnopqrstuvwxyz0123456789" = Tx signs := by decide +kernel
noncomputable def kadd : List Nat := [97, 100, 100]
theorem k_add : Str.ofString "add" = Tx kadd := by decide +kernel
noncomputable def kcut : List Nat := [99, 117, 116]
theorem k_cut : Str.ofString "cut" = Tx kcut := by decide +kernel
noncomputable def kset : List Nat := [115, 101, 116]
theorem k_set : Str.ofString "set" = Tx kset := by decide +kernel
noncomputable def isName (t : List Nat) : Bool := !(decide ((t.length : Int) < 1) || decide ((t.length : Int) > 12)) && t.all fun c => decide (c ∈ signs)
noncomputable def isLine (t : List Nat) : Bool := !decide ((t.length : Int) > 200) && t.all fun c => !(decide ((c : Int) < 32) || decide ((c : Int) > 126))
section
variable {fuel n : Nat} {hd : Bool} {σ : Store}
theorem P1 : P02 1 = some F_is_name := rfl
theorem P2 : P02 2 = some F_is_line := rfl
theorem P3 : P02 3 = some F_check_leans := rfl
theorem P4 : P02 4 = some F_check_deed := rfl
theorem P5 : P02 5 = some F_check := rfl

theorem ev_is_name (t : List Nat) : callF P02 isExc fuel (n + 1) false .frz 1 [vs t] σ = .ok (vb (isName t)) σ := by
  refine frz_ok (v := vb (isName t)) (σ₁ := []) P1 rfl (run_ret rfl ?_) rfl
  generalize hC : (⟨callF P02 isExc fuel n, isExc, fuel, false⟩ : Cfg) = C
  have hhd : C.hd = false := by rw [← hC]
  show Ends (fun r => r = .ok (.ret (vb (isName t))) []) (execSs C [_, _, _] [some (vs t), none] [])
  refine go_ite (t := decide ((t.length : Int) < 1) || decide ((t.length : Int) > 12)) (σ₁ := []) (e_or2 (by simp only [eA_1, eA_2, eA_4, eA_5, eA_6, eA_7, eA_10, eA_12, eA_13, eA_15, eA_16, eA_17, eA_18, eA_19, eB_1, eB_2, eO_1, eO_2, ok_bind, List.getElem?_cons_zero, List.getElem?_cons_succ, List.set_cons_zero, List.set_cons_succ, bc_len_s, bc_len_l, bc_len_t, c_eq, c_ne, c_in, c_nin, c_is, c_isn, c_lt, c_gt, c_ge, lt_i, gt_i, ge_s, no_s, eq_int, eq_str, in_sign, in_strs, Tx_size, Tx_len, b_add, b_sub, tr_b] <;> rfl) (fun _ => by simp only [eA_1, eA_2, eA_4, eA_5, eA_6, eA_7, eA_10, eA_12, eA_13, eA_15, eA_16, eA_17, eA_18, eA_19, eB_1, eB_2, eO_1, eO_2, ok_bind, List.getElem?_cons_zero, List.getElem?_cons_succ, List.set_cons_zero, List.set_cons_succ, bc_len_s, bc_len_l, bc_len_t, c_eq, c_ne, c_in, c_nin, c_is, c_isn, c_lt, c_gt, c_ge, lt_i, gt_i, ge_s, no_s, eq_int, eq_str, in_sign, in_strs, Tx_size, Tx_len, b_add, b_sub, tr_b])) (fun hl => ?_) (fun hl => ?_)
  · refine go_ret (by simp only [eA_1, eA_2, eA_4, eA_5, eA_6, eA_7, eA_10, eA_12, eA_13, eA_15, eA_16, eA_17, eA_18, eA_19, eB_1, eB_2, eO_1, eO_2, ok_bind, List.getElem?_cons_zero, List.getElem?_cons_succ, List.set_cons_zero, List.set_cons_succ, bc_len_s, bc_len_l, bc_len_t, c_eq, c_ne, c_in, c_nin, c_is, c_isn, c_lt, c_gt, c_ge, lt_i, gt_i, ge_s, no_s, eq_int, eq_str, in_sign, in_strs, Tx_size, Tx_len, b_add, b_sub, tr_b] <;> rfl) ?_
    rw [show isName t = false by simp only [isName, hl]; rfl]
  · refine go_for (l := t) (w := fun c => vs [c]) (fun c => !decide (c ∈ signs)) (.ok (.ret (vb false)) []) (fun ρ => ∃ z, ρ = [some (vs t), z])
      (it_of (v := vs t) (by simp only [eA_1, eA_2, eA_4, eA_5, eA_6, eA_7, eA_10, eA_12, eA_13, eA_15, eA_16, eA_17, eA_18, eA_19, eB_1, eB_2, eO_1, eO_2, ok_bind, List.getElem?_cons_zero, List.getElem?_cons_succ, List.set_cons_zero, List.set_cons_succ, bc_len_s, bc_len_l, bc_len_t, c_eq, c_ne, c_in, c_nin, c_is, c_isn, c_lt, c_gt, c_ge, lt_i, gt_i, ge_s, no_s, eq_int, eq_str, in_sign, in_strs, Tx_size, Tx_len, b_add, b_sub, tr_b] <;> rfl) (by simp [itemsOf, hhd, Tx_list, chr1_Tx])) ⟨_, rfl⟩ ends_ret ?_ (fun ha => ?_) ?_
    · rintro a - ρ ⟨z, rfl⟩
      refine ⟨fun h => ?_, fun h => ⟨_, ⟨some (vs [a]), rfl⟩, ?_⟩⟩
      · rw [x_iteB (t := true) (by simp only [eA_1, eA_2, eA_4, eA_5, eA_6, eA_7, eA_10, eA_12, eA_13, eA_15, eA_16, eA_17, eA_18, eA_19, eB_1, eB_2, eO_1, eO_2, ok_bind, List.getElem?_cons_zero, List.getElem?_cons_succ, List.set_cons_zero, List.set_cons_succ, bc_len_s, bc_len_l, bc_len_t, c_eq, c_ne, c_in, c_nin, c_is, c_isn, c_lt, c_gt, c_ge, lt_i, gt_i, ge_s, no_s, eq_int, eq_str, in_sign, in_strs, Tx_size, Tx_len, b_add, b_sub, tr_b, k_signs, h] <;> rfl)]
        exact x_ret (by simp only [eA_1, eA_2, eA_4, eA_5, eA_6, eA_7, eA_10, eA_12, eA_13, eA_15, eA_16, eA_17, eA_18, eA_19, eB_1, eB_2, eO_1, eO_2, ok_bind, List.getElem?_cons_zero, List.getElem?_cons_succ, List.set_cons_zero, List.set_cons_succ, bc_len_s, bc_len_l, bc_len_t, c_eq, c_ne, c_in, c_nin, c_is, c_isn, c_lt, c_gt, c_ge, lt_i, gt_i, ge_s, no_s, eq_int, eq_str, in_sign, in_strs, Tx_size, Tx_len, b_add, b_sub, tr_b] <;> rfl)
      · rw [x_iteB (t := false) (by simp only [eA_1, eA_2, eA_4, eA_5, eA_6, eA_7, eA_10, eA_12, eA_13, eA_15, eA_16, eA_17, eA_18, eA_19, eB_1, eB_2, eO_1, eO_2, ok_bind, List.getElem?_cons_zero, List.getElem?_cons_succ, List.set_cons_zero, List.set_cons_succ, bc_len_s, bc_len_l, bc_len_t, c_eq, c_ne, c_in, c_nin, c_is, c_isn, c_lt, c_gt, c_ge, lt_i, gt_i, ge_s, no_s, eq_int, eq_str, in_sign, in_strs, Tx_size, Tx_len, b_add, b_sub, tr_b, k_signs, h] <;> rfl)]
        exact x_nil
    · rw [show isName t = false by simp only [isName, hl]; simpa using ha]
    · rintro ha ρ ⟨z, rfl⟩
      refine go_ret (by simp only [eA_1, eA_2, eA_4, eA_5, eA_6, eA_7, eA_10, eA_12, eA_13, eA_15, eA_16, eA_17, eA_18, eA_19, eB_1, eB_2, eO_1, eO_2, ok_bind, List.getElem?_cons_zero, List.getElem?_cons_succ, List.set_cons_zero, List.set_cons_succ, bc_len_s, bc_len_l, bc_len_t, c_eq, c_ne, c_in, c_nin, c_is, c_isn, c_lt, c_gt, c_ge, lt_i, gt_i, ge_s, no_s, eq_int, eq_str, in_sign, in_strs, Tx_size, Tx_len, b_add, b_sub, tr_b] <;> rfl) ?_
      rw [show isName t = true by simp only [isName, hl]; simpa using ha]
theorem ev_is_line (t : List Nat) : callF P02 isExc fuel (n + 1) false .frz 2 [vs t] σ = .ok (vb (isLine t)) σ := by
  refine frz_ok (v := vb (isLine t)) (σ₁ := []) P2 rfl (run_ret rfl ?_) rfl
  generalize hC : (⟨callF P02 isExc fuel n, isExc, fuel, false⟩ : Cfg) = C
  have hhd : C.hd = false := by rw [← hC]
  show Ends (fun r => r = .ok (.ret (vb (isLine t))) []) (execSs C [_, _, _] [some (vs t), none] [])
  refine go_ite (t := decide ((t.length : Int) > 200)) (σ₁ := []) (by simp only [eA_1, eA_2, eA_4, eA_5, eA_6, eA_7, eA_10, eA_12, eA_13, eA_15, eA_16, eA_17, eA_18, eA_19, eB_1, eB_2, eO_1, eO_2, ok_bind, List.getElem?_cons_zero, List.getElem?_cons_succ, List.set_cons_zero, List.set_cons_succ, bc_len_s, bc_len_l, bc_len_t, c_eq, c_ne, c_in, c_nin, c_is, c_isn, c_lt, c_gt, c_ge, lt_i, gt_i, ge_s, no_s, eq_int, eq_str, in_sign, in_strs, Tx_size, Tx_len, b_add, b_sub, tr_b] <;> rfl) (fun hl => ?_) (fun hl => ?_)
  · refine go_ret (by simp only [eA_1, eA_2, eA_4, eA_5, eA_6, eA_7, eA_10, eA_12, eA_13, eA_15, eA_16, eA_17, eA_18, eA_19, eB_1, eB_2, eO_1, eO_2, ok_bind, List.getElem?_cons_zero, List.getElem?_cons_succ, List.set_cons_zero, List.set_cons_succ, bc_len_s, bc_len_l, bc_len_t, c_eq, c_ne, c_in, c_nin, c_is, c_isn, c_lt, c_gt, c_ge, lt_i, gt_i, ge_s, no_s, eq_int, eq_str, in_sign, in_strs, Tx_size, Tx_len, b_add, b_sub, tr_b] <;> rfl) ?_
    rw [show isLine t = false by simp only [isLine, hl]; rfl]
  · refine go_for (l := t) (w := fun c => vs [c]) (fun c => decide ((c : Int) < 32) || decide ((c : Int) > 126)) (.ok (.ret (vb false)) []) (fun ρ => ∃ z, ρ = [some (vs t), z])
      (it_of (v := vs t) (by simp only [eA_1, eA_2, eA_4, eA_5, eA_6, eA_7, eA_10, eA_12, eA_13, eA_15, eA_16, eA_17, eA_18, eA_19, eB_1, eB_2, eO_1, eO_2, ok_bind, List.getElem?_cons_zero, List.getElem?_cons_succ, List.set_cons_zero, List.set_cons_succ, bc_len_s, bc_len_l, bc_len_t, c_eq, c_ne, c_in, c_nin, c_is, c_isn, c_lt, c_gt, c_ge, lt_i, gt_i, ge_s, no_s, eq_int, eq_str, in_sign, in_strs, Tx_size, Tx_len, b_add, b_sub, tr_b] <;> rfl) (by simp [itemsOf, hhd, Tx_list, chr1_Tx])) ⟨_, rfl⟩ ends_ret ?_ (fun ha => ?_) ?_
    · rintro a - ρ ⟨z, rfl⟩
      have h3 : (Tx [a]).cps.toList = [a] := Tx_list _
      refine ⟨fun h => ?_, fun h => ⟨_, ⟨some (vs [a]), rfl⟩, ?_⟩⟩
      all_goals
        show Ends (fun r => r = _) _
        refine go_ite (t := decide ((a : Int) < 32) || decide ((a : Int) > 126)) (σ₁ := []) (e_or2 (by simp only [eA_1, eA_2, eA_4, eA_5, eA_6, eA_7, eA_10, eA_12, eA_13, eA_15, eA_16, eA_17, eA_18, eA_19, eB_1, eB_2, eO_1, eO_2, ok_bind, List.getElem?_cons_zero, List.getElem?_cons_succ, List.set_cons_zero, List.set_cons_succ, bc_len_s, bc_len_l, bc_len_t, c_eq, c_ne, c_in, c_nin, c_is, c_isn, c_lt, c_gt, c_ge, lt_i, gt_i, ge_s, no_s, eq_int, eq_str, in_sign, in_strs, Tx_size, Tx_len, b_add, b_sub, tr_b, h3] <;> rfl) (fun _ => (by simp only [eA_1, eA_2, eA_4, eA_5, eA_6, eA_7, eA_10, eA_12, eA_13, eA_15, eA_16, eA_17, eA_18, eA_19, eB_1, eB_2, eO_1, eO_2, ok_bind, List.getElem?_cons_zero, List.getElem?_cons_succ, List.set_cons_zero, List.set_cons_succ, bc_len_s, bc_len_l, bc_len_t, c_eq, c_ne, c_in, c_nin, c_is, c_isn, c_lt, c_gt, c_ge, lt_i, gt_i, ge_s, no_s, eq_int, eq_str, in_sign, in_strs, Tx_size, Tx_len, b_add, b_sub, tr_b, h3] <;> rfl))) (fun hl => ?_) (fun hl => ?_)
      · exact go_ret (by simp only [eA_1, eA_2, eA_4, eA_5, eA_6, eA_7, eA_10, eA_12, eA_13, eA_15, eA_16, eA_17, eA_18, eA_19, eB_1, eB_2, eO_1, eO_2, ok_bind, List.getElem?_cons_zero, List.getElem?_cons_succ, List.set_cons_zero, List.set_cons_succ, bc_len_s, bc_len_l, bc_len_t, c_eq, c_ne, c_in, c_nin, c_is, c_isn, c_lt, c_gt, c_ge, lt_i, gt_i, ge_s, no_s, eq_int, eq_str, in_sign, in_strs, Tx_size, Tx_len, b_add, b_sub, tr_b] <;> rfl) rfl
      · rw [h] at hl; exact absurd hl (by simp)
      · rw [h] at hl; exact absurd hl (by simp)
      · exact go_nil rfl
    · rw [show isLine t = false by
        simp only [isLine, hl]
        rw [List.any_eq_true] at ha
        obtain ⟨c, h1, h2⟩ := ha
        rw [Bool.not_false, Bool.true_and, List.all_eq_false]
        exact ⟨c, h1, by rw [h2]; simp⟩]
    · rintro ha ρ ⟨z, rfl⟩
      refine go_ret (by simp only [eA_1, eA_2, eA_4, eA_5, eA_6, eA_7, eA_10, eA_12, eA_13, eA_15, eA_16, eA_17, eA_18, eA_19, eB_1, eB_2, eO_1, eO_2, ok_bind, List.getElem?_cons_zero, List.getElem?_cons_succ, List.set_cons_zero, List.set_cons_succ, bc_len_s, bc_len_l, bc_len_t, c_eq, c_ne, c_in, c_nin, c_is, c_isn, c_lt, c_gt, c_ge, lt_i, gt_i, ge_s, no_s, eq_int, eq_str, in_sign, in_strs, Tx_size, Tx_len, b_add, b_sub, tr_b] <;> rfl) ?_
      rw [show isLine t = true by
        simp only [isLine, hl]
        rw [List.any_eq_false] at ha
        rw [Bool.not_false, Bool.true_and, List.all_eq_true]
        intro c hc
        have := ha c hc
        simp only [Bool.not_eq_true] at this
        rw [this]; rfl]
end
end Mine

namespace Mine
open PySem
noncomputable abbrev dl (l : List (List Nat)) : PyData := .list (l.map fun t => .str (Tx t))
noncomputable def rising (ls : List (List Nat)) : Bool := !(ls.zip (ls.drop 1)).any fun p => !decide (p.1 < p.2)
noncomputable def leansOk (t : List Nat) (ls : List (List Nat)) : Bool := isName t && ls.all isName && rising ls && !decide (t ∈ ls)
section
variable {fuel n : Nat} {hd : Bool} {σ : Store}
noncomputable def endC (ok : Bool) (c : Nat) : Res Fl → Prop := fun r => if ok then ∃ ρ, r = .ok (.next ρ) [] else r = .exc c []
theorem frz_check {f c : Nat} {fn : Fn} {ws : List V} {ok : Bool} (hP : P02 f = some fn) (hi : inert ws = true) (hl : ws.length = fn.nparams)
    (h : Ends (endC ok c) (execSs ⟨callF P02 isExc fuel n, isExc, fuel, hd⟩ fn.body (ws.map some ++ List.replicate (fn.nvars - fn.nparams) none) [])) :
    callF P02 isExc fuel (n + 1) hd .frz f ws σ = if ok then .ok (.d .none) σ else .exc c σ := by
  cases ok with
  | true =>
    obtain ⟨ρ, h⟩ := h
    exact frz_ok (v := .d .none) (σ₁ := []) hP hi (run_none hl h) rfl
  | false => exact frz_exc hP hi (run_exc hl h)
theorem ev_check_leans (t : List Nat) (ls : List (List Nat)) (hls : ls.length ≤ 1000) : callF P02 isExc fuel (n + 2) false .frz 3 [vs t, .d (dl ls)] σ = if leansOk t ls then .ok (.d .none) σ else .exc 2 σ := by
  refine frz_check P3 rfl rfl ?_
  have hn : ∀ t σ, callF P02 isExc fuel (n + 1) false .frz 1 [vs t] σ = .ok (vb (isName t)) σ := fun t σ => ev_is_name t
  generalize hC : (⟨callF P02 isExc fuel (n + 1), isExc, fuel, false⟩ : Cfg) = C
  have hhd : C.hd = false := by rw [← hC]
  have hcf : ∀ t σ, C.cf false .frz 1 [vs t] σ = .ok (vb (isName t)) σ := by rw [← hC]; exact hn
  show Ends _ (execSs C [_, _, _, _] [some (vs t), some (.d (dl ls)), none, none, none] [])
  refine go_ite (t := !isName t) (σ₁ := []) (e_not (by simp only [eA_1, eA_2, eA_4, eA_5, eA_6, eA_7, eA_10, eA_12, eA_13, eA_15, eA_16, eA_17, eA_18, eA_19, eB_1, eB_2, eO_1, eO_2, ok_bind, List.getElem?_cons_zero, List.getElem?_cons_succ, List.set_cons_zero, List.set_cons_succ, bc_len_s, bc_len_l, bc_len_t, c_eq, c_ne, c_in, c_nin, c_is, c_isn, c_lt, c_gt, c_ge, lt_i, gt_i, ge_s, no_s, eq_int, eq_str, in_sign, in_strs, Tx_size, Tx_len, b_add, b_sub, tr_b, hcf, hhd] <;> rfl)) (fun h1 => ?_) (fun h1 => ?_)
  · refine go_raise hhd (by simp only [eA_1, eA_2, eA_4, eA_5, eA_6, eA_7, eA_10, eA_12, eA_13, eA_15, eA_16, eA_17, eA_18, eA_19, eB_1, eB_2, eO_1, eO_2, ok_bind, List.getElem?_cons_zero, List.getElem?_cons_succ, List.set_cons_zero, List.set_cons_succ, bc_len_s, bc_len_l, bc_len_t, c_eq, c_ne, c_in, c_nin, c_is, c_isn, c_lt, c_gt, c_ge, lt_i, gt_i, ge_s, no_s, eq_int, eq_str, in_sign, in_strs, Tx_size, Tx_len, b_add, b_sub, tr_b] <;> rfl) ?_
    rw [show leansOk t ls = false by simp at h1; simp [leansOk, h1]]; rfl
  simp only [Bool.not_eq_false'] at h1
  refine go_for (l := ls) (w := fun t => vs t) (fun t => !isName t) (.exc 2 []) (fun ρ => ∃ z, ρ = [some (vs t), some (.d (dl ls)), z, none, none])
      (it_of (v := .d (dl ls)) (by simp only [eA_1, eA_2, eA_4, eA_5, eA_6, eA_7, eA_10, eA_12, eA_13, eA_15, eA_16, eA_17, eA_18, eA_19, eB_1, eB_2, eO_1, eO_2, ok_bind, List.getElem?_cons_zero, List.getElem?_cons_succ, List.set_cons_zero, List.set_cons_succ, bc_len_s, bc_len_l, bc_len_t, c_eq, c_ne, c_in, c_nin, c_is, c_isn, c_lt, c_gt, c_ge, lt_i, gt_i, ge_s, no_s, eq_int, eq_str, in_sign, in_strs, Tx_size, Tx_len, b_add, b_sub, tr_b] <;> rfl) (by simp [itemsOf])) ⟨_, rfl⟩ ends_exc ?_ (fun ha => ?_) ?_
  · rintro a - ρ ⟨z, rfl⟩
    refine ⟨fun h => ?_, fun h => ⟨_, ⟨some (vs a), rfl⟩, ?_⟩⟩
    all_goals
      show Ends (fun r => r = _) _
      refine go_ite (t := !isName a) (σ₁ := []) (e_not (by simp only [eA_1, eA_2, eA_4, eA_5, eA_6, eA_7, eA_10, eA_12, eA_13, eA_15, eA_16, eA_17, eA_18, eA_19, eB_1, eB_2, eO_1, eO_2, ok_bind, List.getElem?_cons_zero, List.getElem?_cons_succ, List.set_cons_zero, List.set_cons_succ, bc_len_s, bc_len_l, bc_len_t, c_eq, c_ne, c_in, c_nin, c_is, c_isn, c_lt, c_gt, c_ge, lt_i, gt_i, ge_s, no_s, eq_int, eq_str, in_sign, in_strs, Tx_size, Tx_len, b_add, b_sub, tr_b, hcf, hhd] <;> rfl)) (fun hl => ?_) (fun hl => ?_)
    · exact go_raise hhd (by simp only [eA_1, eA_2, eA_4, eA_5, eA_6, eA_7, eA_10, eA_12, eA_13, eA_15, eA_16, eA_17, eA_18, eA_19, eB_1, eB_2, eO_1, eO_2, ok_bind, List.getElem?_cons_zero, List.getElem?_cons_succ, List.set_cons_zero, List.set_cons_succ, bc_len_s, bc_len_l, bc_len_t, c_eq, c_ne, c_in, c_nin, c_is, c_isn, c_lt, c_gt, c_ge, lt_i, gt_i, ge_s, no_s, eq_int, eq_str, in_sign, in_strs, Tx_size, Tx_len, b_add, b_sub, tr_b] <;> rfl) rfl
    · rw [h] at hl; exact absurd hl (by simp)
    · rw [h] at hl; exact absurd hl (by simp)
    · exact go_nil rfl
  · rw [show leansOk t ls = false by simp only [leansOk]; rw [show ls.all isName = false by simpa using ha]; simp]; rfl
  rintro h2 ρ ⟨z, rfl⟩
  have h2 : ls.all isName = true := by simpa using h2
  refine go_for2 (l := ls.zip (ls.drop 1)) (w := fun p => .d (.tuple [.str (Tx p.1), .str (Tx p.2)])) (fun p ρ => (ρ.set 3 (some (vs p.1))).set 4 (some (vs p.2))) (fun p => !decide (p.1 < p.2)) (.exc 2 []) (fun ρ => ∃ z y w, ρ = [some (vs t), some (.d (dl ls)), z, y, w])
      ?_ ⟨_, _, _, rfl⟩ ends_exc ?_ (fun ha => ?_) ?_
  · have h3 : slice true (.d (dl ls)) (some (vi ((1 : Nat) : Int))) none [] = .ok (.d (.list ((ls.map fun t => PyData.str (Tx t)).drop 1))) [] := slL_from (by omega) (by simp [line]; omega)
    have h4 : slice true (.d (dl ls)) (some (vi 1)) none [] = .ok (.d (dl (ls.drop 1))) [] := by rw [← List.map_drop] at h3; exact h3
    simp only [eI_1, eI_2, eI_4, eA_1, eA_2, eA_4, eA_5, eA_6, eA_7, eA_10, eA_12, eA_13, eA_15, eA_16, eA_17, eA_18, eA_19, eB_1, eB_2, eO_1, eO_2, ok_bind, List.getElem?_cons_zero, List.getElem?_cons_succ, List.set_cons_zero, List.set_cons_succ, bc_len_s, bc_len_l, bc_len_t, c_eq, c_ne, c_in, c_nin, c_is, c_isn, c_lt, c_gt, c_ge, lt_i, gt_i, ge_s, no_s, eq_int, eq_str, in_sign, in_strs, Tx_size, Tx_len, b_add, b_sub, tr_b, h4, dlist, hhd, Bool.false_eq_true, if_false, zipV_d]
    simp only [List.zip_map, List.map_map]
    rfl
  · rintro ⟨a, b⟩ - ρ ⟨z, y, w, rfl⟩
    refine ⟨by simp [bindTs, hhd, tupOf, setTs], fun h => ?_, fun h => ⟨_, ⟨z, some (vs a), some (vs b), rfl⟩, ?_⟩⟩
    all_goals
      show Ends (fun r => r = _) _
      refine go_ite (t := !decide (a < b)) (σ₁ := []) (by simp only [eA_1, eA_2, eA_4, eA_5, eA_6, eA_7, eA_10, eA_12, eA_13, eA_15, eA_16, eA_17, eA_18, eA_19, eB_1, eB_2, eO_1, eO_2, ok_bind, List.getElem?_cons_zero, List.getElem?_cons_succ, List.set_cons_zero, List.set_cons_succ, bc_len_s, bc_len_l, bc_len_t, c_eq, c_ne, c_in, c_nin, c_is, c_isn, c_lt, c_gt, c_ge, lt_i, gt_i, ge_s, no_s, eq_int, eq_str, in_sign, in_strs, Tx_size, Tx_len, b_add, b_sub, tr_b, Tx_lt] <;> rfl) (fun hl => ?_) (fun hl => ?_)
    · exact go_raise hhd (by simp only [eA_1, eA_2, eA_4, eA_5, eA_6, eA_7, eA_10, eA_12, eA_13, eA_15, eA_16, eA_17, eA_18, eA_19, eB_1, eB_2, eO_1, eO_2, ok_bind, List.getElem?_cons_zero, List.getElem?_cons_succ, List.set_cons_zero, List.set_cons_succ, bc_len_s, bc_len_l, bc_len_t, c_eq, c_ne, c_in, c_nin, c_is, c_isn, c_lt, c_gt, c_ge, lt_i, gt_i, ge_s, no_s, eq_int, eq_str, in_sign, in_strs, Tx_size, Tx_len, b_add, b_sub, tr_b] <;> rfl) rfl
    · rw [h] at hl; exact absurd hl (by simp)
    · rw [h] at hl; exact absurd hl (by simp)
    · exact go_nil rfl
  · rw [show leansOk t ls = false by simp only [leansOk, rising, ha]; simp]; rfl
  rintro h3 ρ ⟨z, y, w, rfl⟩
  refine go_ite (t := decide (t ∈ ls)) (σ₁ := []) (by simp only [eA_1, eA_2, eA_4, eA_5, eA_6, eA_7, eA_10, eA_12, eA_13, eA_15, eA_16, eA_17, eA_18, eA_19, eB_1, eB_2, eO_1, eO_2, ok_bind, List.getElem?_cons_zero, List.getElem?_cons_succ, List.set_cons_zero, List.set_cons_succ, bc_len_s, bc_len_l, bc_len_t, c_eq, c_ne, c_in, c_nin, c_is, c_isn, c_lt, c_gt, c_ge, lt_i, gt_i, ge_s, no_s, eq_int, eq_str, in_sign, in_strs, Tx_size, Tx_len, b_add, b_sub, tr_b] <;> rfl) (fun h4 => ?_) (fun h4 => ?_)
  · refine go_raise hhd (by simp only [eA_1, eA_2, eA_4, eA_5, eA_6, eA_7, eA_10, eA_12, eA_13, eA_15, eA_16, eA_17, eA_18, eA_19, eB_1, eB_2, eO_1, eO_2, ok_bind, List.getElem?_cons_zero, List.getElem?_cons_succ, List.set_cons_zero, List.set_cons_succ, bc_len_s, bc_len_l, bc_len_t, c_eq, c_ne, c_in, c_nin, c_is, c_isn, c_lt, c_gt, c_ge, lt_i, gt_i, ge_s, no_s, eq_int, eq_str, in_sign, in_strs, Tx_size, Tx_len, b_add, b_sub, tr_b] <;> rfl) ?_
    rw [show leansOk t ls = false by simp only [leansOk, h4]; simp]; rfl
  · refine go_nil ?_
    rw [show leansOk t ls = true by simp only [leansOk, rising, h1, h2, h3, h4]; rfl]
    exact ⟨_, rfl⟩
end
end Mine

namespace Mine
open PySem
structure Deed where
  word : List Nat
  mark : Option (List Nat × Int)
  text : Option (List Nat)
noncomputable def markD : Option (List Nat × Int) → PyData
  | none => .none
  | some m => .tuple [.str (Tx m.1), .int m.2]
noncomputable def Deed.data (d : Deed) : PyData := .tuple ([.str (Tx d.word), markD d.mark] ++ (match d.text with | none => [] | some l => [.str (Tx l)]))
noncomputable def deedOk (d : Deed) : Bool :=
  !((!decide (d.word = kadd)) && (!decide (d.word = kcut)) && (!decide (d.word = kset))) && !((!decide (d.word = kadd)) && d.mark.isNone) && !((!decide (d.word = kcut)) && !isLine (d.text.getD []))
noncomputable def unl (t : List Nat) (ls : List (List Nat)) (d : Deed) : Bool := match d.mark with
  | none => false
  | some m => (!decide (m.1 = t)) && (!decide (m.1 ∈ ls))
section
variable {fuel n : Nat} {hd : Bool} {σ : Store}
theorem sub_word (d : Deed) : subscr (.d d.data) (vi 0) σ = some (vs d.word) := by
  unfold Deed.data; exact at_tup 0 (by decide) (by decide) rfl
theorem sub_mark (d : Deed) : subscr (.d d.data) (vi 1) σ = some (.d (markD d.mark)) := by
  unfold Deed.data; exact at_tup 1 (by decide) (by decide) rfl
theorem sub_text (d : Deed) {l : List Nat} (h : d.text = some l) : subscr (.d d.data) (vi 2) σ = some (vs l) := by
  unfold Deed.data; exact at_tup 2 (by decide) (by decide) (by rw [h]; rfl)
theorem is_mark (m : Option (List Nat × Int)) : isV (.d (markD m)) (.d .none) = some m.isNone := by
  cases m <;> rfl
theorem ev_check_deed (d : Deed) (ht : d.word ≠ kcut → d.text ≠ none) : callF P02 isExc fuel (n + 2) false .frz 4 [.d d.data] σ = if deedOk d then .ok (.d .none) σ else .exc 2 σ := by
  refine frz_check P4 rfl rfl ?_
  have hn : ∀ t σ, callF P02 isExc fuel (n + 1) false .frz 2 [vs t] σ = .ok (vb (isLine t)) σ := fun t σ => ev_is_line t
  generalize hC : (⟨callF P02 isExc fuel (n + 1), isExc, fuel, false⟩ : Cfg) = C
  have hhd : C.hd = false := by rw [← hC]
  have hcf : ∀ t σ, C.cf false .frz 2 [vs t] σ = .ok (vb (isLine t)) σ := by rw [← hC]; exact hn
  show Ends _ (execSs C [_, _, _] [some (.d d.data)] [])
  refine go_ite (t := (!decide (d.word = kadd)) && (!decide (d.word = kcut)) && (!decide (d.word = kset))) (σ₁ := []) (e_and3 (by simp only [eA_1, eA_2, eA_4, eA_5, eA_6, eA_7, eA_10, eA_12, eA_13, eA_15, eA_16, eA_17, eA_18, eA_19, eB_1, eB_2, eO_1, eO_2, ok_bind, List.getElem?_cons_zero, List.getElem?_cons_succ, List.set_cons_zero, List.set_cons_succ, bc_len_s, bc_len_l, bc_len_t, c_eq, c_ne, c_in, c_nin, c_is, c_isn, c_lt, c_gt, c_ge, lt_i, gt_i, ge_s, no_s, eq_int, eq_str, in_sign, in_strs, Tx_size, Tx_len, b_add, b_sub, tr_b, sub_word, k_add] <;> rfl) (fun _ => (by simp only [eA_1, eA_2, eA_4, eA_5, eA_6, eA_7, eA_10, eA_12, eA_13, eA_15, eA_16, eA_17, eA_18, eA_19, eB_1, eB_2, eO_1, eO_2, ok_bind, List.getElem?_cons_zero, List.getElem?_cons_succ, List.set_cons_zero, List.set_cons_succ, bc_len_s, bc_len_l, bc_len_t, c_eq, c_ne, c_in, c_nin, c_is, c_isn, c_lt, c_gt, c_ge, lt_i, gt_i, ge_s, no_s, eq_int, eq_str, in_sign, in_strs, Tx_size, Tx_len, b_add, b_sub, tr_b, sub_word, k_cut] <;> rfl)) (fun _ _ => (by simp only [eA_1, eA_2, eA_4, eA_5, eA_6, eA_7, eA_10, eA_12, eA_13, eA_15, eA_16, eA_17, eA_18, eA_19, eB_1, eB_2, eO_1, eO_2, ok_bind, List.getElem?_cons_zero, List.getElem?_cons_succ, List.set_cons_zero, List.set_cons_succ, bc_len_s, bc_len_l, bc_len_t, c_eq, c_ne, c_in, c_nin, c_is, c_isn, c_lt, c_gt, c_ge, lt_i, gt_i, ge_s, no_s, eq_int, eq_str, in_sign, in_strs, Tx_size, Tx_len, b_add, b_sub, tr_b, sub_word, k_set] <;> rfl))) (fun h1 => ?_) (fun h1 => ?_)
  · refine go_raise hhd (by simp only [eA_1, eA_2, eA_4, eA_5, eA_6, eA_7, eA_10, eA_12, eA_13, eA_15, eA_16, eA_17, eA_18, eA_19, eB_1, eB_2, eO_1, eO_2, ok_bind, List.getElem?_cons_zero, List.getElem?_cons_succ, List.set_cons_zero, List.set_cons_succ, bc_len_s, bc_len_l, bc_len_t, c_eq, c_ne, c_in, c_nin, c_is, c_isn, c_lt, c_gt, c_ge, lt_i, gt_i, ge_s, no_s, eq_int, eq_str, in_sign, in_strs, Tx_size, Tx_len, b_add, b_sub, tr_b] <;> rfl) ?_
    rw [show deedOk d = false by simp only [deedOk, h1]; rfl]; rfl
  refine go_ite (t := (!decide (d.word = kadd)) && d.mark.isNone) (σ₁ := []) (e_and2 (by simp only [eA_1, eA_2, eA_4, eA_5, eA_6, eA_7, eA_10, eA_12, eA_13, eA_15, eA_16, eA_17, eA_18, eA_19, eB_1, eB_2, eO_1, eO_2, ok_bind, List.getElem?_cons_zero, List.getElem?_cons_succ, List.set_cons_zero, List.set_cons_succ, bc_len_s, bc_len_l, bc_len_t, c_eq, c_ne, c_in, c_nin, c_is, c_isn, c_lt, c_gt, c_ge, lt_i, gt_i, ge_s, no_s, eq_int, eq_str, in_sign, in_strs, Tx_size, Tx_len, b_add, b_sub, tr_b, sub_word, k_add] <;> rfl) (fun _ => (by simp only [eA_1, eA_2, eA_4, eA_5, eA_6, eA_7, eA_10, eA_12, eA_13, eA_15, eA_16, eA_17, eA_18, eA_19, eB_1, eB_2, eO_1, eO_2, ok_bind, List.getElem?_cons_zero, List.getElem?_cons_succ, List.set_cons_zero, List.set_cons_succ, bc_len_s, bc_len_l, bc_len_t, c_eq, c_ne, c_in, c_nin, c_is, c_isn, c_lt, c_gt, c_ge, lt_i, gt_i, ge_s, no_s, eq_int, eq_str, in_sign, in_strs, Tx_size, Tx_len, b_add, b_sub, tr_b, sub_mark, is_mark] <;> rfl))) (fun h2 => ?_) (fun h2 => ?_)
  · refine go_raise hhd (by simp only [eA_1, eA_2, eA_4, eA_5, eA_6, eA_7, eA_10, eA_12, eA_13, eA_15, eA_16, eA_17, eA_18, eA_19, eB_1, eB_2, eO_1, eO_2, ok_bind, List.getElem?_cons_zero, List.getElem?_cons_succ, List.set_cons_zero, List.set_cons_succ, bc_len_s, bc_len_l, bc_len_t, c_eq, c_ne, c_in, c_nin, c_is, c_isn, c_lt, c_gt, c_ge, lt_i, gt_i, ge_s, no_s, eq_int, eq_str, in_sign, in_strs, Tx_size, Tx_len, b_add, b_sub, tr_b] <;> rfl) ?_
    rw [show deedOk d = false by simp only [deedOk, h1, h2]; rfl]; rfl
  refine go_ite (t := (!decide (d.word = kcut)) && !isLine (d.text.getD [])) (σ₁ := []) (e_and2 (by simp only [eA_1, eA_2, eA_4, eA_5, eA_6, eA_7, eA_10, eA_12, eA_13, eA_15, eA_16, eA_17, eA_18, eA_19, eB_1, eB_2, eO_1, eO_2, ok_bind, List.getElem?_cons_zero, List.getElem?_cons_succ, List.set_cons_zero, List.set_cons_succ, bc_len_s, bc_len_l, bc_len_t, c_eq, c_ne, c_in, c_nin, c_is, c_isn, c_lt, c_gt, c_ge, lt_i, gt_i, ge_s, no_s, eq_int, eq_str, in_sign, in_strs, Tx_size, Tx_len, b_add, b_sub, tr_b, sub_word, k_cut] <;> rfl) (fun hw => ?_)) (fun h3 => ?_) (fun h3 => ?_)
  · cases ht' : d.text with
    | none => exact absurd ht' (ht (by simpa using hw))
    | some l => refine e_not (by simp only [eA_1, eA_2, eA_4, eA_5, eA_6, eA_7, eA_10, eA_12, eA_13, eA_15, eA_16, eA_17, eA_18, eA_19, eB_1, eB_2, eO_1, eO_2, ok_bind, List.getElem?_cons_zero, List.getElem?_cons_succ, List.set_cons_zero, List.set_cons_succ, bc_len_s, bc_len_l, bc_len_t, c_eq, c_ne, c_in, c_nin, c_is, c_isn, c_lt, c_gt, c_ge, lt_i, gt_i, ge_s, no_s, eq_int, eq_str, in_sign, in_strs, Tx_size, Tx_len, b_add, b_sub, tr_b, sub_text d ht', hcf, hhd, Option.getD] <;> rfl)
  · refine go_raise hhd (by simp only [eA_1, eA_2, eA_4, eA_5, eA_6, eA_7, eA_10, eA_12, eA_13, eA_15, eA_16, eA_17, eA_18, eA_19, eB_1, eB_2, eO_1, eO_2, ok_bind, List.getElem?_cons_zero, List.getElem?_cons_succ, List.set_cons_zero, List.set_cons_succ, bc_len_s, bc_len_l, bc_len_t, c_eq, c_ne, c_in, c_nin, c_is, c_isn, c_lt, c_gt, c_ge, lt_i, gt_i, ge_s, no_s, eq_int, eq_str, in_sign, in_strs, Tx_size, Tx_len, b_add, b_sub, tr_b] <;> rfl) ?_
    rw [show deedOk d = false by simp only [deedOk, h1, h2, h3]; rfl]; rfl
  · refine go_nil ?_
    rw [show deedOk d = true by simp only [deedOk, h1, h2, h3]; rfl]
    exact ⟨_, rfl⟩
noncomputable def checkR (t : List Nat) (ls : List (List Nat)) (ds : List Deed) : Option Nat :=
  if !leansOk t ls then some 2 else if decide ((ds.length : Int) > 20) then some 2 else if ds.any (fun d => !deedOk d) then some 2 else if ds.any (unl t ls) then some 3 else none
noncomputable def endR : Option Nat → Res Fl → Prop
  | none => fun r => ∃ ρ, r = .ok (.next ρ) []
  | some c => fun r => r = .exc c []
noncomputable def resR (σ : Store) : Option Nat → Res V
  | none => .ok (.d .none) σ
  | some c => .exc c σ
theorem frz_R {f : Nat} {fn : Fn} {ws : List V} {o : Option Nat} (hP : P02 f = some fn) (hi : inert ws = true) (hl : ws.length = fn.nparams)
    (h : Ends (endR o) (execSs ⟨callF P02 isExc fuel n, isExc, fuel, hd⟩ fn.body (ws.map some ++ List.replicate (fn.nvars - fn.nparams) none) [])) :
    callF P02 isExc fuel (n + 1) hd .frz f ws σ = resR σ o := by
  cases o with
  | none =>
    obtain ⟨ρ, h⟩ := h
    exact frz_ok (v := .d .none) (σ₁ := []) hP hi (run_none hl h) rfl
  | some c => exact frz_exc hP hi (run_exc hl h)
theorem go_swp {C : Cfg} {ρ : Vars} {σ σ₁ : Store} {Q : Res Fl → Prop} {xs : List Nat} {es : List E} {ws : List V} {r : List S} (hd : C.hd = false) (h : evalEs C es ρ σ = .ok ws σ₁) (hl : ws.length = xs.length) (k : Ends Q (execSs C r (setTs ρ xs ws) σ₁)) : Ends Q (execSs C (.swp xs es :: r) ρ σ) := by
  have : execSs C (.swp xs es :: r) ρ σ = execSs C r (setTs ρ xs ws) σ₁ := by
    simp [xB_1, xB_2, xA_1, xA_2, xA_3, xA_6, xA_7, xA_8, xA_10, xA_11, xA_12, h, hl, hd, ok_bind]
  rw [this]; exact k
noncomputable abbrev change (t : List Nat) (ls : List (List Nat)) (ds : List Deed) : PyData := .tuple [.str (Tx t), dl ls, .list (ds.map Deed.data)]
theorem ev_check (t : List Nat) (ls : List (List Nat)) (ds : List Deed) (hls : ls.length ≤ 1000) (hds : ∀ d ∈ ds, d.word ≠ kcut → d.text ≠ none) :
    callF P02 isExc fuel (n + 3) false .frz 5 [.d (change t ls ds)] σ = resR σ (checkR t ls ds) := by
  refine frz_R P5 rfl rfl ?_
  have h3 : ∀ σ, callF P02 isExc fuel (n + 2) false .frz 3 [vs t, .d (dl ls)] σ = if leansOk t ls then .ok (.d .none) σ else .exc 2 σ := fun σ => ev_check_leans t ls hls
  have h4 : ∀ d ∈ ds, ∀ σ, callF P02 isExc fuel (n + 2) false .frz 4 [.d d.data] σ = if deedOk d then .ok (.d .none) σ else .exc 2 σ := fun d hd σ => ev_check_deed d (hds d hd)
  generalize hC : (⟨callF P02 isExc fuel (n + 2), isExc, fuel, false⟩ : Cfg) = C
  have hhd : C.hd = false := by rw [← hC]
  have h3 : ∀ σ, C.cf false .frz 3 [vs t, .d (dl ls)] σ = if leansOk t ls then .ok (.d .none) σ else .exc 2 σ := by rw [← hC]; exact h3
  have h4 : ∀ d ∈ ds, ∀ σ, C.cf false .frz 4 [.d d.data] σ = if deedOk d then .ok (.d .none) σ else .exc 2 σ := by rw [← hC]; exact h4
  show Ends _ (execSs C [_, _, _, _, _] [some (.d (change t ls ds)), none, none, none, none] [])
  have s0 : subscr (.d (change t ls ds)) (vi 0) [] = some (vs t) := at_tup 0 (by decide) (by decide) rfl
  have s1 : subscr (.d (change t ls ds)) (vi 1) [] = some (.d (dl ls)) := at_tup 1 (by decide) (by decide) rfl
  have s2 : subscr (.d (change t ls ds)) (vi 2) [] = some (.d (.list (ds.map Deed.data))) := at_tup 2 (by decide) (by decide) rfl
  refine go_swp (ws := [vs t, .d (dl ls), .d (.list (ds.map Deed.data))]) (σ₁ := []) hhd (by simp only [eA_1, eA_2, eA_4, eA_5, eA_6, eA_7, eA_10, eA_12, eA_13, eA_15, eA_16, eA_17, eA_18, eA_19, eB_1, eB_2, eO_1, eO_2, ok_bind, List.getElem?_cons_zero, List.getElem?_cons_succ, List.set_cons_zero, List.set_cons_succ, bc_len_s, bc_len_l, bc_len_t, c_eq, c_ne, c_in, c_nin, c_is, c_isn, c_lt, c_gt, c_ge, lt_i, gt_i, ge_s, no_s, eq_int, eq_str, in_sign, in_strs, Tx_size, Tx_len, b_add, b_sub, tr_b, s0, s1, s2] <;> rfl) rfl ?_
  show Ends _ (execSs C [_, _, _, _] [some (.d (change t ls ds)), some (vs t), some (.d (dl ls)), some (.d (.list (ds.map Deed.data))), none] [])
  cases hl : leansOk t ls with
  | false =>
    refine go_exp_exc (i := 2) (σ₁ := []) (by simp only [eA_1, eA_2, eA_4, eA_5, eA_6, eA_7, eA_10, eA_12, eA_13, eA_15, eA_16, eA_17, eA_18, eA_19, eB_1, eB_2, eO_1, eO_2, ok_bind, List.getElem?_cons_zero, List.getElem?_cons_succ, List.set_cons_zero, List.set_cons_succ, bc_len_s, bc_len_l, bc_len_t, c_eq, c_ne, c_in, c_nin, c_is, c_isn, c_lt, c_gt, c_ge, lt_i, gt_i, ge_s, no_s, eq_int, eq_str, in_sign, in_strs, Tx_size, Tx_len, b_add, b_sub, tr_b, hhd, h3, hl]; rfl) ?_
    rw [show checkR t ls ds = some 2 by simp only [checkR, hl]; rfl]; rfl
  | true =>
  refine go_exp (v := .d .none) (σ₁ := []) (by simp only [eA_1, eA_2, eA_4, eA_5, eA_6, eA_7, eA_10, eA_12, eA_13, eA_15, eA_16, eA_17, eA_18, eA_19, eB_1, eB_2, eO_1, eO_2, ok_bind, List.getElem?_cons_zero, List.getElem?_cons_succ, List.set_cons_zero, List.set_cons_succ, bc_len_s, bc_len_l, bc_len_t, c_eq, c_ne, c_in, c_nin, c_is, c_isn, c_lt, c_gt, c_ge, lt_i, gt_i, ge_s, no_s, eq_int, eq_str, in_sign, in_strs, Tx_size, Tx_len, b_add, b_sub, tr_b, hhd, h3, hl]; rfl) ?_
  refine go_ite (t := decide ((ds.length : Int) > 20)) (σ₁ := []) (by simp only [eA_1, eA_2, eA_4, eA_5, eA_6, eA_7, eA_10, eA_12, eA_13, eA_15, eA_16, eA_17, eA_18, eA_19, eB_1, eB_2, eO_1, eO_2, ok_bind, List.getElem?_cons_zero, List.getElem?_cons_succ, List.set_cons_zero, List.set_cons_succ, bc_len_s, bc_len_l, bc_len_t, c_eq, c_ne, c_in, c_nin, c_is, c_isn, c_lt, c_gt, c_ge, lt_i, gt_i, ge_s, no_s, eq_int, eq_str, in_sign, in_strs, Tx_size, Tx_len, b_add, b_sub, tr_b, seqOf, List.length_map]) (fun h5 => ?_) (fun h5 => ?_)
  · refine go_raise hhd (by simp only [eA_1, eA_2, eA_4, eA_5, eA_6, eA_7, eA_10, eA_12, eA_13, eA_15, eA_16, eA_17, eA_18, eA_19, eB_1, eB_2, eO_1, eO_2, ok_bind, List.getElem?_cons_zero, List.getElem?_cons_succ, List.set_cons_zero, List.set_cons_succ, bc_len_s, bc_len_l, bc_len_t, c_eq, c_ne, c_in, c_nin, c_is, c_isn, c_lt, c_gt, c_ge, lt_i, gt_i, ge_s, no_s, eq_int, eq_str, in_sign, in_strs, Tx_size, Tx_len, b_add, b_sub, tr_b] <;> rfl) ?_
    rw [show checkR t ls ds = some 2 by simp only [checkR, hl, h5]; rfl]; rfl
  refine go_for (l := ds) (w := fun d => .d d.data) (fun d => !deedOk d) (.exc 2 []) (fun ρ => ∃ z, ρ = [some (.d (change t ls ds)), some (vs t), some (.d (dl ls)), some (.d (.list (ds.map Deed.data))), z])
      (it_of (v := .d (.list (ds.map Deed.data))) (by simp only [eA_1, eA_2, eA_4, eA_5, eA_6, eA_7, eA_10, eA_12, eA_13, eA_15, eA_16, eA_17, eA_18, eA_19, eB_1, eB_2, eO_1, eO_2, ok_bind, List.getElem?_cons_zero, List.getElem?_cons_succ, List.set_cons_zero, List.set_cons_succ, bc_len_s, bc_len_l, bc_len_t, c_eq, c_ne, c_in, c_nin, c_is, c_isn, c_lt, c_gt, c_ge, lt_i, gt_i, ge_s, no_s, eq_int, eq_str, in_sign, in_strs, Tx_size, Tx_len, b_add, b_sub, tr_b] <;> rfl) (by simp [itemsOf])) ⟨_, rfl⟩ ends_exc ?_ (fun ha => ?_) ?_
  · rintro d hd ρ ⟨z, rfl⟩
    refine ⟨fun h => ?_, fun h => ⟨_, ⟨some (.d d.data), rfl⟩, ?_⟩⟩
    · exact x_exp_exc (by simp only [eA_1, eA_2, eA_4, eA_5, eA_6, eA_7, eA_10, eA_12, eA_13, eA_15, eA_16, eA_17, eA_18, eA_19, eB_1, eB_2, eO_1, eO_2, ok_bind, List.getElem?_cons_zero, List.getElem?_cons_succ, List.set_cons_zero, List.set_cons_succ, bc_len_s, bc_len_l, bc_len_t, c_eq, c_ne, c_in, c_nin, c_is, c_isn, c_lt, c_gt, c_ge, lt_i, gt_i, ge_s, no_s, eq_int, eq_str, in_sign, in_strs, Tx_size, Tx_len, b_add, b_sub, tr_b, hhd, h4 d hd, show deedOk d = false by simpa using h]; rfl)
    · show Ends (fun r => r = _) _
      exact go_exp (v := .d .none) (σ₁ := []) (by simp only [eA_1, eA_2, eA_4, eA_5, eA_6, eA_7, eA_10, eA_12, eA_13, eA_15, eA_16, eA_17, eA_18, eA_19, eB_1, eB_2, eO_1, eO_2, ok_bind, List.getElem?_cons_zero, List.getElem?_cons_succ, List.set_cons_zero, List.set_cons_succ, bc_len_s, bc_len_l, bc_len_t, c_eq, c_ne, c_in, c_nin, c_is, c_isn, c_lt, c_gt, c_ge, lt_i, gt_i, ge_s, no_s, eq_int, eq_str, in_sign, in_strs, Tx_size, Tx_len, b_add, b_sub, tr_b, hhd, h4 d hd, show deedOk d = true by simpa using h]; rfl) (go_nil rfl)
  · rw [show checkR t ls ds = some 2 by simp only [checkR, hl, h5, ha]; rfl]; rfl
  rintro h6 ρ ⟨z, rfl⟩
  refine go_for (l := ds) (w := fun d => .d d.data) (unl t ls) (.exc 3 []) (fun ρ => ∃ z, ρ = [some (.d (change t ls ds)), some (vs t), some (.d (dl ls)), some (.d (.list (ds.map Deed.data))), z])
      (it_of (v := .d (.list (ds.map Deed.data))) (by simp only [eA_1, eA_2, eA_4, eA_5, eA_6, eA_7, eA_10, eA_12, eA_13, eA_15, eA_16, eA_17, eA_18, eA_19, eB_1, eB_2, eO_1, eO_2, ok_bind, List.getElem?_cons_zero, List.getElem?_cons_succ, List.set_cons_zero, List.set_cons_succ, bc_len_s, bc_len_l, bc_len_t, c_eq, c_ne, c_in, c_nin, c_is, c_isn, c_lt, c_gt, c_ge, lt_i, gt_i, ge_s, no_s, eq_int, eq_str, in_sign, in_strs, Tx_size, Tx_len, b_add, b_sub, tr_b] <;> rfl) (by simp [itemsOf])) ⟨_, rfl⟩ ends_exc ?_ (fun ha => ?_) ?_
  · rintro d hd ρ ⟨z, rfl⟩
    have sm : ∀ m, subscr (.d (markD (some m))) (vi 0) [] = some (vs m.1) := fun m => at_tup 0 (by decide) (by decide) rfl
    refine ⟨fun h => ?_, fun h => ⟨_, ⟨some (.d d.data), rfl⟩, ?_⟩⟩
    · show Ends (fun r => r = _) _
      cases hm : d.mark with
      | none => simp [unl, hm] at h
      | some m =>
        simp only [unl, hm] at h
        refine go_ite (t := true && (!decide (m.1 = t)) && (!decide (m.1 ∈ ls))) (σ₁ := []) (e_and3 (by simp only [eA_1, eA_2, eA_4, eA_5, eA_6, eA_7, eA_10, eA_12, eA_13, eA_15, eA_16, eA_17, eA_18, eA_19, eB_1, eB_2, eO_1, eO_2, ok_bind, List.getElem?_cons_zero, List.getElem?_cons_succ, List.set_cons_zero, List.set_cons_succ, bc_len_s, bc_len_l, bc_len_t, c_eq, c_ne, c_in, c_nin, c_is, c_isn, c_lt, c_gt, c_ge, lt_i, gt_i, ge_s, no_s, eq_int, eq_str, in_sign, in_strs, Tx_size, Tx_len, b_add, b_sub, tr_b, sub_mark, is_mark, hm, Option.isNone, Bool.not_false] <;> rfl) (fun _ => (by simp only [eA_1, eA_2, eA_4, eA_5, eA_6, eA_7, eA_10, eA_12, eA_13, eA_15, eA_16, eA_17, eA_18, eA_19, eB_1, eB_2, eO_1, eO_2, ok_bind, List.getElem?_cons_zero, List.getElem?_cons_succ, List.set_cons_zero, List.set_cons_succ, bc_len_s, bc_len_l, bc_len_t, c_eq, c_ne, c_in, c_nin, c_is, c_isn, c_lt, c_gt, c_ge, lt_i, gt_i, ge_s, no_s, eq_int, eq_str, in_sign, in_strs, Tx_size, Tx_len, b_add, b_sub, tr_b, sub_mark, hm, sm] <;> rfl)) (fun _ _ => (by simp only [eA_1, eA_2, eA_4, eA_5, eA_6, eA_7, eA_10, eA_12, eA_13, eA_15, eA_16, eA_17, eA_18, eA_19, eB_1, eB_2, eO_1, eO_2, ok_bind, List.getElem?_cons_zero, List.getElem?_cons_succ, List.set_cons_zero, List.set_cons_succ, bc_len_s, bc_len_l, bc_len_t, c_eq, c_ne, c_in, c_nin, c_is, c_isn, c_lt, c_gt, c_ge, lt_i, gt_i, ge_s, no_s, eq_int, eq_str, in_sign, in_strs, Tx_size, Tx_len, b_add, b_sub, tr_b, sub_mark, hm, sm] <;> rfl))) (fun hl => ?_) (fun hl => ?_)
        · exact go_raise hhd (by simp only [eA_1, eA_2, eA_4, eA_5, eA_6, eA_7, eA_10, eA_12, eA_13, eA_15, eA_16, eA_17, eA_18, eA_19, eB_1, eB_2, eO_1, eO_2, ok_bind, List.getElem?_cons_zero, List.getElem?_cons_succ, List.set_cons_zero, List.set_cons_succ, bc_len_s, bc_len_l, bc_len_t, c_eq, c_ne, c_in, c_nin, c_is, c_isn, c_lt, c_gt, c_ge, lt_i, gt_i, ge_s, no_s, eq_int, eq_str, in_sign, in_strs, Tx_size, Tx_len, b_add, b_sub, tr_b] <;> rfl) rfl
        · rw [Bool.true_and, h] at hl; exact absurd hl (by simp)
    · show Ends (fun r => r = _) _
      cases hm : d.mark with
      | none =>
        refine go_ite (t := false && false && false) (σ₁ := []) (e_and3 (by simp only [eA_1, eA_2, eA_4, eA_5, eA_6, eA_7, eA_10, eA_12, eA_13, eA_15, eA_16, eA_17, eA_18, eA_19, eB_1, eB_2, eO_1, eO_2, ok_bind, List.getElem?_cons_zero, List.getElem?_cons_succ, List.set_cons_zero, List.set_cons_succ, bc_len_s, bc_len_l, bc_len_t, c_eq, c_ne, c_in, c_nin, c_is, c_isn, c_lt, c_gt, c_ge, lt_i, gt_i, ge_s, no_s, eq_int, eq_str, in_sign, in_strs, Tx_size, Tx_len, b_add, b_sub, tr_b, sub_mark, is_mark, hm, Option.isNone, Bool.not_true] <;> rfl) (fun h => by simp at h) (fun h => by simp at h)) (fun hl => ?_) (fun hl => ?_)
        · exact absurd hl (by simp)
        · exact go_nil rfl
      | some m =>
        simp only [unl, hm] at h
        refine go_ite (t := true && (!decide (m.1 = t)) && (!decide (m.1 ∈ ls))) (σ₁ := []) (e_and3 (by simp only [eA_1, eA_2, eA_4, eA_5, eA_6, eA_7, eA_10, eA_12, eA_13, eA_15, eA_16, eA_17, eA_18, eA_19, eB_1, eB_2, eO_1, eO_2, ok_bind, List.getElem?_cons_zero, List.getElem?_cons_succ, List.set_cons_zero, List.set_cons_succ, bc_len_s, bc_len_l, bc_len_t, c_eq, c_ne, c_in, c_nin, c_is, c_isn, c_lt, c_gt, c_ge, lt_i, gt_i, ge_s, no_s, eq_int, eq_str, in_sign, in_strs, Tx_size, Tx_len, b_add, b_sub, tr_b, sub_mark, is_mark, hm, Option.isNone, Bool.not_false] <;> rfl) (fun _ => (by simp only [eA_1, eA_2, eA_4, eA_5, eA_6, eA_7, eA_10, eA_12, eA_13, eA_15, eA_16, eA_17, eA_18, eA_19, eB_1, eB_2, eO_1, eO_2, ok_bind, List.getElem?_cons_zero, List.getElem?_cons_succ, List.set_cons_zero, List.set_cons_succ, bc_len_s, bc_len_l, bc_len_t, c_eq, c_ne, c_in, c_nin, c_is, c_isn, c_lt, c_gt, c_ge, lt_i, gt_i, ge_s, no_s, eq_int, eq_str, in_sign, in_strs, Tx_size, Tx_len, b_add, b_sub, tr_b, sub_mark, hm, sm] <;> rfl)) (fun _ _ => (by simp only [eA_1, eA_2, eA_4, eA_5, eA_6, eA_7, eA_10, eA_12, eA_13, eA_15, eA_16, eA_17, eA_18, eA_19, eB_1, eB_2, eO_1, eO_2, ok_bind, List.getElem?_cons_zero, List.getElem?_cons_succ, List.set_cons_zero, List.set_cons_succ, bc_len_s, bc_len_l, bc_len_t, c_eq, c_ne, c_in, c_nin, c_is, c_isn, c_lt, c_gt, c_ge, lt_i, gt_i, ge_s, no_s, eq_int, eq_str, in_sign, in_strs, Tx_size, Tx_len, b_add, b_sub, tr_b, sub_mark, hm, sm] <;> rfl))) (fun hl => ?_) (fun hl => ?_)
        · rw [Bool.true_and, h] at hl; exact absurd hl (by simp)
        · exact go_nil rfl
  · rw [show checkR t ls ds = some 3 by simp only [checkR, hl, h5, h6, ha]; rfl]; rfl
  rintro h7 ρ ⟨z, rfl⟩
  refine go_nil ?_
  rw [show checkR t ls ds = none by simp only [checkR, hl, h5, h6, h7]; rfl]
  exact ⟨_, rfl⟩
end
end Mine

namespace Mine
open PySem
noncomputable def cellOf (sc : List Int) (k : Nat) : Int := sc.getD k 0
noncomputable def mixed (c k : Int) : Int := ((c + 7919 * k) * 48271).fmod 2147483647
section
variable {fuel n : Nat} {hd : Bool} {σ : Store}
theorem P6 : P02 13 = some Flaw_cell := rfl
theorem P7 : P02 14 = some Flaw_mixed := rfl
theorem P8 : P02 15 = some Flaw_name := rfl
theorem sm1 (i : Int) : (small 7919 || small i) = true := by rw [show small 7919 = true by decide]; rfl
theorem sm2 (i : Int) : (small i || small 48271) = true := by rw [show small 48271 = true by decide]; simp
noncomputable abbrev scD (sc : List Int) : PyData := .list (sc.map .int)
theorem ev_cell (sc : List Int) (k : Int) (h0 : 0 ≤ k) (hk : k < 1000) : callF P02 isExc fuel (n + 1) false .frz 13 [.d (scD sc), vi k] σ = .ok (vi (cellOf sc k.toNat)) σ := by
  refine frz_ok (v := vi (cellOf sc k.toNat)) (σ₁ := []) P6 rfl (run_ret rfl ?_) rfl
  generalize hC : (⟨callF P02 isExc fuel n, isExc, fuel, false⟩ : Cfg) = C
  show Ends (fun r => r = _) (execSs C [_, _] [some (.d (scD sc)), some (vi k)] [])
  refine go_ite (t := decide (k < sc.length)) (σ₁ := []) (by simp only [eA_1, eA_2, eA_4, eA_5, eA_6, eA_7, eA_10, eA_12, eA_13, eA_15, eA_16, eA_17, eA_18, eA_19, eB_1, eB_2, eO_1, eO_2, ok_bind, List.getElem?_cons_zero, List.getElem?_cons_succ, List.set_cons_zero, List.set_cons_succ, bc_len_s, bc_len_l, bc_len_t, c_eq, c_ne, c_in, c_nin, c_is, c_isn, c_lt, c_gt, c_ge, lt_i, gt_i, ge_s, no_s, eq_int, eq_str, in_sign, in_strs, Tx_size, Tx_len, b_add, b_sub, tr_b, seqOf, List.length_map] <;> rfl) (fun h => ?_) (fun h => ?_)
  · simp at h
    refine go_ret (v := vi (cellOf sc k.toNat)) (σ₁ := []) ?_ rfl
    have h1 : subscr (.d (scD sc)) (vi k) [] = some (vi (cellOf sc k.toNat)) := at_list (y := .int (cellOf sc k.toNat)) k (by omega) (by omega) (by
      have : k.toNat < sc.length := by omega
      simp [cellOf, List.getD, this])
    simp only [eA_1, eA_2, eA_4, eA_5, eA_6, eA_7, eA_10, eA_12, eA_13, eA_15, eA_16, eA_17, eA_18, eA_19, eB_1, eB_2, eO_1, eO_2, ok_bind, List.getElem?_cons_zero, List.getElem?_cons_succ, List.set_cons_zero, List.set_cons_succ, bc_len_s, bc_len_l, bc_len_t, c_eq, c_ne, c_in, c_nin, c_is, c_isn, c_lt, c_gt, c_ge, lt_i, gt_i, ge_s, no_s, eq_int, eq_str, in_sign, in_strs, Tx_size, Tx_len, b_add, b_sub, tr_b, h1]
  · simp at h
    refine go_ret (by simp only [eA_1, eA_2, eA_4, eA_5, eA_6, eA_7, eA_10, eA_12, eA_13, eA_15, eA_16, eA_17, eA_18, eA_19, eB_1, eB_2, eO_1, eO_2, ok_bind, List.getElem?_cons_zero, List.getElem?_cons_succ, List.set_cons_zero, List.set_cons_succ, bc_len_s, bc_len_l, bc_len_t, c_eq, c_ne, c_in, c_nin, c_is, c_isn, c_lt, c_gt, c_ge, lt_i, gt_i, ge_s, no_s, eq_int, eq_str, in_sign, in_strs, Tx_size, Tx_len, b_add, b_sub, tr_b] <;> rfl) ?_
    rw [show cellOf sc k.toNat = 0 by
      have : sc.length ≤ k.toNat := by omega
      simp [cellOf, List.getD, this]]
theorem ev_mixed (c k : Int) : callF P02 isExc fuel (n + 1) false .frz 14 [vi c, vi k] σ = .ok (vi (mixed c k)) σ := by
  refine frz_ok (v := vi (mixed c k)) (σ₁ := []) P7 rfl (run_ret rfl ?_) rfl
  generalize hC : (⟨callF P02 isExc fuel n, isExc, fuel, false⟩ : Cfg) = C
  show Ends (fun r => r = _) (execSs C [_] [some (vi c), some (vi k)] [])
  refine go_ret (v := vi (mixed c k)) (σ₁ := []) ?_ rfl
  simp only [eA_1, eA_2, eA_4, eA_5, eA_6, eA_7, eA_10, eA_12, eA_13, eA_15, eA_16, eA_17, eA_18, eA_19, eB_1, eB_2, eO_1, eO_2, ok_bind, List.getElem?_cons_zero, List.getElem?_cons_succ, List.set_cons_zero, List.set_cons_succ, bc_len_s, bc_len_l, bc_len_t, c_eq, c_ne, c_in, c_nin, c_is, c_isn, c_lt, c_gt, c_ge, lt_i, gt_i, ge_s, no_s, eq_int, eq_str, in_sign, in_strs, Tx_size, Tx_len, b_add, b_sub, tr_b, b_mul (sm1 _), b_mul (sm2 _), b_mod (show (2147483647 : Int) ≠ 0 by decide), mixed]
theorem name_iff (t : List Nat) : isName t = true ↔ 1 ≤ t.length ∧ t.length ≤ 12 ∧ ∀ c ∈ t, c ∈ signs := by
  simp only [isName, Bool.and_eq_true, Bool.not_eq_true', Bool.or_eq_false_iff, decide_eq_false_iff_not, List.all_eq_true, decide_eq_true_eq]
  constructor
  · rintro ⟨⟨h1, h2⟩, h3⟩; exact ⟨by omega, by omega, h3⟩
  · rintro ⟨h1, h2, h3⟩; exact ⟨⟨by omega, by omega⟩, h3⟩
noncomputable def sg (i : Int) : Nat := signs.getD i.toNat 0
theorem sg_at (i : Int) (h0 : 0 ≤ i) (h : i < 36) : signs[i.toNat]? = some (sg i) := by
  have : i.toNat < signs.length := by simp [signs]; omega
  simp [sg, List.getD, this]
theorem sg_mem (i : Int) (h0 : 0 ≤ i) (h : i < 36) : sg i ∈ signs := List.mem_of_getElem? (sg_at i h0 h)
theorem sub_sg {i : Int} (h0 : 0 ≤ i) (h : i < 36) : subscr (vs signs) (vi i) σ = some (vs [sg i]) := at_text i h0 (by omega) (sg_at i h0 h)
noncomputable def num (j : Nat) : List Nat := (strOf (j : Int)).cps.toList
theorem num_name : ∀ j : Nat, j < 130 → isName (num j) = true := by decide +kernel
theorem num_nodup : ((List.range 130).map num).Nodup := by decide +kernel
theorem num_str {isX : Nat → Nat → Option Bool} {j : Nat} (h : j < 130) : bcall isX hd .str true [vi j] σ = .ok (vs (num j)) σ := by
  have : (j : Int).natAbs < 1000000000000 := by omega
  refine (if_pos this).trans ?_
  simp only [num, vs, Tx_eta]
theorem num_free (l : List (List Nat)) (hl : l.length < 130) : ∃ j, j ≤ l.length ∧ num j ∉ l := by
  apply Classical.byContradiction
  intro hno
  have h1 : ((List.range (l.length + 1)).map num).Nodup := by
    have : (List.range (l.length + 1)).map num = ((List.range 130).map num).take (l.length + 1) := by
      rw [← List.map_take, List.take_range]; congr 2; omega
    rw [this]
    exact List.Sublist.nodup (List.take_sublist _ _) num_nodup
  have := pigeon _ l h1 (by
    intro x hx
    simp only [List.mem_map, List.mem_range] at hx
    obtain ⟨j, h2, rfl⟩ := hx
    apply Classical.byContradiction
    intro h3; exact hno ⟨j, by omega, h3⟩)
  simp at this
  omega
end
end Mine

namespace Mine
open PySem
section
variable {fuel n : Nat} {hd : Bool} {σ : Store}
theorem mixed_lt (c k : Int) : 0 ≤ mixed c k ∧ mixed c k < 2147483647 := fmod_lt _ (by decide)
theorem name_base (m : Nat) (g : Nat → Int) (h1 : 1 ≤ m) (h2 : m ≤ 12) (hg : ∀ j, 0 ≤ g j ∧ g j < 36) : isName ((List.range m).map fun j => sg (g j)) = true := by
  rw [name_iff]
  refine ⟨by simpa using h1, by simpa using h2, ?_⟩
  intro x hx
  simp only [List.mem_map] at hx
  obtain ⟨j, _, rfl⟩ := hx
  exact sg_mem _ (hg j).1 (hg j).2
theorem nm1 {q : Int} (h : 0 ≤ q ∧ q < 12) : 1 + q ≤ 1000000 ∧ -1000000 ≤ 1 + q ∧ (1 + q).toNat ≤ 1000 ∧ 1 ≤ (1 + q).toNat ∧ (1 + q).toNat ≤ 12 := by omega
theorem nm2 {q : Int} (h : 0 ≤ q ∧ q < 130) : q.toNat < 130 ∧ ((q.toNat : Nat) : Int) = q := by omega
theorem nm3 {u : List Nat} {x : Nat} (h : u.length ≤ 12) : (u.take 11 ++ [x]).length ≤ 12 := by simp; omega
theorem nm4 {u : List Nat} {x : Nat} {a : Int} (h2 : u.length ≤ 12) (h0 : 0 ≤ a) (ha : a < u.length) : 1 ≤ (u.take a.toNat ++ [x] ++ u.drop (a + 1).toNat).length ∧ (u.take a.toNat ++ [x] ++ u.drop (a + 1).toNat).length ≤ 12 := by
  obtain ⟨k, rfl⟩ := Int.eq_ofNat_of_zero_le h0
  have hk : k < u.length := Int.ofNat_lt.mp ha
  have e : (u.take (k : Int).toNat ++ [x] ++ u.drop ((k : Int) + 1).toNat).length = u.length := by
    show (u.take k ++ [x] ++ u.drop (k + 1)).length = _
    have h := List.set_eq_take_append_cons_drop (l := u) (i := k) (a := x)
    rw [if_pos hk] at h
    rw [List.append_assoc]
    exact (congrArg List.length h).symm.trans List.length_set
  rw [e]
  exact ⟨Nat.lt_of_le_of_lt (Nat.zero_le _) hk, h2⟩
theorem nm5 {j n : Nat} (h : j < n + 1) (hn : n < 100) : j < 130 := by omega
theorem nm6 {n : Nat} (h : n < 100) : (n : Int) + 1 ≤ 1000000 ∧ -1000000 ≤ (n : Int) + 1 ∧ ((n : Int) + 1).toNat = n + 1 := by omega
theorem run_name {C : Cfg} (hhd : C.hd = false) (hm : ∀ c k σ, C.cf false .frz 14 [vi c, vi k] σ = .ok (vi (mixed c k)) σ) (c : Int) (tk : List (List Nat)) (hg : ∀ x ∈ tk, isName x = true) (hl : tk.length < 100) :
    Ends (fun r => ∃ x, isName x = true ∧ x ∉ tk ∧ r = .ok (.ret (vs x)) []) (execSs C Flaw_name.body [some (vi c), some (.d (dl tk)), none, none, none, none, none] []) := by
  show Ends _ (execSs C [_, _, _, _, _, _, _, _] _ [])
  refine go_asg (v := vs signs) (σ₁ := []) (by simp only [eA_1, eA_2, eA_4, eA_5, eA_6, eA_7, eA_10, eA_12, eA_13, eA_15, eA_16, eA_17, eA_18, eA_19, eB_1, eB_2, eO_1, eO_2, ok_bind, List.getElem?_cons_zero, List.getElem?_cons_succ, List.set_cons_zero, List.set_cons_succ, bc_len_s, bc_len_l, bc_len_t, c_eq, c_ne, c_in, c_nin, c_is, c_isn, c_lt, c_gt, c_ge, lt_i, gt_i, ge_s, no_s, eq_int, eq_str, in_sign, in_strs, Tx_size, Tx_len, b_add, b_sub, tr_b, k_signs] <;> rfl) ?_
  refine go_asg (v := vi (mixed c 5)) (σ₁ := []) (by simp only [eA_1, eA_2, eA_4, eA_5, eA_6, eA_7, eA_10, eA_12, eA_13, eA_15, eA_16, eA_17, eA_18, eA_19, eB_1, eB_2, eO_1, eO_2, ok_bind, List.getElem?_cons_zero, List.getElem?_cons_succ, List.set_cons_zero, List.set_cons_succ, bc_len_s, bc_len_l, bc_len_t, c_eq, c_ne, c_in, c_nin, c_is, c_isn, c_lt, c_gt, c_ge, lt_i, gt_i, ge_s, no_s, eq_int, eq_str, in_sign, in_strs, Tx_size, Tx_len, b_add, b_sub, tr_b, hm, hhd] <;> rfl) ?_
  have hL := mixed_lt c 5
  generalize mixed c 5 = L at hL
  have h12 := fmod_lt L (j := 12) (by decide)
  have h36 := fmod_lt L (j := 36) (by decide)
  have hr : evalIt C (.range [.bin true .Add (.cst (.int 1)) (.bin true .Mod (.var 3) (.cst (.int 12)))]) [some (vi c), some (.d (dl tk)), some (vs signs), some (vi L), none, none, none] [] = .ok (.items ((List.range (1 + L.fmod 12).toNat).map fun j : Nat => vi (j : Int))) [] :=
    it_range hhd (by simp only [eA_1, eA_2, eA_4, eA_5, eA_6, eA_7, eA_10, eA_12, eA_13, eA_15, eA_16, eA_17, eA_18, eA_19, eB_1, eB_2, eO_1, eO_2, ok_bind, List.getElem?_cons_zero, List.getElem?_cons_succ, List.set_cons_zero, List.set_cons_succ, bc_len_s, bc_len_l, bc_len_t, c_eq, c_ne, c_in, c_nin, c_is, c_isn, c_lt, c_gt, c_ge, lt_i, gt_i, ge_s, no_s, eq_int, eq_str, in_sign, in_strs, Tx_size, Tx_len, b_add, b_sub, tr_b, b_mod (show (12 : Int) ≠ 0 by decide)] <;> rfl) (nm1 h12).1 (nm1 h12).2.1
  refine go_asg (v := vs ((List.range (1 + L.fmod 12).toNat).map fun j : Nat => sg ((mixed c j).fmod 36))) (σ₁ := []) (e_signs (fun j : Nat => vi (j : Int)) (fun j : Nat => sg ((mixed c j).fmod 36)) hr (by rw [List.length_range]; exact (nm1 h12).2.2.1) (by
    intro j _
    have h := fmod_lt (mixed c j) (j := 36) (by decide)
    simp only [eA_1, eA_2, eA_4, eA_5, eA_6, eA_7, eA_10, eA_12, eA_13, eA_15, eA_16, eA_17, eA_18, eA_19, eB_1, eB_2, eO_1, eO_2, ok_bind, List.getElem?_cons_zero, List.getElem?_cons_succ, List.set_cons_zero, List.set_cons_succ, bc_len_s, bc_len_l, bc_len_t, c_eq, c_ne, c_in, c_nin, c_is, c_isn, c_lt, c_gt, c_ge, lt_i, gt_i, ge_s, no_s, eq_int, eq_str, in_sign, in_strs, Tx_size, Tx_len, b_add, b_sub, tr_b, hm, hhd, b_mod (show (36 : Int) ≠ 0 by decide), sub_sg h.1 h.2])) ?_
  have hf : isName ((List.range (1 + L.fmod 12).toNat).map fun j : Nat => sg ((mixed c j).fmod 36)) = true := name_base _ (fun j => (mixed c j).fmod 36) (nm1 h12).2.2.2.1 (nm1 h12).2.2.2.2 (fun j => fmod_lt _ (by decide))
  generalize ((List.range (1 + L.fmod 12).toNat).map fun j : Nat => sg ((mixed c j).fmod 36)) = f at hf
  let K : List Nat → Option V → Vars := fun f z => [some (vi c), some (.d (dl tk)), some (vs signs), some (vi L), some (vs f), none, z]
  let M : Vars → Store → Prop := fun ρ σ => (∃ f z, isName f = true ∧ ρ = K f z) ∧ σ = []
  show Ends _ (execSs C [_, _, _, _, _] (K f none) [])
  refine go_mid (M := M) ?_ ?_
  · refine go_ite (t := decide (c.fmod 8 = 1)) (σ₁ := []) (by simp only [eA_1, eA_2, eA_4, eA_5, eA_6, eA_7, eA_10, eA_12, eA_13, eA_15, eA_16, eA_17, eA_18, eA_19, eB_1, eB_2, eO_1, eO_2, ok_bind, List.getElem?_cons_zero, List.getElem?_cons_succ, List.set_cons_zero, List.set_cons_succ, bc_len_s, bc_len_l, bc_len_t, c_eq, c_ne, c_in, c_nin, c_is, c_isn, c_lt, c_gt, c_ge, lt_i, gt_i, ge_s, no_s, eq_int, eq_str, in_sign, in_strs, Tx_size, Tx_len, b_add, b_sub, tr_b, b_mod (show (8 : Int) ≠ 0 by decide), K] <;> rfl) (fun h => ?_) (fun h => ?_)
    · have hx := fmod_lt L (j := 130) (by decide)
      refine go_asg (v := vs (num (L.fmod 130).toNat)) (σ₁ := []) ?_ (go_nil ⟨_, _, ⟨⟨num (L.fmod 130).toNat, none, num_name _ (nm2 hx).1, rfl⟩, rfl⟩, rfl⟩)
      have := num_str (isX := C.isExc) (hd := C.hd) (σ := []) (j := (L.fmod 130).toNat) (nm2 hx).1
      rw [(nm2 hx).2] at this
      simp only [eA_1, eA_2, eA_4, eA_5, eA_6, eA_7, eA_8, eA_9, eA_10, eA_12, eA_13, eA_15, eA_16, eA_17, eA_18, eA_19, eA_20, eB_1, eB_2, ok_bind, K, List.getElem?_cons_zero, List.getElem?_cons_succ, b_mod (show (130 : Int) ≠ 0 by decide), this]
    · exact go_nil ⟨_, _, ⟨⟨f, none, hf, rfl⟩, rfl⟩, rfl⟩
  rintro _ _ ⟨⟨f, z, hf, rfl⟩, rfl⟩
  have htk : truth [] (.d (dl tk)) = some (!(tk.map fun t => PyData.str (Tx t)).isEmpty) := rfl
  refine go_mid (M := M) ?_ ?_
  · refine go_iteV (t := decide (c.fmod 8 = 2) && !(tk.map fun t => PyData.str (Tx t)).isEmpty) (σ₁ := []) (e_and2v (y := .d (dl tk)) (by simp only [eA_1, eA_2, eA_4, eA_5, eA_6, eA_7, eA_10, eA_12, eA_13, eA_15, eA_16, eA_17, eA_18, eA_19, eB_1, eB_2, eO_1, eO_2, ok_bind, List.getElem?_cons_zero, List.getElem?_cons_succ, List.set_cons_zero, List.set_cons_succ, bc_len_s, bc_len_l, bc_len_t, c_eq, c_ne, c_in, c_nin, c_is, c_isn, c_lt, c_gt, c_ge, lt_i, gt_i, ge_s, no_s, eq_int, eq_str, in_sign, in_strs, Tx_size, Tx_len, b_add, b_sub, tr_b, b_mod (show (8 : Int) ≠ 0 by decide), K] <;> rfl) (fun _ => ⟨(by simp only [eA_1, eA_2, eA_4, eA_5, eA_6, eA_7, eA_10, eA_12, eA_13, eA_15, eA_16, eA_17, eA_18, eA_19, eB_1, eB_2, eO_1, eO_2, ok_bind, List.getElem?_cons_zero, List.getElem?_cons_succ, List.set_cons_zero, List.set_cons_succ, bc_len_s, bc_len_l, bc_len_t, c_eq, c_ne, c_in, c_nin, c_is, c_isn, c_lt, c_gt, c_ge, lt_i, gt_i, ge_s, no_s, eq_int, eq_str, in_sign, in_strs, Tx_size, Tx_len, b_add, b_sub, tr_b, K] <;> rfl), htk⟩)) (fun h => ?_) (fun h => ?_)
    · simp only [Bool.and_eq_true] at h
      have hne : tk ≠ [] := by
        intro e; simp [e] at h
      have hlast := List.getLast?_eq_some_getLast hne
      have hgl := (name_iff _).mp (hg _ (List.getLast_mem hne))
      generalize tk.getLast hne = u at hlast hgl
      have h1 : subscr (.d (dl tk)) (vi (-1)) [] = some (vs u) := at_last (y := .str (Tx u)) (by rw [List.length_map]; exact Nat.lt_trans hl (by decide)) (by simp [List.getLast?_map, hlast])
      have h2 : slice true (vs u) none (some (vi 11)) [] = .ok (vs (u.take 11)) [] := sl_to (k := 11) (by decide)
      have h3 := b_cat (fz := true) (σ := []) (u.take 11) [sg (L.fmod 36)] (ln_t1 hgl.2.1)
      refine go_asg (v := vs (u.take 11 ++ [sg (L.fmod 36)])) (σ₁ := []) (by simp only [eA_1, eA_2, eA_4, eA_5, eA_6, eA_7, eA_10, eA_12, eA_13, eA_15, eA_16, eA_17, eA_18, eA_19, eB_1, eB_2, eO_1, eO_2, ok_bind, List.getElem?_cons_zero, List.getElem?_cons_succ, List.set_cons_zero, List.set_cons_succ, bc_len_s, bc_len_l, bc_len_t, c_eq, c_ne, c_in, c_nin, c_is, c_isn, c_lt, c_gt, c_ge, lt_i, gt_i, ge_s, no_s, eq_int, eq_str, in_sign, in_strs, Tx_size, Tx_len, b_add, b_sub, tr_b, K, h1, h2, b_mod (show (36 : Int) ≠ 0 by decide), sub_sg h36.1 h36.2, h3] <;> rfl) (go_nil ⟨_, _, ⟨⟨_, z, ?_, rfl⟩, rfl⟩, rfl⟩)
      rw [name_iff]
      refine ⟨by simp, nm3 hgl.2.1, ?_⟩
      intro x hx
      simp only [List.mem_append, List.mem_singleton] at hx
      rcases hx with hx | rfl
      · exact hgl.2.2 x (List.mem_of_mem_take hx)
      · exact sg_mem _ h36.1 h36.2
    · exact go_nil ⟨_, _, ⟨⟨f, z, hf, rfl⟩, rfl⟩, rfl⟩
  clear hf f z
  rintro _ _ ⟨⟨f, z, hf, rfl⟩, rfl⟩
  refine go_mid (M := M) ?_ ?_
  · refine go_iteV (t := decide (c.fmod 8 > 4) && !(tk.map fun t => PyData.str (Tx t)).isEmpty) (σ₁ := []) (e_and2v (y := .d (dl tk)) (by simp only [eA_1, eA_2, eA_4, eA_5, eA_6, eA_7, eA_10, eA_12, eA_13, eA_15, eA_16, eA_17, eA_18, eA_19, eB_1, eB_2, eO_1, eO_2, ok_bind, List.getElem?_cons_zero, List.getElem?_cons_succ, List.set_cons_zero, List.set_cons_succ, bc_len_s, bc_len_l, bc_len_t, c_eq, c_ne, c_in, c_nin, c_is, c_isn, c_lt, c_gt, c_ge, lt_i, gt_i, ge_s, no_s, eq_int, eq_str, in_sign, in_strs, Tx_size, Tx_len, b_add, b_sub, tr_b, b_mod (show (8 : Int) ≠ 0 by decide), K] <;> rfl) (fun _ => ⟨(by simp only [eA_1, eA_2, eA_4, eA_5, eA_6, eA_7, eA_10, eA_12, eA_13, eA_15, eA_16, eA_17, eA_18, eA_19, eB_1, eB_2, eO_1, eO_2, ok_bind, List.getElem?_cons_zero, List.getElem?_cons_succ, List.set_cons_zero, List.set_cons_succ, bc_len_s, bc_len_l, bc_len_t, c_eq, c_ne, c_in, c_nin, c_is, c_isn, c_lt, c_gt, c_ge, lt_i, gt_i, ge_s, no_s, eq_int, eq_str, in_sign, in_strs, Tx_size, Tx_len, b_add, b_sub, tr_b, K] <;> rfl), htk⟩)) (fun h => ?_) (fun h => ?_)
    · simp only [Bool.and_eq_true] at h
      have hne : tk ≠ [] := by
        intro e; simp [e] at h
      have hpos : 0 < tk.length := List.length_pos_iff.mpr hne
      have hlt := fmod_lt L (j := tk.length) (arr hpos)
      obtain ⟨u, hu⟩ : ∃ u, tk[(L.fmod tk.length).toNat]? = some u := ⟨_, List.getElem?_eq_getElem (ar4 hlt.1 hlt.2)⟩
      have h1 : subscr (.d (dl tk)) (vi (L.fmod tk.length)) [] = some (vs u) := at_list (y := .str (Tx u)) _ hlt.1 (ar3s hlt.2 (Nat.le_of_lt hl)) (by simp [hu])
      have hgu := (name_iff _).mp (hg u (List.mem_of_getElem? hu))
      have h0 : (tk.length : Int) ≠ 0 := ars hpos
      refine go_asg (v := vs u) (σ₁ := []) (by simp only [eA_1, eA_2, eA_4, eA_5, eA_6, eA_7, eA_10, eA_12, eA_13, eA_15, eA_16, eA_17, eA_18, eA_19, eB_1, eB_2, eO_1, eO_2, ok_bind, List.getElem?_cons_zero, List.getElem?_cons_succ, List.set_cons_zero, List.set_cons_succ, bc_len_s, bc_len_l, bc_len_t, c_eq, c_ne, c_in, c_nin, c_is, c_isn, c_lt, c_gt, c_ge, lt_i, gt_i, ge_s, no_s, eq_int, eq_str, in_sign, in_strs, Tx_size, Tx_len, b_add, b_sub, tr_b, K, seqOf, List.length_map, b_mod h0, h1] <;> rfl) ?_
      have h0 : (u.length : Int) ≠ 0 := ars hgu.1
      have hat := fmod_lt (L.fdiv 60) (j := u.length) (arr hgu.1)
      refine go_asg (v := vi ((L.fdiv 60).fmod u.length)) (σ₁ := []) (by simp only [eA_1, eA_2, eA_4, eA_5, eA_6, eA_7, eA_10, eA_12, eA_13, eA_15, eA_16, eA_17, eA_18, eA_19, eB_1, eB_2, eO_1, eO_2, ok_bind, List.getElem?_cons_zero, List.getElem?_cons_succ, List.set_cons_zero, List.set_cons_succ, bc_len_s, bc_len_l, bc_len_t, c_eq, c_ne, c_in, c_nin, c_is, c_isn, c_lt, c_gt, c_ge, lt_i, gt_i, ge_s, no_s, eq_int, eq_str, in_sign, in_strs, Tx_size, Tx_len, b_add, b_sub, tr_b, K, seqOf, List.length_map, b_mod h0, b_div (show (60 : Int) ≠ 0 by decide)] <;> rfl) ?_
      generalize (L.fdiv 60).fmod u.length = a at hat
      have hs := fmod_lt (L.fdiv 720) (j := 36) (by decide)
      have h2 : slice true (vs u) none (some (vi a)) [] = .ok (vs (u.take a.toNat)) [] := sl_toZ hat.1 (ar3 hat.2 hgu.2.1)
      have h3 : slice true (vs u) (some (vi (a + 1))) none [] = .ok (vs (u.drop (a + 1).toNat)) [] := sl_fromZ (ar9 hat.1) (ar3' hat.2 hgu.2.1)
      have h4 := b_cat (fz := true) (σ := []) (u.take a.toNat) [sg ((L.fdiv 720).fmod 36)] (ln_t1 hgu.2.1)
      have h5 := b_cat (fz := true) (σ := []) (u.take a.toNat ++ [sg ((L.fdiv 720).fmod 36)]) (u.drop (a + 1).toNat) (ln_t2 hgu.2.1)
      refine go_asg (v := vs (u.take a.toNat ++ [sg ((L.fdiv 720).fmod 36)] ++ u.drop (a + 1).toNat)) (σ₁ := []) (by simp only [eA_1, eA_2, eA_4, eA_5, eA_6, eA_7, eA_10, eA_12, eA_13, eA_15, eA_16, eA_17, eA_18, eA_19, eB_1, eB_2, eO_1, eO_2, ok_bind, List.getElem?_cons_zero, List.getElem?_cons_succ, List.set_cons_zero, List.set_cons_succ, bc_len_s, bc_len_l, bc_len_t, c_eq, c_ne, c_in, c_nin, c_is, c_isn, c_lt, c_gt, c_ge, lt_i, gt_i, ge_s, no_s, eq_int, eq_str, in_sign, in_strs, Tx_size, Tx_len, b_add, b_sub, tr_b, K, h2, h3, b_mod (show (36 : Int) ≠ 0 by decide), b_div (show (720 : Int) ≠ 0 by decide), sub_sg hs.1 hs.2, h4, h5] <;> rfl) (go_nil ⟨_, _, ⟨⟨_, some (vi a), ?_, rfl⟩, rfl⟩, rfl⟩)
      rw [name_iff]
      refine ⟨(nm4 hgu.2.1 hat.1 hat.2).1, (nm4 hgu.2.1 hat.1 hat.2).2, ?_⟩
      intro x hx
      simp only [List.mem_append, List.mem_singleton] at hx
      rcases hx with (hx | rfl) | hx
      · exact hgu.2.2 x (List.mem_of_mem_take hx)
      · exact sg_mem _ hs.1 hs.2
      · exact hgu.2.2 x (List.mem_of_mem_drop hx)
    · exact go_nil ⟨_, _, ⟨⟨f, z, hf, rfl⟩, rfl⟩, rfl⟩
  clear hf f z
  rintro _ _ ⟨⟨f, z, hf, rfl⟩, rfl⟩
  refine go_ite (t := !decide (f ∈ tk)) (σ₁ := []) (by simp only [eA_1, eA_2, eA_4, eA_5, eA_6, eA_7, eA_10, eA_12, eA_13, eA_15, eA_16, eA_17, eA_18, eA_19, eB_1, eB_2, eO_1, eO_2, ok_bind, List.getElem?_cons_zero, List.getElem?_cons_succ, List.set_cons_zero, List.set_cons_succ, bc_len_s, bc_len_l, bc_len_t, c_eq, c_ne, c_in, c_nin, c_is, c_isn, c_lt, c_gt, c_ge, lt_i, gt_i, ge_s, no_s, eq_int, eq_str, in_sign, in_strs, Tx_size, Tx_len, b_add, b_sub, tr_b, K] <;> rfl) (fun h => ?_) (fun h => ?_)
  · exact go_ret (v := vs f) (σ₁ := []) (by simp only [eA_1, eA_2, eA_4, eA_5, eA_6, eA_7, eA_10, eA_12, eA_13, eA_15, eA_16, eA_17, eA_18, eA_19, eB_1, eB_2, eO_1, eO_2, ok_bind, List.getElem?_cons_zero, List.getElem?_cons_succ, List.set_cons_zero, List.set_cons_succ, bc_len_s, bc_len_l, bc_len_t, c_eq, c_ne, c_in, c_nin, c_is, c_isn, c_lt, c_gt, c_ge, lt_i, gt_i, ge_s, no_s, eq_int, eq_str, in_sign, in_strs, Tx_size, Tx_len, b_add, b_sub, tr_b, K] <;> rfl) ⟨f, hf, by simpa using h, rfl⟩
  · have hnl : ∀ (j : Nat), j < tk.length + 1 → bcall C.isExc C.hd .str true [vi j] [] = .ok (vs (num j)) [] := fun j hj => num_str (nm5 hj hl)
    have hc : evalE C (.comp true (.bcall .str true [.var 5]) [5] (.range [.bin true .Add (.bcall .len true [.var 1]) (.cst (.int 1))]) [.cmp .NotIn (.bcall .str true [.var 5]) (.var 1)]) (K f z) [] = .ok (.d (.list (((List.range ((tk.length : Int) + 1).toNat).filter fun j => !decide (num j ∈ tk)).map fun j => .str (Tx (num j))))) [] := by
      refine e_compD (fun j : Nat => vi (j : Int)) (fun j => !decide (num j ∈ tk)) (fun j => .str (Tx (num j))) (it_range hhd (by simp only [eA_1, eA_2, eA_4, eA_5, eA_6, eA_7, eA_10, eA_12, eA_13, eA_15, eA_16, eA_17, eA_18, eA_19, eB_1, eB_2, eO_1, eO_2, ok_bind, List.getElem?_cons_zero, List.getElem?_cons_succ, List.set_cons_zero, List.set_cons_succ, bc_len_s, bc_len_l, bc_len_t, c_eq, c_ne, c_in, c_nin, c_is, c_isn, c_lt, c_gt, c_ge, lt_i, gt_i, ge_s, no_s, eq_int, eq_str, in_sign, in_strs, Tx_size, Tx_len, b_add, b_sub, tr_b, K, seqOf, List.length_map] <;> rfl) (nm6 hl).1 (nm6 hl).2.1) (by rw [List.length_range, (nm6 hl).2.2]; exact Nat.le_trans hl (by decide)) ?_ ?_
      · intro j hj
        have hj : j < tk.length + 1 := by rw [List.mem_range, (nm6 hl).2.2] at hj; exact hj
        have := hnl j hj
        simp only [eF_1, eF_2, eA_1, eA_2, eA_4, eA_5, eA_6, eA_7, eA_8, eA_9, eA_10, eA_12, eA_13, eA_15, eA_16, eA_17, eA_18, eA_19, eA_20, eB_1, eB_2, ok_bind, K, List.getElem?_cons_zero, List.getElem?_cons_succ, List.set_cons_zero, List.set_cons_succ, this, c_eq, c_ne, c_in, c_nin, c_is, c_isn, c_lt, c_gt, c_ge, in_strs, notO, tr_b]
        cases decide (num j ∈ tk) <;> rfl
      · intro j hj _
        have hj : j < tk.length + 1 := by rw [List.mem_range, (nm6 hl).2.2] at hj; exact hj
        have := hnl j hj
        simp only [eA_1, eA_2, eA_4, eA_5, eA_6, eA_7, eA_8, eA_9, eA_10, eA_12, eA_13, eA_15, eA_16, eA_17, eA_18, eA_19, eA_20, eB_1, eB_2, ok_bind, K, List.getElem?_cons_zero, List.getElem?_cons_succ, List.set_cons_zero, List.set_cons_succ, this]
    obtain ⟨j, hj1, hj2⟩ := num_free tk (Nat.lt_trans hl (by decide))
    have hmem : j ∈ (List.range ((tk.length : Int) + 1).toNat).filter fun j => !decide (num j ∈ tk) := by
      simp only [List.mem_filter, List.mem_range]
      exact ⟨by rw [(nm6 hl).2.2]; exact Nat.lt_succ_of_le hj1, by simpa using hj2⟩
    cases hfl : (List.range ((tk.length : Int) + 1).toNat).filter fun j => !decide (num j ∈ tk) with
    | nil => rw [hfl] at hmem; simp at hmem
    | cons i rest =>
      have hi : i ∈ (List.range ((tk.length : Int) + 1).toNat).filter fun j => !decide (num j ∈ tk) := by rw [hfl]; simp
      simp only [List.mem_filter, List.mem_range] at hi
      rw [hfl] at hc
      have h0 : subscr (.d (.list ((i :: rest).map fun j => .str (Tx (num j))))) (vi 0) [] = some (vs (num i)) := at_list 0 (by decide) (by decide) rfl
      refine go_ret (v := vs (num i)) (σ₁ := []) ?_ ⟨num i, num_name i (nm5 (by rw [(nm6 hl).2.2] at hi; exact hi.1) hl), by simpa using hi.2, rfl⟩
      rw [eA_15, hc]
      simp only [eA_1, eA_2, eA_4, eA_5, eA_6, eA_7, eA_8, eA_9, eA_10, eA_12, eA_13, eA_15, eA_16, eA_17, eA_18, eA_19, eA_20, ok_bind, h0]
end
end Mine

namespace Mine
open PySem
section
variable {fuel n : Nat} {hd : Bool} {σ : Store}
theorem P9 : P02 16 = some Flaw_line := rfl
theorem snapL_d (l : List PyData) (k : Nat) : snapL (snap σ (k + 1)) (l.map .d) = some l := by
  induction l with
  | nil => rfl
  | cons a l ih =>
    show (match snapL (snap σ (k + 1)) (l.map .d) with | some xs => some (a :: xs) | none => none) = _
    rw [ih]
theorem snap_ref {k : Nat} {l : List PyData} (h : σ[k]? = some (.list (l.map .d))) : snap σ 8 (.ref k) = some (.list l) := by
  show snapO (snap σ 7) σ[k]? = _
  rw [h]
  show (match snapL (snap σ 7) (l.map .d) with | some xs => some (PyData.list xs) | none => none) = _
  rw [snapL_d]
theorem ev_name (c : Int) (tk : List (List Nat)) (hg : ∀ x ∈ tk, isName x = true) (hl : tk.length < 100) :
    ∃ x, isName x = true ∧ x ∉ tk ∧ (∀ σ, callF P02 isExc fuel (n + 2) false .frz 15 [vi c, .d (dl tk)] σ = .ok (vs x) σ) ∧
      (∀ σ k, σ[k]? = some (.list (tk.map vs)) → callF P02 isExc fuel (n + 2) false .frz 15 [vi c, .ref k] σ = .ok (vs x) σ) := by
  obtain ⟨x, h1, h2, h3⟩ := run_name (C := ⟨callF P02 isExc fuel (n + 1), isExc, fuel, false⟩) rfl (fun c k σ => ev_mixed c k) c tk hg hl
  refine ⟨x, h1, h2, fun σ => frz_ok P8 rfl (run_ret rfl h3) rfl, fun σ k hk => ?_⟩
  refine frz_lent (xs := [vi c, .d (dl tk)]) P8 rfl ?_ (run_ret rfl h3) rfl
  have : snap σ 8 (.ref k) = some (dl tk) := snap_ref (by rw [hk, List.map_map]; rfl)
  have e : snap σ 8 (vi c) = some (.int c) := rfl
  simp only [lent, e, this]
noncomputable def insL (x : List Nat) : List (List Nat) → List (List Nat)
  | [] => [x]
  | y :: r => if decide (x < y) then x :: y :: r else y :: insL x r
noncomputable def isort : List (List Nat) → List (List Nat)
  | [] => []
  | x :: r => insL x (isort r)
theorem insStr_Tx (x : List Nat) (l : List (List Nat)) : insStr (Tx x) (l.map Tx) = (insL x l).map Tx := by
  induction l with
  | nil => rfl
  | cons y l ih =>
    simp only [List.map_cons, insStr, insL, Tx_lt]
    split <;> simp [ih]
theorem sortStr_Tx (l : List (List Nat)) : sortStr (l.map Tx) = (isort l).map Tx := by
  induction l with
  | nil => rfl
  | cons y l ih => simp only [List.map_cons, sortStr, isort, ih, insStr_Tx]
theorem insL_mem (x z : List Nat) (l : List (List Nat)) : z ∈ insL x l ↔ z = x ∨ z ∈ l := by
  induction l with
  | nil => simp [insL]
  | cons y l ih =>
    simp only [insL]
    split
    · simp
    · simp [ih]; constructor <;> (rintro (h | h | h) <;> simp [h])
theorem isort_mem (z : List Nat) (l : List (List Nat)) : z ∈ isort l ↔ z ∈ l := by
  induction l with
  | nil => simp [isort]
  | cons y l ih => simp [isort, insL_mem, ih]
theorem insL_len (x : List Nat) (l : List (List Nat)) : (insL x l).length = l.length + 1 := by
  induction l with
  | nil => rfl
  | cons y l ih => simp only [insL]; split <;> simp [ih]
theorem isort_len (l : List (List Nat)) : (isort l).length = l.length := by
  induction l with
  | nil => rfl
  | cons y l ih => simp [isort, insL_len, ih]
theorem lt_tot : ∀ (x y : List Nat), ¬ x < y → x ≠ y → y < x
  | [], [], _, h => absurd rfl h
  | [], _ :: _, h, _ => absurd (List.nil_lt_cons _ _) h
  | _ :: _, [], _, _ => List.nil_lt_cons _ _
  | a :: x, b :: y, h, hn => by
    rw [List.cons_lt_cons_iff] at h ⊢
    rcases Nat.lt_trichotomy a b with hab | hab | hab
    · exact absurd (Or.inl hab) h
    · subst hab
      refine Or.inr ⟨rfl, lt_tot x y (fun h' => h (Or.inr ⟨rfl, h'⟩)) (fun e => hn (by rw [e]))⟩
    · exact Or.inl hab
theorem rising_cons (a b : List Nat) (r : List (List Nat)) : rising (a :: b :: r) = (decide (a < b) && rising (b :: r)) := by
  simp [rising, List.zip_cons_cons]
theorem rising_one (a : List Nat) : rising [a] = true := rfl
theorem rising_nil : rising [] = true := rfl
theorem rising_ins (x : List Nat) (l : List (List Nat)) (h : rising l = true) (hx : x ∉ l) : rising (insL x l) = true := by
  induction l with
  | nil => rfl
  | cons y l ih =>
    simp only [insL]
    split
    · rename_i hlt; rw [rising_cons, hlt, h]; rfl
    · rename_i hlt
      have hyx : y < x := lt_tot x y (by simpa using hlt) (fun e => hx (by simp [e]))
      have hr : rising l = true := by
        cases l with
        | nil => rfl
        | cons z l => rw [rising_cons] at h; simp at h; exact h.2
      have ih := ih hr (fun h => hx (by simp [h]))
      cases l with
      | nil => rw [insL, rising_cons]; simp [hyx, rising_one]
      | cons z l =>
        rw [rising_cons] at h; simp only [Bool.and_eq_true, decide_eq_true_eq] at h
        simp only [insL] at ih ⊢
        split at ih
        · rename_i hxz; rw [if_pos hxz, rising_cons, ih]; simp [hyx]
        · rename_i hxz; rw [if_neg hxz, rising_cons, ih]; simp [h.1]
theorem isort_rising (l : List (List Nat)) (h : l.Nodup) : rising (isort l) = true := by
  induction l with
  | nil => rfl
  | cons x l ih =>
    rw [List.nodup_cons] at h
    exact rising_ins x _ (ih h.2) (fun hx => h.1 ((isort_mem x l).mp hx))
theorem strsV_vs (l : List (List Nat)) : strsV (l.map vs) = some (l.map Tx) := by
  induction l with
  | nil => rfl
  | cons a l ih => simp only [List.map_cons, strsV, isStrV, ih]
end
end Mine

namespace Mine
open PySem
section
variable {fuel n : Nat} {hd : Bool} {σ : Store}
theorem P10 : P02 28 = some Flaw_copy := rfl
noncomputable def someA : List Nat := [32,33,34,35,36,38,39,40,41,42,43,44,45,46,47,48,49,50,51,52,53,54,55,56,57,58,59,60,61,62,63,64,65,66,67,68,69,70,71,72,73,74,75,76,77,78,79,80,81,82,83,84,85,86,87,88,89,90,91,92,93,94,95,96]
noncomputable def someB : List Nat := [97,98,99,100,101,102,103,104,105,106,107,108,109,110,111,112,113,114,115,116,117,118,119,120,121,122,123,124,125,126]
noncomputable def someS : List Nat := someA ++ someB
theorem k_someA : Str.ofString " !\"#$&'()*+,-./0123456789:;<=>?@ABCDEFGHIJKLMNOPQRSTUVWXYZ[\\]^_`" = Tx someA := by decide +kernel
theorem k_someB : Str.ofString "abcdefghijklmnopqrstuvwxyz{|}~" = Tx someB := by decide +kernel
theorem k_col : Str.ofString ": " = Tx [58, 32] := by decide +kernel
theorem some_ok : ∀ c ∈ someS, 32 ≤ c ∧ c ≤ 126 := by decide +kernel
noncomputable def so (i : Int) : Nat := someS.getD i.toNat 0
theorem so_at (i : Int) (h0 : 0 ≤ i) (h : i < 94) : someS[i.toNat]? = some (so i) := by
  have : i.toNat < someS.length := by simp [someS, someA, someB]; omega
  simp [so, List.getD, this]
theorem so_ok (i : Int) (h0 : 0 ≤ i) (h : i < 94) : 32 ≤ so i ∧ so i ≤ 126 := some_ok _ (List.mem_of_getElem? (so_at i h0 h))
theorem sub_so {i : Int} (h0 : 0 ≤ i) (h : i < 94) : subscr (vs someS) (vi i) σ = some (vs [so i]) := at_text i h0 (by omega) (so_at i h0 h)
theorem line_iff (t : List Nat) : isLine t = true ↔ t.length ≤ 200 ∧ ∀ c ∈ t, 32 ≤ c ∧ c ≤ 126 := by
  simp only [isLine, Bool.and_eq_true, Bool.not_eq_true', decide_eq_false_iff_not, List.all_eq_true, Bool.or_eq_false_iff]
  constructor
  · rintro ⟨h1, h3⟩; exact ⟨by omega, fun c hc => by have := h3 c hc; omega⟩
  · rintro ⟨h1, h3⟩; exact ⟨by omega, fun c hc => by have := h3 c hc; omega⟩
theorem ev_line (c : Int) : ∃ l, isLine l = true ∧ ∀ σ, callF P02 isExc fuel (n + 1) false .frz 16 [vi c] σ = .ok (vs l) σ := by
  have key : Ends (fun r => ∃ l, isLine l = true ∧ r = .ok (.ret (vs l)) []) (execSs ⟨callF P02 isExc fuel n, isExc, fuel, false⟩ Flaw_line.body [some (vi c), none, none, none, none] []) := by
    generalize hC : (⟨callF P02 isExc fuel n, isExc, fuel, false⟩ : Cfg) = C
    have hhd : C.hd = false := by rw [← hC]
    show Ends _ (execSs C [_, _, _, _, _, _, _] _ [])
    refine go_asg (v := vs someA) (σ₁ := []) (by simp only [eA_1, eA_2, eA_4, eA_5, eA_6, eA_7, eA_10, eA_12, eA_13, eA_15, eA_16, eA_17, eA_18, eA_19, eB_1, eB_2, eO_1, eO_2, ok_bind, List.getElem?_cons_zero, List.getElem?_cons_succ, List.set_cons_zero, List.set_cons_succ, bc_len_s, bc_len_l, bc_len_t, c_eq, c_ne, c_in, c_nin, c_is, c_isn, c_lt, c_gt, c_ge, lt_i, gt_i, ge_s, no_s, eq_int, eq_str, in_sign, in_strs, Tx_size, Tx_len, b_add, b_sub, tr_b, k_someA] <;> rfl) ?_
    have hcat := b_cat (fz := true) (σ := []) someA someB (by decide)
    refine go_asg (v := vs someS) (σ₁ := []) (by simp only [eA_1, eA_2, eA_4, eA_5, eA_6, eA_7, eA_10, eA_12, eA_13, eA_15, eA_16, eA_17, eA_18, eA_19, eB_1, eB_2, eO_1, eO_2, ok_bind, List.getElem?_cons_zero, List.getElem?_cons_succ, List.set_cons_zero, List.set_cons_succ, bc_len_s, bc_len_l, bc_len_t, c_eq, c_ne, c_in, c_nin, c_is, c_isn, c_lt, c_gt, c_ge, lt_i, gt_i, ge_s, no_s, eq_int, eq_str, in_sign, in_strs, Tx_size, Tx_len, b_add, b_sub, tr_b, k_someB, hcat] <;> rfl) ?_
    have h4 := fmod_lt c (j := 4) (by decide)
    refine go_asg (v := vi (c.fmod 4)) (σ₁ := []) (by simp only [eA_1, eA_2, eA_4, eA_5, eA_6, eA_7, eA_10, eA_12, eA_13, eA_15, eA_16, eA_17, eA_18, eA_19, eB_1, eB_2, eO_1, eO_2, ok_bind, List.getElem?_cons_zero, List.getElem?_cons_succ, List.set_cons_zero, List.set_cons_succ, bc_len_s, bc_len_l, bc_len_t, c_eq, c_ne, c_in, c_nin, c_is, c_isn, c_lt, c_gt, c_ge, lt_i, gt_i, ge_s, no_s, eq_int, eq_str, in_sign, in_strs, Tx_size, Tx_len, b_add, b_sub, tr_b, b_mod (show (4 : Int) ≠ 0 by decide)] <;> rfl) ?_
    refine go_mid (M := fun ρ σ => (∃ s : Int, 0 ≤ s ∧ s ≤ 200 ∧ ρ = [some (vi c), some (vs someS), some (vi s), none, none]) ∧ σ = []) ?_ ?_
    · refine go_ite (t := decide ((c.fdiv 4).fmod 9 = 1)) (σ₁ := []) (by simp only [eA_1, eA_2, eA_4, eA_5, eA_6, eA_7, eA_10, eA_12, eA_13, eA_15, eA_16, eA_17, eA_18, eA_19, eB_1, eB_2, eO_1, eO_2, ok_bind, List.getElem?_cons_zero, List.getElem?_cons_succ, List.set_cons_zero, List.set_cons_succ, bc_len_s, bc_len_l, bc_len_t, c_eq, c_ne, c_in, c_nin, c_is, c_isn, c_lt, c_gt, c_ge, lt_i, gt_i, ge_s, no_s, eq_int, eq_str, in_sign, in_strs, Tx_size, Tx_len, b_add, b_sub, tr_b, b_mod (show (9 : Int) ≠ 0 by decide), b_div (show (4 : Int) ≠ 0 by decide)] <;> rfl) (fun h => ?_) (fun h => ?_)
      · have h5 := fmod_lt (c.fdiv 36) (j := 201) (by decide)
        exact go_asg (v := vi ((c.fdiv 36).fmod 201)) (σ₁ := []) (by simp only [eA_1, eA_2, eA_4, eA_5, eA_6, eA_7, eA_10, eA_12, eA_13, eA_15, eA_16, eA_17, eA_18, eA_19, eB_1, eB_2, eO_1, eO_2, ok_bind, List.getElem?_cons_zero, List.getElem?_cons_succ, List.set_cons_zero, List.set_cons_succ, bc_len_s, bc_len_l, bc_len_t, c_eq, c_ne, c_in, c_nin, c_is, c_isn, c_lt, c_gt, c_ge, lt_i, gt_i, ge_s, no_s, eq_int, eq_str, in_sign, in_strs, Tx_size, Tx_len, b_add, b_sub, tr_b, b_mod (show (201 : Int) ≠ 0 by decide), b_div (show (36 : Int) ≠ 0 by decide)] <;> rfl) (go_nil ⟨_, _, ⟨⟨_, h5.1, by omega, rfl⟩, rfl⟩, rfl⟩)
      · exact go_nil ⟨_, _, ⟨⟨_, h4.1, by omega, rfl⟩, rfl⟩, rfl⟩
    rintro _ _ ⟨⟨s, hs0, hs1, rfl⟩, rfl⟩
    have h5 := fmod_lt c (j := 5) (by decide)
    have hsm : ∀ i, (small i || small (1 + c.fmod 5)) = true := fun i => by rw [small_of (i := 1 + c.fmod 5) (by omega) (by omega)]; simp
    refine go_asg (v := vs ((List.range s.toNat).map fun j : Nat => so ((c.fdiv 7 + j * (1 + c.fmod 5)).fmod 94))) (σ₁ := []) (e_signsR (m := s) (fun i => so ((c.fdiv 7 + i * (1 + c.fmod 5)).fmod 94)) hhd (by simp only [eA_1, eA_2, eA_4, eA_5, eA_6, eA_7, eA_10, eA_12, eA_13, eA_15, eA_16, eA_17, eA_18, eA_19, eB_1, eB_2, eO_1, eO_2, ok_bind, List.getElem?_cons_zero, List.getElem?_cons_succ, List.set_cons_zero, List.set_cons_succ, bc_len_s, bc_len_l, bc_len_t, c_eq, c_ne, c_in, c_nin, c_is, c_isn, c_lt, c_gt, c_ge, lt_i, gt_i, ge_s, no_s, eq_int, eq_str, in_sign, in_strs, Tx_size, Tx_len, b_add, b_sub, tr_b] <;> rfl) (by omega) (by omega) (by
      intro i _ _
      have h := fmod_lt (c.fdiv 7 + i * (1 + c.fmod 5)) (j := 94) (by decide)
      simp only [eA_1, eA_2, eA_4, eA_5, eA_6, eA_7, eA_10, eA_12, eA_13, eA_15, eA_16, eA_17, eA_18, eA_19, eB_1, eB_2, eO_1, eO_2, ok_bind, List.getElem?_cons_zero, List.getElem?_cons_succ, List.set_cons_zero, List.set_cons_succ, bc_len_s, bc_len_l, bc_len_t, c_eq, c_ne, c_in, c_nin, c_is, c_isn, c_lt, c_gt, c_ge, lt_i, gt_i, ge_s, no_s, eq_int, eq_str, in_sign, in_strs, Tx_size, Tx_len, b_add, b_sub, tr_b, b_div (show (7 : Int) ≠ 0 by decide), b_mod (show (5 : Int) ≠ 0 by decide), b_mul (hsm _), b_mod (show (94 : Int) ≠ 0 by decide), sub_so h.1 h.2])) ?_
    have hf1 : ((List.range s.toNat).map fun j : Nat => so ((c.fdiv 7 + j * (1 + c.fmod 5)).fmod 94)).length = s.toNat := by simp
    have hf2 : ∀ x ∈ ((List.range s.toNat).map fun j : Nat => so ((c.fdiv 7 + j * (1 + c.fmod 5)).fmod 94)), 32 ≤ x ∧ x ≤ 126 := by
      intro x hx
      simp only [List.mem_map] at hx
      obtain ⟨j, _, rfl⟩ := hx
      have h := fmod_lt (c.fdiv 7 + j * (1 + c.fmod 5)) (j := 94) (by decide)
      exact so_ok _ h.1 h.2
    generalize ((List.range s.toNat).map fun j : Nat => so ((c.fdiv 7 + j * (1 + c.fmod 5)).fmod 94)) = f at hf1 hf2
    refine go_ite (t := decide ((c.fdiv 3).fmod 8 = 1) && decide (s < 199)) (σ₁ := []) (e_and2 (by simp only [eA_1, eA_2, eA_4, eA_5, eA_6, eA_7, eA_10, eA_12, eA_13, eA_15, eA_16, eA_17, eA_18, eA_19, eB_1, eB_2, eO_1, eO_2, ok_bind, List.getElem?_cons_zero, List.getElem?_cons_succ, List.set_cons_zero, List.set_cons_succ, bc_len_s, bc_len_l, bc_len_t, c_eq, c_ne, c_in, c_nin, c_is, c_isn, c_lt, c_gt, c_ge, lt_i, gt_i, ge_s, no_s, eq_int, eq_str, in_sign, in_strs, Tx_size, Tx_len, b_add, b_sub, tr_b, b_mod (show (8 : Int) ≠ 0 by decide), b_div (show (3 : Int) ≠ 0 by decide)] <;> rfl) (fun _ => (by simp only [eA_1, eA_2, eA_4, eA_5, eA_6, eA_7, eA_10, eA_12, eA_13, eA_15, eA_16, eA_17, eA_18, eA_19, eB_1, eB_2, eO_1, eO_2, ok_bind, List.getElem?_cons_zero, List.getElem?_cons_succ, List.set_cons_zero, List.set_cons_succ, bc_len_s, bc_len_l, bc_len_t, c_eq, c_ne, c_in, c_nin, c_is, c_isn, c_lt, c_gt, c_ge, lt_i, gt_i, ge_s, no_s, eq_int, eq_str, in_sign, in_strs, Tx_size, Tx_len, b_add, b_sub, tr_b] <;> rfl))) (fun h => ?_) (fun h => ?_)
    · simp only [Bool.and_eq_true, decide_eq_true_eq] at h
      have h1 : slice true (vs f) none (some (vi 1)) [] = .ok (vs (f.take 1)) [] := sl_to (k := 1) (by omega)
      have h2 : slice true (vs f) (some (vi 1)) none [] = .ok (vs (f.drop 1)) [] := sl_from (k := 1) (by omega)
      have h3 := b_cat (fz := true) (σ := []) (f.take 1) [58, 32] (by simp [line]; omega)
      have h4 := b_cat (fz := true) (σ := []) (f.take 1 ++ [58, 32]) (f.drop 1) (by simp [line]; omega)
      refine go_ret (v := vs (f.take 1 ++ [58, 32] ++ f.drop 1)) (σ₁ := []) (by simp only [eA_1, eA_2, eA_4, eA_5, eA_6, eA_7, eA_10, eA_12, eA_13, eA_15, eA_16, eA_17, eA_18, eA_19, eB_1, eB_2, eO_1, eO_2, ok_bind, List.getElem?_cons_zero, List.getElem?_cons_succ, List.set_cons_zero, List.set_cons_succ, bc_len_s, bc_len_l, bc_len_t, c_eq, c_ne, c_in, c_nin, c_is, c_isn, c_lt, c_gt, c_ge, lt_i, gt_i, ge_s, no_s, eq_int, eq_str, in_sign, in_strs, Tx_size, Tx_len, b_add, b_sub, tr_b, h1, h2, k_col, h3, h4] <;> rfl) ⟨_, ?_, rfl⟩
      rw [line_iff]
      refine ⟨by simp; omega, ?_⟩
      intro x hx
      simp only [List.mem_append] at hx
      rcases hx with (hx | hx) | hx
      · exact hf2 x (List.mem_of_mem_take hx)
      · simp at hx; omega
      · exact hf2 x (List.mem_of_mem_drop hx)
    · exact go_ret (v := vs f) (σ₁ := []) (by simp only [eA_1, eA_2, eA_4, eA_5, eA_6, eA_7, eA_10, eA_12, eA_13, eA_15, eA_16, eA_17, eA_18, eA_19, eB_1, eB_2, eO_1, eO_2, ok_bind, List.getElem?_cons_zero, List.getElem?_cons_succ, List.set_cons_zero, List.set_cons_succ, bc_len_s, bc_len_l, bc_len_t, c_eq, c_ne, c_in, c_nin, c_is, c_isn, c_lt, c_gt, c_ge, lt_i, gt_i, ge_s, no_s, eq_int, eq_str, in_sign, in_strs, Tx_size, Tx_len, b_add, b_sub, tr_b] <;> rfl) ⟨f, (line_iff f).mpr ⟨by omega, hf2⟩, rfl⟩
  obtain ⟨l, h1, h2⟩ := key
  exact ⟨l, h1, fun σ => frz_ok P9 rfl (run_ret rfl h2) rfl⟩
theorem ev_copy (t : List Nat) (ls : List (List Nat)) (ds : List Deed) (h1 : ls.length ≤ 1000) (h2 : ds.length ≤ 1000) : callF P02 isExc fuel (n + 1) false .frz 28 [.d (change t ls ds)] σ = .ok (.d (change t ls ds)) σ := by
  refine frz_ok (v := .d (change t ls ds)) (σ₁ := []) P10 rfl (run_ret rfl ?_) rfl
  generalize hC : (⟨callF P02 isExc fuel n, isExc, fuel, false⟩ : Cfg) = C
  show Ends (fun r => r = _) (execSs C [_] [some (.d (change t ls ds))] [])
  have s0 : subscr (.d (change t ls ds)) (vi 0) [] = some (vs t) := at_tup 0 (by decide) (by decide) rfl
  have s1 : subscr (.d (change t ls ds)) (vi 1) [] = some (.d (dl ls)) := at_tup 1 (by decide) (by decide) rfl
  have s2 : subscr (.d (change t ls ds)) (vi 2) [] = some (.d (.list (ds.map Deed.data))) := at_tup 2 (by decide) (by decide) rfl
  have m1 := mkListT (σ := []) (ls.map fun t => PyData.str (Tx t)) (by simp [line]; omega)
  have m2 := mkListT (σ := []) (ds.map Deed.data) (by simp [line]; omega)
  refine go_ret (v := .d (change t ls ds)) (σ₁ := []) ?_ rfl
  simp only [eA_1, eA_2, eA_4, eA_5, eA_6, eA_7, eA_8, eA_9, eA_10, eA_12, eA_13, eA_15, eA_16, eA_17, eA_18, eA_19, eA_20, eB_1, eB_2, ok_bind, List.getElem?_cons_zero, s0, s1, s2, bcall, bcall1, lstOf, m1, m2, List.length_cons, List.length_nil, line]
  rfl
end
end Mine

namespace Mine
open PySem
section
variable {fuel n : Nat} {hd : Bool} {σ : Store}
theorem P17 : P02 17 = some Flaw_leans := rfl
theorem P18 : P02 18 = some Flaw_marks := rfl
theorem P19 : P02 19 = some Flaw_deeds := rfl
theorem k_nil : Str.ofString "" = Tx [] := by decide +kernel
noncomputable def Fits (d : Deed) : Prop := d.word ≠ kcut → d.text ≠ none
theorem fits_cut (m : Option (List Nat × Int)) : Fits ⟨kcut, m, none⟩ := by intro h; exact absurd rfl h
theorem ok_cut (m : List Nat × Int) : deedOk ⟨kcut, some m, none⟩ = true := by
  simp [deedOk]
theorem ok_add (m : Option (List Nat × Int)) (l : List Nat) (h : isLine l = true) : deedOk ⟨kadd, m, some l⟩ = true := by
  simp [deedOk, h]
theorem ok_set (m : List Nat × Int) (l : List Nat) (h : isLine l = true) : deedOk ⟨kset, some m, some l⟩ = true := by
  simp [deedOk, h]
theorem tup2 (a b : PyData) : mkTup [.d a, .d b] = .d (.tuple [a, b]) := rfl
theorem tup3 (a b c : PyData) : mkTup [.d a, .d b, .d c] = .d (.tuple [a, b, c]) := rfl
theorem len2 {α : Type} (a b : α) : [a, b].length ≤ line := by simp [line]
theorem len3 {α : Type} (a b c : α) : [a, b, c].length ≤ line := by simp [line]
theorem sub_ch0 (t : List Nat) (ls : List (List Nat)) (ds : List Deed) : subscr (.d (change t ls ds)) (vi 0) σ = some (vs t) := at_tup 0 (by decide) (by decide) rfl
theorem sub_ch1 (t : List Nat) (ls : List (List Nat)) (ds : List Deed) : subscr (.d (change t ls ds)) (vi 1) σ = some (.d (dl ls)) := at_tup 1 (by decide) (by decide) rfl
theorem sub_ch2 (t : List Nat) (ls : List (List Nat)) (ds : List Deed) : subscr (.d (change t ls ds)) (vi 2) σ = some (.d (.list (ds.map Deed.data))) := at_tup 2 (by decide) (by decide) rfl
theorem run_marks {C : Cfg} (hhd : C.hd = false) (t : List Nat) (ls : List (List Nat)) (ds : List Deed) (hds : ds.length ≤ 100) :
    Ends (fun r => ∃ k : Nat, k ≤ ds.length ∧ r = .ok (.ret (.d (.list ((List.range k).map fun j : Nat => markD (some (t, (j : Int))))))) []) (execSs C Flaw_marks.body [some (.d (change t ls ds)), none, none, none] []) := by
  show Ends _ (execSs C [_, _] _ [])
  have c1 := e_compD (C := C) (elt := .var 2) (t := 2) (it := .of (.sub (.var 0) (.cst (.int 2)))) (ifs := [.cmp .Eq (.sub (.var 2) (.cst (.int 0))) (.cst (.str (Str.ofString "add")))]) (ρ := [some (.d (change t ls ds)), none, none, none]) (σ := []) (σ₁ := []) (l := ds)
    (fun d => .d d.data) (fun d => decide (d.word = kadd)) Deed.data (it_of (v := .d (.list (ds.map Deed.data))) (by simp only [eA_1, eA_2, eA_4, eA_5, eA_6, eA_7, eA_10, eA_12, eA_13, eA_15, eA_16, eA_17, eA_18, eA_19, eB_1, eB_2, eO_1, eO_2, ok_bind, List.getElem?_cons_zero, List.getElem?_cons_succ, List.set_cons_zero, List.set_cons_succ, bc_len_s, bc_len_l, bc_len_t, c_eq, c_ne, c_in, c_nin, c_is, c_isn, c_lt, c_gt, c_ge, lt_i, gt_i, ge_s, no_s, eq_int, eq_str, in_sign, in_strs, Tx_size, Tx_len, b_add, b_sub, tr_b, sub_ch2] <;> rfl) (by simp [itemsOf])) (by simp [line]; omega) (fun d _ => by
      simp only [eF_1, eF_2, eA_1, eA_2, eA_4, eA_5, eA_6, eA_7, eA_10, eA_12, eA_13, eA_15, eA_16, eA_17, eA_18, eA_19, eB_1, eB_2, eO_1, eO_2, ok_bind, List.getElem?_cons_zero, List.getElem?_cons_succ, List.set_cons_zero, List.set_cons_succ, bc_len_s, bc_len_l, bc_len_t, c_eq, c_ne, c_in, c_nin, c_is, c_isn, c_lt, c_gt, c_ge, lt_i, gt_i, ge_s, no_s, eq_int, eq_str, in_sign, in_strs, Tx_size, Tx_len, b_add, b_sub, tr_b, sub_word, k_add]
      cases h : decide (d.word = kadd) <;> rfl) (fun d _ _ => (by simp only [eA_1, eA_2, eA_4, eA_5, eA_6, eA_7, eA_10, eA_12, eA_13, eA_15, eA_16, eA_17, eA_18, eA_19, eB_1, eB_2, eO_1, eO_2, ok_bind, List.getElem?_cons_zero, List.getElem?_cons_succ, List.set_cons_zero, List.set_cons_succ, bc_len_s, bc_len_l, bc_len_t, c_eq, c_ne, c_in, c_nin, c_is, c_isn, c_lt, c_gt, c_ge, lt_i, gt_i, ge_s, no_s, eq_int, eq_str, in_sign, in_strs, Tx_size, Tx_len, b_add, b_sub, tr_b] <;> rfl))
  refine go_asg (v := vi ((ds.filter fun d => decide (d.word = kadd)).map Deed.data).length) (σ₁ := []) (by simp only [eA_1, eA_2, eA_4, eA_5, eA_6, eA_7, eA_10, eA_12, eA_13, eA_15, eA_16, eA_17, eA_18, eA_19, eB_1, eB_2, eO_1, eO_2, ok_bind, List.getElem?_cons_zero, List.getElem?_cons_succ, List.set_cons_zero, List.set_cons_succ, bc_len_s, bc_len_l, bc_len_t, c_eq, c_ne, c_in, c_nin, c_is, c_isn, c_lt, c_gt, c_ge, lt_i, gt_i, ge_s, no_s, eq_int, eq_str, in_sign, in_strs, Tx_size, Tx_len, b_add, b_sub, tr_b, c1]) ?_
  have hk : ((ds.filter fun d => decide (d.word = kadd)).map Deed.data).length ≤ ds.length := by rw [List.length_map]; exact List.length_filter_le _ _
  generalize ((ds.filter fun d => decide (d.word = kadd)).map Deed.data).length = k at hk
  have c2 := e_compR (C := C) (elt := .tup [.sub (.var 0) (.cst (.int 0)), .var 3]) (t := 3) (es := [.var 1]) (ifs := []) (ρ := [some (.d (change t ls ds)), some (vi k), none, none]) (σ := []) (σ₁ := []) (m := k) (fun _ => true) (fun i => markD (some (t, i))) hhd (by simp only [eA_1, eA_2, eA_4, eA_5, eA_6, eA_7, eA_10, eA_12, eA_13, eA_15, eA_16, eA_17, eA_18, eA_19, eB_1, eB_2, eO_1, eO_2, ok_bind, List.getElem?_cons_zero, List.getElem?_cons_succ, List.set_cons_zero, List.set_cons_succ, bc_len_s, bc_len_l, bc_len_t, c_eq, c_ne, c_in, c_nin, c_is, c_isn, c_lt, c_gt, c_ge, lt_i, gt_i, ge_s, no_s, eq_int, eq_str, in_sign, in_strs, Tx_size, Tx_len, b_add, b_sub, tr_b] <;> rfl) (by omega) (by omega) (fun i _ _ => by simp only [eF_1, eF_2]) (fun i _ _ _ => by
    simp only [eA_1, eA_2, eA_4, eA_5, eA_6, eA_7, eA_10, eA_12, eA_13, eA_15, eA_16, eA_17, eA_18, eA_19, eB_1, eB_2, eO_1, eO_2, ok_bind, List.getElem?_cons_zero, List.getElem?_cons_succ, List.set_cons_zero, List.set_cons_succ, bc_len_s, bc_len_l, bc_len_t, c_eq, c_ne, c_in, c_nin, c_is, c_isn, c_lt, c_gt, c_ge, lt_i, gt_i, ge_s, no_s, eq_int, eq_str, in_sign, in_strs, Tx_size, Tx_len, b_add, b_sub, tr_b, sub_ch0, if_pos (len2 _ _), tup2]; rfl)
  rw [show (List.range (k : Int).toNat).filter (fun j : Nat => (fun _ : Int => true) (j : Int)) = List.range k from List.filter_eq_self.mpr (fun _ _ => rfl)] at c2
  exact go_ret c2 ⟨k, hk, rfl⟩
theorem ev_marks (t : List Nat) (ls : List (List Nat)) (ds : List Deed) (hds : ds.length ≤ 100) :
    ∃ k : Nat, k ≤ ds.length ∧ ∀ σ, callF P02 isExc fuel (n + 1) false .frz 18 [.d (change t ls ds)] σ = .ok (.d (.list ((List.range k).map fun j : Nat => markD (some (t, (j : Int)))))) σ := by
  obtain ⟨k, h1, h2⟩ := run_marks (C := ⟨callF P02 isExc fuel n, isExc, fuel, false⟩) rfl t ls ds hds
  exact ⟨k, h1, fun σ => frz_ok P18 rfl (run_ret rfl h2) rfl⟩
end
end Mine

namespace Mine
open PySem
structure Good (t : List Nat) (ls : List (List Nat)) (d : Deed) : Prop where
  shape : (∃ l, isLine l = true ∧ d.text = some l ∧ (d.word = kadd ∨ (d.word = kset ∧ d.mark ≠ none))) ∨ (d.word = kcut ∧ d.text = none ∧ d.mark ≠ none)
  mark : ∀ m, d.mark = some m → (m.1 = t ∨ m.1 ∈ ls) ∧ 0 ≤ m.2 ∧ m.2 < 1000000000
theorem Good.fits {t : List Nat} {ls : List (List Nat)} {d : Deed} (h : Good t ls d) : Fits d := by
  intro hw ht
  rcases h.shape with ⟨l, _, h2, _⟩ | ⟨h1, _, _⟩
  · rw [h2] at ht; cases ht
  · exact hw h1
theorem Good.ok {t : List Nat} {ls : List (List Nat)} {d : Deed} (h : Good t ls d) : deedOk d = true := by
  obtain ⟨w, m, x⟩ := d
  rcases h.shape with ⟨l, h1, h2, h3 | ⟨h3, h4⟩⟩ | ⟨h1, h2, h3⟩
  · obtain rfl : x = some l := h2
    obtain rfl : w = kadd := h3
    exact ok_add m l h1
  · obtain rfl : x = some l := h2
    obtain rfl : w = kset := h3
    cases m with
    | none => exact absurd rfl h4
    | some m => exact ok_set m l h1
  · obtain rfl : w = kcut := h1
    obtain rfl : x = none := h2
    cases m with
    | none => exact absurd rfl h3
    | some m => exact ok_cut m
theorem Good.unl {t : List Nat} {ls : List (List Nat)} {d : Deed} (h : Good t ls d) : unl t ls d = false := by
  obtain ⟨w, m, x⟩ := d
  cases m with
  | none => rfl
  | some m => rcases (h.mark m rfl).1 with e | e <;> simp [Mine.unl, e]
section
variable {fuel n : Nat} {hd : Bool} {σ : Store}
theorem run_deeds {C : Cfg} (hhd : C.hd = false) (hm : ∀ c k σ, C.cf false .frz 14 [vi c, vi k] σ = .ok (vi (mixed c k)) σ) (hl : ∀ c, ∃ l, isLine l = true ∧ ∀ σ, C.cf false .frz 16 [vi c] σ = .ok (vs l) σ)
    (t : List Nat) (c many : Int) (ls : List (List Nat)) (ms : List (List Nat × Int)) (h0 : 0 ≤ many) (h1 : many ≤ 100) (hms : ∀ m ∈ ms, m.1 ∈ ls ∧ 0 ≤ m.2 ∧ m.2 < 1000) (hml : ms.length ≤ 10000) :
    Ends (fun r => ∃ ds : List Deed, ds.length = many.toNat ∧ (∀ d ∈ ds, Good t ls d) ∧ r = .ok (.ret (.ref 0)) [.list (ds.map fun d => .d d.data)])
      (execSs C Flaw_deeds.body [some (vs t), some (vi c), some (vi many), some (.d (.list (ms.map fun m => markD (some m)))), none, none, none, none, none, none, none, none, none] []) := by
  show Ends _ (execSs C [_, _, _, _] _ [])
  refine go_asg (v := .ref 0) (σ₁ := [.list []]) (by simp only [eA_1, eA_2, eA_4, eA_5, eA_6, eA_7, eA_10, eA_12, eA_13, eA_15, eA_16, eA_17, eA_18, eA_19, eB_1, eB_2, eO_1, eO_2, ok_bind, List.getElem?_cons_zero, List.getElem?_cons_succ, List.set_cons_zero, List.set_cons_succ, bc_len_s, bc_len_l, bc_len_t, c_eq, c_ne, c_in, c_nin, c_is, c_isn, c_lt, c_gt, c_ge, lt_i, gt_i, ge_s, no_s, eq_int, eq_str, in_sign, in_strs, Tx_size, Tx_len, b_add, b_sub, tr_b, mkList] <;> rfl) ?_
  refine go_asg (v := vi 0) (σ₁ := [.list []]) (by simp only [eA_1, eA_2, eA_4, eA_5, eA_6, eA_7, eA_10, eA_12, eA_13, eA_15, eA_16, eA_17, eA_18, eA_19, eB_1, eB_2, eO_1, eO_2, ok_bind, List.getElem?_cons_zero, List.getElem?_cons_succ, List.set_cons_zero, List.set_cons_succ, bc_len_s, bc_len_l, bc_len_t, c_eq, c_ne, c_in, c_nin, c_is, c_isn, c_lt, c_gt, c_ge, lt_i, gt_i, ge_s, no_s, eq_int, eq_str, in_sign, in_strs, Tx_size, Tx_len, b_add, b_sub, tr_b] <;> rfl) ?_
  refine go_foldl (l := List.range many.toNat) (w := fun j : Nat => vi (j : Int)) (σ₁ := [.list []])
    (fun pre (s : List Deed × Nat) => s.2 ≤ pre.length ∧ s.1.length = pre.length ∧ ∀ d ∈ s.1, Good t ls d)
    (fun (s : List Deed × Nat) ρ σ => (∃ z6 z7 z8 z9 z10 z11 z12, ρ = [some (vs t), some (vi c), some (vi many), some (.d (.list (ms.map fun m => markD (some m)))), some (.ref 0), some (vi s.2), z6, z7, z8, z9, z10, z11, z12]) ∧ σ = [.list (s.1.map fun d => .d d.data)]) ([], 0)
    (it_range hhd (by simp only [eA_1, eA_2, eA_4, eA_5, eA_6, eA_7, eA_10, eA_12, eA_13, eA_15, eA_16, eA_17, eA_18, eA_19, eB_1, eB_2, eO_1, eO_2, ok_bind, List.getElem?_cons_zero, List.getElem?_cons_succ, List.set_cons_zero, List.set_cons_succ, bc_len_s, bc_len_l, bc_len_t, c_eq, c_ne, c_in, c_nin, c_is, c_isn, c_lt, c_gt, c_ge, lt_i, gt_i, ge_s, no_s, eq_int, eq_str, in_sign, in_strs, Tx_size, Tx_len, b_add, b_sub, tr_b] <;> rfl) (by omega) (by omega)) ⟨Nat.le_refl _, rfl, by simp⟩ ⟨⟨none, none, none, none, none, none, none, rfl⟩, rfl⟩ ?_ ?_
  · rintro p j q ⟨ds, own⟩ ρ σ hp ⟨g0, g1, g2⟩ ⟨⟨z6, z7, z8, z9, z10, z11, z12, rfl⟩, rfl⟩
    have hlen : ds.length < 100 ∧ own ≤ 100 := by
      have := congrArg List.length hp
      simp at this g0 g1; omega
    have put : ∀ d : Deed, methcall .append true (.ref 0) [.d d.data] [.list (ds.map fun d => .d d.data)] = .ok (.d .none) [.list ((ds ++ [d]).map fun d => .d d.data)] := by
      intro d
      have hll : (ds.map fun d => V.d d.data).length < line := by simp [line]; omega
      simp only [methcall, methcall1, appendTo, List.getElem?_cons_zero, if_pos hll, List.set_cons_zero]
      simp
    have hpre : methPre .append (.ref 0) [.list (ds.map fun d => V.d d.data)] = true := rfl
    have fin : ∀ (d : Deed) (own' : Nat) (ρ : Vars), own' ≤ own + 1 → Good t ls d → (∃ z6 z7 z8 z9 z10 z11 z12, ρ = [some (vs t), some (vi c), some (vi many), some (.d (.list (ms.map fun m => markD (some m)))), some (.ref 0), some (vi own'), z6, z7, z8, z9, z10, z11, z12]) →
        ∃ (s' : List Deed × Nat) (ρ' : Vars) (σ' : Store), (s'.2 ≤ (p ++ [j]).length ∧ s'.1.length = (p ++ [j]).length ∧ ∀ d ∈ s'.1, Good t ls d) ∧ ((∃ z6 z7 z8 z9 z10 z11 z12, ρ' = [some (vs t), some (vi c), some (vi many), some (.d (.list (ms.map fun m => markD (some m)))), some (.ref 0), some (vi s'.2), z6, z7, z8, z9, z10, z11, z12]) ∧ σ' = [.list (s'.1.map fun d => .d d.data)]) ∧ Res.ok (Fl.next ρ) [.list ((ds ++ [d]).map fun d => .d d.data)] = .ok (.next ρ') σ' := by
      intro d own' ρ ho hd hρ
      refine ⟨(ds ++ [d], own'), ρ, _, ⟨by simp at g0 ⊢; omega, by simp at g1 ⊢; omega, ?_⟩, ⟨hρ, rfl⟩, rfl⟩
      intro e he
      simp only [List.mem_append, List.mem_singleton] at he
      rcases he with he | rfl
      · exact g2 e he
      · exact hd
    show Ends (fun r => ∃ (s' : List Deed × Nat) (ρ' : Vars) (σ' : Store), (s'.2 ≤ (p ++ [j]).length ∧ s'.1.length = (p ++ [j]).length ∧ ∀ d ∈ s'.1, Good t ls d) ∧ ((∃ z6 z7 z8 z9 z10 z11 z12, ρ' = [some (vs t), some (vi c), some (vi many), some (.d (.list (ms.map fun m => markD (some m)))), some (.ref 0), some (vi s'.2), z6, z7, z8, z9, z10, z11, z12]) ∧ σ' = [.list (s'.1.map fun d => .d d.data)]) ∧ r = .ok (.next ρ') σ') (execSs C [_, _, _, _, _] _ _)
    have c1 := e_compR (C := C) (elt := .tup [.var 0, .var 12]) (t := 12) (es := [.var 5]) (ifs := []) (ρ := [some (vs t), some (vi c), some (vi many), some (.d (.list (ms.map fun m => markD (some m)))), some (.ref 0), some (vi own), some (vi j), z7, z8, z9, z10, z11, z12]) (σ := [.list (ds.map fun d => .d d.data)]) (σ₁ := [.list (ds.map fun d => .d d.data)]) (m := own) (fun _ => true) (fun i => markD (some (t, i))) hhd (by simp only [eA_1, eA_2, eA_4, eA_5, eA_6, eA_7, eA_10, eA_12, eA_13, eA_15, eA_16, eA_17, eA_18, eA_19, eB_1, eB_2, eO_1, eO_2, ok_bind, List.getElem?_cons_zero, List.getElem?_cons_succ, List.set_cons_zero, List.set_cons_succ, bc_len_s, bc_len_l, bc_len_t, c_eq, c_ne, c_in, c_nin, c_is, c_isn, c_lt, c_gt, c_ge, lt_i, gt_i, ge_s, no_s, eq_int, eq_str, in_sign, in_strs, Tx_size, Tx_len, b_add, b_sub, tr_b] <;> rfl) (by omega) (by omega) (fun i _ _ => by simp only [eF_1, eF_2]) (fun i _ _ _ => by
      simp only [eA_1, eA_2, eA_4, eA_5, eA_6, eA_7, eA_10, eA_12, eA_13, eA_15, eA_16, eA_17, eA_18, eA_19, eB_1, eB_2, eO_1, eO_2, ok_bind, List.getElem?_cons_zero, List.getElem?_cons_succ, List.set_cons_zero, List.set_cons_succ, bc_len_s, bc_len_l, bc_len_t, c_eq, c_ne, c_in, c_nin, c_is, c_isn, c_lt, c_gt, c_ge, lt_i, gt_i, ge_s, no_s, eq_int, eq_str, in_sign, in_strs, Tx_size, Tx_len, b_add, b_sub, tr_b, if_pos (len2 _ _), tup2]; rfl)
    rw [show (List.range (own : Int).toNat).filter (fun j : Nat => (fun _ : Int => true) (j : Int)) = List.range own from List.filter_eq_self.mpr (fun _ _ => rfl)] at c1
    obtain ⟨ks, hks, hks1, hks2⟩ : ∃ ks : List (List Nat × Int), evalE C (.bin true .Add (.var 3) (.comp true (.tup [.var 0, .var 12]) [12] (.range [.var 5]) [])) [some (vs t), some (vi c), some (vi many), some (.d (.list (ms.map fun m => markD (some m)))), some (.ref 0), some (vi own), some (vi j), z7, z8, z9, z10, z11, z12] [.list (ds.map fun d => .d d.data)] = .ok (.d (.list (ks.map fun m => markD (some m)))) [.list (ds.map fun d => .d d.data)] ∧ (∀ m ∈ ks, (m.1 = t ∨ m.1 ∈ ls) ∧ 0 ≤ m.2 ∧ m.2 < 1000000000) ∧ ks.length ≤ 10100 := by
      refine ⟨ms ++ (List.range own).map (fun j : Nat => (t, (j : Int))), ?_, ?_, ?_⟩
      · have hv : evalE C (.var 3) [some (vs t), some (vi c), some (vi many), some (.d (.list (ms.map fun m => markD (some m)))), some (.ref 0), some (vi own), some (vi j), z7, z8, z9, z10, z11, z12] [.list (ds.map fun d => .d d.data)] = .ok (.d (.list (ms.map fun m => markD (some m)))) [.list (ds.map fun d => .d d.data)] := (by simp only [eA_1, eA_2, eA_4, eA_5, eA_6, eA_7, eA_10, eA_12, eA_13, eA_15, eA_16, eA_17, eA_18, eA_19, eB_1, eB_2, eO_1, eO_2, ok_bind, List.getElem?_cons_zero, List.getElem?_cons_succ, List.set_cons_zero, List.set_cons_succ, bc_len_s, bc_len_l, bc_len_t, c_eq, c_ne, c_in, c_nin, c_is, c_isn, c_lt, c_gt, c_ge, lt_i, gt_i, ge_s, no_s, eq_int, eq_str, in_sign, in_strs, Tx_size, Tx_len, b_add, b_sub, tr_b] <;> rfl)
        rw [e_bin hv c1, b_catL _ _ (by simp [line]; omega)]
        simp [List.map_map]
      · intro m hm
        simp only [List.mem_append, List.mem_map, List.mem_range] at hm
        rcases hm with hm | ⟨i, hi, rfl⟩
        · have := hms m hm; exact ⟨.inr this.1, this.2.1, by omega⟩
        · exact ⟨.inl rfl, by show (0 : Int) ≤ i; omega, by show (i : Int) < _; omega⟩
      · simp; omega
    refine go_asg hks ?_
    refine go_asg (v := vi (mixed c j)) (σ₁ := [.list (ds.map fun d => .d d.data)]) (by simp only [eA_1, eA_2, eA_4, eA_5, eA_6, eA_7, eA_10, eA_12, eA_13, eA_15, eA_16, eA_17, eA_18, eA_19, eB_1, eB_2, eO_1, eO_2, ok_bind, List.getElem?_cons_zero, List.getElem?_cons_succ, List.set_cons_zero, List.set_cons_succ, bc_len_s, bc_len_l, bc_len_t, c_eq, c_ne, c_in, c_nin, c_is, c_isn, c_lt, c_gt, c_ge, lt_i, gt_i, ge_s, no_s, eq_int, eq_str, in_sign, in_strs, Tx_size, Tx_len, b_add, b_sub, tr_b, hm, hhd] <;> rfl) ?_
    generalize mixed c j = L
    have hat := fmod_lt (L.fdiv 5) (j := (ks.length : Int) + 1) arp
    refine go_asg (v := vi ((L.fdiv 5).fmod ((ks.length : Int) + 1))) (σ₁ := [.list (ds.map fun d => .d d.data)]) (by simp only [eA_1, eA_2, eA_4, eA_5, eA_6, eA_7, eA_10, eA_12, eA_13, eA_15, eA_16, eA_17, eA_18, eA_19, eB_1, eB_2, eO_1, eO_2, ok_bind, List.getElem?_cons_zero, List.getElem?_cons_succ, List.set_cons_zero, List.set_cons_succ, bc_len_s, bc_len_l, bc_len_t, c_eq, c_ne, c_in, c_nin, c_is, c_isn, c_lt, c_gt, c_ge, lt_i, gt_i, ge_s, no_s, eq_int, eq_str, in_sign, in_strs, Tx_size, Tx_len, b_add, b_sub, tr_b, List.length_map, b_div (show (5 : Int) ≠ 0 by decide), b_mod (arq (n := ks.length))] <;> rfl) ?_
    generalize (L.fdiv 5).fmod ((ks.length : Int) + 1) = a at hat
    obtain ⟨l, hl1, hl2⟩ := hl (L.fdiv 365)
    refine go_asg (v := vs l) (σ₁ := [.list (ds.map fun d => .d d.data)]) (by simp only [eA_1, eA_2, eA_4, eA_5, eA_6, eA_7, eA_10, eA_12, eA_13, eA_15, eA_16, eA_17, eA_18, eA_19, eB_1, eB_2, eO_1, eO_2, ok_bind, List.getElem?_cons_zero, List.getElem?_cons_succ, List.set_cons_zero, List.set_cons_succ, bc_len_s, bc_len_l, bc_len_t, c_eq, c_ne, c_in, c_nin, c_is, c_isn, c_lt, c_gt, c_ge, lt_i, gt_i, ge_s, no_s, eq_int, eq_str, in_sign, in_strs, Tx_size, Tx_len, b_add, b_sub, tr_b, hl2, hhd, b_div (show (365 : Int) ≠ 0 by decide)] <;> rfl) ?_
    have hL5 := fmod_lt L (j := 5) (by decide)
    have pick : ∀ i : Int, 0 ≤ i → i < ks.length → ∃ m, m ∈ ks ∧ ∀ σ, subscr (.d (.list (ks.map fun m => markD (some m)))) (vi i) σ = some (.d (markD (some m))) := fun i i0 i1 => by
      obtain ⟨m, hm1⟩ : ∃ m, ks[i.toNat]? = some m := ⟨_, List.getElem?_eq_getElem (by omega)⟩
      exact ⟨m, List.mem_of_getElem? hm1, fun σ => at_list _ i0 (by omega) (by simp [hm1])⟩
    have hn : evalE C (.not (.var 7)) [some (vs t), some (vi c), some (vi many), some (.d (.list (ms.map fun m => markD (some m)))), some (.ref 0), some (vi own), some (vi j), some (.d (.list (ks.map fun m => markD (some m)))), some (vi L), some (vi a), some (vs l), z11, z12] [.list (ds.map fun d => .d d.data)] = .ok (vb ks.isEmpty) [.list (ds.map fun d => .d d.data)] := by
      rw [eA_8]
      simp only [eA_1, eA_2, eA_4, eA_5, eA_6, eA_7, eA_10, eA_12, eA_13, eA_15, eA_16, eA_17, eA_18, eA_19, eB_1, eB_2, eO_1, eO_2, ok_bind, List.getElem?_cons_zero, List.getElem?_cons_succ, List.set_cons_zero, List.set_cons_succ, bc_len_s, bc_len_l, bc_len_t, c_eq, c_ne, c_in, c_nin, c_is, c_isn, c_lt, c_gt, c_ge, lt_i, gt_i, ge_s, no_s, eq_int, eq_str, in_sign, in_strs, Tx_size, Tx_len, b_add, b_sub, tr_b]
      show Res.ok (V.d (.bool (!(!(ks.map fun m => markD (some m)).isEmpty)))) _ = _
      rw [Bool.not_not, List.isEmpty_map]
    refine go_ite (t := decide (L.fmod 5 < 3) || ks.isEmpty) (σ₁ := [.list (ds.map fun d => .d d.data)]) (e_or2 (by simp only [eA_1, eA_2, eA_4, eA_5, eA_6, eA_7, eA_10, eA_12, eA_13, eA_15, eA_16, eA_17, eA_18, eA_19, eB_1, eB_2, eO_1, eO_2, ok_bind, List.getElem?_cons_zero, List.getElem?_cons_succ, List.set_cons_zero, List.set_cons_succ, bc_len_s, bc_len_l, bc_len_t, c_eq, c_ne, c_in, c_nin, c_is, c_isn, c_lt, c_gt, c_ge, lt_i, gt_i, ge_s, no_s, eq_int, eq_str, in_sign, in_strs, Tx_size, Tx_len, b_add, b_sub, tr_b, b_mod (show (5 : Int) ≠ 0 by decide)] <;> rfl) (fun _ => hn)) (fun h => ?_) (fun h => ?_)
    · refine go_asg (v := .d .none) (σ₁ := [.list (ds.map fun d => .d d.data)]) (by simp only [eA_1, eA_2, eA_4, eA_5, eA_6, eA_7, eA_10, eA_12, eA_13, eA_15, eA_16, eA_17, eA_18, eA_19, eB_1, eB_2, eO_1, eO_2, ok_bind, List.getElem?_cons_zero, List.getElem?_cons_succ, List.set_cons_zero, List.set_cons_succ, bc_len_s, bc_len_l, bc_len_t, c_eq, c_ne, c_in, c_nin, c_is, c_isn, c_lt, c_gt, c_ge, lt_i, gt_i, ge_s, no_s, eq_int, eq_str, in_sign, in_strs, Tx_size, Tx_len, b_add, b_sub, tr_b] <;> rfl) ?_
      refine go_mid (M := fun ρ σ => (∃ o : Option (List Nat × Int), (∀ m, o = some m → m ∈ ks) ∧ ρ = [some (vs t), some (vi c), some (vi many), some (.d (.list (ms.map fun m => markD (some m)))), some (.ref 0), some (vi own), some (vi j), some (.d (.list (ks.map fun m => markD (some m)))), some (vi L), some (vi a), some (vs l), some (.d (markD o)), z12]) ∧ σ = [.list (ds.map fun d => .d d.data)]) ?_ ?_
      · refine go_ite (t := decide (a > 0)) (σ₁ := [.list (ds.map fun d => .d d.data)]) (by simp only [eA_1, eA_2, eA_4, eA_5, eA_6, eA_7, eA_10, eA_12, eA_13, eA_15, eA_16, eA_17, eA_18, eA_19, eB_1, eB_2, eO_1, eO_2, ok_bind, List.getElem?_cons_zero, List.getElem?_cons_succ, List.set_cons_zero, List.set_cons_succ, bc_len_s, bc_len_l, bc_len_t, c_eq, c_ne, c_in, c_nin, c_is, c_isn, c_lt, c_gt, c_ge, lt_i, gt_i, ge_s, no_s, eq_int, eq_str, in_sign, in_strs, Tx_size, Tx_len, b_add, b_sub, tr_b] <;> rfl) (fun h => ?_) (fun h => ?_)
        · simp only [decide_eq_true_eq] at h
          obtain ⟨m, hm1, hm2⟩ := pick (a - 1) (by omega) (by omega)
          exact go_asg (v := .d (markD (some m))) (σ₁ := [.list (ds.map fun d => .d d.data)]) (by simp only [eA_1, eA_2, eA_4, eA_5, eA_6, eA_7, eA_10, eA_12, eA_13, eA_15, eA_16, eA_17, eA_18, eA_19, eB_1, eB_2, eO_1, eO_2, ok_bind, List.getElem?_cons_zero, List.getElem?_cons_succ, List.set_cons_zero, List.set_cons_succ, bc_len_s, bc_len_l, bc_len_t, c_eq, c_ne, c_in, c_nin, c_is, c_isn, c_lt, c_gt, c_ge, lt_i, gt_i, ge_s, no_s, eq_int, eq_str, in_sign, in_strs, Tx_size, Tx_len, b_add, b_sub, tr_b, hm2] <;> rfl) (go_nil ⟨_, _, ⟨⟨some m, (fun m' e => by cases e; exact hm1), rfl⟩, rfl⟩, rfl⟩)
        · exact go_nil ⟨_, _, ⟨⟨none, (fun m' e => by cases e), rfl⟩, rfl⟩, rfl⟩
      rintro _ _ ⟨⟨o, ho, rfl⟩, rfl⟩
      have hput := put ⟨kadd, o, some l⟩
      refine go_exp (v := .d .none) (σ₁ := [.list ((ds ++ [(⟨kadd, o, some l⟩ : Deed)]).map fun d : Deed => V.d d.data)]) ?_ ?_
      · simp only [eA_1, eA_2, eA_4, eA_5, eA_6, eA_7, eA_10, eA_12, eA_13, eA_15, eA_16, eA_17, eA_18, eA_19, eB_1, eB_2, eO_1, eO_2, ok_bind, List.getElem?_cons_zero, List.getElem?_cons_succ, List.set_cons_zero, List.set_cons_succ, bc_len_s, bc_len_l, bc_len_t, c_eq, c_ne, c_in, c_nin, c_is, c_isn, c_lt, c_gt, c_ge, lt_i, gt_i, ge_s, no_s, eq_int, eq_str, in_sign, in_strs, Tx_size, Tx_len, b_add, b_sub, tr_b, hpre, if_true, if_pos (len3 _ _ _), tup3, k_add]
        exact hput
      · refine go_asg (v := vi ((own : Int) + 1)) (σ₁ := [.list ((ds ++ [(⟨kadd, o, some l⟩ : Deed)]).map fun d : Deed => V.d d.data)]) (by simp only [eA_1, eA_2, eA_4, eA_5, eA_6, eA_7, eA_10, eA_12, eA_13, eA_15, eA_16, eA_17, eA_18, eA_19, eB_1, eB_2, eO_1, eO_2, ok_bind, List.getElem?_cons_zero, List.getElem?_cons_succ, List.set_cons_zero, List.set_cons_succ, bc_len_s, bc_len_l, bc_len_t, c_eq, c_ne, c_in, c_nin, c_is, c_isn, c_lt, c_gt, c_ge, lt_i, gt_i, ge_s, no_s, eq_int, eq_str, in_sign, in_strs, Tx_size, Tx_len, b_add, b_sub, tr_b] <;> rfl) (go_nil (fin ⟨kadd, o, some l⟩ (own + 1) _ (Nat.le_refl _) ⟨.inl ⟨l, hl1, rfl, .inl rfl⟩, fun m e => hks1 m (ho m e)⟩ ⟨_, _, _, _, _, _, _, rfl⟩))
    · simp only [Bool.or_eq_false_iff, decide_eq_false_iff_not] at h
      have hpos : 0 < ks.length := by
        cases ks with
        | nil => cases h.2
        | cons _ _ => simp
      have hi := fmod_lt a (j := (ks.length : Int)) (by omega)
      obtain ⟨m, hm1, hm2⟩ := pick (a.fmod ks.length) hi.1 hi.2
      refine go_ite (t := decide (L.fmod 5 = 3)) (σ₁ := [.list (ds.map fun d => .d d.data)]) (by simp only [eA_1, eA_2, eA_4, eA_5, eA_6, eA_7, eA_10, eA_12, eA_13, eA_15, eA_16, eA_17, eA_18, eA_19, eB_1, eB_2, eO_1, eO_2, ok_bind, List.getElem?_cons_zero, List.getElem?_cons_succ, List.set_cons_zero, List.set_cons_succ, bc_len_s, bc_len_l, bc_len_t, c_eq, c_ne, c_in, c_nin, c_is, c_isn, c_lt, c_gt, c_ge, lt_i, gt_i, ge_s, no_s, eq_int, eq_str, in_sign, in_strs, Tx_size, Tx_len, b_add, b_sub, tr_b, b_mod (show (5 : Int) ≠ 0 by decide)] <;> rfl) (fun h => ?_) (fun h => ?_)
      · have hput := put ⟨kcut, some m, none⟩
        refine go_exp (v := .d .none) (σ₁ := [.list ((ds ++ [(⟨kcut, some m, none⟩ : Deed)]).map fun d : Deed => V.d d.data)]) ?_ (go_nil (fin ⟨kcut, some m, none⟩ own [some (vs t), some (vi c), some (vi many), some (.d (.list (ms.map fun m => markD (some m)))), some (.ref 0), some (vi own), some (vi j), some (.d (.list (ks.map fun m => markD (some m)))), some (vi L), some (vi a), some (vs l), z11, z12] (Nat.le_succ _) ⟨.inr ⟨rfl, rfl, fun e => by cases e⟩, fun m' e => by cases e; exact hks1 m hm1⟩ ⟨_, _, _, _, _, _, _, rfl⟩))
        simp only [eA_1, eA_2, eA_4, eA_5, eA_6, eA_7, eA_10, eA_12, eA_13, eA_15, eA_16, eA_17, eA_18, eA_19, eB_1, eB_2, eO_1, eO_2, ok_bind, List.getElem?_cons_zero, List.getElem?_cons_succ, List.set_cons_zero, List.set_cons_succ, bc_len_s, bc_len_l, bc_len_t, c_eq, c_ne, c_in, c_nin, c_is, c_isn, c_lt, c_gt, c_ge, lt_i, gt_i, ge_s, no_s, eq_int, eq_str, in_sign, in_strs, Tx_size, Tx_len, b_add, b_sub, tr_b, hpre, if_true, if_pos (len2 _ _), tup2, k_cut, List.length_map, b_mod (ars hpos), hm2]
        exact hput
      · have hput := put ⟨kset, some m, some l⟩
        refine go_exp (v := .d .none) (σ₁ := [.list ((ds ++ [(⟨kset, some m, some l⟩ : Deed)]).map fun d : Deed => V.d d.data)]) ?_ (go_nil (fin ⟨kset, some m, some l⟩ own [some (vs t), some (vi c), some (vi many), some (.d (.list (ms.map fun m => markD (some m)))), some (.ref 0), some (vi own), some (vi j), some (.d (.list (ks.map fun m => markD (some m)))), some (vi L), some (vi a), some (vs l), z11, z12] (Nat.le_succ _) ⟨.inl ⟨l, hl1, rfl, .inr ⟨rfl, fun e => by cases e⟩⟩, fun m' e => by cases e; exact hks1 m hm1⟩ ⟨_, _, _, _, _, _, _, rfl⟩))
        simp only [eA_1, eA_2, eA_4, eA_5, eA_6, eA_7, eA_10, eA_12, eA_13, eA_15, eA_16, eA_17, eA_18, eA_19, eB_1, eB_2, eO_1, eO_2, ok_bind, List.getElem?_cons_zero, List.getElem?_cons_succ, List.set_cons_zero, List.set_cons_succ, bc_len_s, bc_len_l, bc_len_t, c_eq, c_ne, c_in, c_nin, c_is, c_isn, c_lt, c_gt, c_ge, lt_i, gt_i, ge_s, no_s, eq_int, eq_str, in_sign, in_strs, Tx_size, Tx_len, b_add, b_sub, tr_b, hpre, if_true, if_pos (len3 _ _ _), tup3, k_set, List.length_map, b_mod (ars hpos), hm2]
        exact hput
  · rintro ⟨ds, own⟩ ρ σ ⟨g0, g1, g2⟩ ⟨⟨z6, z7, z8, z9, z10, z11, z12, rfl⟩, rfl⟩
    exact go_ret (v := .ref 0) (σ₁ := [.list (ds.map fun d => .d d.data)]) (by simp only [eA_1, eA_2, eA_4, eA_5, eA_6, eA_7, eA_10, eA_12, eA_13, eA_15, eA_16, eA_17, eA_18, eA_19, eB_1, eB_2, eO_1, eO_2, ok_bind, List.getElem?_cons_zero, List.getElem?_cons_succ, List.set_cons_zero, List.set_cons_succ, bc_len_s, bc_len_l, bc_len_t, c_eq, c_ne, c_in, c_nin, c_is, c_isn, c_lt, c_gt, c_ge, lt_i, gt_i, ge_s, no_s, eq_int, eq_str, in_sign, in_strs, Tx_size, Tx_len, b_add, b_sub, tr_b] <;> rfl) ⟨ds, by rw [g1]; simp, g2, rfl⟩
theorem ev_deeds (t : List Nat) (c many : Int) (ls : List (List Nat)) (ms : List (List Nat × Int)) (h0 : 0 ≤ many) (h1 : many ≤ 100) (hms : ∀ m ∈ ms, m.1 ∈ ls ∧ 0 ≤ m.2 ∧ m.2 < 1000) (hml : ms.length ≤ 10000) :
    ∃ ds : List Deed, ds.length = many.toNat ∧ (∀ d ∈ ds, Good t ls d) ∧ ∀ σ, callF P02 isExc fuel (n + 2) false .frz 19 [vs t, vi c, vi many, .d (.list (ms.map fun m => markD (some m)))] σ = .ok (.d (.list (ds.map Deed.data))) σ := by
  obtain ⟨ds, k1, k2, k3⟩ := run_deeds (C := ⟨callF P02 isExc fuel (n + 1), isExc, fuel, false⟩) rfl (fun c k σ => ev_mixed c k) (fun c => ev_line c) t c many ls ms h0 h1 hms hml
  exact ⟨ds, k1, k2, fun σ => frz_ok P19 rfl (run_ret rfl k3) (snap_ref (by simp))⟩
end
end Mine

namespace Mine
open PySem
section
variable {α : Type} {C : Cfg} {ρ : Vars} {σ σ₁ : Store} {e : E} {it : It} {body r : List S} {l : List α} {Q : Res Fl → Prop} {x y : Nat}
theorem enumV_d (a : List PyData) (k : Nat) : enumV k (a.map .d) = (a.zipIdx k).map fun p => V.d (.tuple [.int (p.2 : Int), p.1]) := by
  induction a generalizing k with
  | nil => rfl
  | cons x a ih => simp only [List.map_cons, enumV, List.zipIdx_cons, ih]; rfl
theorem it_enum {xs : List PyData} (hd : C.hd = false) (h : evalE C e ρ σ = .ok (.d (.list xs)) σ₁) : evalIt C (.enum e) ρ σ = .ok (.items ((xs.zipIdx).map fun p => V.d (.tuple [.int (p.2 : Int), p.1]))) σ₁ := by
  rw [eI_3, h, ok_bind]
  simp only [dlist, hd]
  rw [← enumV_d]; rfl
theorem go_foldT {γ : Type} (u v : α → PyData) (R : List α → γ → Prop) (I : γ → Vars → Store → Prop) (s : γ) (hhd : C.hd = false) (hit : evalIt C it ρ σ = .ok (.items (l.map fun a => V.d (.tuple [u a, v a]))) σ₁) (hR : R [] s) (hI : I s ρ σ₁)
    (hf : ∀ p a q s ρ σ, l = p ++ a :: q → R p s → I s ρ σ → ∃ s' ρ' σ', R (p ++ [a]) s' ∧ I s' ρ' σ' ∧ execSs C body ((ρ.set x (some (.d (u a)))).set y (some (.d (v a)))) σ = .ok (.next ρ') σ')
    (k : ∀ s' ρ' σ', R l s' → I s' ρ' σ' → Ends Q (execSs C r ρ' σ')) : Ends Q (execSs C (.for_ [x, y] it body :: r) ρ σ) := by
  have hs : ∀ a ρ σ, forStep C.hd [x, y] (fun ρ σ => execSs C body ρ σ) (V.d (.tuple [u a, v a])) ρ σ = execSs C body ((ρ.set x (some (.d (u a)))).set y (some (.d (v a)))) σ := by
    intro a ρ σ; rw [hhd]; rfl
  obtain ⟨s', ρ', σ', h1, h2, h3⟩ := forGo_fold (f := forStep C.hd [x, y] (fun ρ σ => execSs C body ρ σ)) I (fun a => V.d (.tuple [u a, v a])) l R [] s ρ σ₁ hR hI (by
    intro p a q s ρ σ he hR hI
    rw [hs]
    exact hf p a q s ρ σ (by simpa using he) hR hI)
  rw [x_for hit, h3, ok_bind]
  exact k s' ρ' σ' (by simpa using h1) h2
end
abbrev Ch := List Nat × List (List Nat) × List Deed
noncomputable abbrev Ch.data (c : Ch) : PyData := change c.1 c.2.1 c.2.2
section
variable {fuel n : Nat} {hd : Bool} {σ : Store}
theorem idx_fst : ∀ (l : List Ch) (k : Nat), (l.zipIdx k).map (·.1.1) = l.map (·.1)
  | [], _ => rfl
  | _ :: l, k => by rw [List.zipIdx_cons, List.map_cons, List.map_cons, idx_fst l (k + 1)]
theorem sort_ref {isX : Nat → Nat → Option Bool} (l : List (List Nat)) (h : l.length < 64) : bcall isX hd .sorted false [.ref 0] [.list (l.map vs)] = .ok (.ref 1) [.list (l.map vs), .list ((isort l).map vs)] := by
  have h2 : (l.map Tx).length < 64 := by simpa using h
  show bSort false (.ref 0) [.list (l.map vs)] = _
  have hl : lstOf [.list (l.map vs)] (.ref 0) = some (l.map vs) := rfl
  have hm : (((isort l).map Tx).map fun s => V.d (.str s)).length ≤ line := by simp [isort_len, line]; omega
  simp only [bSort, hl, strsV_vs, if_pos h2, sortStr_Tx, mkList, if_pos hm]
  simp [List.map_map, Function.comp_def]
theorem run_leans {C : Cfg} (hhd : C.hd = false) (hm : ∀ c k σ, C.cf false .frz 14 [vi c, vi k] σ = .ok (vi (mixed c k)) σ) (c : Int) (cs : List Ch) (hcs : cs.length ≤ 60) :
    Ends (fun r => ∃ fs : List (List Nat), fs.Sublist (cs.map (·.1)) ∧ r = .ok (.ret (.ref 1)) [.list (fs.map vs), .list ((isort fs).map vs)])
      (execSs C Flaw_leans.body [some (vi c), some (.d (.list (cs.map Ch.data))), none, none, none, none, none] []) := by
  show Ends _ (execSs C [_, _, _, _] _ [])
  refine go_asg (v := vi (mixed c 1)) (σ₁ := []) (by simp only [eA_1, eA_2, eA_4, eA_5, eA_6, eA_7, eA_10, eA_12, eA_13, eA_15, eA_16, eA_17, eA_18, eA_19, eB_1, eB_2, eO_1, eO_2, ok_bind, List.getElem?_cons_zero, List.getElem?_cons_succ, List.set_cons_zero, List.set_cons_succ, bc_len_s, bc_len_l, bc_len_t, c_eq, c_ne, c_in, c_nin, c_is, c_isn, c_lt, c_gt, c_ge, lt_i, gt_i, ge_s, no_s, eq_int, eq_str, in_sign, in_strs, Tx_size, Tx_len, b_add, b_sub, tr_b, hm, hhd] <;> rfl) ?_
  refine go_asg (v := .ref 0) (σ₁ := [.list []]) (by simp only [eA_1, eA_2, eA_4, eA_5, eA_6, eA_7, eA_10, eA_12, eA_13, eA_15, eA_16, eA_17, eA_18, eA_19, eB_1, eB_2, eO_1, eO_2, ok_bind, List.getElem?_cons_zero, List.getElem?_cons_succ, List.set_cons_zero, List.set_cons_succ, bc_len_s, bc_len_l, bc_len_t, c_eq, c_ne, c_in, c_nin, c_is, c_isn, c_lt, c_gt, c_ge, lt_i, gt_i, ge_s, no_s, eq_int, eq_str, in_sign, in_strs, Tx_size, Tx_len, b_add, b_sub, tr_b, mkList] <;> rfl) ?_
  have hit := it_enum (C := C) (e := .var 1) (ρ := [some (vi c), some (.d (.list (cs.map Ch.data))), some (vi (mixed c 1)), some (.ref 0), none, none, none]) (σ := [.list []]) (σ₁ := [.list []]) (xs := cs.map Ch.data) hhd (by simp only [eA_1, eA_2, eA_4, eA_5, eA_6, eA_7, eA_10, eA_12, eA_13, eA_15, eA_16, eA_17, eA_18, eA_19, eB_1, eB_2, eO_1, eO_2, ok_bind, List.getElem?_cons_zero, List.getElem?_cons_succ, List.set_cons_zero, List.set_cons_succ, bc_len_s, bc_len_l, bc_len_t, c_eq, c_ne, c_in, c_nin, c_is, c_isn, c_lt, c_gt, c_ge, lt_i, gt_i, ge_s, no_s, eq_int, eq_str, in_sign, in_strs, Tx_size, Tx_len, b_add, b_sub, tr_b] <;> rfl)
  have hz : (cs.map Ch.data).zipIdx.map (fun p => V.d (.tuple [.int (p.2 : Int), p.1])) = cs.zipIdx.map fun p => V.d (.tuple [.int (p.2 : Int), Ch.data p.1]) := by
    rw [List.zipIdx_map, List.map_map]; rfl
  rw [hz] at hit
  refine go_foldT (l := cs.zipIdx) (σ₁ := [.list []]) (fun p => .int (p.2 : Int)) (fun p => Ch.data p.1) (fun pre (fs : List (List Nat)) => fs.Sublist (pre.map (·.1.1)))
    (fun (fs : List (List Nat)) ρ σ => (∃ L : Int, ∃ z4 z5 z6, ρ = [some (vi c), some (.d (.list (cs.map Ch.data))), some (vi L), some (.ref 0), z4, z5, z6]) ∧ σ = [.list (fs.map vs)]) [] hhd hit (List.Sublist.refl _) ⟨⟨_, none, none, none, rfl⟩, rfl⟩ ?_ ?_
  · rintro p ⟨ch, i⟩ q fs ρ σ hp g1 ⟨⟨L, z4, z5, z6, rfl⟩, rfl⟩
    have hlen : fs.length < 100 := by
      have h1 := g1.length_le
      have h2 := congrArg List.length hp
      simp at h1 h2; omega
    show Ends (fun r => ∃ (s' : List (List Nat)) (ρ' : Vars) (σ' : Store), s'.Sublist ((p ++ [(ch, i)]).map (·.1.1)) ∧ ((∃ L : Int, ∃ z4 z5 z6, ρ' = [some (vi c), some (.d (.list (cs.map Ch.data))), some (vi L), some (.ref 0), z4, z5, z6]) ∧ σ' = [.list (s'.map vs)]) ∧ r = .ok (.next ρ') σ') (execSs C [_, _, _, _] _ _)
    have h3 := fmod_lt c (j := 3) (by decide)
    have hne : (2 : Int) + c.fmod 3 ≠ 0 := by omega
    have ha : evalE C (.bop .And [.cmp .Eq (.var 4) (.bin true .Sub (.bcall .len true [.var 1]) (.cst (.int 1))), .cmp .Eq (.bin true .Mod (.var 0) (.cst (.int 7))) (.cst (.int 3))]) [some (vi c), some (.d (.list (cs.map Ch.data))), some (vi L), some (.ref 0), some (vi i), some (.d (Ch.data ch)), z6] [.list (fs.map vs)] = .ok (vb (decide ((i : Int) = (cs.map Ch.data).length - 1) && decide (c.fmod 7 = 3))) [.list (fs.map vs)] :=
      e_and2 (by simp only [eA_1, eA_2, eA_4, eA_5, eA_6, eA_7, eA_10, eA_12, eA_13, eA_15, eA_16, eA_17, eA_18, eA_19, eB_1, eB_2, eO_1, eO_2, ok_bind, List.getElem?_cons_zero, List.getElem?_cons_succ, List.set_cons_zero, List.set_cons_succ, bc_len_s, bc_len_l, bc_len_t, c_eq, c_ne, c_in, c_nin, c_is, c_isn, c_lt, c_gt, c_ge, lt_i, gt_i, ge_s, no_s, eq_int, eq_str, in_sign, in_strs, Tx_size, Tx_len, b_add, b_sub, tr_b] <;> rfl) (fun _ => (by simp only [eA_1, eA_2, eA_4, eA_5, eA_6, eA_7, eA_10, eA_12, eA_13, eA_15, eA_16, eA_17, eA_18, eA_19, eB_1, eB_2, eO_1, eO_2, ok_bind, List.getElem?_cons_zero, List.getElem?_cons_succ, List.set_cons_zero, List.set_cons_succ, bc_len_s, bc_len_l, bc_len_t, c_eq, c_ne, c_in, c_nin, c_is, c_isn, c_lt, c_gt, c_ge, lt_i, gt_i, ge_s, no_s, eq_int, eq_str, in_sign, in_strs, Tx_size, Tx_len, b_add, b_sub, tr_b, b_mod (show (7 : Int) ≠ 0 by decide)] <;> rfl))
    refine go_asg (v := vb (decide ((i : Int) = (cs.map Ch.data).length - 1) && decide (c.fmod 7 = 3))) (σ₁ := [.list (fs.map vs)]) ha ?_
    generalize (decide ((i : Int) = (cs.map Ch.data).length - 1) && decide (c.fmod 7 = 3)) = last
    refine go_mid (M := fun ρ σ => ∃ fs' : List (List Nat), fs'.Sublist ((p ++ [(ch, i)]).map (·.1.1)) ∧ ρ = [some (vi c), some (.d (.list (cs.map Ch.data))), some (vi L), some (.ref 0), some (vi i), some (.d (Ch.data ch)), some (vb last)] ∧ σ = [.list (fs'.map vs)]) ?_ ?_
    · refine go_ite (t := last || (decide (L.fmod (2 + c.fmod 3) = 0) && (decide (((cs.map Ch.data).length : Int) < 20) || decide ((i : Int).fmod 7 = (L.fdiv 4).fmod 7)))) (σ₁ := [.list (fs.map vs)])
        (e_or2 (by simp only [eA_1, eA_2, eA_4, eA_5, eA_6, eA_7, eA_10, eA_12, eA_13, eA_15, eA_16, eA_17, eA_18, eA_19, eB_1, eB_2, eO_1, eO_2, ok_bind, List.getElem?_cons_zero, List.getElem?_cons_succ, List.set_cons_zero, List.set_cons_succ, bc_len_s, bc_len_l, bc_len_t, c_eq, c_ne, c_in, c_nin, c_is, c_isn, c_lt, c_gt, c_ge, lt_i, gt_i, ge_s, no_s, eq_int, eq_str, in_sign, in_strs, Tx_size, Tx_len, b_add, b_sub, tr_b] <;> rfl) (fun _ => e_and2 (by simp only [eA_1, eA_2, eA_4, eA_5, eA_6, eA_7, eA_10, eA_12, eA_13, eA_15, eA_16, eA_17, eA_18, eA_19, eB_1, eB_2, eO_1, eO_2, ok_bind, List.getElem?_cons_zero, List.getElem?_cons_succ, List.set_cons_zero, List.set_cons_succ, bc_len_s, bc_len_l, bc_len_t, c_eq, c_ne, c_in, c_nin, c_is, c_isn, c_lt, c_gt, c_ge, lt_i, gt_i, ge_s, no_s, eq_int, eq_str, in_sign, in_strs, Tx_size, Tx_len, b_add, b_sub, tr_b, b_mod (show (3 : Int) ≠ 0 by decide), b_mod hne] <;> rfl) (fun _ => e_or2 (by simp only [eA_1, eA_2, eA_4, eA_5, eA_6, eA_7, eA_10, eA_12, eA_13, eA_15, eA_16, eA_17, eA_18, eA_19, eB_1, eB_2, eO_1, eO_2, ok_bind, List.getElem?_cons_zero, List.getElem?_cons_succ, List.set_cons_zero, List.set_cons_succ, bc_len_s, bc_len_l, bc_len_t, c_eq, c_ne, c_in, c_nin, c_is, c_isn, c_lt, c_gt, c_ge, lt_i, gt_i, ge_s, no_s, eq_int, eq_str, in_sign, in_strs, Tx_size, Tx_len, b_add, b_sub, tr_b] <;> rfl) (fun _ => (by simp only [eA_1, eA_2, eA_4, eA_5, eA_6, eA_7, eA_10, eA_12, eA_13, eA_15, eA_16, eA_17, eA_18, eA_19, eB_1, eB_2, eO_1, eO_2, ok_bind, List.getElem?_cons_zero, List.getElem?_cons_succ, List.set_cons_zero, List.set_cons_succ, bc_len_s, bc_len_l, bc_len_t, c_eq, c_ne, c_in, c_nin, c_is, c_isn, c_lt, c_gt, c_ge, lt_i, gt_i, ge_s, no_s, eq_int, eq_str, in_sign, in_strs, Tx_size, Tx_len, b_add, b_sub, tr_b, b_mod (show (7 : Int) ≠ 0 by decide), b_div (show (4 : Int) ≠ 0 by decide)] <;> rfl))))) (fun _ => ?_) (fun _ => ?_)
      · have hll : (fs.map vs).length < line := by simp [line]; omega
        have hput : methcall .append true (.ref 0) [vs ch.1] [.list (fs.map vs)] = .ok (.d .none) [.list ((fs ++ [ch.1]).map vs)] := by
          simp only [methcall, methcall1, appendTo, List.getElem?_cons_zero, if_pos hll, List.set_cons_zero]
          simp
        have hpre : methPre .append (.ref 0) [.list (fs.map vs)] = true := rfl
        refine go_exp (v := .d .none) (σ₁ := [.list ((fs ++ [ch.1]).map vs)]) ?_ (go_nil ⟨_, _, ⟨fs ++ [ch.1], by simpa using g1.append (List.Sublist.refl [ch.1]), rfl, rfl⟩, rfl⟩)
        simp only [eA_1, eA_2, eA_4, eA_5, eA_6, eA_7, eA_10, eA_12, eA_13, eA_15, eA_16, eA_17, eA_18, eA_19, eB_1, eB_2, eO_1, eO_2, ok_bind, List.getElem?_cons_zero, List.getElem?_cons_succ, List.set_cons_zero, List.set_cons_succ, bc_len_s, bc_len_l, bc_len_t, c_eq, c_ne, c_in, c_nin, c_is, c_isn, c_lt, c_gt, c_ge, lt_i, gt_i, ge_s, no_s, eq_int, eq_str, in_sign, in_strs, Tx_size, Tx_len, b_add, b_sub, tr_b, hpre, if_true, sub_ch0]
        exact hput
      · exact go_nil ⟨_, _, ⟨fs, by simpa using g1.trans (List.sublist_append_left _ [ch.1]), rfl, rfl⟩, rfl⟩
    rintro _ _ ⟨fs', k1, rfl, rfl⟩
    refine go_asg (v := vi (L.fdiv 3)) (σ₁ := [.list (fs'.map vs)]) (by simp only [eA_1, eA_2, eA_4, eA_5, eA_6, eA_7, eA_10, eA_12, eA_13, eA_15, eA_16, eA_17, eA_18, eA_19, eB_1, eB_2, eO_1, eO_2, ok_bind, List.getElem?_cons_zero, List.getElem?_cons_succ, List.set_cons_zero, List.set_cons_succ, bc_len_s, bc_len_l, bc_len_t, c_eq, c_ne, c_in, c_nin, c_is, c_isn, c_lt, c_gt, c_ge, lt_i, gt_i, ge_s, no_s, eq_int, eq_str, in_sign, in_strs, Tx_size, Tx_len, b_add, b_sub, tr_b, b_div (show (3 : Int) ≠ 0 by decide)] <;> rfl) ?_
    refine go_ite (t := decide (L.fdiv 3 < 100)) (σ₁ := [.list (fs'.map vs)]) (by simp only [eA_1, eA_2, eA_4, eA_5, eA_6, eA_7, eA_10, eA_12, eA_13, eA_15, eA_16, eA_17, eA_18, eA_19, eB_1, eB_2, eO_1, eO_2, ok_bind, List.getElem?_cons_zero, List.getElem?_cons_succ, List.set_cons_zero, List.set_cons_succ, bc_len_s, bc_len_l, bc_len_t, c_eq, c_ne, c_in, c_nin, c_is, c_isn, c_lt, c_gt, c_ge, lt_i, gt_i, ge_s, no_s, eq_int, eq_str, in_sign, in_strs, Tx_size, Tx_len, b_add, b_sub, tr_b] <;> rfl) (fun _ => ?_) (fun _ => ?_)
    · exact go_asg (v := vi (mixed c ((i : Int) + 2))) (σ₁ := [.list (fs'.map vs)]) (by simp only [eA_1, eA_2, eA_4, eA_5, eA_6, eA_7, eA_10, eA_12, eA_13, eA_15, eA_16, eA_17, eA_18, eA_19, eB_1, eB_2, eO_1, eO_2, ok_bind, List.getElem?_cons_zero, List.getElem?_cons_succ, List.set_cons_zero, List.set_cons_succ, bc_len_s, bc_len_l, bc_len_t, c_eq, c_ne, c_in, c_nin, c_is, c_isn, c_lt, c_gt, c_ge, lt_i, gt_i, ge_s, no_s, eq_int, eq_str, in_sign, in_strs, Tx_size, Tx_len, b_add, b_sub, tr_b, hm, hhd] <;> rfl) (go_nil ⟨fs', _, _, k1, ⟨⟨_, _, _, _, rfl⟩, rfl⟩, rfl⟩)
    · exact go_nil ⟨fs', _, _, k1, ⟨⟨_, _, _, _, rfl⟩, rfl⟩, rfl⟩
  · rintro fs ρ σ g1 ⟨⟨L, z4, z5, z6, rfl⟩, rfl⟩
    have g2 : fs.Sublist (cs.map (·.1)) := by
      have e : cs.zipIdx.map (·.1.1) = cs.map (·.1) := idx_fst cs 0
      rw [← e]; exact g1
    have hl := g2.length_le
    refine go_ret (v := .ref 1) (σ₁ := [.list (fs.map vs), .list ((isort fs).map vs)]) ?_ ⟨fs, g2, rfl⟩
    simp only [eA_1, eA_2, eA_4, eA_5, eA_6, eA_7, eA_10, eA_12, eA_13, eA_15, eA_16, eA_17, eA_18, eA_19, eB_1, eB_2, eO_1, eO_2, ok_bind, List.getElem?_cons_zero, List.getElem?_cons_succ, List.set_cons_zero, List.set_cons_succ, bc_len_s, bc_len_l, bc_len_t, c_eq, c_ne, c_in, c_nin, c_is, c_isn, c_lt, c_gt, c_ge, lt_i, gt_i, ge_s, no_s, eq_int, eq_str, in_sign, in_strs, Tx_size, Tx_len, b_add, b_sub, tr_b]
    exact sort_ref fs (by simp at hl; omega)
end
end Mine

namespace Mine
open PySem
section
variable {fuel n : Nat} {hd : Bool} {σ : Store}
theorem snapL_fresh (l : List (List Nat)) (k : Nat) : snapL (fresh σ (k + 1)) (l.map vs) = some (l.map fun t => .str (Tx t)) := by
  induction l with
  | nil => rfl
  | cons a l ih =>
    show (match snapL (fresh σ (k + 1)) (l.map vs) with | some xs => some (PyData.str (Tx a) :: xs) | none => none) = _
    rw [ih]; rfl
theorem fresh_ref {k : Nat} {l : List (List Nat)} (h : σ[k]? = some (.list (l.map vs))) : fresh σ 8 (.ref k) = some (dl l) := by
  show snapO (fresh σ 7) σ[k]? = _
  rw [h]
  show (match snapL (fresh σ 7) (l.map vs) with | some xs => some (PyData.list xs) | none => none) = _
  rw [snapL_fresh]
theorem ev_leans (c : Int) (cs : List Ch) (hcs : cs.length ≤ 60) : ∃ fs : List (List Nat), fs.Sublist (cs.map (·.1)) ∧ ∀ σ k, σ[k]? = some (.list (cs.map fun x => V.d x.data)) → callF P02 isExc fuel (n + 2) false .frz 17 [vi c, .ref k] σ = .ok (.d (dl (isort fs))) σ := by
  obtain ⟨fs, h1, h2⟩ := run_leans (C := ⟨callF P02 isExc fuel (n + 1), isExc, fuel, false⟩) rfl (fun c k σ => ev_mixed c k) c cs hcs
  refine ⟨fs, h1, fun σ k hk => ?_⟩
  refine frz_lent (xs := [vi c, .d (.list (cs.map Ch.data))]) P17 rfl ?_ (run_ret rfl h2) (fresh_ref rfl)
  have e1 : snap σ 8 (.ref k) = some (.list (cs.map Ch.data)) := snap_ref (by rw [hk, List.map_map]; rfl)
  have e : snap σ 8 (vi c) = some (.int c) := rfl
  simp only [lent, e, e1]
end
section
variable {α : Type} {C : Cfg} {ρ : Vars} {σ : Store} {it : It} {body r : List S} {cs : List α} {Q : Res Fl → Prop} {x k : Nat}
theorem forS_fold {γ : Type} {f : V → Vars → Store → Res Fl} (w : α → V) (R : List α → γ → Prop) (I : γ → Vars → Prop) (hk : σ[k]? = some (.list (cs.map w)))
    (hf : ∀ p a q s ρ, cs = p ++ a :: q → R p s → I s ρ → ∃ s' ρ', R (p ++ [a]) s' ∧ I s' ρ' ∧ f (w a) ρ σ = .ok (.next ρ') σ) :
    ∀ (l pre : List α) (s : γ) (ρ : Vars), cs = pre ++ l → R pre s → I s ρ → ∃ s' ρ', R cs s' ∧ I s' ρ' ∧ forS f (l.length + 1) (.lref k pre.length) ρ σ = .ok (.next ρ') σ
  | [], pre, s, ρ, he, hR, hI => by
    refine ⟨s, ρ, by rw [he, List.append_nil]; exact hR, hI, ?_⟩
    show forOne _ f ρ σ (nextAt k pre.length σ[k]?) = _
    rw [hk]
    have e : (cs.map w)[pre.length]? = none := by rw [he]; simp
    show forOne _ f ρ σ (match (cs.map w)[pre.length]? with | some v => some (some (v, Src.lref k (pre.length + 1))) | none => some none) = _
    rw [e]; rfl
  | a :: l, pre, s, ρ, he, hR, hI => by
    obtain ⟨s', ρ', h1, h2, h3⟩ := hf pre a l s ρ he hR hI
    obtain ⟨s2, ρ2, k1, k2, k3⟩ := forS_fold w R I hk hf l (pre ++ [a]) s' ρ' (by simp [he]) h1 h2
    refine ⟨s2, ρ2, k1, k2, ?_⟩
    show forOne (forS f (l.length + 1)) f ρ σ (nextAt k pre.length σ[k]?) = _
    rw [hk]
    have e : (cs.map w)[pre.length]? = some (w a) := by rw [he]; simp
    show forOne (forS f (l.length + 1)) f ρ σ (match (cs.map w)[pre.length]? with | some v => some (some (v, Src.lref k (pre.length + 1))) | none => some none) = _
    rw [e]
    show (f (w a) ρ σ).bind _ = _
    rw [h3, ok_bind]
    rw [List.length_append] at k3
    exact k3
theorem go_foldR {γ : Type} (w : α → V) (R : List α → γ → Prop) (I : γ → Vars → Prop) (s : γ) (hk : σ[k]? = some (.list (cs.map w))) (hit : evalIt C it ρ σ = .ok (.lref k 0) σ) (hR : R [] s) (hI : I s ρ)
    (hf : ∀ p a q s ρ, cs = p ++ a :: q → R p s → I s ρ → ∃ s' ρ', R (p ++ [a]) s' ∧ I s' ρ' ∧ execSs C body (ρ.set x (some (w a))) σ = .ok (.next ρ') σ)
    (kk : ∀ s' ρ', R cs s' → I s' ρ' → Ends Q (execSs C r ρ' σ)) : Ends Q (execSs C (.for_ [x] it body :: r) ρ σ) := by
  have hs : ∀ v ρ σ, forStep C.hd [x] (fun ρ σ => execSs C body ρ σ) v ρ σ = execSs C body (ρ.set x (some v)) σ := by intro v ρ σ; simp only [forStep, bindTs]
  obtain ⟨s', ρ', h1, h2, h3⟩ := forS_fold (f := forStep C.hd [x] (fun ρ σ => execSs C body ρ σ)) w R I hk (by
    intro p a q s ρ he hR hI
    rw [hs]
    exact hf p a q s ρ he hR hI) cs [] s ρ rfl hR hI
  have h3 : forS (forStep C.hd [x] (fun ρ σ => execSs C body ρ σ)) (cs.length + 1) (.lref k 0) ρ σ = .ok (.next ρ') σ := h3
  have hfu : (Src.lref k 0).fuel σ = cs.length + 1 := by
    have e : lstOf σ (.ref k) = some (cs.map w) := by
      show (match σ[k]? with | some (.list vs) => some vs | _ => none) = _
      rw [hk]
    show (match lstOf σ (.ref k) with | some ws => ws.length + 1 | none => 0) = _
    rw [e, ← List.length_map (f := w) (as := cs)]
  rw [xB_2, xA_8, hit, ok_bind, hfu, h3, ok_bind]
  exact kk s' ρ' h1 h2
end
end Mine

namespace Mine
open PySem
structure GoodCh (c : Ch) : Prop where
  leans : leansOk c.1 c.2.1 = true
  few : c.2.1.length ≤ 60
  deeds : c.2.2.length ≤ 20
  good : ∀ d ∈ c.2.2, Good c.1 c.2.1 d
section
variable {fuel n : Nat} {hd : Bool} {σ : Store}
theorem P20 : P02 20 = some Flaw_changes := rfl
theorem k_zero : Str.ofString "0" = Tx [48] := by decide +kernel
theorem zero_name : isName [48] = true := by decide
theorem sm4 (i : Int) : (small 4 || small i) = true := by rw [show small 4 = true by decide]; rfl
theorem sub_sc {ns : List Int} (i : Int) (h0 : 0 ≤ i) (h : i < ns.length) (hn : ns.length ≤ 1000) : subscr (.d (scD ns)) (vi i) σ = some (vi (cellOf ns i.toNat)) := by
  have hi : i.toNat < ns.length := by omega
  refine at_list i h0 (by omega) ?_
  rw [List.getElem?_map, List.getElem?_eq_getElem hi]
  show some (PyData.int ns[i.toNat]) = some (.int (cellOf ns i.toNat))
  rw [cellOf, List.getD_eq_getElem?_getD, List.getElem?_eq_getElem hi]; rfl
theorem ch1 {k m : Int} (h0 : 0 ≤ k) (h : 4 * (k + 1) ≤ m) : 0 ≤ 4 * k ∧ 4 * k < m ∧ 0 ≤ 4 * k + 1 ∧ 4 * k + 1 < m ∧ 0 ≤ 4 * k + 2 ∧ 4 * k + 2 < m ∧ 0 ≤ 4 * k + 3 ∧ 4 * k + 3 < m := by
  have a : 0 ≤ 4 * k := Int.mul_nonneg (by decide) h0
  have b : 4 * k + 4 ≤ m := by rw [Int.mul_add] at h; exact h
  have c : ∀ j : Int, j < 4 → 4 * k + j < m := fun j hj => Int.lt_of_lt_of_le (Int.add_lt_add_left hj _) b
  exact ⟨a, Int.lt_of_lt_of_le (Int.lt_add_of_pos_right _ (by decide)) b, Int.add_nonneg a (by decide), c 1 (by decide), Int.add_nonneg a (by decide), c 2 (by decide), Int.add_nonneg a (by decide), c 3 (by decide)⟩
theorem leans_ok {t : List Nat} {tk fs : List (List Nat)} (ht : isName t = true) (hn : ∀ x ∈ tk, isName x = true) (hnd : tk.Nodup) (hs : fs.Sublist tk) (hx : t ∉ tk) : leansOk t (isort fs) = true := by
  have hm : ∀ x ∈ isort fs, x ∈ tk := fun x hx => hs.subset ((isort_mem x fs).mp hx)
  simp only [leansOk, Bool.and_eq_true, List.all_eq_true, Bool.not_eq_true', decide_eq_false_iff_not]
  exact ⟨⟨⟨ht, fun x hx => hn x (hm x hx)⟩, isort_rising fs (hnd.sublist hs)⟩, fun h => hx (hm t h)⟩
theorem turn_changes {C : Cfg} (hhd : C.hd = false)
    (hname : ∀ (c : Int) (tk : List (List Nat)), (∀ x ∈ tk, isName x = true) → tk.length < 100 → ∃ x, isName x = true ∧ x ∉ tk ∧ ∀ σ k, σ[k]? = some (.list (tk.map vs)) → C.cf false .frz 15 [vi c, .ref k] σ = .ok (vs x) σ)
    (hleans : ∀ (c : Int) (cs : List Ch), cs.length ≤ 60 → ∃ fs : List (List Nat), fs.Sublist (cs.map (·.1)) ∧ ∀ σ k, σ[k]? = some (.list (cs.map fun x => V.d x.data)) → C.cf false .frz 17 [vi c, .ref k] σ = .ok (.d (dl (isort fs))) σ)
    (hmarks : ∀ (c : Ch), c.2.2.length ≤ 100 → ∃ k : Nat, k ≤ c.2.2.length ∧ ∀ σ, C.cf false .frz 18 [.d c.data] σ = .ok (.d (.list ((List.range k).map fun j : Nat => markD (some (c.1, (j : Int)))))) σ)
    (hdeeds : ∀ (t : List Nat) (c many : Int) (ls : List (List Nat)) (ms : List (List Nat × Int)), 0 ≤ many → many ≤ 100 → (∀ m ∈ ms, m.1 ∈ ls ∧ 0 ≤ m.2 ∧ m.2 < 1000) → ms.length ≤ 10000 →
      ∃ ds : List Deed, ds.length = many.toNat ∧ (∀ d ∈ ds, Good t ls d) ∧ ∀ σ, C.cf false .frz 19 [vs t, vi c, vi many, .d (.list (ms.map fun m => markD (some m)))] σ = .ok (.d (.list (ds.map Deed.data))) σ)
    (ns : List Int) (most k : Int) (hns : ns.length ≤ 1000) (h0 : 0 ≤ k) (hk : 4 * (k + 1) ≤ ns.length) (cs : List Ch) (hcs : cs.length < 60) (hg : ∀ c ∈ cs, GoodCh c) (hnd : ([48] :: cs.map (·.1)).Nodup) (z5 z6 z7 z8 z9 : Option V) :
    Ends (fun r => ∃ (c : Ch) (z5 z6 z7 z8 z9 : Option V), GoodCh c ∧ ([48] :: (cs ++ [c]).map (·.1)).Nodup ∧ r = .ok (.next [some (.d (scD ns)), some (vi most), some (.ref 0), some (.ref 1), some (vi k), z5, z6, z7, z8, z9]) [.list ((cs ++ [c]).map fun x => V.d x.data), .list (([48] :: (cs ++ [c]).map (·.1)).map vs)])
      (execSs C (match Flaw_changes.body with | [_, _, .for_ _ _ b, _] => b | _ => []) [some (.d (scD ns)), some (vi most), some (.ref 0), some (.ref 1), some (vi k), z5, z6, z7, z8, z9] [.list (cs.map fun x => V.d x.data), .list (([48] :: cs.map (·.1)).map vs)]) := by
  show Ends _ (execSs C [_, _, _, _, _, _, _, _] _ _)
  obtain ⟨b1, b2, b3, b4, b5, b6, b7, b8⟩ := ch1 h0 hk
  have hnm : ∀ x ∈ ([48] :: cs.map (·.1)), isName x = true := by
    intro x hx
    rcases List.mem_cons.mp hx with rfl | hx
    · exact zero_name
    · obtain ⟨c, hc, rfl⟩ := List.mem_map.mp hx
      have := (hg c hc).leans
      simp only [leansOk, Bool.and_eq_true] at this
      exact this.1.1.1
  have hc3 := fun σ => sub_sc (σ := σ) (4 * k + 3) b7 b8 hns
  obtain ⟨t, t1, t2, t3⟩ := hname (cellOf ns (4 * k).toNat) ([48] :: cs.map (·.1)) hnm (by simp; omega)
  have t3 := t3 [.list (cs.map fun x => V.d x.data), .list (([48] :: cs.map (·.1)).map vs)] 1 rfl
  refine go_asg (v := vs t) (σ₁ := [.list (cs.map fun x => V.d x.data), .list (([48] :: cs.map (·.1)).map vs)]) (by simp only [eA_1, eA_2, eA_4, eA_5, eA_6, eA_7, eA_10, eA_12, eA_13, eA_15, eA_16, eA_17, eA_18, eA_19, eB_1, eB_2, eO_1, eO_2, ok_bind, List.getElem?_cons_zero, List.getElem?_cons_succ, List.set_cons_zero, List.set_cons_succ, bc_len_s, bc_len_l, bc_len_t, c_eq, c_ne, c_in, c_nin, c_is, c_isn, c_lt, c_gt, c_ge, lt_i, gt_i, ge_s, no_s, eq_int, eq_str, in_sign, in_strs, Tx_size, Tx_len, b_add, b_sub, tr_b, b_mul (sm4 k), sub_sc (4 * k) b1 b2 hns, hhd, t3] <;> rfl) ?_
  have hap : methcall .append true (.ref 1) [vs t] [.list (cs.map fun x => V.d x.data), .list (([48] :: cs.map (·.1)).map vs)] = .ok (.d .none) [.list (cs.map fun x => V.d x.data), .list (([48] :: cs.map (·.1) ++ [t]).map vs)] := by
    have hll : (([48] :: cs.map (·.1)).map vs).length < line := by simp [line]; omega
    simp only [methcall, methcall1, appendTo, List.getElem?_cons_zero, List.getElem?_cons_succ, if_pos hll, List.set_cons_zero, List.set_cons_succ]
    simp
  have hpre : methPre .append (.ref 1) [.list (cs.map fun x => V.d x.data), .list (([48] :: cs.map (·.1)).map vs)] = true := rfl
  refine go_exp (v := .d .none) (σ₁ := [.list (cs.map fun x => V.d x.data), .list (([48] :: cs.map (·.1) ++ [t]).map vs)]) (by simp only [eA_1, eA_2, eA_4, eA_5, eA_6, eA_7, eA_10, eA_12, eA_13, eA_15, eA_16, eA_17, eA_18, eA_19, eB_1, eB_2, eO_1, eO_2, ok_bind, List.getElem?_cons_zero, List.getElem?_cons_succ, List.set_cons_zero, List.set_cons_succ, bc_len_s, bc_len_l, bc_len_t, c_eq, c_ne, c_in, c_nin, c_is, c_isn, c_lt, c_gt, c_ge, lt_i, gt_i, ge_s, no_s, eq_int, eq_str, in_sign, in_strs, Tx_size, Tx_len, b_add, b_sub, tr_b, hpre, if_true]; exact hap) ?_
  obtain ⟨fs, f1, f2⟩ := hleans (cellOf ns (4 * k + 1).toNat) cs (by omega)
  have f2 := f2 [.list (cs.map fun x => V.d x.data), .list (([48] :: cs.map (·.1) ++ [t]).map vs)] 0 rfl
  refine go_asg (v := .d (dl (isort fs))) (σ₁ := [.list (cs.map fun x => V.d x.data), .list (([48] :: cs.map (·.1) ++ [t]).map vs)]) (by simp only [eA_1, eA_2, eA_4, eA_5, eA_6, eA_7, eA_10, eA_12, eA_13, eA_15, eA_16, eA_17, eA_18, eA_19, eB_1, eB_2, eO_1, eO_2, ok_bind, List.getElem?_cons_zero, List.getElem?_cons_succ, List.set_cons_zero, List.set_cons_succ, bc_len_s, bc_len_l, bc_len_t, c_eq, c_ne, c_in, c_nin, c_is, c_isn, c_lt, c_gt, c_ge, lt_i, gt_i, ge_s, no_s, eq_int, eq_str, in_sign, in_strs, Tx_size, Tx_len, b_add, b_sub, tr_b, b_mul (sm4 k), sub_sc (4 * k + 1) b3 b4 hns, hhd, f2] <;> rfl) ?_
  refine go_asg (v := .d (.list [])) (σ₁ := [.list (cs.map fun x => V.d x.data), .list (([48] :: cs.map (·.1) ++ [t]).map vs)]) (by simp only [eA_1, eA_2, eA_4, eA_5, eA_6, eA_7, eA_10, eA_12, eA_13, eA_15, eA_16, eA_17, eA_18, eA_19, eB_1, eB_2, eO_1, eO_2, ok_bind, List.getElem?_cons_zero, List.getElem?_cons_succ, List.set_cons_zero, List.set_cons_succ, bc_len_s, bc_len_l, bc_len_t, c_eq, c_ne, c_in, c_nin, c_is, c_isn, c_lt, c_gt, c_ge, lt_i, gt_i, ge_s, no_s, eq_int, eq_str, in_sign, in_strs, Tx_size, Tx_len, b_add, b_sub, tr_b, mkList, allD] <;> rfl) ?_
  have hfl : (isort fs).length ≤ 60 := by rw [isort_len]; have := f1.length_le; simp at this; omega
  refine go_foldR (k := 0) (cs := cs) (fun x => V.d x.data) (fun pre (ms : List (List Nat × Int)) => (∀ m ∈ ms, m.1 ∈ isort fs ∧ 0 ≤ m.2 ∧ m.2 < 1000) ∧ ms.length ≤ 20 * pre.length)
    (fun (ms : List (List Nat × Int)) ρ => ∃ z8, ρ = [some (.d (scD ns)), some (vi most), some (.ref 0), some (.ref 1), some (vi k), some (vs t), some (.d (dl (isort fs))), some (.d (.list (ms.map fun m => markD (some m)))), z8, z9]) [] rfl (it_of (v := .ref 0) (by simp only [eA_1, eA_2, eA_4, eA_5, eA_6, eA_7, eA_10, eA_12, eA_13, eA_15, eA_16, eA_17, eA_18, eA_19, eB_1, eB_2, eO_1, eO_2, ok_bind, List.getElem?_cons_zero, List.getElem?_cons_succ, List.set_cons_zero, List.set_cons_succ, bc_len_s, bc_len_l, bc_len_t, c_eq, c_ne, c_in, c_nin, c_is, c_isn, c_lt, c_gt, c_ge, lt_i, gt_i, ge_s, no_s, eq_int, eq_str, in_sign, in_strs, Tx_size, Tx_len, b_add, b_sub, tr_b] <;> rfl) rfl) ⟨by simp, by simp⟩ ⟨_, rfl⟩ ?_ ?_
  · rintro p c q ms ρ hp ⟨m1, m2⟩ ⟨z8, rfl⟩
    have hc : GoodCh c := hg c (by rw [hp]; simp)
    have hpl : p.length < 60 := by have := congrArg List.length hp; simp at this; omega
    obtain ⟨j, j1, j2⟩ := hmarks c (by have := hc.deeds; omega)
    have hjd := hc.deeds
    show Ends (fun r => ∃ (s' : List (List Nat × Int)) (ρ' : Vars), ((∀ m ∈ s', m.1 ∈ isort fs ∧ 0 ≤ m.2 ∧ m.2 < 1000) ∧ s'.length ≤ 20 * (p ++ [c]).length) ∧ (∃ z8, ρ' = [some (.d (scD ns)), some (vi most), some (.ref 0), some (.ref 1), some (vi k), some (vs t), some (.d (dl (isort fs))), some (.d (.list (s'.map fun m => markD (some m)))), z8, z9]) ∧ r = .ok (.next ρ') _) (execSs C [_] _ _)
    refine go_ite (t := decide (c.1 ∈ isort fs)) (σ₁ := [.list (cs.map fun x => V.d x.data), .list (([48] :: cs.map (·.1) ++ [t]).map vs)]) (by simp only [eA_1, eA_2, eA_4, eA_5, eA_6, eA_7, eA_10, eA_12, eA_13, eA_15, eA_16, eA_17, eA_18, eA_19, eB_1, eB_2, eO_1, eO_2, ok_bind, List.getElem?_cons_zero, List.getElem?_cons_succ, List.set_cons_zero, List.set_cons_succ, bc_len_s, bc_len_l, bc_len_t, c_eq, c_ne, c_in, c_nin, c_is, c_isn, c_lt, c_gt, c_ge, lt_i, gt_i, ge_s, no_s, eq_int, eq_str, in_sign, in_strs, Tx_size, Tx_len, b_add, b_sub, tr_b, sub_ch0] <;> rfl) (fun h => ?_) (fun h => ?_)
    · simp only [decide_eq_true_eq] at h
      have hcat := b_catL (σ := [.list (cs.map fun x => V.d x.data), .list (([48] :: cs.map (·.1) ++ [t]).map vs)]) (ms.map fun m => markD (some m)) ((List.range j).map fun i : Nat => markD (some (c.1, (i : Int)))) (by simp [line]; omega)
      refine go_asg (v := .d (.list ((ms ++ (List.range j).map fun i : Nat => (c.1, (i : Int))).map fun m => markD (some m)))) (σ₁ := [.list (cs.map fun x => V.d x.data), .list (([48] :: cs.map (·.1) ++ [t]).map vs)]) (by simp only [eA_1, eA_2, eA_4, eA_5, eA_6, eA_7, eA_10, eA_12, eA_13, eA_15, eA_16, eA_17, eA_18, eA_19, eB_1, eB_2, eO_1, eO_2, ok_bind, List.getElem?_cons_zero, List.getElem?_cons_succ, List.set_cons_zero, List.set_cons_succ, bc_len_s, bc_len_l, bc_len_t, c_eq, c_ne, c_in, c_nin, c_is, c_isn, c_lt, c_gt, c_ge, lt_i, gt_i, ge_s, no_s, eq_int, eq_str, in_sign, in_strs, Tx_size, Tx_len, b_add, b_sub, tr_b, hhd, j2, hcat]; simp [List.map_map, Function.comp_def]) (go_nil ⟨ms ++ (List.range j).map fun i : Nat => (c.1, (i : Int)), _, ⟨?_, ?_⟩, ⟨_, rfl⟩, rfl⟩)
      · intro m hm
        simp only [List.mem_append, List.mem_map, List.mem_range] at hm
        rcases hm with hm | ⟨i, hi, rfl⟩
        · exact m1 m hm
        · exact ⟨h, by show (0 : Int) ≤ i; omega, by show (i : Int) < 1000; omega⟩
      · simp; omega
    · exact go_nil ⟨ms, _, ⟨m1, by simp; omega⟩, ⟨_, rfl⟩, rfl⟩
  rintro ms _ ⟨m1, m2⟩ ⟨z8, rfl⟩
  generalize cellOf ns (4 * k + 3).toNat = c3 at hc3
  have g5 := fmod_lt c3 (j := 5) (by decide)
  refine go_asg (v := vi (c3.fmod 5)) (σ₁ := [.list (cs.map fun x => V.d x.data), .list (([48] :: cs.map (·.1) ++ [t]).map vs)]) (by simp only [eA_1, eA_2, eA_4, eA_5, eA_6, eA_7, eA_10, eA_12, eA_13, eA_15, eA_16, eA_17, eA_18, eA_19, eB_1, eB_2, eO_1, eO_2, ok_bind, List.getElem?_cons_zero, List.getElem?_cons_succ, List.set_cons_zero, List.set_cons_succ, bc_len_s, bc_len_l, bc_len_t, c_eq, c_ne, c_in, c_nin, c_is, c_isn, c_lt, c_gt, c_ge, lt_i, gt_i, ge_s, no_s, eq_int, eq_str, in_sign, in_strs, Tx_size, Tx_len, b_add, b_sub, tr_b, b_mul (sm4 k), hc3, b_mod (show (5 : Int) ≠ 0 by decide)] <;> rfl) ?_
  refine go_mid (M := fun ρ σ => (∃ q : Int, 0 ≤ q ∧ q ≤ 20 ∧ ρ = [some (.d (scD ns)), some (vi most), some (.ref 0), some (.ref 1), some (vi k), some (vs t), some (.d (dl (isort fs))), some (.d (.list (ms.map fun m => markD (some m)))), z8, some (vi q)]) ∧ σ = [.list (cs.map fun x => V.d x.data), .list (([48] :: cs.map (·.1) ++ [t]).map vs)]) ?_ ?_
  · refine go_ite (t := decide ((c3.fdiv 5).fmod 16 = 1)) (σ₁ := [.list (cs.map fun x => V.d x.data), .list (([48] :: cs.map (·.1) ++ [t]).map vs)]) (by simp only [eA_1, eA_2, eA_4, eA_5, eA_6, eA_7, eA_10, eA_12, eA_13, eA_15, eA_16, eA_17, eA_18, eA_19, eB_1, eB_2, eO_1, eO_2, ok_bind, List.getElem?_cons_zero, List.getElem?_cons_succ, List.set_cons_zero, List.set_cons_succ, bc_len_s, bc_len_l, bc_len_t, c_eq, c_ne, c_in, c_nin, c_is, c_isn, c_lt, c_gt, c_ge, lt_i, gt_i, ge_s, no_s, eq_int, eq_str, in_sign, in_strs, Tx_size, Tx_len, b_add, b_sub, tr_b, b_mul (sm4 k), hc3, b_mod (show (16 : Int) ≠ 0 by decide), b_div (show (5 : Int) ≠ 0 by decide)] <;> rfl) (fun h => ?_) (fun h => ?_)
    · have g6 := fmod_lt (c3.fdiv 80) (j := 16) (by decide)
      exact go_asg (v := vi (20 - (c3.fdiv 80).fmod 16)) (σ₁ := [.list (cs.map fun x => V.d x.data), .list (([48] :: cs.map (·.1) ++ [t]).map vs)]) (by simp only [eA_1, eA_2, eA_4, eA_5, eA_6, eA_7, eA_10, eA_12, eA_13, eA_15, eA_16, eA_17, eA_18, eA_19, eB_1, eB_2, eO_1, eO_2, ok_bind, List.getElem?_cons_zero, List.getElem?_cons_succ, List.set_cons_zero, List.set_cons_succ, bc_len_s, bc_len_l, bc_len_t, c_eq, c_ne, c_in, c_nin, c_is, c_isn, c_lt, c_gt, c_ge, lt_i, gt_i, ge_s, no_s, eq_int, eq_str, in_sign, in_strs, Tx_size, Tx_len, b_add, b_sub, tr_b, b_mul (sm4 k), hc3, b_mod (show (16 : Int) ≠ 0 by decide), b_div (show (80 : Int) ≠ 0 by decide)] <;> rfl) (go_nil ⟨_, _, ⟨⟨_, by omega, by omega, rfl⟩, rfl⟩, rfl⟩)
    · exact go_nil ⟨_, _, ⟨⟨_, g5.1, by omega, rfl⟩, rfl⟩, rfl⟩
  rintro _ _ ⟨⟨q, q0, q1, rfl⟩, rfl⟩
  obtain ⟨ds, d1, d2, d3⟩ := hdeeds t (cellOf ns (4 * k + 2).toNat) q (isort fs) ms q0 (by omega) m1 (by omega)
  have hlc : (cs.map fun x => V.d x.data).length < line := by simp [line]; omega
  have hput : methcall .append true (.ref 0) [.d (change t (isort fs) ds)] [.list (cs.map fun x => V.d x.data), .list (([48] :: cs.map (·.1) ++ [t]).map vs)] = .ok (.d .none) [.list ((cs ++ [(t, isort fs, ds)]).map fun x => V.d x.data), .list (([48] :: (cs ++ [(t, isort fs, ds)]).map (·.1)).map vs)] := by
    simp only [methcall, methcall1, appendTo, List.getElem?_cons_zero, if_pos hlc, List.set_cons_zero]
    simp
  have hpre0 : methPre .append (.ref 0) [.list (cs.map fun x => V.d x.data), .list (([48] :: cs.map (·.1) ++ [t]).map vs)] = true := rfl
  refine go_exp (v := .d .none) (σ₁ := [.list ((cs ++ [(t, isort fs, ds)]).map fun x => V.d x.data), .list (([48] :: (cs ++ [(t, isort fs, ds)]).map (·.1)).map vs)]) ?_ (go_nil ⟨(t, isort fs, ds), _, _, _, _, _, ⟨?_, hfl, ?_, d2⟩, ?_, rfl⟩)
  · simp only [eA_1, eA_2, eA_4, eA_5, eA_6, eA_7, eA_10, eA_12, eA_13, eA_15, eA_16, eA_17, eA_18, eA_19, eB_1, eB_2, eO_1, eO_2, ok_bind, List.getElem?_cons_zero, List.getElem?_cons_succ, List.set_cons_zero, List.set_cons_succ, bc_len_s, bc_len_l, bc_len_t, c_eq, c_ne, c_in, c_nin, c_is, c_isn, c_lt, c_gt, c_ge, lt_i, gt_i, ge_s, no_s, eq_int, eq_str, in_sign, in_strs, Tx_size, Tx_len, b_add, b_sub, tr_b, hpre0, if_true, b_mul (sm4 k), sub_sc (4 * k + 2) b5 b6 hns, hhd, d3, if_pos (len3 _ _ _), tup3]
    exact hput
  · refine leans_ok t1 (tk := cs.map (·.1)) (fun x hx => hnm x (List.mem_cons_of_mem _ hx)) (List.nodup_cons.mp hnd).2 f1 (fun h => t2 (List.mem_cons_of_mem _ h))
  · show ds.length ≤ 20
    omega
  · rw [List.map_append, ← List.cons_append]
    rw [List.nodup_append]
    refine ⟨hnd, by simp, ?_⟩
    intro a ha b hb e
    simp only [List.map_cons, List.map_nil, List.mem_singleton] at hb
    exact t2 (by rw [← hb, ← e]; exact ha)
end
end Mine

namespace Mine
open PySem
section
variable {fuel n : Nat} {hd : Bool} {σ : Store}
theorem P21 : P02 21 = some Flaw_numbered := rfl
theorem P22 : P02 22 = some Flaw_one := rfl
theorem bc_min {X : Nat → Nat → Option Bool} {fz : Bool} {i j : Int} : bcall X false .min fz [vi i, vi j] σ = .ok (vi (if j < i then j else i)) σ := rfl
theorem min1 (m : Nat) (most : Int) (hm : m ≤ 1000) (h0 : 0 ≤ most) (h1 : most ≤ 60) : 0 ≤ (if most < (m : Int).fdiv 4 then most else (m : Int).fdiv 4) ∧ (if most < (m : Int).fdiv 4 then most else (m : Int).fdiv 4) ≤ 60 ∧ 4 * (if most < (m : Int).fdiv 4 then most else (m : Int).fdiv 4) ≤ m := by
  rw [Int.fdiv_eq_ediv_of_nonneg _ (by decide)]
  split <;> omega
theorem run_changes {C : Cfg} (hhd : C.hd = false)
    (hname : ∀ (c : Int) (tk : List (List Nat)), (∀ x ∈ tk, isName x = true) → tk.length < 100 → ∃ x, isName x = true ∧ x ∉ tk ∧ ∀ σ k, σ[k]? = some (.list (tk.map vs)) → C.cf false .frz 15 [vi c, .ref k] σ = .ok (vs x) σ)
    (hleans : ∀ (c : Int) (cs : List Ch), cs.length ≤ 60 → ∃ fs : List (List Nat), fs.Sublist (cs.map (·.1)) ∧ ∀ σ k, σ[k]? = some (.list (cs.map fun x => V.d x.data)) → C.cf false .frz 17 [vi c, .ref k] σ = .ok (.d (dl (isort fs))) σ)
    (hmarks : ∀ (c : Ch), c.2.2.length ≤ 100 → ∃ k : Nat, k ≤ c.2.2.length ∧ ∀ σ, C.cf false .frz 18 [.d c.data] σ = .ok (.d (.list ((List.range k).map fun j : Nat => markD (some (c.1, (j : Int)))))) σ)
    (hdeeds : ∀ (t : List Nat) (c many : Int) (ls : List (List Nat)) (ms : List (List Nat × Int)), 0 ≤ many → many ≤ 100 → (∀ m ∈ ms, m.1 ∈ ls ∧ 0 ≤ m.2 ∧ m.2 < 1000) → ms.length ≤ 10000 →
      ∃ ds : List Deed, ds.length = many.toNat ∧ (∀ d ∈ ds, Good t ls d) ∧ ∀ σ, C.cf false .frz 19 [vs t, vi c, vi many, .d (.list (ms.map fun m => markD (some m)))] σ = .ok (.d (.list (ds.map Deed.data))) σ)
    (ns : List Int) (most : Int) (hns : ns.length ≤ 1000) (h0 : 0 ≤ most) (h1 : most ≤ 60) :
    Ends (fun r => ∃ (cs : List Ch) (o : O), cs.length ≤ 60 ∧ (∀ c ∈ cs, GoodCh c) ∧ r = .ok (.ret (.ref 0)) [.list (cs.map fun x => V.d x.data), o])
      (execSs C Flaw_changes.body [some (.d (scD ns)), some (vi most), none, none, none, none, none, none, none, none] []) := by
  show Ends _ (execSs C [_, _, _, _] _ [])
  refine go_asg (v := .ref 0) (σ₁ := [.list []]) (by simp only [eA_1, eA_2, eA_4, eA_5, eA_6, eA_7, eA_10, eA_12, eA_13, eA_15, eA_16, eA_17, eA_18, eA_19, eB_1, eB_2, eO_1, eO_2, ok_bind, List.getElem?_cons_zero, List.getElem?_cons_succ, List.set_cons_zero, List.set_cons_succ, bc_len_s, bc_len_l, bc_len_t, c_eq, c_ne, c_in, c_nin, c_is, c_isn, c_lt, c_gt, c_ge, lt_i, gt_i, ge_s, no_s, eq_int, eq_str, in_sign, in_strs, Tx_size, Tx_len, b_add, b_sub, tr_b, mkList] <;> rfl) ?_
  refine go_asg (v := .ref 1) (σ₁ := [.list [], .list [vs [48]]]) (by simp only [eA_1, eA_2, eA_4, eA_5, eA_6, eA_7, eA_10, eA_12, eA_13, eA_15, eA_16, eA_17, eA_18, eA_19, eB_1, eB_2, eO_1, eO_2, ok_bind, List.getElem?_cons_zero, List.getElem?_cons_succ, List.set_cons_zero, List.set_cons_succ, bc_len_s, bc_len_l, bc_len_t, c_eq, c_ne, c_in, c_nin, c_is, c_isn, c_lt, c_gt, c_ge, lt_i, gt_i, ge_s, no_s, eq_int, eq_str, in_sign, in_strs, Tx_size, Tx_len, b_add, b_sub, tr_b, mkList, k_zero] <;> rfl) ?_
  obtain ⟨m0, m1, m2⟩ := min1 ns.length most hns h0 h1
  have hr : evalEs C [.bcall .min true [.bin true .FloorDiv (.bcall .len true [.var 0]) (.cst (.int 4)), .var 1]] [some (.d (scD ns)), some (vi most), some (.ref 0), some (.ref 1), none, none, none, none, none, none] [.list [], .list [vs [48]]] = .ok [vi (if most < (ns.length : Int).fdiv 4 then most else (ns.length : Int).fdiv 4)] [.list [], .list [vs [48]]] := by
    simp only [eA_1, eA_2, eA_4, eA_5, eA_6, eA_7, eA_10, eA_12, eA_13, eA_15, eA_16, eA_17, eA_18, eA_19, eB_1, eB_2, eO_1, eO_2, ok_bind, List.getElem?_cons_zero, List.getElem?_cons_succ, List.set_cons_zero, List.set_cons_succ, bc_len_s, bc_len_l, bc_len_t, c_eq, c_ne, c_in, c_nin, c_is, c_isn, c_lt, c_gt, c_ge, lt_i, gt_i, ge_s, no_s, eq_int, eq_str, in_sign, in_strs, Tx_size, Tx_len, b_add, b_sub, tr_b, List.length_map, b_div (show (4 : Int) ≠ 0 by decide), hhd, bc_min]
  generalize (if most < (ns.length : Int).fdiv 4 then most else (ns.length : Int).fdiv 4) = m at m0 m1 m2 hr
  refine go_foldl (l := List.range m.toNat) (w := fun j : Nat => vi (j : Int)) (σ₁ := [.list [], .list [vs [48]]])
    (fun pre (cs : List Ch) => cs.length = pre.length ∧ (∀ c ∈ cs, GoodCh c) ∧ ([48] :: cs.map (·.1)).Nodup)
    (fun (cs : List Ch) ρ σ => (∃ z4 z5 z6 z7 z8 z9, ρ = [some (.d (scD ns)), some (vi most), some (.ref 0), some (.ref 1), z4, z5, z6, z7, z8, z9]) ∧ σ = [.list (cs.map fun x => V.d x.data), .list (([48] :: cs.map (·.1)).map vs)]) []
    (it_range hhd hr (by omega) (by omega)) ⟨rfl, by simp, by simp⟩ ⟨⟨none, none, none, none, none, none, rfl⟩, rfl⟩ ?_ ?_
  · rintro p j q cs ρ σ hp ⟨g0, g1, g2⟩ ⟨⟨z4, z5, z6, z7, z8, z9, rfl⟩, rfl⟩
    have hj : j < m.toNat := by
      have : j ∈ List.range m.toNat := by rw [hp]; simp
      simpa using this
    have hl : p.length < 60 := by
      have := congrArg List.length hp
      simp at this; omega
    obtain ⟨c, y5, y6, y7, y8, y9, k1, k2, k3⟩ := turn_changes hhd hname hleans hmarks hdeeds ns most (j : Int) hns (by omega) (by omega) cs (by omega) g1 g2 z5 z6 z7 z8 z9
    refine ⟨cs ++ [c], _, _, ⟨by simp [g0], ?_, k2⟩, ⟨⟨_, _, _, _, _, _, rfl⟩, rfl⟩, k3⟩
    intro x hx
    simp only [List.mem_append, List.mem_singleton] at hx
    rcases hx with hx | rfl
    · exact g1 x hx
    · exact k1
  · rintro cs ρ σ ⟨g0, g1, g2⟩ ⟨⟨z4, z5, z6, z7, z8, z9, rfl⟩, rfl⟩
    refine go_ret (v := .ref 0) (σ₁ := _) (by simp only [eA_1, eA_2, eA_4, eA_5, eA_6, eA_7, eA_10, eA_12, eA_13, eA_15, eA_16, eA_17, eA_18, eA_19, eB_1, eB_2, eO_1, eO_2, ok_bind, List.getElem?_cons_zero, List.getElem?_cons_succ, List.set_cons_zero, List.set_cons_succ, bc_len_s, bc_len_l, bc_len_t, c_eq, c_ne, c_in, c_nin, c_is, c_isn, c_lt, c_gt, c_ge, lt_i, gt_i, ge_s, no_s, eq_int, eq_str, in_sign, in_strs, Tx_size, Tx_len, b_add, b_sub, tr_b] <;> rfl) ⟨cs, _, ?_, g1, rfl⟩
    simp at g0; omega
theorem ev_changes (ns : List Int) (most : Int) (hns : ns.length ≤ 1000) (h0 : 0 ≤ most) (h1 : most ≤ 60) :
    ∃ cs : List Ch, cs.length ≤ 60 ∧ (∀ c ∈ cs, GoodCh c) ∧ ∀ σ, callF P02 isExc fuel (n + 3) false .frz 20 [.d (scD ns), vi most] σ = .ok (.d (.list (cs.map Ch.data))) σ := by
  obtain ⟨cs, o, k1, k2, k3⟩ := run_changes (C := ⟨callF P02 isExc fuel (n + 2), isExc, fuel, false⟩) rfl (fun c tk h1 h2 => by
      obtain ⟨x, e1, e2, _, e4⟩ := ev_name (fuel := fuel) (n := n) c tk h1 h2
      exact ⟨x, e1, e2, e4⟩) (fun c cs h => ev_leans c cs h) (fun c h => ev_marks c.1 c.2.1 c.2.2 h) (fun t c many ls ms h0 h1 h2 h3 => ev_deeds t c many ls ms h0 h1 h2 h3) ns most hns h0 h1
  exact ⟨cs, k1, k2, fun σ => frz_ok P20 rfl (run_ret rfl k3) (snap_ref (by simp))⟩
end
end Mine

namespace Mine
open PySem
section
variable {fuel n : Nat} {hd : Bool} {σ : Store}
theorem b_catT (a b : List PyData) (h : a.length + b.length ≤ line) : binop true .Add (.d (.tuple a)) (.d (.tuple b)) σ = .ok (.d (.tuple (a ++ b))) σ := if_pos h
noncomputable def textD : Option (List Nat) → List PyData
  | none => []
  | some l => [.str (Tx l)]
theorem data_eq (d : Deed) : d.data = .tuple ([.str (Tx d.word), markD d.mark] ++ textD d.text) := by
  cases h : d.text <;> simp only [Deed.data, textD, h]
theorem sl_tup {xs : List PyData} (h : 2 ≤ xs.length) : slice true (.d (.tuple xs)) (some (vi 2)) none σ = .ok (.d (.tuple (xs.drop 2))) σ := by
  have h1 : (1 : Int) ≤ 2 ∧ (2 : Int) ≤ xs.length := by omega
  show (match (if (1 : Int) ≤ 2 ∧ (2 : Int) ≤ xs.length then some (xs.drop (2 : Int).toNat) else none) with | some ys => Res.ok (V.d (.tuple ys)) σ | none => .bad) = _
  rw [if_pos h1]; rfl
theorem sl_deed (d : Deed) : slice true (.d d.data) (some (vi 2)) none σ = .ok (.d (.tuple (textD d.text))) σ := by
  rw [data_eq, sl_tup (by simp)]; rfl
theorem sub_m0 (m : List Nat × Int) : subscr (.d (markD (some m))) (vi 0) σ = some (vs m.1) := at_tup 0 (by decide) (by decide) rfl
theorem sub_m1 (m : List Nat × Int) : subscr (.d (markD (some m))) (vi 1) σ = some (vi m.2) := at_tup 1 (by decide) (by decide) rfl
theorem run_numbered {C : Cfg} (hhd : C.hd = false) (hm : ∀ c k σ, C.cf false .frz 14 [vi c, vi k] σ = .ok (vi (mixed c k)) σ) (c : Int) (ch : Ch) (hg : GoodCh ch) :
    Ends (fun r => ∃ ds : List Deed, ds.length ≤ 20 ∧ (∀ d ∈ ds, Good ch.1 ch.2.1 d) ∧ r = .ok (.ret (.tup [vs ch.1, .d (dl ch.2.1), .ref 0])) [.list (ds.map fun d => .d d.data)])
      (execSs C Flaw_numbered.body [some (.d ch.data), some (vi c), none, none, none, none] []) := by
  show Ends _ (execSs C [_, _, _] _ [])
  refine go_asg (v := .ref 0) (σ₁ := [.list []]) (by simp only [eA_1, eA_2, eA_4, eA_5, eA_6, eA_7, eA_10, eA_12, eA_13, eA_15, eA_16, eA_17, eA_18, eA_19, eB_1, eB_2, eO_1, eO_2, ok_bind, List.getElem?_cons_zero, List.getElem?_cons_succ, List.set_cons_zero, List.set_cons_succ, bc_len_s, bc_len_l, bc_len_t, c_eq, c_ne, c_in, c_nin, c_is, c_isn, c_lt, c_gt, c_ge, lt_i, gt_i, ge_s, no_s, eq_int, eq_str, in_sign, in_strs, Tx_size, Tx_len, b_add, b_sub, tr_b, mkList] <;> rfl) ?_
  have hit := it_enum (C := C) (e := .sub (.var 0) (.cst (.int 2))) (ρ := [some (.d ch.data), some (vi c), some (.ref 0), none, none, none]) (σ := [.list []]) (σ₁ := [.list []]) (xs := ch.2.2.map Deed.data) hhd (by simp only [eA_1, eA_2, eA_4, eA_5, eA_6, eA_7, eA_10, eA_12, eA_13, eA_15, eA_16, eA_17, eA_18, eA_19, eB_1, eB_2, eO_1, eO_2, ok_bind, List.getElem?_cons_zero, List.getElem?_cons_succ, List.set_cons_zero, List.set_cons_succ, bc_len_s, bc_len_l, bc_len_t, c_eq, c_ne, c_in, c_nin, c_is, c_isn, c_lt, c_gt, c_ge, lt_i, gt_i, ge_s, no_s, eq_int, eq_str, in_sign, in_strs, Tx_size, Tx_len, b_add, b_sub, tr_b, sub_ch2] <;> rfl)
  have hz : (ch.2.2.map Deed.data).zipIdx.map (fun p => V.d (.tuple [.int (p.2 : Int), p.1])) = ch.2.2.zipIdx.map fun p => V.d (.tuple [.int (p.2 : Int), Deed.data p.1]) := by
    rw [List.zipIdx_map, List.map_map]; rfl
  rw [hz] at hit
  refine go_foldT (l := ch.2.2.zipIdx) (σ₁ := [.list []]) (fun p => .int (p.2 : Int)) (fun p => Deed.data p.1) (fun pre (ds : List Deed) => ds.length = pre.length ∧ ∀ d ∈ ds, Good ch.1 ch.2.1 d)
    (fun (ds : List Deed) ρ σ => (∃ z3 z4 z5, ρ = [some (.d ch.data), some (vi c), some (.ref 0), z3, z4, z5]) ∧ σ = [.list (ds.map fun d => .d d.data)]) [] hhd hit ⟨rfl, by simp⟩ ⟨⟨none, none, none, rfl⟩, rfl⟩ ?_ ?_
  · rintro p ⟨d, i⟩ q ds ρ σ hp ⟨g0, g1⟩ ⟨⟨z3, z4, z5, rfl⟩, rfl⟩
    have hd : Good ch.1 ch.2.1 d := by
      refine hg.good d ?_
      have h1 : (d, i) ∈ ch.2.2.zipIdx := by rw [hp]; simp
      have := List.mem_zipIdx' h1
      exact List.mem_of_getElem this.2.symm
    have hlen : ds.length < 20 := by
      have h2 := congrArg List.length hp
      have := hg.deeds
      simp at h2; omega
    show Ends (fun r => ∃ (s' : List Deed) (ρ' : Vars) (σ' : Store), (s'.length = (p ++ [(d, i)]).length ∧ ∀ d ∈ s', Good ch.1 ch.2.1 d) ∧ ((∃ z3 z4 z5, ρ' = [some (.d ch.data), some (vi c), some (.ref 0), z3, z4, z5]) ∧ σ' = [.list (s'.map fun d => .d d.data)]) ∧ r = .ok (.next ρ') σ') (execSs C [_, _, _, _] _ _)
    refine go_asg (v := .d (markD d.mark)) (σ₁ := [.list (ds.map fun d => .d d.data)]) (by simp only [eA_1, eA_2, eA_4, eA_5, eA_6, eA_7, eA_10, eA_12, eA_13, eA_15, eA_16, eA_17, eA_18, eA_19, eB_1, eB_2, eO_1, eO_2, ok_bind, List.getElem?_cons_zero, List.getElem?_cons_succ, List.set_cons_zero, List.set_cons_succ, bc_len_s, bc_len_l, bc_len_t, c_eq, c_ne, c_in, c_nin, c_is, c_isn, c_lt, c_gt, c_ge, lt_i, gt_i, ge_s, no_s, eq_int, eq_str, in_sign, in_strs, Tx_size, Tx_len, b_add, b_sub, tr_b, sub_mark] <;> rfl) ?_
    refine go_mid (M := fun ρ σ => (∃ o : Option (List Nat × Int), Good ch.1 ch.2.1 ⟨d.word, o, d.text⟩ ∧ ρ = [some (.d ch.data), some (vi c), some (.ref 0), some (vi i), some (.d d.data), some (.d (markD o))]) ∧ σ = [.list (ds.map fun d => .d d.data)]) ?_ ?_
    · refine go_ite (t := (!d.mark.isNone) && decide ((c + i).fmod 3 = 1)) (σ₁ := [.list (ds.map fun d => .d d.data)]) (e_and2 (by simp only [eA_1, eA_2, eA_4, eA_5, eA_6, eA_7, eA_10, eA_12, eA_13, eA_15, eA_16, eA_17, eA_18, eA_19, eB_1, eB_2, eO_1, eO_2, ok_bind, List.getElem?_cons_zero, List.getElem?_cons_succ, List.set_cons_zero, List.set_cons_succ, bc_len_s, bc_len_l, bc_len_t, c_eq, c_ne, c_in, c_nin, c_is, c_isn, c_lt, c_gt, c_ge, lt_i, gt_i, ge_s, no_s, eq_int, eq_str, in_sign, in_strs, Tx_size, Tx_len, b_add, b_sub, tr_b, is_mark] <;> rfl) (fun _ => (by simp only [eA_1, eA_2, eA_4, eA_5, eA_6, eA_7, eA_10, eA_12, eA_13, eA_15, eA_16, eA_17, eA_18, eA_19, eB_1, eB_2, eO_1, eO_2, ok_bind, List.getElem?_cons_zero, List.getElem?_cons_succ, List.set_cons_zero, List.set_cons_succ, bc_len_s, bc_len_l, bc_len_t, c_eq, c_ne, c_in, c_nin, c_is, c_isn, c_lt, c_gt, c_ge, lt_i, gt_i, ge_s, no_s, eq_int, eq_str, in_sign, in_strs, Tx_size, Tx_len, b_add, b_sub, tr_b, b_mod (show (3 : Int) ≠ 0 by decide)] <;> rfl))) (fun h => ?_) (fun h => ?_)
      · obtain ⟨w, mk, tx⟩ := d
        cases mk with
        | none => cases h
        | some m =>
          have g9 := fmod_lt (mixed c i) (j := 1000000000) (by decide)
          refine go_asg (v := .d (markD (some (m.1, (mixed c i).fmod 1000000000)))) (σ₁ := [.list (ds.map fun d => .d d.data)]) (by simp only [eA_1, eA_2, eA_4, eA_5, eA_6, eA_7, eA_10, eA_12, eA_13, eA_15, eA_16, eA_17, eA_18, eA_19, eB_1, eB_2, eO_1, eO_2, ok_bind, List.getElem?_cons_zero, List.getElem?_cons_succ, List.set_cons_zero, List.set_cons_succ, bc_len_s, bc_len_l, bc_len_t, c_eq, c_ne, c_in, c_nin, c_is, c_isn, c_lt, c_gt, c_ge, lt_i, gt_i, ge_s, no_s, eq_int, eq_str, in_sign, in_strs, Tx_size, Tx_len, b_add, b_sub, tr_b, hm, hhd, b_mod (show (1000000000 : Int) ≠ 0 by decide), sub_m0, if_pos (len2 _ _), tup2]; rfl) (go_nil ⟨_, _, ⟨⟨some (m.1, (mixed c i).fmod 1000000000), ⟨?_, ?_⟩, rfl⟩, rfl⟩, rfl⟩)
          · rcases hd.shape with ⟨l, e1, e2, e3 | ⟨e3, e4⟩⟩ | ⟨e1, e2, e3⟩
            · exact .inl ⟨l, e1, e2, .inl e3⟩
            · exact .inl ⟨l, e1, e2, .inr ⟨e3, fun e => by cases e⟩⟩
            · exact .inr ⟨e1, e2, fun e => by cases e⟩
          · intro m' e; cases e
            exact ⟨(hd.mark m rfl).1, g9.1, g9.2⟩
      · exact go_nil ⟨_, _, ⟨⟨d.mark, hd, rfl⟩, rfl⟩, rfl⟩
    rintro _ _ ⟨⟨o, ho, rfl⟩, rfl⟩
    refine go_mid (M := fun ρ σ => (∃ o : Option (List Nat × Int), Good ch.1 ch.2.1 ⟨d.word, o, d.text⟩ ∧ ρ = [some (.d ch.data), some (vi c), some (.ref 0), some (vi i), some (.d d.data), some (.d (markD o))]) ∧ σ = [.list (ds.map fun d => .d d.data)]) ?_ ?_
    · refine go_ite (t := (!o.isNone) && decide ((c + i).fmod 5 = 2)) (σ₁ := [.list (ds.map fun d => .d d.data)]) (e_and2 (by simp only [eA_1, eA_2, eA_4, eA_5, eA_6, eA_7, eA_10, eA_12, eA_13, eA_15, eA_16, eA_17, eA_18, eA_19, eB_1, eB_2, eO_1, eO_2, ok_bind, List.getElem?_cons_zero, List.getElem?_cons_succ, List.set_cons_zero, List.set_cons_succ, bc_len_s, bc_len_l, bc_len_t, c_eq, c_ne, c_in, c_nin, c_is, c_isn, c_lt, c_gt, c_ge, lt_i, gt_i, ge_s, no_s, eq_int, eq_str, in_sign, in_strs, Tx_size, Tx_len, b_add, b_sub, tr_b, is_mark] <;> rfl) (fun _ => (by simp only [eA_1, eA_2, eA_4, eA_5, eA_6, eA_7, eA_10, eA_12, eA_13, eA_15, eA_16, eA_17, eA_18, eA_19, eB_1, eB_2, eO_1, eO_2, ok_bind, List.getElem?_cons_zero, List.getElem?_cons_succ, List.set_cons_zero, List.set_cons_succ, bc_len_s, bc_len_l, bc_len_t, c_eq, c_ne, c_in, c_nin, c_is, c_isn, c_lt, c_gt, c_ge, lt_i, gt_i, ge_s, no_s, eq_int, eq_str, in_sign, in_strs, Tx_size, Tx_len, b_add, b_sub, tr_b, b_mod (show (5 : Int) ≠ 0 by decide)] <;> rfl))) (fun h => ?_) (fun h => ?_)
      · cases o with
        | none => cases h
        | some m =>
          refine go_asg (v := .d (markD (some (ch.1, m.2)))) (σ₁ := [.list (ds.map fun d => .d d.data)]) (by simp only [eA_1, eA_2, eA_4, eA_5, eA_6, eA_7, eA_10, eA_12, eA_13, eA_15, eA_16, eA_17, eA_18, eA_19, eB_1, eB_2, eO_1, eO_2, ok_bind, List.getElem?_cons_zero, List.getElem?_cons_succ, List.set_cons_zero, List.set_cons_succ, bc_len_s, bc_len_l, bc_len_t, c_eq, c_ne, c_in, c_nin, c_is, c_isn, c_lt, c_gt, c_ge, lt_i, gt_i, ge_s, no_s, eq_int, eq_str, in_sign, in_strs, Tx_size, Tx_len, b_add, b_sub, tr_b, sub_m1, sub_ch0, if_pos (len2 _ _), tup2]; rfl) (go_nil ⟨_, _, ⟨⟨some (ch.1, m.2), ⟨?_, ?_⟩, rfl⟩, rfl⟩, rfl⟩)
          · rcases ho.shape with ⟨l, e1, e2, e3 | ⟨e3, e4⟩⟩ | ⟨e1, e2, e3⟩
            · exact .inl ⟨l, e1, e2, .inl e3⟩
            · exact .inl ⟨l, e1, e2, .inr ⟨e3, fun e => by cases e⟩⟩
            · exact .inr ⟨e1, e2, fun e => by cases e⟩
          · intro m' e; cases e
            exact ⟨.inl rfl, (ho.mark m rfl).2⟩
      · exact go_nil ⟨_, _, ⟨⟨o, ho, rfl⟩, rfl⟩, rfl⟩
    clear ho
    rintro _ _ ⟨⟨o, ho, rfl⟩, rfl⟩
    have hll : (ds.map fun d => V.d d.data).length < line := by simp [line]; omega
    have put : methcall .append true (.ref 0) [.d (Deed.data ⟨d.word, o, d.text⟩)] [.list (ds.map fun d => .d d.data)] = .ok (.d .none) [.list ((ds ++ [(⟨d.word, o, d.text⟩ : Deed)]).map fun d : Deed => V.d d.data)] := by
      simp only [methcall, methcall1, appendTo, List.getElem?_cons_zero, if_pos hll, List.set_cons_zero]
      simp
    have hpre : methPre .append (.ref 0) [.list (ds.map fun d => V.d d.data)] = true := rfl
    have hcat := b_catT (σ := [.list (ds.map fun d => V.d d.data)]) [.str (Tx d.word), markD o] (textD d.text) (by cases d.text <;> simp [textD, line])
    refine go_exp (v := .d .none) (σ₁ := [.list ((ds ++ [(⟨d.word, o, d.text⟩ : Deed)]).map fun d : Deed => V.d d.data)]) ?_ (go_nil ⟨ds ++ [⟨d.word, o, d.text⟩], _, _, ⟨by simp [g0], ?_⟩, ⟨⟨_, _, _, rfl⟩, rfl⟩, rfl⟩)
    · simp only [eA_1, eA_2, eA_4, eA_5, eA_6, eA_7, eA_10, eA_12, eA_13, eA_15, eA_16, eA_17, eA_18, eA_19, eB_1, eB_2, eO_1, eO_2, ok_bind, List.getElem?_cons_zero, List.getElem?_cons_succ, List.set_cons_zero, List.set_cons_succ, bc_len_s, bc_len_l, bc_len_t, c_eq, c_ne, c_in, c_nin, c_is, c_isn, c_lt, c_gt, c_ge, lt_i, gt_i, ge_s, no_s, eq_int, eq_str, in_sign, in_strs, Tx_size, Tx_len, b_add, b_sub, tr_b, hpre, if_true, sub_word, if_pos (len2 _ _), tup2, sl_deed, hcat]
      rw [data_eq] at put
      exact put
    · intro x hx
      simp only [List.mem_append, List.mem_singleton] at hx
      rcases hx with hx | rfl
      · exact g1 x hx
      · exact ho
  · rintro ds ρ σ ⟨g0, g1⟩ ⟨⟨z3, z4, z5, rfl⟩, rfl⟩
    refine go_ret (v := .tup [vs ch.1, .d (dl ch.2.1), .ref 0]) (σ₁ := [.list (ds.map fun d => .d d.data)]) ?_ ⟨ds, ?_, g1, rfl⟩
    · simp only [eA_1, eA_2, eA_4, eA_5, eA_6, eA_7, eA_10, eA_12, eA_13, eA_15, eA_16, eA_17, eA_18, eA_19, eB_1, eB_2, eO_1, eO_2, ok_bind, List.getElem?_cons_zero, List.getElem?_cons_succ, List.set_cons_zero, List.set_cons_succ, bc_len_s, bc_len_l, bc_len_t, c_eq, c_ne, c_in, c_nin, c_is, c_isn, c_lt, c_gt, c_ge, lt_i, gt_i, ge_s, no_s, eq_int, eq_str, in_sign, in_strs, Tx_size, Tx_len, b_add, b_sub, tr_b, sub_ch0, sub_ch1, if_pos (len3 _ _ _)]; rfl
    · have := hg.deeds; simp at g0; omega
theorem snap_refN {k m : Nat} {l : List PyData} (h : σ[k]? = some (.list (l.map .d))) : snap σ (m + 2) (.ref k) = some (.list l) := by
  show snapO (snap σ (m + 1)) σ[k]? = _
  rw [h]
  show (match snapL (snap σ (m + 1)) (l.map .d) with | some xs => some (PyData.list xs) | none => none) = _
  rw [snapL_d]
theorem snap_tup3 (a b : PyData) (l : List PyData) : snap [.list (l.map .d)] 8 (.tup [.d a, .d b, .ref 0]) = some (.tuple [a, b, .list l]) := by
  have h : snap [.list (l.map .d)] 7 (.ref 0) = some (.list l) := snap_refN (k := 0) (m := 5) rfl
  have h2 : ∀ y, snap [.list (l.map .d)] 7 (.d y) = some y := fun _ => rfl
  show (match snapL (snap [.list (l.map .d)] 7) [.d a, .d b, .ref 0] with | some xs => some (PyData.tuple xs) | none => none) = _
  simp only [snapL, h2, h]
theorem ev_numbered (c : Int) (ch : Ch) (hg : GoodCh ch) : ∃ ch' : Ch, GoodCh ch' ∧ ∀ σ, callF P02 isExc fuel (n + 2) false .frz 21 [.d ch.data, vi c] σ = .ok (.d ch'.data) σ := by
  obtain ⟨ds, k1, k2, k3⟩ := run_numbered (C := ⟨callF P02 isExc fuel (n + 1), isExc, fuel, false⟩) rfl (fun c k σ => ev_mixed c k) c ch hg
  refine ⟨(ch.1, ch.2.1, ds), ⟨hg.leans, hg.few, k1, k2⟩, fun σ => frz_ok P21 rfl (run_ret rfl k3) ?_⟩
  have e : (ds.map fun d => V.d d.data) = (ds.map Deed.data).map .d := by rw [List.map_map]; rfl
  rw [e]
  exact snap_tup3 _ _ _
theorem k_a : Str.ofString "a" = Tx [97] := by decide +kernel
theorem ev_one (ns : List Int) (hns : ns.length ≤ 1000) : ∃ ch : Ch, GoodCh ch ∧ ∀ σ, callF P02 isExc fuel (n + 4) false .frz 22 [.d (scD ns), vi 12] σ = .ok (.d ch.data) σ := by
  obtain ⟨cs, c1, c2, c3⟩ := ev_changes (fuel := fuel) (n := n) ns 12 hns (by decide) (by decide)
  have key : Ends (fun r => ∃ ch : Ch, GoodCh ch ∧ r = .ok (.ret (.d ch.data)) []) (execSs ⟨callF P02 isExc fuel (n + 3), isExc, fuel, false⟩ Flaw_one.body [some (.d (scD ns)), some (vi 12), none, none] []) := by
    have hce := fun σ => ev_cell (fuel := fuel) (n := n + 2) (σ := σ) ns 1 (by decide) (by decide)
    have hnu := fun c ch hg => ev_numbered (fuel := fuel) (n := n + 1) c ch hg
    generalize hC : (⟨callF P02 isExc fuel (n + 3), isExc, fuel, false⟩ : Cfg) = C
    have hhd : C.hd = false := by rw [← hC]
    have hcf : C.cf = callF P02 isExc fuel (n + 3) := by rw [← hC]
    show Ends _ (execSs C [_, _, _, _] _ [])
    refine go_asg (v := .d (.list (cs.map Ch.data))) (σ₁ := []) (by simp only [eA_1, eA_2, eA_4, eA_5, eA_6, eA_7, eA_10, eA_12, eA_13, eA_15, eA_16, eA_17, eA_18, eA_19, eB_1, eB_2, eO_1, eO_2, ok_bind, List.getElem?_cons_zero, List.getElem?_cons_succ, List.set_cons_zero, List.set_cons_succ, bc_len_s, bc_len_l, bc_len_t, c_eq, c_ne, c_in, c_nin, c_is, c_isn, c_lt, c_gt, c_ge, lt_i, gt_i, ge_s, no_s, eq_int, eq_str, in_sign, in_strs, Tx_size, Tx_len, b_add, b_sub, tr_b, hcf, hhd, c3] <;> rfl) ?_
    refine go_ite (t := cs.isEmpty) (σ₁ := []) ?_ (fun h => ?_) (fun h => ?_)
    · rw [eA_8]
      simp only [eA_1, eA_2, eA_4, eA_5, eA_6, eA_7, eA_10, eA_12, eA_13, eA_15, eA_16, eA_17, eA_18, eA_19, eB_1, eB_2, eO_1, eO_2, ok_bind, List.getElem?_cons_zero, List.getElem?_cons_succ, List.set_cons_zero, List.set_cons_succ, bc_len_s, bc_len_l, bc_len_t, c_eq, c_ne, c_in, c_nin, c_is, c_isn, c_lt, c_gt, c_ge, lt_i, gt_i, ge_s, no_s, eq_int, eq_str, in_sign, in_strs, Tx_size, Tx_len, b_add, b_sub, tr_b]
      show Res.ok (V.d (.bool (!(!(cs.map Ch.data).isEmpty)))) _ = _
      rw [Bool.not_not, List.isEmpty_map]
    · refine go_ret (v := .d (change [97] [] [])) (σ₁ := []) ?_ ⟨([97], [], []), ⟨by decide, by decide, by decide, by simp⟩, rfl⟩
      simp only [eA_1, eA_2, eA_4, eA_5, eA_6, eA_7, eA_10, eA_12, eA_13, eA_15, eA_16, eA_17, eA_18, eA_19, eB_1, eB_2, eO_1, eO_2, ok_bind, List.getElem?_cons_zero, List.getElem?_cons_succ, List.set_cons_zero, List.set_cons_succ, bc_len_s, bc_len_l, bc_len_t, c_eq, c_ne, c_in, c_nin, c_is, c_isn, c_lt, c_gt, c_ge, lt_i, gt_i, ge_s, no_s, eq_int, eq_str, in_sign, in_strs, Tx_size, Tx_len, b_add, b_sub, tr_b, k_a, mkList, allD, List.length_nil, if_pos (Nat.zero_le line), if_pos (len3 _ _ _), tup3]; rfl
    · have hp : 0 < cs.length := by
        cases cs with
        | nil => cases h
        | cons _ _ => simp
      refine go_asg (v := vi (cellOf ns (1 : Int).toNat)) (σ₁ := []) (by simp only [eA_1, eA_2, eA_4, eA_5, eA_6, eA_7, eA_10, eA_12, eA_13, eA_15, eA_16, eA_17, eA_18, eA_19, eB_1, eB_2, eO_1, eO_2, ok_bind, List.getElem?_cons_zero, List.getElem?_cons_succ, List.set_cons_zero, List.set_cons_succ, bc_len_s, bc_len_l, bc_len_t, c_eq, c_ne, c_in, c_nin, c_is, c_isn, c_lt, c_gt, c_ge, lt_i, gt_i, ge_s, no_s, eq_int, eq_str, in_sign, in_strs, Tx_size, Tx_len, b_add, b_sub, tr_b, hcf, hhd, hce] <;> rfl) ?_
      generalize cellOf ns (1 : Int).toNat = c
      have hm := fmod_lt c (j := (cs.length : Int)) (arr hp)
      have hi : (c.fmod cs.length).toNat < cs.length := by omega
      have hs : subscr (.d (.list (cs.map Ch.data))) (vi (c.fmod cs.length)) [] = some (.d (Ch.data cs[(c.fmod cs.length).toNat])) := at_list _ hm.1 (by omega) (by rw [List.getElem?_map, List.getElem?_eq_getElem hi]; rfl)
      obtain ⟨ch, e1, e2⟩ := hnu (c.fdiv 7) cs[(c.fmod cs.length).toNat] (c2 _ (List.getElem_mem hi))
      refine go_ret (v := .d ch.data) (σ₁ := []) (by simp only [eA_1, eA_2, eA_4, eA_5, eA_6, eA_7, eA_10, eA_12, eA_13, eA_15, eA_16, eA_17, eA_18, eA_19, eB_1, eB_2, eO_1, eO_2, ok_bind, List.getElem?_cons_zero, List.getElem?_cons_succ, List.set_cons_zero, List.set_cons_succ, bc_len_s, bc_len_l, bc_len_t, c_eq, c_ne, c_in, c_nin, c_is, c_isn, c_lt, c_gt, c_ge, lt_i, gt_i, ge_s, no_s, eq_int, eq_str, in_sign, in_strs, Tx_size, Tx_len, b_add, b_sub, tr_b, hcf, hhd, List.length_map, b_mod (ars hp), hs, b_div (show (7 : Int) ≠ 0 by decide), e2] <;> rfl) ⟨ch, e1, rfl⟩
  obtain ⟨ch, k1, k2⟩ := key
  exact ⟨ch, k1, fun σ => frz_ok P22 rfl (run_ret rfl k2) rfl⟩
end
end Mine

namespace Mine
open PySem
noncomputable def sepL (sep : List Nat) : List (List Nat) → List Nat
  | [] => []
  | a :: r => (match r with | [] => a | b :: q => a ++ sep ++ sepL sep (b :: q))
theorem sepL_one (sep a : List Nat) : sepL sep [a] = a := by rw [sepL]
theorem sepL_cons (sep a b : List Nat) (r : List (List Nat)) : sepL sep (a :: b :: r) = a ++ sep ++ sepL sep (b :: r) := by rw [sepL]
theorem joinS_Tx (sep : List Nat) : ∀ l : List (List Nat), Str.join (Tx sep) (l.map Tx) = Tx (sepL sep l)
  | [] => rfl
  | [a] => by rw [sepL_one]; rfl
  | a :: b :: r => by
    have ih := joinS_Tx sep (b :: r)
    simp only [List.map_cons, Str.join] at ih ⊢
    rw [ih, Tx_app, Tx_app, sepL_cons]
theorem join_Tx (sep : List Nat) (l : List (List Nat)) : Txt.join (Tx sep) (l.map Tx) = Tx (sepL sep l) := by
  show Builtin.Str.glued _ _ = _
  rw [StrLaws.glued_eq_join, joinS_Tx]
theorem app_free {c : Nat} : ∀ {a b x y : List Nat}, c ∉ a → c ∉ b → a ++ c :: x = b ++ c :: y → a = b ∧ x = y
  | [], [], x, y, _, _, h => ⟨rfl, by simpa using h⟩
  | [], b :: l, x, y, _, hb, h => by
    simp only [List.nil_append, List.cons_append, List.cons.injEq] at h
    exact absurd (by rw [h.1]; simp) hb
  | a :: l, [], x, y, ha, _, h => by
    simp only [List.nil_append, List.cons_append, List.cons.injEq] at h
    exact absurd (by rw [h.1]; simp) ha
  | a :: l, b :: m, x, y, ha, hb, h => by
    simp only [List.cons_append, List.cons.injEq] at h
    obtain ⟨h1, h2⟩ := app_free (fun e => ha (List.mem_cons_of_mem _ e)) (fun e => hb (List.mem_cons_of_mem _ e)) h.2
    exact ⟨by rw [h.1, h1], h2⟩
theorem sepL_inj {c : Nat} : ∀ {A B : List (List Nat)}, A ≠ [] → B ≠ [] → (∀ a ∈ A, c ∉ a) → (∀ b ∈ B, c ∉ b) → sepL [c] A = sepL [c] B → A = B
  | [], _, h, _, _, _, _ => absurd rfl h
  | _, [], _, h, _, _, _ => absurd rfl h
  | [a], [b], _, _, _, _, h => by rw [sepL_one, sepL_one] at h; rw [h]
  | [a], b :: b' :: r, _, _, ha, _, h => by
    rw [sepL_one, sepL_cons] at h
    exact absurd (by rw [h]; simp) (ha a (by simp))
  | a :: a' :: r, [b], _, _, _, hb, h => by
    rw [sepL_one, sepL_cons] at h
    exact absurd (by rw [← h]; simp) (hb b (by simp))
  | a :: a' :: r, b :: b' :: q, _, _, ha, hb, h => by
    rw [sepL_cons, sepL_cons, List.append_assoc, List.append_assoc] at h
    obtain ⟨h1, h2⟩ := app_free (ha a (by simp)) (hb b (by simp)) h
    have := sepL_inj (by simp) (by simp) (fun x hx => ha x (List.mem_cons_of_mem _ hx)) (fun x hx => hb x (List.mem_cons_of_mem _ hx)) h2
    rw [h1, this]
theorem split_Tx (c : Nat) (l : List (List Nat)) (h0 : sepL [c] l ≠ []) (hf : ∀ a ∈ l, c ∉ a) : Txt.split (Tx (sepL [c] l)) (Tx [c]) = l.map Tx := by
  have h1 := StrLaws.join_split (Tx (sepL [c] l)) (Tx [c])
  have h2 := StrLaws.split_free (Tx (sepL [c] l)) c
  have h2 : ∀ p ∈ Txt.split (Tx (sepL [c] l)) (Tx [c]), c ∉ p.cps.toList := h2
  generalize Txt.split (Tx (sepL [c] l)) (Tx [c]) = S at h1 h2
  have h3 : S = (S.map fun p => p.cps.toList).map Tx := by
    rw [List.map_map]
    exact (List.map_id S).symm.trans (List.map_congr_left fun p _ => (Tx_eta p).symm)
  rw [h3, joinS_Tx] at h1
  have h4 := Tx_inj h1
  rw [h3]
  congr 1
  refine sepL_inj ?_ ?_ ?_ hf h4
  · intro e; rw [e] at h4; exact h0 h4.symm
  · intro e; rw [e] at h0; exact h0 rfl
  · intro a ha
    obtain ⟨p, hp, rfl⟩ := List.mem_map.mp ha
    exact h2 p hp
theorem occ1 (c : Nat) (y a b : List Nat) (hc : c ∉ a) : ∃ r, Builtin.Str.occurrences (Tx (a ++ c :: y ++ b)) (Tx (c :: y)) 0 (Tx (a ++ c :: y ++ b)).length 1 = a.length :: r := by
  have hat : StrLaws.At (Tx (a ++ c :: y ++ b)) (Tx (c :: y)) (Tx (a ++ c :: y ++ b)).length a.length := by
    refine ⟨by simp [Tx_len], ?_⟩
    rw [StrLaws.subAt_eq, Tx_list, Tx_list, Tx_len]
    simp
  have hn : ∀ i, i < a.length → ¬ StrLaws.At (Tx (a ++ c :: y ++ b)) (Tx (c :: y)) (Tx (a ++ c :: y ++ b)).length i := by
    rintro i hi ⟨_, h⟩
    rw [StrLaws.subAt_eq, Tx_list, Tx_list, Tx_len] at h
    have h' := eq_of_beq h
    have h2 : ((List.drop i (a ++ c :: y ++ b)).take (c :: y).length)[0]? = some c := by rw [h']; rfl
    rw [List.getElem?_take, if_pos (by simp), List.getElem?_drop, Nat.add_zero, List.append_assoc, List.getElem?_append_left hi] at h2
    exact hc (List.mem_of_getElem? h2)
  rcases StrLaws.occ_head (Tx (a ++ c :: y ++ b)) (Tx (c :: y)) 1 (Nat.le_refl _) with ⟨_, h⟩ | ⟨i, r, h1, h2, h3⟩
  · exact absurd hat (h _)
  · have : i = a.length := by
      rcases Nat.lt_trichotomy i a.length with h | h | h
      · exact absurd h2 (hn i h)
      · exact h
      · exact absurd hat (h3 _ h)
    exact ⟨r, by rw [h1, this]⟩
theorem find_Tx (c : Nat) (y a b : List Nat) (hc : c ∉ a) : Txt.find (Tx (a ++ c :: y ++ b)) (Tx (c :: y)) = (a.length : Int) := by
  obtain ⟨r, h⟩ := occ1 c y a b hc
  unfold Txt.find
  rw [h]
theorem sub_Tx (l : List Nat) (i j : Nat) : Builtin.Str.strSub (Tx l) i j = Tx ((l.drop i).take (j - i)) := by
  rw [← Tx_eta (Builtin.Str.strSub (Tx l) i j), StrLaws.strSub_toList, Tx_list]
theorem part_Tx (c : Nat) (a b : List Nat) (hc : c ∉ a) : Txt.partition (Tx (a ++ c :: b)) (Tx [c]) = (Tx a, Tx [c], Tx b) := by
  obtain ⟨r, h⟩ := occ1 c [] a b hc
  have e : a ++ [c] ++ b = a ++ c :: b := by simp
  rw [e] at h
  unfold Txt.partition
  rw [h]
  simp only [sub_Tx, Tx_len]
  have e2 : a.length + (b.length + 1) - (a.length + 1) = b.length := by omega
  simp [e2]
noncomputable def fig (n : Int) : List Nat := (strOf n).cps.toList
theorem strOf_Tx (n : Int) : strOf n = Tx (fig n) := (Tx_eta _).symm
theorem fig_nat (m : Nat) : fig (m : Int) = (Nat.toDigits 10 m).map Char.toNat := PySem.W.KIN.signs_num m
theorem fig_digit {n : Int} (h0 : 0 ≤ n) : ∀ c ∈ fig n, 48 ≤ c ∧ c ≤ 57 := by
  obtain ⟨m, rfl⟩ := Int.eq_ofNat_of_zero_le h0
  intro c hc
  rw [fig_nat m] at hc
  obtain ⟨ch, hch, e⟩ := List.mem_map.mp hc
  have r := PyProof.Rows.digit_range (Nat.isDigit_of_mem_toDigits (by decide) (by decide) hch)
  rw [← e]; exact r
theorem fig_len {n : Int} (h0 : 0 ≤ n) (h1 : n < 1000000000) : 1 ≤ (fig n).length ∧ (fig n).length ≤ 9 := by
  obtain ⟨m, rfl⟩ := Int.eq_ofNat_of_zero_le h0
  rw [fig_nat m, List.length_map]
  refine ⟨Nat.length_toDigits_pos, (Nat.length_toDigits_le_iff (by decide) (by decide)).mpr ?_⟩
  have : (m : Int) < 1000000000 := h1
  omega
theorem dig_lead (m : Nat) : ∀ r, (Nat.toDigits 10 m).map Char.toNat = 48 :: r → r = [] := by
  induction m using Nat.strongRecOn with
  | _ m ih =>
    intro r h
    by_cases hm : m < 10
    · rw [Nat.toDigits_of_lt_base hm] at h
      simp at h; exact h.2.symm ▸ rfl
    · have h10 : m % 10 < 10 := Nat.mod_lt m (by decide)
      have t : Nat.toDigits 10 (m / 10) ++ Nat.toDigits 10 (m % 10) = Nat.toDigits 10 (10 * (m / 10) + m % 10) := Nat.toDigits_append_toDigits (by decide) (by omega) h10
      rw [Nat.div_add_mod] at t
      rw [← t, List.map_append] at h
      cases hq : (Nat.toDigits 10 (m / 10)).map Char.toNat with
      | nil => exact absurd (List.map_eq_nil_iff.mp hq) Nat.toDigits_ne_nil
      | cons x xs =>
        rw [hq, List.cons_append] at h
        simp only [List.cons.injEq] at h
        have hx := ih (m / 10) (by omega) xs (by rw [hq, h.1])
        exfalso
        have hv := PySem.W.KIN.val_back (m / 10)
        rw [hq, hx, h.1] at hv
        have : m / 10 = 0 := by rw [← hv]; decide
        omega
theorem fig_lead {n : Int} (h0 : 0 ≤ n) {r : List Nat} (h : fig n = 48 :: r) : r = [] := by
  obtain ⟨m, rfl⟩ := Int.eq_ofNat_of_zero_le h0
  rw [fig_nat m] at h
  exact dig_lead m r h
end Mine

namespace Mine
open PySem
noncomputable def kchg : List Nat := [99, 104, 97, 110, 103, 101]
noncomputable def kon : List Nat := [111, 110]
theorem k_chg : Str.ofString "change " = Tx (kchg ++ [32]) := by decide +kernel
theorem k_chg0 : Str.ofString "change" = Tx kchg := by decide +kernel
theorem k_on : Str.ofString "on" = Tx kon := by decide +kernel
theorem k_on2 : Str.ofString " on " = Tx ([32] ++ kon ++ [32]) := by decide +kernel
theorem k_sp : Str.ofString " " = Tx [32] := by decide +kernel
theorem k_nl : Str.ofString "\n" = Tx [10] := by decide +kernel
theorem k_bar : Str.ofString "-" = Tx [45] := by decide +kernel
theorem k_cuts : Str.ofString "cut " = Tx (kcut ++ [32]) := by decide +kernel
noncomputable def markT : Option (List Nat × Int) → List Nat
  | none => [45]
  | some m => m.1 ++ [32] ++ fig m.2
noncomputable def tailT : Option (List Nat) → List Nat
  | none => []
  | some l => [58, 32] ++ l
noncomputable def deedT (d : Deed) : List Nat := d.word ++ [32] ++ markT d.mark ++ tailT d.text
noncomputable def headW (t : List Nat) (ls : List (List Nat)) : List (List Nat) := kchg :: t :: (match ls with | [] => [] | _ :: _ => kon :: ls)
noncomputable def noteT (c : Ch) : List Nat := sepL [10] (sepL [32] (headW c.1 c.2.1) :: c.2.2.map deedT)
noncomputable def MarkOk (o : Option (List Nat × Int)) : Prop := ∀ m, o = some m → isName m.1 = true ∧ 0 ≤ m.2 ∧ m.2 < 1000000000
structure FineD (d : Deed) : Prop where
  mark : MarkOk d.mark
  shape : (d.word = kcut ∧ d.text = none) ∨ ((d.word = kadd ∨ d.word = kset) ∧ ∃ l, d.text = some l ∧ isLine l = true)
structure Fine (c : Ch) : Prop where
  name : isName c.1 = true
  leans : ∀ x ∈ c.2.1, isName x = true
  few : c.2.1.length ≤ 60
  deeds : c.2.2.length ≤ 20
  each : ∀ d ∈ c.2.2, FineD d
theorem GoodCh.fine {c : Ch} (h : GoodCh c) : Fine c := by
  have hl := h.leans
  simp only [leansOk, Bool.and_eq_true, List.all_eq_true] at hl
  obtain ⟨⟨⟨h1, h2⟩, _⟩, _⟩ := hl
  refine ⟨h1, h2, h.few, h.deeds, fun d hd => ⟨fun m hm => ?_, ?_⟩⟩
  · obtain ⟨e1, e2⟩ := (h.good d hd).mark m hm
    refine ⟨?_, e2⟩
    rcases e1 with e | e
    · rw [e]; exact h1
    · exact h2 _ e
  · rcases (h.good d hd).shape with ⟨l, e1, e2, e3⟩ | ⟨e1, e2, e3⟩
    · refine .inr ⟨?_, l, e2, e1⟩
      rcases e3 with e | e
      · exact .inl e
      · exact .inr e.1
    · exact .inl ⟨e1, e2⟩
theorem name_len {t : List Nat} (h : isName t = true) : 1 ≤ t.length ∧ t.length ≤ 12 := by
  simp only [isName, Bool.and_eq_true, Bool.not_eq_true', Bool.or_eq_false_iff, decide_eq_false_iff_not] at h
  omega
theorem name_in {t : List Nat} (h : isName t = true) : ∀ c ∈ t, c ∈ signs := by
  simp only [isName, Bool.and_eq_true, List.all_eq_true, decide_eq_true_eq] at h
  exact h.2
theorem name_no {t : List Nat} (h : isName t = true) {c : Nat} (hc : c ∉ signs) : c ∉ t := fun e => hc (name_in h c e)
theorem line_len {t : List Nat} (h : isLine t = true) : t.length ≤ 200 := ((line_iff t).mp h).1
theorem mark_len {o : Option (List Nat × Int)} (h : MarkOk o) : (markT o).length ≤ 22 := by
  cases o with
  | none => decide
  | some m =>
    obtain ⟨h1, h2, h3⟩ := h m rfl
    have e1 := name_len h1
    have e2 := fig_len h2 h3
    simp [markT]; omega
theorem sep_len (sep : List Nat) {B : Nat} : ∀ l : List (List Nat), (∀ t ∈ l, t.length ≤ B) → (sepL sep l).length ≤ l.length * (B + sep.length)
  | [], _ => by simp [sepL]
  | [a], h => by
    have := h a (by simp)
    rw [sepL_one]; simp; omega
  | a :: b :: r, h => by
    have ih := sep_len sep (b :: r) (fun t ht => h t (List.mem_cons_of_mem _ ht))
    have := h a (by simp)
    rw [sepL_cons, List.length_cons, Nat.succ_mul]
    simp only [List.length_append]; omega
theorem joinOkB (sep : List Nat) {B : Nat} (l : List (List Nat)) (h : ∀ t ∈ l, t.length ≤ B) (hb : l.length * B + l.length * sep.length ≤ 16777216) : JoinOk (Tx sep) (l.map Tx) = true := by
  refine PyProof.Rows.joinOk_of ?_
  have h1 := StrLaws.sumLen_le (B := B) (l.map Tx) (by
    intro y hy
    obtain ⟨t, ht, rfl⟩ := List.mem_map.mp hy
    rw [Tx_len]; exact h t ht)
  simp only [List.length_map, Tx_len] at h1 ⊢
  omega
section
variable {fuel n : Nat} {hd : Bool} {σ : Store} {X : Nat → Nat → Option Bool} {fz : Bool}
theorem Q6 : P02 6 = some F_mark_text := rfl
theorem Q7 : P02 7 = some F_written := rfl
theorem Q23 : P02 23 = some F_mark_text := rfl
theorem Q24 : P02 24 = some Flaw_deed_row := rfl
theorem Q25 : P02 25 = some Flaw_written := rfl
theorem bc_str {i : Int} (h0 : 0 ≤ i) (h : i < 1000000000) : bcall X hd .str fz [vi i] σ = .ok (vs (fig i)) σ := by
  have : i.natAbs < 1000000000000 := by omega
  refine (if_pos this).trans ?_
  rw [strOf_Tx]
theorem run_mark_text {C : Cfg} (o : Option (List Nat × Int)) (h : MarkOk o) : Ends (fun r => r = .ok (.ret (vs (markT o))) []) (execSs C F_mark_text.body [some (.d (markD o))] []) := by
  show Ends _ (execSs C [_, _] _ [])
  refine go_ite (t := o.isNone) (σ₁ := []) (by simp only [eA_1, eA_2, eA_4, eA_5, eA_6, eA_7, eA_10, eA_12, eA_13, eA_15, eA_16, eA_17, eA_18, eA_19, eB_1, eB_2, eO_1, eO_2, ok_bind, List.getElem?_cons_zero, List.getElem?_cons_succ, List.set_cons_zero, List.set_cons_succ, bc_len_s, bc_len_l, bc_len_t, c_eq, c_ne, c_in, c_nin, c_is, c_isn, c_lt, c_gt, c_ge, lt_i, gt_i, ge_s, no_s, eq_int, eq_str, in_sign, in_strs, Tx_size, Tx_len, b_add, b_sub, tr_b, is_mark] <;> rfl) (fun e => ?_) (fun e => ?_)
  · cases o with
    | none => exact go_ret (v := vs [45]) (σ₁ := []) (by simp only [eA_1, eA_2, eA_4, eA_5, eA_6, eA_7, eA_10, eA_12, eA_13, eA_15, eA_16, eA_17, eA_18, eA_19, eB_1, eB_2, eO_1, eO_2, ok_bind, List.getElem?_cons_zero, List.getElem?_cons_succ, List.set_cons_zero, List.set_cons_succ, bc_len_s, bc_len_l, bc_len_t, c_eq, c_ne, c_in, c_nin, c_is, c_isn, c_lt, c_gt, c_ge, lt_i, gt_i, ge_s, no_s, eq_int, eq_str, in_sign, in_strs, Tx_size, Tx_len, b_add, b_sub, tr_b, k_bar] <;> rfl) rfl
    | some m => cases e
  · cases o with
    | none => cases e
    | some m =>
      obtain ⟨h1, h2, h3⟩ := h m rfl
      have e1 := name_len h1
      have e2 := fig_len h2 h3
      have c1 := b_cat (fz := true) (σ := []) m.1 [32] (by simp [line]; omega)
      have c2 := b_cat (fz := true) (σ := []) (m.1 ++ [32]) (fig m.2) (by simp [line]; omega)
      exact go_ret (v := vs (m.1 ++ [32] ++ fig m.2)) (σ₁ := []) (by simp only [eA_1, eA_2, eA_4, eA_5, eA_6, eA_7, eA_10, eA_12, eA_13, eA_15, eA_16, eA_17, eA_18, eA_19, eB_1, eB_2, eO_1, eO_2, ok_bind, List.getElem?_cons_zero, List.getElem?_cons_succ, List.set_cons_zero, List.set_cons_succ, bc_len_s, bc_len_l, bc_len_t, c_eq, c_ne, c_in, c_nin, c_is, c_isn, c_lt, c_gt, c_ge, lt_i, gt_i, ge_s, no_s, eq_int, eq_str, in_sign, in_strs, Tx_size, Tx_len, b_add, b_sub, tr_b, sub_m0, sub_m1, k_sp, c1, bc_str h2 h3, c2] <;> rfl) rfl
theorem ev_mark_text (o : Option (List Nat × Int)) (h : MarkOk o) : callF P02 isExc fuel (n + 1) false .frz 6 [.d (markD o)] σ = .ok (vs (markT o)) σ := frz_ok Q6 rfl (run_ret rfl (run_mark_text o h)) rfl
theorem ev_mark_row (o : Option (List Nat × Int)) (h : MarkOk o) : callF P02 isExc fuel (n + 1) false .frz 23 [.d (markD o)] σ = .ok (vs (markT o)) σ := frz_ok Q23 rfl (run_ret rfl (run_mark_text o h)) rfl
theorem deed_len {d : Deed} (h : FineD d) : (deedT d).length ≤ 300 := by
  have h1 := mark_len h.mark
  rcases h.shape with ⟨e1, e2⟩ | ⟨e1, l, e2, e3⟩
  · simp only [deedT, e1, e2, tailT, List.length_append, List.length_nil]; simp [kcut]; omega
  · have h2 := line_len e3
    have h3 : d.word.length = 3 := by rcases e1 with e | e <;> rw [e] <;> rfl
    simp only [deedT, e2, tailT, List.length_append, h3]; simp; omega
theorem wd3 {d : Deed} (h : FineD d) : d.word.length = 3 := by
  rcases h.shape with ⟨e, _⟩ | ⟨e | e, _⟩ <;> rw [e] <;> rfl
theorem ev_deed_row (d : Deed) (h : FineD d) : callF P02 isExc fuel (n + 2) false .frz 24 [.d d.data] σ = .ok (vs (deedT d)) σ := by
  refine frz_ok (v := vs (deedT d)) (σ₁ := []) Q24 rfl (run_ret rfl ?_) rfl
  have hm := ev_mark_row (fuel := fuel) (n := n) (σ := []) d.mark h.mark
  have hml := mark_len h.mark
  have hw := wd3 h
  generalize hC : (⟨callF P02 isExc fuel (n + 1), isExc, fuel, false⟩ : Cfg) = C
  have hhd : C.hd = false := by rw [← hC]
  have hcf : C.cf = callF P02 isExc fuel (n + 1) := by rw [← hC]
  show Ends (fun r => r = _) (execSs C [_, _] [some (.d d.data)] [])
  refine go_ite (t := decide (d.word = kcut)) (σ₁ := []) (by simp only [eA_1, eA_2, eA_4, eA_5, eA_6, eA_7, eA_10, eA_12, eA_13, eA_15, eA_16, eA_17, eA_18, eA_19, eB_1, eB_2, eO_1, eO_2, ok_bind, List.getElem?_cons_zero, List.getElem?_cons_succ, List.set_cons_zero, List.set_cons_succ, bc_len_s, bc_len_l, bc_len_t, c_eq, c_ne, c_in, c_nin, c_is, c_isn, c_lt, c_gt, c_ge, lt_i, gt_i, ge_s, no_s, eq_int, eq_str, in_sign, in_strs, Tx_size, Tx_len, b_add, b_sub, tr_b, sub_word, k_cut] <;> rfl) (fun e => ?_) (fun e => ?_)
  · have e := of_decide_eq_true e
    have c1 := b_cat (fz := true) (σ := []) (kcut ++ [32]) (markT d.mark) (by simp [line, kcut]; omega)
    refine go_ret (v := vs (kcut ++ [32] ++ markT d.mark)) (σ₁ := []) (by simp only [eA_1, eA_2, eA_4, eA_5, eA_6, eA_7, eA_10, eA_12, eA_13, eA_15, eA_16, eA_17, eA_18, eA_19, eB_1, eB_2, eO_1, eO_2, ok_bind, List.getElem?_cons_zero, List.getElem?_cons_succ, List.set_cons_zero, List.set_cons_succ, bc_len_s, bc_len_l, bc_len_t, c_eq, c_ne, c_in, c_nin, c_is, c_isn, c_lt, c_gt, c_ge, lt_i, gt_i, ge_s, no_s, eq_int, eq_str, in_sign, in_strs, Tx_size, Tx_len, b_add, b_sub, tr_b, k_cuts, sub_mark, hcf, hhd, hm, c1] <;> rfl) ?_
    rcases h.shape with ⟨e1, e2⟩ | ⟨e1, l, e2, e3⟩
    · simp only [deedT, e1, e2, tailT, List.append_nil]
    · rw [e] at e1; exact absurd e1 (by decide)
  · have e := of_decide_eq_false e
    rcases h.shape with ⟨e1, e2⟩ | ⟨e1, l, e2, e3⟩
    · exact absurd e1 e
    · have hl := line_len e3
      have c1 := b_cat (fz := true) (σ := []) d.word [32] (by simp [line, hw])
      have c2 := b_cat (fz := true) (σ := []) (d.word ++ [32]) (markT d.mark) (by simp [line, hw]; omega)
      have c3 := b_cat (fz := true) (σ := []) (d.word ++ [32] ++ markT d.mark) [58, 32] (by simp [line, hw]; omega)
      have c4 := b_cat (fz := true) (σ := []) (d.word ++ [32] ++ markT d.mark ++ [58, 32]) l (by simp [line, hw]; omega)
      refine go_ret (v := vs (d.word ++ [32] ++ markT d.mark ++ [58, 32] ++ l)) (σ₁ := []) (by simp only [eA_1, eA_2, eA_4, eA_5, eA_6, eA_7, eA_10, eA_12, eA_13, eA_15, eA_16, eA_17, eA_18, eA_19, eB_1, eB_2, eO_1, eO_2, ok_bind, List.getElem?_cons_zero, List.getElem?_cons_succ, List.set_cons_zero, List.set_cons_succ, bc_len_s, bc_len_l, bc_len_t, c_eq, c_ne, c_in, c_nin, c_is, c_isn, c_lt, c_gt, c_ge, lt_i, gt_i, ge_s, no_s, eq_int, eq_str, in_sign, in_strs, Tx_size, Tx_len, b_add, b_sub, tr_b, k_sp, sub_mark, sub_word, hcf, hhd, hm, c1, c2, c3, c4, k_col, sub_text d e2] <;> rfl) ?_
      simp only [deedT, e2, tailT, List.append_assoc]
end
end Mine

namespace Mine
open PySem
section
variable {C : Cfg} {ρ : Vars} {σ σ₁ σ₂ σ₃ σ₄ : Store} {Q : Res Fl → Prop} {r : List S} {e o i v : E} {x y z : V} {fz : Bool}
theorem go_set (h1 : evalE C v ρ σ = .ok x σ₁) (h2 : evalE C o ρ σ₁ = .ok y σ₂) (h3 : evalE C i ρ σ₂ = .ok z σ₃) (h4 : setItemV y z x σ₃ = .ok (.next []) σ₄) (k : Ends Q (execSs C r ρ σ₄)) : Ends Q (execSs C (.set o i v :: r) ρ σ) := by
  rw [xB_2, xA_4, h1, ok_bind, h2, ok_bind, h3, ok_bind, h4]
  exact k
theorem e_joinL {l : List (List Nat)} {sep : List Nat} (h : evalE C e ρ σ = .ok x σ₁) (hl : lstOf σ₁ x = some (l.map vs)) (hok : JoinOk (Tx sep) (l.map Tx) = true) :
    evalE C (.meth .join fz (.cst (.str (Tx sep))) [e]) ρ σ = .ok (vs (sepL sep l)) σ₁ := by
  have hp : methPre .join (.d (.str (Tx sep))) σ = true := rfl
  have hi : isStrV (.d (.str (Tx sep))) = some (Tx sep) := rfl
  rw [eA_19, eA_1, ok_bind, if_pos hp, eB_2, h, ok_bind, eB_1, ok_bind, ok_bind]
  simp only [methcall, methcall1, hi, joinBy, hl, strsV_vs, if_pos hok, join_Tx]
end
theorem headW_len {t : List Nat} {ls : List (List Nat)} (h1 : isName t = true) (h2 : ∀ x ∈ ls, isName x = true) (h3 : ls.length ≤ 60) : (sepL [32] (headW t ls)).length ≤ 1000 := by
  have e := sep_len [32] (B := 12) (headW t ls) (by
    intro x hx
    have a1 := (name_len h1).2
    unfold headW at hx
    cases ls with
    | nil =>
      simp only [List.mem_cons, List.not_mem_nil, or_false] at hx
      rcases hx with rfl | rfl
      · decide
      · exact a1
    | cons y r =>
      simp only [List.mem_cons] at hx
      rcases hx with rfl | rfl | rfl | hx
      · decide
      · exact a1
      · decide
      · exact (name_len (h2 x (List.mem_cons.mpr hx))).2)
  have e2 : (headW t ls).length ≤ 63 := by
    unfold headW
    cases ls with
    | nil => simp
    | cons y r => simp at h3 ⊢; omega
  simp only [List.length_cons, List.length_nil] at e
  omega
theorem head0 (t : List Nat) : sepL [32] (headW t []) = kchg ++ [32] ++ t := by
  simp only [headW, sepL_cons, sepL_one]
theorem head1 (t : List Nat) (ls : List (List Nat)) (h : ls ≠ []) : sepL [32] (headW t ls) = kchg ++ [32] ++ t ++ ([32] ++ kon ++ [32]) ++ sepL [32] ls := by
  cases ls with
  | nil => exact absurd rfl h
  | cons y r => simp only [headW, sepL_cons, List.append_assoc]
theorem head2 (t : List Nat) (ls : List (List Nat)) (h : ls ≠ []) : sepL [32] ((kchg ++ [32] ++ t) :: kon :: ls) = sepL [32] (headW t ls) := by
  cases ls with
  | nil => exact absurd rfl h
  | cons y r => simp only [headW, sepL_cons, List.append_assoc]
section
variable {fuel n : Nat} {hd : Bool} {σ : Store}
theorem note_ok {c : Ch} (h : Fine c) : JoinOk (Tx [10]) ((sepL [32] (headW c.1 c.2.1) :: c.2.2.map deedT).map Tx) = true := by
  refine joinOkB [10] (B := 1000) _ ?_ ?_
  · intro t ht
    rcases List.mem_cons.mp ht with rfl | ht
    · exact headW_len h.name h.leans h.few
    · obtain ⟨d, hd, rfl⟩ := List.mem_map.mp ht
      exact Nat.le_trans (deed_len (h.each d hd)) (by decide)
  · have := h.deeds
    simp; omega
theorem leans_join {ls : List (List Nat)} (h2 : ∀ x ∈ ls, isName x = true) (h3 : ls.length ≤ 60) : JoinOk (Tx [32]) (ls.map Tx) = true := by
  refine joinOkB [32] (B := 12) _ (fun t ht => (name_len (h2 t ht)).2) ?_
  simp; omega
theorem lst_dl (ls : List (List Nat)) : lstOf σ (.d (dl ls)) = some (ls.map vs) := by
  show some ((ls.map fun t => PyData.str (Tx t)).map V.d) = _
  rw [List.map_map]; rfl
theorem run_written {C : Cfg} (hhd : C.hd = false) (hm : ∀ (o : Option (List Nat × Int)) σ, MarkOk o → C.cf false .frz 6 [.d (markD o)] σ = .ok (vs (markT o)) σ) (c : Ch) (h : Fine c) :
    Ends (fun r => ∃ σ', r = .ok (.ret (vs (noteT c))) σ') (execSs C F_written.body [some (.d c.data), none, none, none, none] []) := by
  show Ends _ (execSs C [_, _, _, _, _] _ [])
  have hn := name_len h.name
  have c1 := b_cat (fz := true) (σ := []) (kchg ++ [32]) c.1 (by simp [line, kchg]; omega)
  refine go_asg (v := vs (kchg ++ [32] ++ c.1)) (σ₁ := []) (by simp only [eA_1, eA_2, eA_4, eA_5, eA_6, eA_7, eA_10, eA_12, eA_13, eA_15, eA_16, eA_17, eA_18, eA_19, eB_1, eB_2, eO_1, eO_2, ok_bind, List.getElem?_cons_zero, List.getElem?_cons_succ, List.set_cons_zero, List.set_cons_succ, bc_len_s, bc_len_l, bc_len_t, c_eq, c_ne, c_in, c_nin, c_is, c_isn, c_lt, c_gt, c_ge, lt_i, gt_i, ge_s, no_s, eq_int, eq_str, in_sign, in_strs, Tx_size, Tx_len, b_add, b_sub, tr_b, k_chg, sub_ch0, c1] <;> rfl) ?_
  refine go_mid (M := fun ρ σ => ρ = [some (.d c.data), some (vs (sepL [32] (headW c.1 c.2.1))), none, none, none] ∧ σ = []) ?_ ?_
  · refine go_ite (t := decide ((c.2.1.length : Int) > 0)) (σ₁ := []) (by simp only [eA_1, eA_2, eA_4, eA_5, eA_6, eA_7, eA_10, eA_12, eA_13, eA_15, eA_16, eA_17, eA_18, eA_19, eB_1, eB_2, eO_1, eO_2, ok_bind, List.getElem?_cons_zero, List.getElem?_cons_succ, List.set_cons_zero, List.set_cons_succ, bc_len_s, bc_len_l, bc_len_t, c_eq, c_ne, c_in, c_nin, c_is, c_isn, c_lt, c_gt, c_ge, lt_i, gt_i, ge_s, no_s, eq_int, eq_str, in_sign, in_strs, Tx_size, Tx_len, b_add, b_sub, tr_b, sub_ch1, List.length_map] <;> rfl) (fun e => ?_) (fun e => ?_)
    · have e := of_decide_eq_true e
      have hne : c.2.1 ≠ [] := by intro h0; rw [h0] at e; simp at e
      have hl := sep_len [32] (B := 12) c.2.1 (fun t ht => (name_len (h.leans t ht)).2)
      have hf := h.few
      simp only [List.length_cons, List.length_nil] at hl
      have c2 := b_cat (fz := true) (σ := []) (kchg ++ [32] ++ c.1) ([32] ++ kon ++ [32]) (by simp [line, kchg, kon]; omega)
      have c3 := b_cat (fz := true) (σ := []) (kchg ++ [32] ++ c.1 ++ ([32] ++ kon ++ [32])) (sepL [32] c.2.1) (by simp [line, kchg, kon]; omega)
      have hs : evalE C (.sub (.var 0) (.cst (.int 1))) [some (.d c.data), some (vs (kchg ++ [32] ++ c.1)), none, none, none] [] = .ok (.d (dl c.2.1)) [] := (by simp only [eA_1, eA_2, eA_4, eA_5, eA_6, eA_7, eA_10, eA_12, eA_13, eA_15, eA_16, eA_17, eA_18, eA_19, eB_1, eB_2, eO_1, eO_2, ok_bind, List.getElem?_cons_zero, List.getElem?_cons_succ, List.set_cons_zero, List.set_cons_succ, bc_len_s, bc_len_l, bc_len_t, c_eq, c_ne, c_in, c_nin, c_is, c_isn, c_lt, c_gt, c_ge, lt_i, gt_i, ge_s, no_s, eq_int, eq_str, in_sign, in_strs, Tx_size, Tx_len, b_add, b_sub, tr_b, sub_ch1] <;> rfl)
      have hj := e_joinL (fz := true) (sep := [32]) hs (lst_dl c.2.1) (leans_join h.leans h.few)
      rw [← k_sp] at hj
      have hab : evalE C (.bin true .Add (.var 1) (.cst (.str (Str.ofString " on ")))) [some (.d c.data), some (vs (kchg ++ [32] ++ c.1)), none, none, none] [] = .ok (vs (kchg ++ [32] ++ c.1 ++ ([32] ++ kon ++ [32]))) [] := (by simp only [eA_1, eA_2, eA_4, eA_5, eA_6, eA_7, eA_10, eA_12, eA_13, eA_15, eA_16, eA_17, eA_18, eA_19, eB_1, eB_2, eO_1, eO_2, ok_bind, List.getElem?_cons_zero, List.getElem?_cons_succ, List.set_cons_zero, List.set_cons_succ, bc_len_s, bc_len_l, bc_len_t, c_eq, c_ne, c_in, c_nin, c_is, c_isn, c_lt, c_gt, c_ge, lt_i, gt_i, ge_s, no_s, eq_int, eq_str, in_sign, in_strs, Tx_size, Tx_len, b_add, b_sub, tr_b, k_on2, c2] <;> rfl)
      refine go_asg (v := vs (sepL [32] (headW c.1 c.2.1))) (σ₁ := []) ((e_bin hab hj).trans ?_) (go_nil ⟨_, _, ⟨rfl, rfl⟩, rfl⟩)
      rw [c3, head1 _ _ hne]
    · have e := of_decide_eq_false e
      have h0 : c.2.1 = [] := by
        cases hh : c.2.1 with
        | nil => rfl
        | cons y r => rw [hh] at e; simp at e
      refine go_nil ⟨_, _, ⟨?_, rfl⟩, rfl⟩
      rw [h0, head0]
      rfl
  rintro _ _ ⟨rfl, rfl⟩
  have hhl := headW_len h.name h.leans h.few
  have hJ := note_ok h
  unfold noteT
  generalize sepL [32] (headW c.1 c.2.1) = H at hJ
  refine go_asg (v := .ref 0) (σ₁ := [.list [vs H]]) (by simp only [eA_1, eA_2, eA_4, eA_5, eA_6, eA_7, eA_10, eA_12, eA_13, eA_15, eA_16, eA_17, eA_18, eA_19, eB_1, eB_2, eO_1, eO_2, ok_bind, List.getElem?_cons_zero, List.getElem?_cons_succ, List.set_cons_zero, List.set_cons_succ, bc_len_s, bc_len_l, bc_len_t, c_eq, c_ne, c_in, c_nin, c_is, c_isn, c_lt, c_gt, c_ge, lt_i, gt_i, ge_s, no_s, eq_int, eq_str, in_sign, in_strs, Tx_size, Tx_len, b_add, b_sub, tr_b, mkList] <;> rfl) ?_
  refine go_foldl (l := c.2.2) (w := fun d => .d d.data) (σ₁ := [.list [vs H]]) (fun pre (s : List (List Nat)) => s = pre.map deedT)
    (fun (s : List (List Nat)) ρ σ => (∃ z3 z4, ρ = [some (.d c.data), some (vs H), some (.ref 0), z3, z4]) ∧ σ = [.list ((H :: s).map vs)]) []
    (it_of (v := .d (.list (c.2.2.map Deed.data))) (by simp only [eA_1, eA_2, eA_4, eA_5, eA_6, eA_7, eA_10, eA_12, eA_13, eA_15, eA_16, eA_17, eA_18, eA_19, eB_1, eB_2, eO_1, eO_2, ok_bind, List.getElem?_cons_zero, List.getElem?_cons_succ, List.set_cons_zero, List.set_cons_succ, bc_len_s, bc_len_l, bc_len_t, c_eq, c_ne, c_in, c_nin, c_is, c_isn, c_lt, c_gt, c_ge, lt_i, gt_i, ge_s, no_s, eq_int, eq_str, in_sign, in_strs, Tx_size, Tx_len, b_add, b_sub, tr_b, sub_ch2] <;> rfl) (by simp [itemsOf])) rfl ⟨⟨_, _, rfl⟩, rfl⟩ ?_ ?_
  · rintro p d q s ρ σ hp rfl ⟨⟨z3, z4, rfl⟩, rfl⟩
    have hmem : d ∈ c.2.2 := by rw [hp]; simp
    have hd := h.each d hmem
    have hml := mark_len hd.mark
    have hw := wd3 hd
    have hlen : p.length < 20 := by
      have := congrArg List.length hp
      have := h.deeds
      simp at *; omega
    show Ends (fun r => ∃ (s' : List (List Nat)) (ρ' : Vars) (σ' : Store), s' = (p ++ [d]).map deedT ∧ ((∃ z3 z4, ρ' = [some (.d c.data), some (vs H), some (.ref 0), z3, z4]) ∧ σ' = [.list ((H :: s').map vs)]) ∧ r = .ok (.next ρ') σ') (execSs C [_, _, _] _ _)
    generalize hS : ([.list ((H :: p.map deedT).map vs)] : Store) = S
    have c1 := b_cat (fz := true) (σ := S) d.word [32] (by simp [line, hw])
    have c2 := b_cat (fz := true) (σ := S) (d.word ++ [32]) (markT d.mark) (by simp [line, hw]; omega)
    refine go_asg (v := vs (d.word ++ [32] ++ markT d.mark)) (σ₁ := S) (by simp only [eA_1, eA_2, eA_4, eA_5, eA_6, eA_7, eA_10, eA_12, eA_13, eA_15, eA_16, eA_17, eA_18, eA_19, eB_1, eB_2, eO_1, eO_2, ok_bind, List.getElem?_cons_zero, List.getElem?_cons_succ, List.set_cons_zero, List.set_cons_succ, bc_len_s, bc_len_l, bc_len_t, c_eq, c_ne, c_in, c_nin, c_is, c_isn, c_lt, c_gt, c_ge, lt_i, gt_i, ge_s, no_s, eq_int, eq_str, in_sign, in_strs, Tx_size, Tx_len, b_add, b_sub, tr_b, k_sp, sub_word, sub_mark, hhd, hm d.mark _ hd.mark, c1, c2] <;> rfl) ?_
    refine go_mid (M := fun ρ σ => ρ = [some (.d c.data), some (vs H), some (.ref 0), some (.d d.data), some (vs (deedT d))] ∧ σ = S) ?_ ?_
    · refine go_ite (t := !decide (d.word = kcut)) (σ₁ := S) (by simp only [eA_1, eA_2, eA_4, eA_5, eA_6, eA_7, eA_10, eA_12, eA_13, eA_15, eA_16, eA_17, eA_18, eA_19, eB_1, eB_2, eO_1, eO_2, ok_bind, List.getElem?_cons_zero, List.getElem?_cons_succ, List.set_cons_zero, List.set_cons_succ, bc_len_s, bc_len_l, bc_len_t, c_eq, c_ne, c_in, c_nin, c_is, c_isn, c_lt, c_gt, c_ge, lt_i, gt_i, ge_s, no_s, eq_int, eq_str, in_sign, in_strs, Tx_size, Tx_len, b_add, b_sub, tr_b, sub_word, k_cut] <;> rfl) (fun e => ?_) (fun e => ?_)
      · rcases hd.shape with ⟨e1, e2⟩ | ⟨e1, l, e2, e3⟩
        · rw [e1] at e; exact absurd e (by decide)
        · have hl := line_len e3
          have c3 := b_cat (fz := true) (σ := S) (d.word ++ [32] ++ markT d.mark) [58, 32] (by simp [line, hw]; omega)
          have c4 := b_cat (fz := true) (σ := S) (d.word ++ [32] ++ markT d.mark ++ [58, 32]) l (by simp [line, hw]; omega)
          refine go_asg (v := vs (d.word ++ [32] ++ markT d.mark ++ [58, 32] ++ l)) (σ₁ := S) (by simp only [eA_1, eA_2, eA_4, eA_5, eA_6, eA_7, eA_10, eA_12, eA_13, eA_15, eA_16, eA_17, eA_18, eA_19, eB_1, eB_2, eO_1, eO_2, ok_bind, List.getElem?_cons_zero, List.getElem?_cons_succ, List.set_cons_zero, List.set_cons_succ, bc_len_s, bc_len_l, bc_len_t, c_eq, c_ne, c_in, c_nin, c_is, c_isn, c_lt, c_gt, c_ge, lt_i, gt_i, ge_s, no_s, eq_int, eq_str, in_sign, in_strs, Tx_size, Tx_len, b_add, b_sub, tr_b, k_col, sub_text d e2, c3, c4] <;> rfl) (go_nil ⟨_, _, ⟨?_, rfl⟩, rfl⟩)
          simp only [deedT, e2, tailT, List.append_assoc]
          rfl
      · rcases hd.shape with ⟨e1, e2⟩ | ⟨e1, l, e2, e3⟩
        · refine go_nil ⟨_, _, ⟨?_, rfl⟩, rfl⟩
          simp only [deedT, e2, tailT, List.append_nil]
          rfl
        · rcases e1 with e1 | e1 <;> rw [e1] at e <;> exact absurd e (by decide)
    rintro _ S ⟨rfl, rfl⟩
    have hput : methcall .append true (.ref 0) [vs (deedT d)] S = .ok (.d .none) [.list ((H :: (p ++ [d]).map deedT).map vs)] := by
      have hll : ((H :: p.map deedT).map vs).length < line := by simp [line]; omega
      rw [← hS]
      simp only [methcall, methcall1, appendTo, List.getElem?_cons_zero, if_pos hll, List.set_cons_zero]
      simp
    have hpre : methPre .append (.ref 0) S = true := by rw [← hS]; rfl
    exact go_exp (v := .d .none) (σ₁ := [.list ((H :: (p ++ [d]).map deedT).map vs)]) (by simp only [eA_1, eA_2, eA_4, eA_5, eA_6, eA_7, eA_10, eA_12, eA_13, eA_15, eA_16, eA_17, eA_18, eA_19, eB_1, eB_2, eO_1, eO_2, ok_bind, List.getElem?_cons_zero, List.getElem?_cons_succ, List.set_cons_zero, List.set_cons_succ, bc_len_s, bc_len_l, bc_len_t, c_eq, c_ne, c_in, c_nin, c_is, c_isn, c_lt, c_gt, c_ge, lt_i, gt_i, ge_s, no_s, eq_int, eq_str, in_sign, in_strs, Tx_size, Tx_len, b_add, b_sub, tr_b, hpre, if_true]; exact hput) (go_nil ⟨_, _, _, rfl, ⟨⟨_, _, rfl⟩, rfl⟩, rfl⟩)
  · rintro _ _ _ rfl ⟨⟨z3, z4, rfl⟩, rfl⟩
    have hs : evalE C (.var 2) [some (.d c.data), some (vs H), some (.ref 0), z3, z4] [.list ((H :: c.2.2.map deedT).map vs)] = .ok (.ref 0) [.list ((H :: c.2.2.map deedT).map vs)] := (by simp only [eA_1, eA_2, eA_4, eA_5, eA_6, eA_7, eA_10, eA_12, eA_13, eA_15, eA_16, eA_17, eA_18, eA_19, eB_1, eB_2, eO_1, eO_2, ok_bind, List.getElem?_cons_zero, List.getElem?_cons_succ, List.set_cons_zero, List.set_cons_succ, bc_len_s, bc_len_l, bc_len_t, c_eq, c_ne, c_in, c_nin, c_is, c_isn, c_lt, c_gt, c_ge, lt_i, gt_i, ge_s, no_s, eq_int, eq_str, in_sign, in_strs, Tx_size, Tx_len, b_add, b_sub, tr_b] <;> rfl)
    have hj := e_joinL (fz := true) (sep := [10]) hs (l := H :: c.2.2.map deedT) rfl hJ
    rw [← k_nl] at hj
    exact go_ret hj ⟨_, rfl⟩
theorem ev_written (c : Ch) (h : Fine c) : callF P02 isExc fuel (n + 2) false .frz 7 [.d c.data] σ = .ok (vs (noteT c)) σ := by
  obtain ⟨σ', k⟩ := run_written (C := ⟨callF P02 isExc fuel (n + 1), isExc, fuel, false⟩) rfl (fun o σ h => ev_mark_text o h) c h
  exact frz_ok Q7 rfl (run_ret rfl k) rfl
theorem run_lwritten {C : Cfg} (hhd : C.hd = false) (hm : ∀ (d : Deed) σ, FineD d → C.cf false .frz 24 [.d d.data] σ = .ok (vs (deedT d)) σ) (c : Ch) (h : Fine c) :
    Ends (fun r => ∃ σ', r = .ok (.ret (vs (noteT c))) σ') (execSs C Flaw_written.body [some (.d c.data), none, none] []) := by
  show Ends _ (execSs C [_, _, _] _ [])
  have hn := name_len h.name
  have c1 := b_cat (fz := true) (σ := []) (kchg ++ [32]) c.1 (by simp [line, kchg]; omega)
  refine go_asg (v := .ref 0) (σ₁ := [.list [vs (kchg ++ [32] ++ c.1)]]) (by simp only [eA_1, eA_2, eA_4, eA_5, eA_6, eA_7, eA_10, eA_12, eA_13, eA_15, eA_16, eA_17, eA_18, eA_19, eB_1, eB_2, eO_1, eO_2, ok_bind, List.getElem?_cons_zero, List.getElem?_cons_succ, List.set_cons_zero, List.set_cons_succ, bc_len_s, bc_len_l, bc_len_t, c_eq, c_ne, c_in, c_nin, c_is, c_isn, c_lt, c_gt, c_ge, lt_i, gt_i, ge_s, no_s, eq_int, eq_str, in_sign, in_strs, Tx_size, Tx_len, b_add, b_sub, tr_b, k_chg, sub_ch0, c1, mkList] <;> rfl) ?_
  refine go_mid (M := fun ρ σ => ρ = [some (.d c.data), some (.ref 0), none] ∧ σ = [.list [vs (sepL [32] (headW c.1 c.2.1))]]) ?_ ?_
  · refine go_iteV (t := !c.2.1.isEmpty) (σ₁ := [.list [vs (kchg ++ [32] ++ c.1)]]) ⟨.d (dl c.2.1), (by simp only [eA_1, eA_2, eA_4, eA_5, eA_6, eA_7, eA_10, eA_12, eA_13, eA_15, eA_16, eA_17, eA_18, eA_19, eB_1, eB_2, eO_1, eO_2, ok_bind, List.getElem?_cons_zero, List.getElem?_cons_succ, List.set_cons_zero, List.set_cons_succ, bc_len_s, bc_len_l, bc_len_t, c_eq, c_ne, c_in, c_nin, c_is, c_isn, c_lt, c_gt, c_ge, lt_i, gt_i, ge_s, no_s, eq_int, eq_str, in_sign, in_strs, Tx_size, Tx_len, b_add, b_sub, tr_b, sub_ch1] <;> rfl), ?_⟩ (fun e => ?_) (fun e => ?_)
    · show some (!(c.2.1.map fun t => PyData.str (Tx t)).isEmpty) = _
      rw [List.isEmpty_map]
    · have hne : c.2.1 ≠ [] := by intro h0; rw [h0] at e; cases e
      have h0 : subscr (.ref 0) (vi 0) [.list [vs (kchg ++ [32] ++ c.1)]] = some (vs (kchg ++ [32] ++ c.1)) := rfl
      have m1 := mkListT (σ := [.list [vs (kchg ++ [32] ++ c.1)]]) [.str (Tx (kchg ++ [32] ++ c.1)), .str (Tx kon)] (by simp [line])
      have c2 := b_catL (σ := [.list [vs (kchg ++ [32] ++ c.1)]]) [.str (Tx (kchg ++ [32] ++ c.1)), .str (Tx kon)] (c.2.1.map fun t => .str (Tx t)) (by have := h.few; simp [line]; omega)
      have hl : evalE C (.lst true [.sub (.var 1) (.cst (.int 0)), .cst (.str (Str.ofString "on"))]) [some (.d c.data), some (.ref 0), none] [.list [vs (kchg ++ [32] ++ c.1)]] = .ok (.d (.list [.str (Tx (kchg ++ [32] ++ c.1)), .str (Tx kon)])) [.list [vs (kchg ++ [32] ++ c.1)]] := by
        simp only [eA_1, eA_2, eA_4, eA_5, eA_6, eA_7, eA_10, eA_12, eA_13, eA_15, eA_16, eA_17, eA_18, eA_19, eB_1, eB_2, eO_1, eO_2, ok_bind, List.getElem?_cons_zero, List.getElem?_cons_succ, List.set_cons_zero, List.set_cons_succ, bc_len_s, bc_len_l, bc_len_t, c_eq, c_ne, c_in, c_nin, c_is, c_isn, c_lt, c_gt, c_ge, lt_i, gt_i, ge_s, no_s, eq_int, eq_str, in_sign, in_strs, Tx_size, Tx_len, b_add, b_sub, tr_b, h0, k_on]; exact m1
      have hs : evalE C (.sub (.var 0) (.cst (.int 1))) [some (.d c.data), some (.ref 0), none] [.list [vs (kchg ++ [32] ++ c.1)]] = .ok (.d (dl c.2.1)) [.list [vs (kchg ++ [32] ++ c.1)]] := (by simp only [eA_1, eA_2, eA_4, eA_5, eA_6, eA_7, eA_10, eA_12, eA_13, eA_15, eA_16, eA_17, eA_18, eA_19, eB_1, eB_2, eO_1, eO_2, ok_bind, List.getElem?_cons_zero, List.getElem?_cons_succ, List.set_cons_zero, List.set_cons_succ, bc_len_s, bc_len_l, bc_len_t, c_eq, c_ne, c_in, c_nin, c_is, c_isn, c_lt, c_gt, c_ge, lt_i, gt_i, ge_s, no_s, eq_int, eq_str, in_sign, in_strs, Tx_size, Tx_len, b_add, b_sub, tr_b, sub_ch1] <;> rfl)
      have hj := e_joinL (fz := true) (sep := [32]) ((e_bin (op := .Add) (fz := true) hl hs).trans c2) (l := (kchg ++ [32] ++ c.1) :: kon :: c.2.1) (by simp [lstOf]) (by
        refine joinOkB [32] (B := 100) _ ?_ (by have := h.few; simp; omega)
        intro t ht
        rcases List.mem_cons.mp ht with rfl | ht
        · simp [kchg]; omega
        rcases List.mem_cons.mp ht with rfl | ht
        · decide
        · have := (name_len (h.leans t ht)).2; omega)
      rw [← k_sp, head2 _ _ hne] at hj
      have hset : setItemV (.ref 0) (vi 0) (vs (sepL [32] (headW c.1 c.2.1))) [.list [vs (kchg ++ [32] ++ c.1)]] = .ok (.next []) [.list [vs (sepL [32] (headW c.1 c.2.1))]] := rfl
      exact go_set hj (y := .ref 0) (z := vi 0) (by simp only [eA_1, eA_2, eA_4, eA_5, eA_6, eA_7, eA_10, eA_12, eA_13, eA_15, eA_16, eA_17, eA_18, eA_19, eB_1, eB_2, eO_1, eO_2, ok_bind, List.getElem?_cons_zero, List.getElem?_cons_succ, List.set_cons_zero, List.set_cons_succ, bc_len_s, bc_len_l, bc_len_t, c_eq, c_ne, c_in, c_nin, c_is, c_isn, c_lt, c_gt, c_ge, lt_i, gt_i, ge_s, no_s, eq_int, eq_str, in_sign, in_strs, Tx_size, Tx_len, b_add, b_sub, tr_b] <;> rfl) (by simp only [eA_1, eA_2, eA_4, eA_5, eA_6, eA_7, eA_10, eA_12, eA_13, eA_15, eA_16, eA_17, eA_18, eA_19, eB_1, eB_2, eO_1, eO_2, ok_bind, List.getElem?_cons_zero, List.getElem?_cons_succ, List.set_cons_zero, List.set_cons_succ, bc_len_s, bc_len_l, bc_len_t, c_eq, c_ne, c_in, c_nin, c_is, c_isn, c_lt, c_gt, c_ge, lt_i, gt_i, ge_s, no_s, eq_int, eq_str, in_sign, in_strs, Tx_size, Tx_len, b_add, b_sub, tr_b] <;> rfl) hset (go_nil ⟨_, _, ⟨rfl, rfl⟩, rfl⟩)
    · have h0 : c.2.1 = [] := by
        cases hh : c.2.1 with
        | nil => rfl
        | cons y r => rw [hh] at e; cases e
      refine go_nil ⟨_, _, ⟨rfl, ?_⟩, rfl⟩
      rw [h0, head0]
  rintro _ _ ⟨rfl, rfl⟩
  have hJ := note_ok h
  unfold noteT
  generalize sepL [32] (headW c.1 c.2.1) = H at hJ
  have hcomp := e_comp1D (C := C) (elt := .fcall .frz 24 [.var 2]) (t := 2) (it := .of (.sub (.var 0) (.cst (.int 2)))) (ρ := [some (.d c.data), some (.ref 0), none]) (σ := [.list [vs H]]) (σ₁ := [.list [vs H]]) (l := c.2.2) (fun d => .d d.data) (fun d => .str (Tx (deedT d)))
    (it_of (v := .d (.list (c.2.2.map Deed.data))) (by simp only [eA_1, eA_2, eA_4, eA_5, eA_6, eA_7, eA_10, eA_12, eA_13, eA_15, eA_16, eA_17, eA_18, eA_19, eB_1, eB_2, eO_1, eO_2, ok_bind, List.getElem?_cons_zero, List.getElem?_cons_succ, List.set_cons_zero, List.set_cons_succ, bc_len_s, bc_len_l, bc_len_t, c_eq, c_ne, c_in, c_nin, c_is, c_isn, c_lt, c_gt, c_ge, lt_i, gt_i, ge_s, no_s, eq_int, eq_str, in_sign, in_strs, Tx_size, Tx_len, b_add, b_sub, tr_b, sub_ch2] <;> rfl) (by simp [itemsOf])) (by have := h.deeds; simp [line]; omega) (fun d hd => (by simp only [eA_1, eA_2, eA_4, eA_5, eA_6, eA_7, eA_10, eA_12, eA_13, eA_15, eA_16, eA_17, eA_18, eA_19, eB_1, eB_2, eO_1, eO_2, ok_bind, List.getElem?_cons_zero, List.getElem?_cons_succ, List.set_cons_zero, List.set_cons_succ, bc_len_s, bc_len_l, bc_len_t, c_eq, c_ne, c_in, c_nin, c_is, c_isn, c_lt, c_gt, c_ge, lt_i, gt_i, ge_s, no_s, eq_int, eq_str, in_sign, in_strs, Tx_size, Tx_len, b_add, b_sub, tr_b, hhd, hm d _ (h.each d hd)] <;> rfl))
  have hv : evalE C (.var 1) [some (.d c.data), some (.ref 0), none] [.list [vs H]] = .ok (.ref 0) [.list [vs H]] := (by simp only [eA_1, eA_2, eA_4, eA_5, eA_6, eA_7, eA_10, eA_12, eA_13, eA_15, eA_16, eA_17, eA_18, eA_19, eB_1, eB_2, eO_1, eO_2, ok_bind, List.getElem?_cons_zero, List.getElem?_cons_succ, List.set_cons_zero, List.set_cons_succ, bc_len_s, bc_len_l, bc_len_t, c_eq, c_ne, c_in, c_nin, c_is, c_isn, c_lt, c_gt, c_ge, lt_i, gt_i, ge_s, no_s, eq_int, eq_str, in_sign, in_strs, Tx_size, Tx_len, b_add, b_sub, tr_b] <;> rfl)
  have hadd : binop true .Add (.ref 0) (.d (.list (c.2.2.map fun d => .str (Tx (deedT d))))) [.list [vs H]] = .ok (.d (.list (.str (Tx H) :: c.2.2.map fun d => .str (Tx (deedT d))))) [.list [vs H]] := by
    have e : [vs H] ++ (c.2.2.map fun d => PyData.str (Tx (deedT d))).map V.d = (.str (Tx H) :: c.2.2.map fun d => PyData.str (Tx (deedT d))).map V.d := rfl
    show mkList true ([vs H] ++ (c.2.2.map fun d => PyData.str (Tx (deedT d))).map V.d) _ = _
    rw [e]
    exact mkListT _ (by have := h.deeds; simp [line]; omega)
  have hj := e_joinL (fz := true) (sep := [10]) ((e_bin (op := .Add) (fz := true) hv hcomp).trans hadd) (l := H :: c.2.2.map deedT) (by simp [lstOf]) hJ
  rw [← k_nl] at hj
  exact go_ret hj ⟨_, rfl⟩
theorem ev_lwritten (c : Ch) (h : Fine c) : callF P02 isExc fuel (n + 3) false .frz 25 [.d c.data] σ = .ok (vs (noteT c)) σ := by
  obtain ⟨σ', k⟩ := run_lwritten (C := ⟨callF P02 isExc fuel (n + 2), isExc, fuel, false⟩) rfl (fun d σ h => ev_deed_row d h) c h
  exact frz_ok Q25 rfl (run_ret rfl k) rfl
end
end Mine

namespace Mine
open PySem
section
variable {P : Nat → Option Fn} {isX : Nat → Nat → Option Bool} {fuel n f : Nat} {hd : Bool} {fn : Fn} {ws xs : List V} {σ σ₀ σ₁ : Store} {y : PyData} {v : V} {k : Nat}
theorem snap_fresh (hs : snap σ 8 v = some y) (hy : noList y = true) : fresh σ 8 v = some y := by
  cases v with
  | d x => obtain rfl : x = y := Option.some.inj hs; exact if_pos hy
  | ref k =>
    exfalso
    have hs : snapO (snap σ 7) σ[k]? = some y := hs
    unfold snapO at hs
    split at hs
    · split at hs
      · split at hs
        · cases hs; cases hy
        · cases hs
      · cases hs
    · cases hs
  | tup vs =>
    exfalso
    have hs : (match snapL (snap σ 7) vs with | some xs => some (PyData.tuple xs) | none => none) = some y := hs
    split at hs
    · cases hs; cases hy
    · cases hs
  | ty t => cases hs
  | cls c => cases hs
  | exc c => cases hs
theorem frz_any (h : callF P isX fuel (n + 1) hd .frz f xs σ₀ = .ok (.d y) σ₀) (hx : inert xs = true) (hy : noList y = true) (hi : inert ws = false) (hl : lent σ ws = some xs) : callF P isX fuel (n + 1) hd .frz f ws σ = .ok (.d y) σ := by
  cases hP : P f with
  | none => simp [callF, hP] at h
  | some fn =>
    simp only [callF, hP, hx] at h
    simp only [callF, hP, hi, hl]
    unfold isoCall at h ⊢
    cases hr : runFn ⟨callF P isX fuel n, isX, fuel, hd⟩ fn xs [] with
    | ok v σ' =>
      rw [hr] at h
      have h : (match snap σ' 8 v with | some y => Res.ok (V.d y) σ₀ | none => .bad) = .ok (.d y) σ₀ := h
      cases hs : snap σ' 8 v with
      | none => rw [hs] at h; cases h
      | some z =>
        rw [hs] at h
        cases h
        show (match fresh σ' 8 v with | some y => Res.ok (V.d y) σ | none => .bad) = _
        rw [snap_fresh hs hy]
    | exc c σ' => rw [hr] at h; cases h
    | bad => rw [hr] at h; cases h
theorem shared_ok (hP : P f = some fn) (hl : ws.length = fn.nparams) (h : execSs ⟨callF P isX fuel n, isX, fuel, hd⟩ fn.body (ws.map some ++ List.replicate (fn.nvars - fn.nparams) none) σ = .ok (.ret v) σ₁) : callF P isX fuel (n + 1) hd .shared f ws σ = .ok v σ₁ := by
  simp [callF, hP, runFn, hl, h, ok_bind]
end
section
variable {C : Cfg} {ρ : Vars} {σ σ₁ : Store} {Q : Res Fl → Prop} {r b : List S} {hs : List (Nat × Option Nat × List S)}
theorem go_try {M : Vars → Store → Prop} (h : Ends (fun r => ∃ ρ' σ', M ρ' σ' ∧ r = .ok (.next ρ') σ') (execSs C b ρ σ)) (k : ∀ ρ' σ', M ρ' σ' → Ends Q (execSs C r ρ' σ')) : Ends Q (execSs C (.try_ b hs :: r) ρ σ) := by
  obtain ⟨ρ', σ', h1, h2⟩ := h
  rw [xB_2, xA_12, h2]
  exact k ρ' σ' h1
end
noncomputable def figs : List Nat := [48, 49, 50, 51, 52, 53, 54, 55, 56, 57]
theorem k_figs : Str.ofString "0123456789" = Tx figs := by decide +kernel
theorem figs_eq : figs = List.range' 48 10 := by decide
theorem in_figs {c : Nat} (h : 48 ≤ c ∧ c ≤ 57) : c ∈ figs := by
  rw [figs_eq, List.mem_range'_1]
  exact ⟨h.1, Nat.lt_succ_of_le h.2⟩
theorem fig_reads {n : Int} (h0 : 0 ≤ n) (h1 : n < 1000000000) : intText? (Tx (fig n)) = some n := by
  rw [← strOf_Tx]
  exact PySem.W.KIN.num_reads h0 (by omega)
section
variable {fuel n : Nat} {hd : Bool} {σ : Store} {X : Nat → Nat → Option Bool} {fz : Bool}
theorem Q8 : P02 8 = some F_number_of := rfl
theorem Q9 : P02 9 = some F_mark_of := rfl
theorem Q10 : P02 10 = some F_deed_of := rfl
theorem Q11 : P02 11 = some F_head_of := rfl
theorem Q12 : P02 12 = some F_read := rfl
theorem bc_int {i : Int} (h0 : 0 ≤ i) (h1 : i < 1000000000) : bcall X hd .int fz [vs (fig i)] σ = .ok (vi i) σ := by
  have hl := (fig_len h0 h1).2
  show (match intText? (Tx (fig i)) with | some n => if (Tx (fig i)).length ≤ 640 then Res.ok (V.d (.int n)) σ else .bad | none => .bad) = _
  rw [fig_reads h0 h1]
  exact if_pos (by rw [Tx_len]; omega)
theorem ev_number_of (i : Int) (h0 : 0 ≤ i) (h1 : i < 1000000000) : callF P02 isExc fuel (n + 1) false .frz 8 [vs (fig i)] σ = .ok (vi i) σ := by
  refine frz_ok (v := vi i) (σ₁ := []) Q8 rfl (run_ret rfl ?_) rfl
  generalize hC : (⟨callF P02 isExc fuel n, isExc, fuel, false⟩ : Cfg) = C
  have hhd : C.hd = false := by rw [← hC]
  have hl := fig_len h0 h1
  show Ends (fun r => r = _) (execSs C [_, _, _, _] [some (vs (fig i)), none] [])
  refine go_ite (t := decide (((fig i).length : Int) < 1) || decide (((fig i).length : Int) > 9)) (σ₁ := []) (e_or2 (by simp only [eA_1, eA_2, eA_4, eA_5, eA_6, eA_7, eA_10, eA_12, eA_13, eA_15, eA_16, eA_17, eA_18, eA_19, eB_1, eB_2, eO_1, eO_2, ok_bind, List.getElem?_cons_zero, List.getElem?_cons_succ, List.set_cons_zero, List.set_cons_succ, bc_len_s, bc_len_l, bc_len_t, c_eq, c_ne, c_in, c_nin, c_is, c_isn, c_lt, c_gt, c_ge, lt_i, gt_i, ge_s, no_s, eq_int, eq_str, in_sign, in_strs, Tx_size, Tx_len, b_add, b_sub, tr_b] <;> rfl) (fun _ => (by simp only [eA_1, eA_2, eA_4, eA_5, eA_6, eA_7, eA_10, eA_12, eA_13, eA_15, eA_16, eA_17, eA_18, eA_19, eB_1, eB_2, eO_1, eO_2, ok_bind, List.getElem?_cons_zero, List.getElem?_cons_succ, List.set_cons_zero, List.set_cons_succ, bc_len_s, bc_len_l, bc_len_t, c_eq, c_ne, c_in, c_nin, c_is, c_isn, c_lt, c_gt, c_ge, lt_i, gt_i, ge_s, no_s, eq_int, eq_str, in_sign, in_strs, Tx_size, Tx_len, b_add, b_sub, tr_b] <;> rfl))) (fun e => ?_) (fun _ => ?_)
  · simp only [Bool.or_eq_true, decide_eq_true_eq] at e; omega
  obtain ⟨a, r, har⟩ : ∃ a r, fig i = a :: r := by
    cases h : fig i with
    | nil => rw [h] at hl; simp at hl
    | cons a r => exact ⟨a, r, rfl⟩
  have hat : subscr (vs (fig i)) (vi 0) [] = some (vs [a]) := at_text 0 (by decide) (by decide) (by rw [har]; rfl)
  refine go_ite (t := decide ([a] = [48]) && decide (((fig i).length : Int) > 1)) (σ₁ := []) (e_and2 (by simp only [eA_1, eA_2, eA_4, eA_5, eA_6, eA_7, eA_10, eA_12, eA_13, eA_15, eA_16, eA_17, eA_18, eA_19, eB_1, eB_2, eO_1, eO_2, ok_bind, List.getElem?_cons_zero, List.getElem?_cons_succ, List.set_cons_zero, List.set_cons_succ, bc_len_s, bc_len_l, bc_len_t, c_eq, c_ne, c_in, c_nin, c_is, c_isn, c_lt, c_gt, c_ge, lt_i, gt_i, ge_s, no_s, eq_int, eq_str, in_sign, in_strs, Tx_size, Tx_len, b_add, b_sub, tr_b, hat, k_zero] <;> rfl) (fun _ => (by simp only [eA_1, eA_2, eA_4, eA_5, eA_6, eA_7, eA_10, eA_12, eA_13, eA_15, eA_16, eA_17, eA_18, eA_19, eB_1, eB_2, eO_1, eO_2, ok_bind, List.getElem?_cons_zero, List.getElem?_cons_succ, List.set_cons_zero, List.set_cons_succ, bc_len_s, bc_len_l, bc_len_t, c_eq, c_ne, c_in, c_nin, c_is, c_isn, c_lt, c_gt, c_ge, lt_i, gt_i, ge_s, no_s, eq_int, eq_str, in_sign, in_strs, Tx_size, Tx_len, b_add, b_sub, tr_b] <;> rfl))) (fun e => ?_) (fun _ => ?_)
  · simp only [Bool.and_eq_true, decide_eq_true_eq] at e
    have ha : a = 48 := by simpa using e.1
    have hr := fig_lead h0 (by rw [har, ha])
    rw [har, hr] at e
    simp at e
  refine go_for (l := fig i) (w := fun c => vs [c]) (fun c => !decide (c ∈ figs)) (.exc 4 []) (fun ρ => ∃ z, ρ = [some (vs (fig i)), z])
      (it_of (v := vs (fig i)) (by simp only [eA_1, eA_2, eA_4, eA_5, eA_6, eA_7, eA_10, eA_12, eA_13, eA_15, eA_16, eA_17, eA_18, eA_19, eB_1, eB_2, eO_1, eO_2, ok_bind, List.getElem?_cons_zero, List.getElem?_cons_succ, List.set_cons_zero, List.set_cons_succ, bc_len_s, bc_len_l, bc_len_t, c_eq, c_ne, c_in, c_nin, c_is, c_isn, c_lt, c_gt, c_ge, lt_i, gt_i, ge_s, no_s, eq_int, eq_str, in_sign, in_strs, Tx_size, Tx_len, b_add, b_sub, tr_b] <;> rfl) (by simp [itemsOf, hhd, Tx_list, chr1_Tx])) ⟨_, rfl⟩ ends_exc ?_ (fun ha => ?_) ?_
  · rintro c hc ρ ⟨z, rfl⟩
    refine ⟨fun h => ?_, fun h => ⟨_, ⟨some (vs [c]), rfl⟩, ?_⟩⟩
    · simp only [Bool.not_eq_true', decide_eq_false_iff_not] at h
      exact absurd (in_figs (fig_digit h0 c hc)) h
    · rw [x_iteB (t := false) (by simp only [eA_1, eA_2, eA_4, eA_5, eA_6, eA_7, eA_10, eA_12, eA_13, eA_15, eA_16, eA_17, eA_18, eA_19, eB_1, eB_2, eO_1, eO_2, ok_bind, List.getElem?_cons_zero, List.getElem?_cons_succ, List.set_cons_zero, List.set_cons_succ, bc_len_s, bc_len_l, bc_len_t, c_eq, c_ne, c_in, c_nin, c_is, c_isn, c_lt, c_gt, c_ge, lt_i, gt_i, ge_s, no_s, eq_int, eq_str, in_sign, in_strs, Tx_size, Tx_len, b_add, b_sub, tr_b, k_figs, h] <;> rfl)]
      exact x_nil
  · exfalso
    simp only [List.any_eq_true, Bool.not_eq_true', decide_eq_false_iff_not] at ha
    obtain ⟨c, hc, h⟩ := ha
    exact h (in_figs (fig_digit h0 c hc))
  · rintro _ ρ ⟨z, rfl⟩
    exact go_ret (v := vi i) (σ₁ := []) (by simp only [eA_1, eA_2, eA_4, eA_5, eA_6, eA_7, eA_10, eA_12, eA_13, eA_15, eA_16, eA_17, eA_18, eA_19, eB_1, eB_2, eO_1, eO_2, ok_bind, List.getElem?_cons_zero, List.getElem?_cons_succ, List.set_cons_zero, List.set_cons_succ, bc_len_s, bc_len_l, bc_len_t, c_eq, c_ne, c_in, c_nin, c_is, c_isn, c_lt, c_gt, c_ge, lt_i, gt_i, ge_s, no_s, eq_int, eq_str, in_sign, in_strs, Tx_size, Tx_len, b_add, b_sub, tr_b, bc_int h0 h1] <;> rfl) rfl
theorem sub_t3 (a b c : PyData) : subscr (.d (.tuple [a, b, c])) (vi 0) σ = some (.d a) ∧ subscr (.d (.tuple [a, b, c])) (vi 2) σ = some (.d c) := ⟨at_tup 0 (by decide) (by decide) rfl, at_tup 2 (by decide) (by decide) rfl⟩
theorem no32 : 32 ∉ signs := by decide
theorem no58 : 58 ∉ signs := by decide
theorem no10 : 10 ∉ signs := by decide
theorem ev_mark_of (o : Option (List Nat × Int)) (h : MarkOk o) : callF P02 isExc fuel (n + 2) false .frz 9 [vs (markT o)] σ = .ok (.d (markD o)) σ := by
  refine frz_ok (v := .d (markD o)) (σ₁ := []) Q9 rfl (run_ret rfl ?_) rfl
  have hnum := fun i h0 h1 => ev_number_of (fuel := fuel) (n := n) (σ := []) i h0 h1
  generalize hC : (⟨callF P02 isExc fuel (n + 1), isExc, fuel, false⟩ : Cfg) = C
  have hhd : C.hd = false := by rw [← hC]
  have hcf : C.cf = callF P02 isExc fuel (n + 1) := by rw [← hC]
  show Ends (fun r => r = _) (execSs C [_, _, _] [some (vs (markT o)), none] [])
  refine go_ite (t := decide (markT o = [45])) (σ₁ := []) (by simp only [eA_1, eA_2, eA_4, eA_5, eA_6, eA_7, eA_10, eA_12, eA_13, eA_15, eA_16, eA_17, eA_18, eA_19, eB_1, eB_2, eO_1, eO_2, ok_bind, List.getElem?_cons_zero, List.getElem?_cons_succ, List.set_cons_zero, List.set_cons_succ, bc_len_s, bc_len_l, bc_len_t, c_eq, c_ne, c_in, c_nin, c_is, c_isn, c_lt, c_gt, c_ge, lt_i, gt_i, ge_s, no_s, eq_int, eq_str, in_sign, in_strs, Tx_size, Tx_len, b_add, b_sub, tr_b, k_bar] <;> rfl) (fun e => ?_) (fun e => ?_)
  · have e := of_decide_eq_true e
    cases o with
    | none => exact go_ret (v := .d .none) (σ₁ := []) (by simp only [eA_1, eA_2, eA_4, eA_5, eA_6, eA_7, eA_10, eA_12, eA_13, eA_15, eA_16, eA_17, eA_18, eA_19, eB_1, eB_2, eO_1, eO_2, ok_bind, List.getElem?_cons_zero, List.getElem?_cons_succ, List.set_cons_zero, List.set_cons_succ, bc_len_s, bc_len_l, bc_len_t, c_eq, c_ne, c_in, c_nin, c_is, c_isn, c_lt, c_gt, c_ge, lt_i, gt_i, ge_s, no_s, eq_int, eq_str, in_sign, in_strs, Tx_size, Tx_len, b_add, b_sub, tr_b] <;> rfl) rfl
    | some m =>
      have := congrArg List.length e
      have := name_len (h m rfl).1
      simp [markT] at *; omega
  · cases o with
    | none => exact absurd e (by decide)
    | some m =>
      obtain ⟨h1, h2, h3⟩ := h m rfl
      have hp : methcall .partition true (vs (markT (some m))) [vs [32]] [] = .ok (.d (.tuple [.str (Tx m.1), .str (Tx [32]), .str (Tx (fig m.2))])) [] := by
        have e1 : markT (some m) = m.1 ++ 32 :: fig m.2 := by simp [markT]
        have e2 := part_Tx 32 m.1 (fig m.2) (name_no h1 no32)
        have e3 : ((Tx [32]).length == 0) = false := by rw [Tx_len]; rfl
        show partIn (Tx (markT (some m))) (Tx [32]) [] = _
        rw [e1]
        simp only [partIn, if_pos e3, e2]
      have hpre : methPre .partition (vs (markT (some m))) [] = true := rfl
      refine go_asg (v := .d (.tuple [.str (Tx m.1), .str (Tx [32]), .str (Tx (fig m.2))])) (σ₁ := []) (by simp only [eA_1, eA_2, eA_4, eA_5, eA_6, eA_7, eA_10, eA_12, eA_13, eA_15, eA_16, eA_17, eA_18, eA_19, eB_1, eB_2, eO_1, eO_2, ok_bind, List.getElem?_cons_zero, List.getElem?_cons_succ, List.set_cons_zero, List.set_cons_succ, bc_len_s, bc_len_l, bc_len_t, c_eq, c_ne, c_in, c_nin, c_is, c_isn, c_lt, c_gt, c_ge, lt_i, gt_i, ge_s, no_s, eq_int, eq_str, in_sign, in_strs, Tx_size, Tx_len, b_add, b_sub, tr_b, hpre, if_true, k_sp]; exact hp) ?_
      have t1 := (sub_t3 (σ := []) (.str (Tx m.1)) (.str (Tx [32])) (.str (Tx (fig m.2)))).1
      have t2 := (sub_t3 (σ := []) (.str (Tx m.1)) (.str (Tx [32])) (.str (Tx (fig m.2)))).2
      refine go_ret (v := .d (markD (some m))) (σ₁ := []) ?_ rfl
      simp only [eA_1, eA_2, eA_4, eA_5, eA_6, eA_7, eA_10, eA_12, eA_13, eA_15, eA_16, eA_17, eA_18, eA_19, eB_1, eB_2, eO_1, eO_2, ok_bind, List.getElem?_cons_zero, List.getElem?_cons_succ, List.set_cons_zero, List.set_cons_succ, bc_len_s, bc_len_l, bc_len_t, c_eq, c_ne, c_in, c_nin, c_is, c_isn, c_lt, c_gt, c_ge, lt_i, gt_i, ge_s, no_s, eq_int, eq_str, in_sign, in_strs, Tx_size, Tx_len, b_add, b_sub, tr_b, t1, t2, hcf, hhd, hnum m.2 h2 h3, if_pos (len2 _ _), tup2]; rfl
theorem cut_mid {α : Type} (l : List α) {i j : Nat} (hi : i ≤ l.length) (hj : j ≤ l.length) : cutAt (some (i : Int)) (some (j : Int)) l = (l.drop i).take (j - i) := by
  have e : ∀ k : Nat, k ≤ l.length → clipAt l.length (k : Int) = k := by intro k hk; simp only [clipAt]; split <;> omega
  simp only [cutAt, Option.elim, e i hi, e j hj]
theorem sl_midI {a : List Nat} {i j : Int} (h1 : small i = true) (h2 : small j = true) : slice true (vs a) (some (vi i)) (some (vi j)) σ = .ok (vs (cutAt (some i) (some j) a)) σ := by
  simp only [slice, endOf, h1, h2, if_true, sliceAt, isStrV, isTupV, Tx_cut]
theorem sl_mid {a : List Nat} {i j : Nat} (hi : i ≤ a.length) (hj : j ≤ a.length) (hb : a.length ≤ 1000000) : slice true (vs a) (some (vi i)) (some (vi j)) σ = .ok (vs ((a.drop i).take (j - i))) σ := by
  rw [sl_midI (small_of (by omega) (by omega)) (small_of (by omega) (by omega)), cut_mid a hi hj]
theorem mark_no {o : Option (List Nat × Int)} (h : MarkOk o) {c : Nat} (hc : c ∉ signs) (h1 : c ≠ 32) (h2 : c ≠ 45) (h3 : ¬ (48 ≤ c ∧ c ≤ 57)) : c ∉ markT o := by
  cases o with
  | none => simp [markT, h2]
  | some m =>
    obtain ⟨e1, e2, e3⟩ := h m rfl
    simp only [markT, List.mem_append, List.mem_singleton, not_or]
    exact ⟨⟨name_no e1 hc, h1⟩, fun e => h3 (fig_digit e2 c e)⟩
theorem find_meth (c : Nat) (y a b : List Nat) (hc : c ∉ a) : methcall .find true (vs (a ++ c :: y ++ b)) [vs (c :: y)] σ = .ok (vi a.length) σ := by
  show Res.ok (V.d (.int (Txt.find (Tx (a ++ c :: y ++ b)) (Tx (c :: y))))) σ = _
  rw [find_Tx c y a b hc]
theorem ev_deed_of (d : Deed) (h : FineD d) : callF P02 isExc fuel (n + 3) false .frz 10 [vs (deedT d)] σ = .ok (.d d.data) σ := by
  refine frz_ok (v := .d d.data) (σ₁ := []) Q10 rfl (run_ret rfl ?_) rfl
  have hmo := ev_mark_of (fuel := fuel) (n := n) (σ := []) d.mark h.mark
  have hml := mark_len h.mark
  have hw := wd3 h
  have hlen := deed_len h
  generalize hC : (⟨callF P02 isExc fuel (n + 2), isExc, fuel, false⟩ : Cfg) = C
  have hhd : C.hd = false := by rw [← hC]
  have hcf : C.cf = callF P02 isExc fuel (n + 2) := by rw [← hC]
  show Ends (fun r => r = _) (execSs C [_, _, _, _, _, _] [some (vs (deedT d)), none, none] [])
  have t3 : (deedT d).take 3 = d.word := by
    unfold deedT
    rw [List.append_assoc, List.append_assoc]
    exact List.take_left' hw
  have d4 : (deedT d).drop 4 = markT d.mark ++ tailT d.text := by
    unfold deedT
    rw [List.append_assoc]
    exact List.drop_left' (by rw [List.length_append, hw]; rfl)
  have l4 : 4 ≤ (deedT d).length := by simp [deedT, hw]; omega
  have m34 : ((deedT d).drop 3).take (4 - 3) = [32] := by
    unfold deedT
    rw [List.append_assoc, List.append_assoc, List.drop_left' hw]; rfl
  have s1 : slice true (vs (deedT d)) none (some (vi 3)) [] = .ok (vs d.word) [] := (sl_to (k := 3) (by decide)).trans (by rw [t3])
  have s2 : slice true (vs (deedT d)) (some (vi 3)) (some (vi 4)) [] = .ok (vs [32]) [] := (sl_mid (i := 3) (j := 4) (by omega) l4 (by omega)).trans (by rw [m34])
  have s3 : slice true (vs (deedT d)) (some (vi 4)) none [] = .ok (vs (markT d.mark ++ tailT d.text)) [] := (sl_from (k := 4) (by decide)).trans (by rw [d4])
  refine go_asg (v := vs d.word) (σ₁ := []) (by simp only [eA_1, eA_2, eA_4, eA_5, eA_6, eA_7, eA_10, eA_12, eA_13, eA_15, eA_16, eA_17, eA_18, eA_19, eB_1, eB_2, eO_1, eO_2, ok_bind, List.getElem?_cons_zero, List.getElem?_cons_succ, List.set_cons_zero, List.set_cons_succ, bc_len_s, bc_len_l, bc_len_t, c_eq, c_ne, c_in, c_nin, c_is, c_isn, c_lt, c_gt, c_ge, lt_i, gt_i, ge_s, no_s, eq_int, eq_str, in_sign, in_strs, Tx_size, Tx_len, b_add, b_sub, tr_b, s1] <;> rfl) ?_
  refine go_ite (t := ((!decide (d.word = kadd)) && (!decide (d.word = kcut)) && (!decide (d.word = kset))) || (!decide ([32] = [32]))) (σ₁ := []) (e_or2 (e_and3 (by simp only [eA_1, eA_2, eA_4, eA_5, eA_6, eA_7, eA_10, eA_12, eA_13, eA_15, eA_16, eA_17, eA_18, eA_19, eB_1, eB_2, eO_1, eO_2, ok_bind, List.getElem?_cons_zero, List.getElem?_cons_succ, List.set_cons_zero, List.set_cons_succ, bc_len_s, bc_len_l, bc_len_t, c_eq, c_ne, c_in, c_nin, c_is, c_isn, c_lt, c_gt, c_ge, lt_i, gt_i, ge_s, no_s, eq_int, eq_str, in_sign, in_strs, Tx_size, Tx_len, b_add, b_sub, tr_b, k_add] <;> rfl) (fun _ => (by simp only [eA_1, eA_2, eA_4, eA_5, eA_6, eA_7, eA_10, eA_12, eA_13, eA_15, eA_16, eA_17, eA_18, eA_19, eB_1, eB_2, eO_1, eO_2, ok_bind, List.getElem?_cons_zero, List.getElem?_cons_succ, List.set_cons_zero, List.set_cons_succ, bc_len_s, bc_len_l, bc_len_t, c_eq, c_ne, c_in, c_nin, c_is, c_isn, c_lt, c_gt, c_ge, lt_i, gt_i, ge_s, no_s, eq_int, eq_str, in_sign, in_strs, Tx_size, Tx_len, b_add, b_sub, tr_b, k_cut] <;> rfl)) (fun _ _ => (by simp only [eA_1, eA_2, eA_4, eA_5, eA_6, eA_7, eA_10, eA_12, eA_13, eA_15, eA_16, eA_17, eA_18, eA_19, eB_1, eB_2, eO_1, eO_2, ok_bind, List.getElem?_cons_zero, List.getElem?_cons_succ, List.set_cons_zero, List.set_cons_succ, bc_len_s, bc_len_l, bc_len_t, c_eq, c_ne, c_in, c_nin, c_is, c_isn, c_lt, c_gt, c_ge, lt_i, gt_i, ge_s, no_s, eq_int, eq_str, in_sign, in_strs, Tx_size, Tx_len, b_add, b_sub, tr_b, k_set] <;> rfl))) (fun _ => (by simp only [eA_1, eA_2, eA_4, eA_5, eA_6, eA_7, eA_10, eA_12, eA_13, eA_15, eA_16, eA_17, eA_18, eA_19, eB_1, eB_2, eO_1, eO_2, ok_bind, List.getElem?_cons_zero, List.getElem?_cons_succ, List.set_cons_zero, List.set_cons_succ, bc_len_s, bc_len_l, bc_len_t, c_eq, c_ne, c_in, c_nin, c_is, c_isn, c_lt, c_gt, c_ge, lt_i, gt_i, ge_s, no_s, eq_int, eq_str, in_sign, in_strs, Tx_size, Tx_len, b_add, b_sub, tr_b, s2, k_sp] <;> rfl))) (fun e => ?_) (fun _ => ?_)
  · exfalso
    rcases h.shape with ⟨e1, _⟩ | ⟨e1 | e1, _⟩ <;> rw [e1] at e <;> exact absurd e (by decide)
  refine go_ite (t := decide (d.word = kcut)) (σ₁ := []) (by simp only [eA_1, eA_2, eA_4, eA_5, eA_6, eA_7, eA_10, eA_12, eA_13, eA_15, eA_16, eA_17, eA_18, eA_19, eB_1, eB_2, eO_1, eO_2, ok_bind, List.getElem?_cons_zero, List.getElem?_cons_succ, List.set_cons_zero, List.set_cons_succ, bc_len_s, bc_len_l, bc_len_t, c_eq, c_ne, c_in, c_nin, c_is, c_isn, c_lt, c_gt, c_ge, lt_i, gt_i, ge_s, no_s, eq_int, eq_str, in_sign, in_strs, Tx_size, Tx_len, b_add, b_sub, tr_b, k_cut] <;> rfl) (fun e => ?_) (fun e => ?_)
  · have e := of_decide_eq_true e
    rcases h.shape with ⟨e1, e2⟩ | ⟨e1, l, e2, e3⟩
    · rw [e2, tailT, List.append_nil] at s3
      refine go_ret (v := .d d.data) (σ₁ := []) ?_ rfl
      simp only [eA_1, eA_2, eA_4, eA_5, eA_6, eA_7, eA_10, eA_12, eA_13, eA_15, eA_16, eA_17, eA_18, eA_19, eB_1, eB_2, eO_1, eO_2, ok_bind, List.getElem?_cons_zero, List.getElem?_cons_succ, List.set_cons_zero, List.set_cons_succ, bc_len_s, bc_len_l, bc_len_t, c_eq, c_ne, c_in, c_nin, c_is, c_isn, c_lt, c_gt, c_ge, lt_i, gt_i, ge_s, no_s, eq_int, eq_str, in_sign, in_strs, Tx_size, Tx_len, b_add, b_sub, tr_b, s3, hcf, hhd, hmo, if_pos (len2 _ _), tup2, data_eq, e2, textD, List.append_nil]
    · rw [e] at e1; exact absurd e1 (by decide)
  · have e := of_decide_eq_false e
    rcases h.shape with ⟨e1, e2⟩ | ⟨e1, l, e2, e3⟩
    · exact absurd e1 e
    · have hl := line_len e3
      have hrow : deedT d = (d.word ++ [32] ++ markT d.mark) ++ 58 :: [32] ++ l := by simp only [deedT, e2, tailT, List.append_assoc]
      have hno : 58 ∉ d.word ++ [32] ++ markT d.mark := by
        simp only [List.mem_append, not_or]
        refine ⟨⟨?_, by decide⟩, mark_no h.mark no58 (by decide) (by decide) (by decide)⟩
        rcases e1 with e1 | e1 <;> rw [e1] <;> decide
      have hf := find_meth (σ := []) 58 [32] (d.word ++ [32] ++ markT d.mark) l hno
      rw [← hrow] at hf
      have hal : (d.word ++ [32] ++ markT d.mark).length = 4 + (markT d.mark).length := by simp [hw]; omega
      rw [hal] at hf
      have hdl : (deedT d).length = 4 + (markT d.mark).length + 2 + l.length := by rw [hrow]; simp [hw]; omega
      have hpre : methPre .find (vs (deedT d)) [] = true := rfl
      have s4 : slice true (vs (deedT d)) (some (vi ((4 : Nat) : Int))) (some (vi ((4 + (markT d.mark).length : Nat) : Int))) [] = .ok (vs (markT d.mark)) [] := (sl_mid (i := 4) (j := 4 + (markT d.mark).length) l4 (by omega) (by omega)).trans (by
        rw [d4, show 4 + (markT d.mark).length - 4 = (markT d.mark).length by omega, List.take_left' rfl])
      have s5 : slice true (vs (deedT d)) (some (vi ((4 + (markT d.mark).length + 2 : Nat) : Int))) none [] = .ok (vs l) [] := (sl_from (k := 4 + (markT d.mark).length + 2) (by omega)).trans (by
        rw [hrow, List.drop_left' (by simp [hw]; omega)])
      obtain ⟨A, hA⟩ : ∃ A : Int, A = ((4 + (markT d.mark).length : Nat) : Int) := ⟨_, rfl⟩
      have hA2 : A + 2 = ((4 + (markT d.mark).length + 2 : Nat) : Int) := by rw [hA]; omega
      have hA4 : ¬ A < 4 := by rw [hA]; omega
      have h4 : ((4 : Nat) : Int) = 4 := rfl
      rw [← hA] at hf
      rw [← hA, h4] at s4
      rw [← hA2] at s5
      clear hA hA2
      refine go_asg (v := vi A) (σ₁ := []) (by simp only [eA_1, eA_2, eA_4, eA_5, eA_6, eA_7, eA_10, eA_12, eA_13, eA_15, eA_16, eA_17, eA_18, eA_19, eB_1, eB_2, eO_1, eO_2, ok_bind, List.getElem?_cons_zero, List.getElem?_cons_succ, List.set_cons_zero, List.set_cons_succ, bc_len_s, bc_len_l, bc_len_t, c_eq, c_ne, c_in, c_nin, c_is, c_isn, c_lt, c_gt, c_ge, lt_i, gt_i, ge_s, no_s, eq_int, eq_str, in_sign, in_strs, Tx_size, Tx_len, b_add, b_sub, tr_b, hpre, if_true, k_col]; exact hf) ?_
      refine go_ite (t := decide (A < 4)) (σ₁ := []) (by simp only [eA_1, eA_2, eA_4, eA_5, eA_6, eA_7, eA_10, eA_12, eA_13, eA_15, eA_16, eA_17, eA_18, eA_19, eB_1, eB_2, eO_1, eO_2, ok_bind, List.getElem?_cons_zero, List.getElem?_cons_succ, List.set_cons_zero, List.set_cons_succ, bc_len_s, bc_len_l, bc_len_t, c_eq, c_ne, c_in, c_nin, c_is, c_isn, c_lt, c_gt, c_ge, lt_i, gt_i, ge_s, no_s, eq_int, eq_str, in_sign, in_strs, Tx_size, Tx_len, b_add, b_sub, tr_b] <;> rfl) (fun e => ?_) (fun _ => ?_)
      · exact absurd (of_decide_eq_true e) hA4
      refine go_ret (v := .d d.data) (σ₁ := []) ?_ rfl
      simp only [eA_1, eA_2, eA_4, eA_5, eA_6, eA_7, eA_10, eA_12, eA_13, eA_15, eA_16, eA_17, eA_18, eA_19, eB_1, eB_2, eO_1, eO_2, ok_bind, List.getElem?_cons_zero, List.getElem?_cons_succ, List.set_cons_zero, List.set_cons_succ, bc_len_s, bc_len_l, bc_len_t, c_eq, c_ne, c_in, c_nin, c_is, c_isn, c_lt, c_gt, c_ge, lt_i, gt_i, ge_s, no_s, eq_int, eq_str, in_sign, in_strs, Tx_size, Tx_len, b_add, b_sub, tr_b, s4, s5, hcf, hhd, hmo, if_pos (len3 _ _ _), tup3, data_eq, e2, textD]; rfl
end
end Mine

namespace Mine
open PySem
theorem sep_mem {c : Nat} (sep : List Nat) : ∀ l : List (List Nat), c ∈ sepL sep l → c ∈ sep ∨ ∃ a ∈ l, c ∈ a
  | [], h => by simp [sepL] at h
  | [a], h => by rw [sepL_one] at h; exact .inr ⟨a, by simp, h⟩
  | a :: b :: r, h => by
    rw [sepL_cons] at h
    simp only [List.mem_append] at h
    rcases h with (h | h) | h
    · exact .inr ⟨a, by simp, h⟩
    · exact .inl h
    · rcases sep_mem sep (b :: r) h with h | ⟨x, hx, h⟩
      · exact .inl h
      · exact .inr ⟨x, List.mem_cons_of_mem _ hx, h⟩
theorem headW_free {t : List Nat} {ls : List (List Nat)} (h1 : isName t = true) (h2 : ∀ x ∈ ls, isName x = true) {c : Nat} (hc : c ∉ signs) : ∀ a ∈ headW t ls, c ∉ a := by
  have k1 : c ∉ kchg := fun e => hc ((by decide : ∀ x ∈ kchg, x ∈ signs) c e)
  have k2 : c ∉ kon := fun e => hc ((by decide : ∀ x ∈ kon, x ∈ signs) c e)
  intro a ha
  unfold headW at ha
  cases ls with
  | nil =>
    simp only [List.mem_cons, List.not_mem_nil, or_false] at ha
    rcases ha with rfl | rfl
    · exact k1
    · exact name_no h1 hc
  | cons y r =>
    simp only [List.mem_cons] at ha
    rcases ha with rfl | rfl | rfl | ha
    · exact k1
    · exact name_no h1 hc
    · exact k2
    · exact name_no (h2 a (List.mem_cons.mpr ha)) hc
theorem deed_free {d : Deed} (h : FineD d) : 10 ∉ deedT d := by
  have hm := mark_no h.mark no10 (by decide) (by decide) (by decide)
  rcases h.shape with ⟨e1, e2⟩ | ⟨e1, l, e2, e3⟩
  · simp only [deedT, e1, e2, tailT, List.mem_append, not_or]
    exact ⟨⟨⟨by decide, by decide⟩, hm⟩, by simp⟩
  · simp only [deedT, e2, tailT, List.mem_append, not_or]
    refine ⟨⟨⟨?_, by decide⟩, hm⟩, by decide, fun e => ?_⟩
    · rcases e1 with e1 | e1 <;> rw [e1] <;> decide
    · have := ((line_iff l).mp e3).2 10 e; omega
theorem head_ne (t : List Nat) (ls : List (List Nat)) : sepL [32] (headW t ls) ≠ [] := by
  cases ls <;> simp [headW, sepL_cons, kchg]
theorem note_ne (c : Ch) : noteT c ≠ [] := by
  have h := head_ne c.1 c.2.1
  unfold noteT
  cases hd : c.2.2.map deedT with
  | nil => rw [sepL_one]; exact h
  | cons a r =>
    rw [sepL_cons]
    intro e
    simp at e
section
variable {fuel n : Nat} {hd : Bool} {σ : Store}
theorem split_meth (c : Nat) (l : List (List Nat)) (h0 : sepL [c] l ≠ []) (hf : ∀ a ∈ l, c ∉ a) (hl : (sepL [c] l).length ≤ 1000000) (hn : l.length ≤ 1000) : methcall .split true (vs (sepL [c] l)) [vs [c]] σ = .ok (.d (dl l)) σ := by
  have e3 : ((Tx [c]).length == 0) = false ∧ (Tx (sepL [c] l)).length + 2 ≤ line := ⟨by rw [Tx_len]; rfl, by rw [Tx_len]; simp [line]; omega⟩
  show splitIn true (Tx (sepL [c] l)) (Tx [c]) σ = _
  simp only [splitIn, if_pos e3, split_Tx c l h0 hf]
  have e4 : (l.map Tx).map (fun p => V.d (.str p)) = (l.map fun t => PyData.str (Tx t)).map V.d := by rw [List.map_map, List.map_map]; rfl
  rw [e4]
  exact mkListT _ (by simp [line]; omega)
theorem slLF {l : List PyData} {i : Int} (h : small i = true) : slice false (.d (.list l)) (some (vi i)) none σ = mkList false (cutAt (some i) none (l.map .d)) σ := by
  simp only [slice, endOf, h, if_true, sliceAt, isStrV, isTupV, lstOf]
theorem sub_dl {W : List (List Nat)} {x : List Nat} (i : Int) (h0 : 0 ≤ i) (h1 : i < 1000) (h : W[i.toNat]? = some x) : subscr (.d (dl W)) (vi i) σ = some (vs x) :=
  at_list i h0 (by omega) (by rw [List.getElem?_map, h]; rfl)
theorem headW_count (t : List Nat) (ls : List (List Nat)) : (headW t ls).length = if ls = [] then 2 else 3 + ls.length := by
  cases ls <;> simp [headW]; omega
theorem ev_head (t : List Nat) (ls : List (List Nat)) (h1 : isName t = true) (h2 : ∀ x ∈ ls, isName x = true) (h3 : ls.length ≤ 60) :
    callF P02 isExc fuel (n + 1) false .shared 11 [vs (sepL [32] (headW t ls))] σ = .ok (.tup [vs t, .ref σ.length]) (σ ++ [.list (ls.map vs)]) := by
  refine shared_ok Q11 rfl ?_
  generalize hC : (⟨callF P02 isExc fuel n, isExc, fuel, false⟩ : Cfg) = C
  have hhd : C.hd = false := by rw [← hC]
  have hlen := headW_len h1 h2 h3
  have hcnt := headW_count t ls
  have hW : (headW t ls).length ≤ 63 := by rw [hcnt]; split <;> omega
  have hsp := split_meth (σ := σ) 32 (headW t ls) (head_ne t ls) (headW_free h1 h2 no32) (by omega) (by omega)
  have a0 : (headW t ls)[(0 : Int).toNat]? = some kchg := rfl
  have a1 : (headW t ls)[(1 : Int).toNat]? = some t := rfl
  show Ends (fun r => r = _) (execSs C [_, _, _, _, _] [some (vs (sepL [32] (headW t ls))), none] σ)
  have hpre : methPre .split (vs (sepL [32] (headW t ls))) σ = true := rfl
  refine go_asg (v := .d (dl (headW t ls))) (σ₁ := σ) (by simp only [eA_1, eA_2, eA_4, eA_5, eA_6, eA_7, eA_10, eA_12, eA_13, eA_15, eA_16, eA_17, eA_18, eA_19, eB_1, eB_2, eO_1, eO_2, ok_bind, List.getElem?_cons_zero, List.getElem?_cons_succ, List.set_cons_zero, List.set_cons_succ, bc_len_s, bc_len_l, bc_len_t, c_eq, c_ne, c_in, c_nin, c_is, c_isn, c_lt, c_gt, c_ge, lt_i, gt_i, ge_s, no_s, eq_int, eq_str, in_sign, in_strs, Tx_size, Tx_len, b_add, b_sub, tr_b, hpre, if_true, k_sp]; exact hsp) ?_
  generalize hWW : headW t ls = W at *
  have b0 := sub_dl (σ := σ) 0 (by decide) (by decide) a0
  have b1 := sub_dl (σ := σ) 1 (by decide) (by decide) a1
  refine go_ite (t := decide ((W.length : Int) < 2) || !decide (kchg = kchg)) (σ₁ := σ) (e_or2 (by simp only [eA_1, eA_2, eA_4, eA_5, eA_6, eA_7, eA_10, eA_12, eA_13, eA_15, eA_16, eA_17, eA_18, eA_19, eB_1, eB_2, eO_1, eO_2, ok_bind, List.getElem?_cons_zero, List.getElem?_cons_succ, List.set_cons_zero, List.set_cons_succ, bc_len_s, bc_len_l, bc_len_t, c_eq, c_ne, c_in, c_nin, c_is, c_isn, c_lt, c_gt, c_ge, lt_i, gt_i, ge_s, no_s, eq_int, eq_str, in_sign, in_strs, Tx_size, Tx_len, b_add, b_sub, tr_b, List.length_map] <;> rfl) (fun _ => (by simp only [eA_1, eA_2, eA_4, eA_5, eA_6, eA_7, eA_10, eA_12, eA_13, eA_15, eA_16, eA_17, eA_18, eA_19, eB_1, eB_2, eO_1, eO_2, ok_bind, List.getElem?_cons_zero, List.getElem?_cons_succ, List.set_cons_zero, List.set_cons_succ, bc_len_s, bc_len_l, bc_len_t, c_eq, c_ne, c_in, c_nin, c_is, c_isn, c_lt, c_gt, c_ge, lt_i, gt_i, ge_s, no_s, eq_int, eq_str, in_sign, in_strs, Tx_size, Tx_len, b_add, b_sub, tr_b, b0, k_chg0] <;> rfl))) (fun e => ?_) (fun _ => ?_)
  · exfalso
    simp only [decide_true, Bool.not_true, Bool.or_false, decide_eq_true_eq] at e
    split at hcnt <;> omega
  refine go_ite (t := decide ((W.length : Int) = 2)) (σ₁ := σ) (by simp only [eA_1, eA_2, eA_4, eA_5, eA_6, eA_7, eA_10, eA_12, eA_13, eA_15, eA_16, eA_17, eA_18, eA_19, eB_1, eB_2, eO_1, eO_2, ok_bind, List.getElem?_cons_zero, List.getElem?_cons_succ, List.set_cons_zero, List.set_cons_succ, bc_len_s, bc_len_l, bc_len_t, c_eq, c_ne, c_in, c_nin, c_is, c_isn, c_lt, c_gt, c_ge, lt_i, gt_i, ge_s, no_s, eq_int, eq_str, in_sign, in_strs, Tx_size, Tx_len, b_add, b_sub, tr_b, List.length_map] <;> rfl) (fun e => ?_) (fun e => ?_)
  · have e := of_decide_eq_true e
    have hls : ls = [] := by
      by_cases h : ls = []
      · exact h
      · rw [if_neg h] at hcnt; omega
    subst hls
    refine go_ret (v := .tup [vs t, .ref σ.length]) (σ₁ := σ ++ [.list []]) ?_ rfl
    simp only [eA_1, eA_2, eA_4, eA_5, eA_6, eA_7, eA_10, eA_12, eA_13, eA_15, eA_16, eA_17, eA_18, eA_19, eB_1, eB_2, eO_1, eO_2, ok_bind, List.getElem?_cons_zero, List.getElem?_cons_succ, List.set_cons_zero, List.set_cons_succ, bc_len_s, bc_len_l, bc_len_t, c_eq, c_ne, c_in, c_nin, c_is, c_isn, c_lt, c_gt, c_ge, lt_i, gt_i, ge_s, no_s, eq_int, eq_str, in_sign, in_strs, Tx_size, Tx_len, b_add, b_sub, tr_b, b1, mkList, List.length_nil, if_pos (Nat.zero_le line), if_pos (len2 _ _)]; rfl
  · have e := of_decide_eq_false e
    have hls : ls ≠ [] := by intro h; rw [if_pos h] at hcnt; omega
    rw [if_neg hls] at hcnt
    have hpos : 0 < ls.length := List.length_pos_iff.mpr hls
    have hWe : W = kchg :: t :: kon :: ls := by
      rw [← hWW]
      cases ls with
      | nil => exact absurd rfl hls
      | cons y r => rfl
    have b2 := sub_dl (σ := σ) (W := W) (x := kon) 2 (by decide) (by decide) (by rw [hWe]; rfl)
    refine go_ite (t := (!decide (kon = kon)) || decide ((W.length : Int) < 4)) (σ₁ := σ) (e_or2 (by simp only [eA_1, eA_2, eA_4, eA_5, eA_6, eA_7, eA_10, eA_12, eA_13, eA_15, eA_16, eA_17, eA_18, eA_19, eB_1, eB_2, eO_1, eO_2, ok_bind, List.getElem?_cons_zero, List.getElem?_cons_succ, List.set_cons_zero, List.set_cons_succ, bc_len_s, bc_len_l, bc_len_t, c_eq, c_ne, c_in, c_nin, c_is, c_isn, c_lt, c_gt, c_ge, lt_i, gt_i, ge_s, no_s, eq_int, eq_str, in_sign, in_strs, Tx_size, Tx_len, b_add, b_sub, tr_b, b2, k_on] <;> rfl) (fun _ => (by simp only [eA_1, eA_2, eA_4, eA_5, eA_6, eA_7, eA_10, eA_12, eA_13, eA_15, eA_16, eA_17, eA_18, eA_19, eB_1, eB_2, eO_1, eO_2, ok_bind, List.getElem?_cons_zero, List.getElem?_cons_succ, List.set_cons_zero, List.set_cons_succ, bc_len_s, bc_len_l, bc_len_t, c_eq, c_ne, c_in, c_nin, c_is, c_isn, c_lt, c_gt, c_ge, lt_i, gt_i, ge_s, no_s, eq_int, eq_str, in_sign, in_strs, Tx_size, Tx_len, b_add, b_sub, tr_b, List.length_map] <;> rfl))) (fun e => ?_) (fun _ => ?_)
    · exfalso
      simp only [decide_true, Bool.not_true, Bool.false_or, decide_eq_true_eq] at e
      omega
    have s3 : slice false (.d (dl W)) (some (vi 3)) none σ = .ok (.ref σ.length) (σ ++ [.list (ls.map vs)]) := by
      rw [slLF (by decide)]
      have e1 : cutAt (some (3 : Int)) none ((W.map fun t => PyData.str (Tx t)).map V.d) = ls.map vs := by
        rw [show (3 : Int) = ((3 : Nat) : Int) from rfl, cut_from, hWe, List.map_map]; rfl
      rw [e1]
      show (if (ls.map vs).length ≤ line then Res.ok (V.ref σ.length) (σ ++ [.list (ls.map vs)]) else .bad) = _
      exact if_pos (by simp [line]; omega)
    refine go_ret (v := .tup [vs t, .ref σ.length]) (σ₁ := σ ++ [.list (ls.map vs)]) ?_ rfl
    simp only [eA_1, eA_2, eA_4, eA_5, eA_6, eA_7, eA_10, eA_12, eA_13, eA_15, eA_16, eA_17, eA_18, eA_19, eB_1, eB_2, eO_1, eO_2, ok_bind, List.getElem?_cons_zero, List.getElem?_cons_succ, List.set_cons_zero, List.set_cons_succ, bc_len_s, bc_len_l, bc_len_t, c_eq, c_ne, c_in, c_nin, c_is, c_isn, c_lt, c_gt, c_ge, lt_i, gt_i, ge_s, no_s, eq_int, eq_str, in_sign, in_strs, Tx_size, Tx_len, b_add, b_sub, tr_b, b1, s3, if_pos (len2 _ _)]; rfl
noncomputable def heldV (c : Ch) (k j : Nat) : V := .tup [vs c.1, .ref k, .ref j]
theorem lent_held {c : Ch} {k j : Nat} (h1 : σ[k]? = some (.list (c.2.1.map vs))) (h2 : σ[j]? = some (.list (c.2.2.map fun d => V.d d.data))) {r xs : List V} (hr : lent σ r = some xs) : lent σ (heldV c k j :: r) = some (.d c.data :: xs) := by
  have e1 : snap σ 7 (.ref k) = some (dl c.2.1) := snap_refN (m := 5) (l := c.2.1.map fun t => .str (Tx t)) (by rw [h1, List.map_map]; rfl)
  have e2 : snap σ 7 (.ref j) = some (.list (c.2.2.map Deed.data)) := snap_refN (m := 5) (by rw [h2, List.map_map]; rfl)
  have e3 : ∀ y, snap σ 7 (.d y) = some y := fun _ => rfl
  have e4 : snap σ 8 (heldV c k j) = some c.data := by
    show (match snapL (snap σ 7) [vs c.1, .ref k, .ref j] with | some xs => some (PyData.tuple xs) | none => none) = _
    simp only [snapL, e1, e2, e3]
  show (match snap σ 8 (heldV c k j), lent σ r with | some x, some xs => some (V.d x :: xs) | _, _ => none) = _
  rw [e4, hr]
theorem run_read {C : Cfg} (hhd : C.hd = false) (c : Ch) (hc : Fine c)
    (hhead : ∀ σ, C.cf false .shared 11 [vs (sepL [32] (headW c.1 c.2.1))] σ = .ok (.tup [vs c.1, .ref σ.length]) (σ ++ [.list (c.2.1.map vs)]))
    (hdeed : ∀ d ∈ c.2.2, ∀ σ, C.cf false .frz 10 [vs (deedT d)] σ = .ok (.d d.data) σ)
    (hcheck : ∀ σ v, inert [v] = false → lent σ [v] = some [.d c.data] → C.cf false .frz 5 [v] σ = .ok (.d .none) σ)
    (hwr : ∀ σ v, inert [v] = false → lent σ [v] = some [.d c.data] → C.cf false .frz 7 [v] σ = .ok (vs (noteT c)) σ) :
    Ends (fun r => r = .ok (.ret (heldV c σ.length (σ.length + 1))) (σ ++ [.list (c.2.1.map vs), .list (c.2.2.map fun d => V.d d.data)])) (execSs C F_read.body [some (vs (noteT c)), none, none, none, none] σ) := by
  show Ends _ (execSs C [_, _, _, _, _, _] _ σ)
  have hfr : ∀ a ∈ sepL [32] (headW c.1 c.2.1) :: c.2.2.map deedT, 10 ∉ a := by
    intro a ha
    rcases List.mem_cons.mp ha with rfl | ha
    · intro e
      rcases sep_mem [32] _ e with e | ⟨x, hx, e⟩
      · exact absurd e (by decide)
      · exact headW_free hc.name hc.leans no10 x hx e
    · obtain ⟨d, hd, rfl⟩ := List.mem_map.mp ha
      exact deed_free (hc.each d hd)
  have hds := hc.deeds
  have hhl := headW_len hc.name hc.leans hc.few
  have hnl : (noteT c).length ≤ 1000000 := by
    have := sep_len [10] (B := 1000) (sepL [32] (headW c.1 c.2.1) :: c.2.2.map deedT) (by
      intro t ht
      rcases List.mem_cons.mp ht with rfl | ht
      · exact hhl
      · obtain ⟨d, hd, rfl⟩ := List.mem_map.mp ht
        exact Nat.le_trans (deed_len (hc.each d hd)) (by decide))
    simp only [List.length_cons, List.length_map, List.length_nil] at this
    unfold noteT; omega
  have hsp : methcall .split true (vs (noteT c)) [vs [10]] σ = .ok (.d (dl (sepL [32] (headW c.1 c.2.1) :: c.2.2.map deedT))) σ := split_meth 10 _ (note_ne c) hfr hnl (by simp; omega)
  have hpre : methPre .split (vs (noteT c)) σ = true := rfl
  refine go_asg (v := .d (dl (sepL [32] (headW c.1 c.2.1) :: c.2.2.map deedT))) (σ₁ := σ) (by simp only [eA_1, eA_2, eA_4, eA_5, eA_6, eA_7, eA_10, eA_12, eA_13, eA_15, eA_16, eA_17, eA_18, eA_19, eB_1, eB_2, eO_1, eO_2, ok_bind, List.getElem?_cons_zero, List.getElem?_cons_succ, List.set_cons_zero, List.set_cons_succ, bc_len_s, bc_len_l, bc_len_t, c_eq, c_ne, c_in, c_nin, c_is, c_isn, c_lt, c_gt, c_ge, lt_i, gt_i, ge_s, no_s, eq_int, eq_str, in_sign, in_strs, Tx_size, Tx_len, b_add, b_sub, tr_b, hpre, if_true, k_nl]; exact hsp) ?_
  generalize sepL [32] (headW c.1 c.2.1) = H at hhead
  generalize hN : noteT c = N at hwr
  have b0 := sub_dl (σ := σ) (W := H :: c.2.2.map deedT) (x := H) 0 (by decide) (by decide) rfl
  refine go_asg (v := .tup [vs c.1, .ref σ.length]) (σ₁ := σ ++ [.list (c.2.1.map vs)]) (by simp only [eA_1, eA_2, eA_4, eA_5, eA_6, eA_7, eA_10, eA_12, eA_13, eA_15, eA_16, eA_17, eA_18, eA_19, eB_1, eB_2, eO_1, eO_2, ok_bind, List.getElem?_cons_zero, List.getElem?_cons_succ, List.set_cons_zero, List.set_cons_succ, bc_len_s, bc_len_l, bc_len_t, c_eq, c_ne, c_in, c_nin, c_is, c_isn, c_lt, c_gt, c_ge, lt_i, gt_i, ge_s, no_s, eq_int, eq_str, in_sign, in_strs, Tx_size, Tx_len, b_add, b_sub, tr_b, b0, hhd, hhead] <;> rfl) ?_
  generalize hS1 : σ ++ [O.list (c.2.1.map vs)] = S1
  have hL1 : S1.length = σ.length + 1 := by rw [← hS1]; simp
  have t0 : subscr (.tup [vs c.1, .ref σ.length]) (vi 0) S1 = some (vs c.1) := rfl
  have t1 : subscr (.tup [vs c.1, .ref σ.length]) (vi 1) S1 = some (.ref σ.length) := rfl
  have s1 : slice true (.d (dl (H :: c.2.2.map deedT))) (some (vi 1)) none S1 = .ok (.d (dl (c.2.2.map deedT))) S1 := slL_from (k := 1) (by decide) (by simp [line]; omega)
  have hcomp := e_comp1 (C := C) (elt := .fcall .frz 10 [.var 4]) (t := 4) (it := .of (.slc true (.var 1) (some (.cst (.int 1))) none)) (fz := false) (ρ := [some (vs N), some (.d (dl (H :: c.2.2.map deedT))), some (.tup [vs c.1, .ref σ.length]), none, none]) (σ := S1) (σ₁ := S1) (l := c.2.2) (fun d => vs (deedT d)) (fun d => .d d.data)
    (it_of (v := .d (dl (c.2.2.map deedT))) (by simp only [eA_1, eA_2, eA_4, eA_5, eA_6, eA_7, eA_10, eA_12, eA_13, eA_15, eA_16, eA_17, eA_18, eA_19, eB_1, eB_2, eO_1, eO_2, ok_bind, List.getElem?_cons_zero, List.getElem?_cons_succ, List.set_cons_zero, List.set_cons_succ, bc_len_s, bc_len_l, bc_len_t, c_eq, c_ne, c_in, c_nin, c_is, c_isn, c_lt, c_gt, c_ge, lt_i, gt_i, ge_s, no_s, eq_int, eq_str, in_sign, in_strs, Tx_size, Tx_len, b_add, b_sub, tr_b, s1] <;> rfl) (by simp [itemsOf, List.map_map, Function.comp_def])) (fun d hd => (by simp only [eA_1, eA_2, eA_4, eA_5, eA_6, eA_7, eA_10, eA_12, eA_13, eA_15, eA_16, eA_17, eA_18, eA_19, eB_1, eB_2, eO_1, eO_2, ok_bind, List.getElem?_cons_zero, List.getElem?_cons_succ, List.set_cons_zero, List.set_cons_succ, bc_len_s, bc_len_l, bc_len_t, c_eq, c_ne, c_in, c_nin, c_is, c_isn, c_lt, c_gt, c_ge, lt_i, gt_i, ge_s, no_s, eq_int, eq_str, in_sign, in_strs, Tx_size, Tx_len, b_add, b_sub, tr_b, hhd, hdeed d hd] <;> rfl))
  have hmk : mkList false (c.2.2.map fun d => V.d d.data) S1 = .ok (.ref (σ.length + 1)) (S1 ++ [.list (c.2.2.map fun d => V.d d.data)]) := by
    show (if (c.2.2.map fun d => V.d d.data).length ≤ line then Res.ok (V.ref S1.length) (S1 ++ [.list (c.2.2.map fun d => V.d d.data)]) else .bad) = _
    rw [if_pos (by simp [line]; omega), hL1]
  rw [hmk] at hcomp
  refine go_asg (v := heldV c σ.length (σ.length + 1)) (σ₁ := S1 ++ [.list (c.2.2.map fun d => V.d d.data)]) (by
    simp only [eA_1, eA_2, eA_4, eA_5, eA_6, eA_7, eA_10, eA_12, eA_13, eA_15, eA_16, eA_17, eA_18, eA_19, eB_1, eB_2, eO_1, eO_2, ok_bind, List.getElem?_cons_zero, List.getElem?_cons_succ, List.set_cons_zero, List.set_cons_succ, bc_len_s, bc_len_l, bc_len_t, c_eq, c_ne, c_in, c_nin, c_is, c_isn, c_lt, c_gt, c_ge, lt_i, gt_i, ge_s, no_s, eq_int, eq_str, in_sign, in_strs, Tx_size, Tx_len, b_add, b_sub, tr_b, t0, t1, hcomp, if_pos (len3 _ _ _)]; rfl) ?_
  have hS2 : S1 ++ [.list (c.2.2.map fun d => V.d d.data)] = σ ++ [.list (c.2.1.map vs), .list (c.2.2.map fun d => V.d d.data)] := by rw [← hS1]; simp
  rw [hS2]
  generalize hS3 : σ ++ [O.list (c.2.1.map vs), .list (c.2.2.map fun d => V.d d.data)] = S3
  have g1 : S3[σ.length]? = some (.list (c.2.1.map vs)) := by rw [← hS3]; simp
  have g2 : S3[σ.length + 1]? = some (.list (c.2.2.map fun d => V.d d.data)) := by rw [← hS3]; simp
  have hlent := lent_held g1 g2 (r := []) (xs := []) rfl
  have hck := hcheck S3 _ rfl hlent
  have hwr := hwr S3 _ rfl hlent
  refine go_try (M := fun ρ σ' => ρ = [some (vs N), some (.d (dl (H :: c.2.2.map deedT))), some (.tup [vs c.1, .ref σ.length]), some (heldV c σ.length (σ.length + 1)), none] ∧ σ' = S3) (go_exp (v := .d .none) (σ₁ := S3) (by simp only [eA_1, eA_2, eA_4, eA_5, eA_6, eA_7, eA_10, eA_12, eA_13, eA_15, eA_16, eA_17, eA_18, eA_19, eB_1, eB_2, eO_1, eO_2, ok_bind, List.getElem?_cons_zero, List.getElem?_cons_succ, List.set_cons_zero, List.set_cons_succ, bc_len_s, bc_len_l, bc_len_t, c_eq, c_ne, c_in, c_nin, c_is, c_isn, c_lt, c_gt, c_ge, lt_i, gt_i, ge_s, no_s, eq_int, eq_str, in_sign, in_strs, Tx_size, Tx_len, b_add, b_sub, tr_b, hhd, hck] <;> rfl) (go_nil ⟨_, _, ⟨rfl, rfl⟩, rfl⟩)) ?_
  rintro _ S3 ⟨rfl, rfl⟩
  refine go_ite (t := !decide (N = N)) (σ₁ := S3) (by simp only [eA_1, eA_2, eA_4, eA_5, eA_6, eA_7, eA_10, eA_12, eA_13, eA_15, eA_16, eA_17, eA_18, eA_19, eB_1, eB_2, eO_1, eO_2, ok_bind, List.getElem?_cons_zero, List.getElem?_cons_succ, List.set_cons_zero, List.set_cons_succ, bc_len_s, bc_len_l, bc_len_t, c_eq, c_ne, c_in, c_nin, c_is, c_isn, c_lt, c_gt, c_ge, lt_i, gt_i, ge_s, no_s, eq_int, eq_str, in_sign, in_strs, Tx_size, Tx_len, b_add, b_sub, tr_b, hhd, hwr] <;> rfl) (fun e => ?_) (fun _ => ?_)
  · simp at e
  exact go_ret (v := heldV c σ.length (σ.length + 1)) (σ₁ := S3) (by simp only [eA_1, eA_2, eA_4, eA_5, eA_6, eA_7, eA_10, eA_12, eA_13, eA_15, eA_16, eA_17, eA_18, eA_19, eB_1, eB_2, eO_1, eO_2, ok_bind, List.getElem?_cons_zero, List.getElem?_cons_succ, List.set_cons_zero, List.set_cons_succ, bc_len_s, bc_len_l, bc_len_t, c_eq, c_ne, c_in, c_nin, c_is, c_isn, c_lt, c_gt, c_ge, lt_i, gt_i, ge_s, no_s, eq_int, eq_str, in_sign, in_strs, Tx_size, Tx_len, b_add, b_sub, tr_b] <;> rfl) rfl
theorem GoodCh.check {c : Ch} (h : GoodCh c) : checkR c.1 c.2.1 c.2.2 = none := by
  have h1 : decide ((c.2.2.length : Int) > 20) = false := by have := h.deeds; simp; omega
  have h2 : c.2.2.any (fun d => !deedOk d) = false := by
    rw [List.any_eq_false]; intro d hd; rw [(h.good d hd).ok]; simp
  have h3 : c.2.2.any (unl c.1 c.2.1) = false := by
    rw [List.any_eq_false]; intro d hd; rw [(h.good d hd).unl]; simp
  simp only [checkR, h.leans, h1, h2, h3]; rfl
theorem ev_check_ok {c : Ch} (h : GoodCh c) : callF P02 isExc fuel (n + 3) false .frz 5 [.d c.data] σ = .ok (.d .none) σ := by
  have := ev_check (fuel := fuel) (n := n) (σ := σ) c.1 c.2.1 c.2.2 (by have := h.few; omega) (fun d hd => (h.good d hd).fits)
  rw [h.check] at this
  exact this
theorem ev_read {c : Ch} (h : GoodCh c) : callF P02 isExc fuel (n + 4) false .shared 12 [vs (noteT c)] σ = .ok (heldV c σ.length (σ.length + 1)) (σ ++ [.list (c.2.1.map vs), .list (c.2.2.map fun d => V.d d.data)]) :=
  shared_ok Q12 rfl (run_read (C := ⟨callF P02 isExc fuel (n + 3), isExc, fuel, false⟩) rfl c h.fine
    (fun σ => ev_head c.1 c.2.1 h.fine.name h.fine.leans h.few)
    (fun d hd σ => ev_deed_of d (h.fine.each d hd))
    (fun σ v hi hl => frz_any (σ₀ := []) (ev_check_ok h) rfl rfl hi hl)
    (fun σ v hi hl => frz_any (σ₀ := []) (ev_written c h.fine) rfl rfl hi hl))
end
end Mine

namespace Mine
open PySem
theorem eqN_str (n : Nat) (x : Str) : eqN n (.str x) (.str x) = some true := by
  cases n <;> simp [eqN, eqSeq, eqLeaf]
theorem eqN_int (n : Nat) (i : Int) : eqN n (.int i) (.int i) = some true := by
  cases n <;> simp [eqN, eqSeq, eqLeaf]
theorem eqN_none (n : Nat) : eqN n .none .none = some true := by
  cases n <;> rfl
theorem eqNsW_refl (f : PyData → PyData → Option Bool) : ∀ l : List PyData, (∀ x ∈ l, f x x = some true) → eqNsW f l l = some true
  | [], _ => rfl
  | x :: r, h => by
    have h1 := h x (by simp)
    have h2 := eqNsW_refl f r (fun y hy => h y (by simp [hy]))
    simp only [eqNsW, h1, h2, Bool.and_self]
theorem eqN_tup (n : Nat) (l : List PyData) (h : ∀ x ∈ l, eqN n x x = some true) : eqN (n + 1) (.tuple l) (.tuple l) = some true := eqNsW_refl _ l h
theorem eqN_list (n : Nat) (l : List PyData) (h : ∀ x ∈ l, eqN n x x = some true) : eqN (n + 1) (.list l) (.list l) = some true := (if_pos rfl).trans (eqNsW_refl _ l h)
theorem eqN_mark (n : Nat) (o : Option (List Nat × Int)) : eqN (n + 1) (markD o) (markD o) = some true := by
  cases o with
  | none => exact eqN_none _
  | some m =>
    refine eqN_tup n _ ?_
    intro x hx
    simp only [List.mem_cons, List.not_mem_nil, or_false] at hx
    rcases hx with rfl | rfl
    · exact eqN_str _ _
    · exact eqN_int _ _
theorem eqN_deed (n : Nat) (d : Deed) : eqN (n + 2) d.data d.data = some true := by
  rw [data_eq]
  refine eqN_tup (n + 1) _ ?_
  intro x hx
  simp only [List.cons_append, List.nil_append, List.mem_cons] at hx
  rcases hx with rfl | rfl | hx
  · exact eqN_str _ _
  · exact eqN_mark _ _
  · cases ht : d.text with
    | none => rw [ht] at hx; cases hx
    | some l =>
      rw [ht] at hx
      simp only [textD, List.mem_cons, List.not_mem_nil, or_false] at hx
      rw [hx]; exact eqN_str _ _
theorem eqN_dl (n : Nat) (ls : List (List Nat)) : eqN (n + 1) (dl ls) (dl ls) = some true := by
  refine eqN_list n _ ?_
  intro x hx
  obtain ⟨t, _, rfl⟩ := List.mem_map.mp hx
  exact eqN_str _ _
theorem eqN_ch (n : Nat) (c : Ch) : eqN (n + 4) c.data c.data = some true := by
  refine eqN_tup (n + 3) _ ?_
  intro x hx
  simp only [List.mem_cons, List.not_mem_nil, or_false] at hx
  rcases hx with rfl | rfl | rfl
  · exact eqN_str _ _
  · exact eqN_dl (n + 2) _
  · refine eqN_list (n + 2) _ ?_
    intro x hx
    obtain ⟨d, _, rfl⟩ := List.mem_map.mp hx
    exact eqN_deed n d
section
variable {σ : Store} {X : Nat → Nat → Option Bool} {fz h : Bool} {C : Cfg} {ρ : Vars} {σ₁ : Store}
theorem eq_deed (d : Deed) : eqV σ (.d d.data) (.d d.data) = some true := eqN_deed 38 d
theorem eq_dl (ls : List (List Nat)) : eqV σ (.d (dl ls)) (.d (dl ls)) = some true := eqN_dl 39 ls
theorem eq_ch (c : Ch) : eqV σ (.d c.data) (.d c.data) = some true := eqN_ch 36 c
theorem isi_tup {l : List PyData} : bcall X h .isinstance fz [.d (.tuple l), .ty "tuple"] σ = .ok (vb true) σ := rfl
theorem isi_str {x : Str} : bcall X h .isinstance fz [.d (.str x), .ty "str"] σ = .ok (vb true) σ := rfl
theorem isi_list {l : List PyData} : bcall X h .isinstance fz [.d (.list l), .ty "list"] σ = .ok (vb true) σ := rfl
theorem isi_int {i : Int} : bcall X h .isinstance fz [.d (.int i), .ty "int"] σ = .ok (vb true) σ := rfl
theorem isi_bool {i : Int} : bcall X h .isinstance fz [.d (.int i), .ty "bool"] σ = .ok (vb false) σ := rfl
theorem isi_deed (d : Deed) : bcall X h .isinstance fz [.d d.data, .ty "tuple"] σ = .ok (vb true) σ := rfl
theorem isi_mark (m : List Nat × Int) : bcall X h .isinstance fz [.d (markD (some m)), .ty "tuple"] σ = .ok (vb true) σ := rfl
theorem isi_ch (c : Ch) : bcall X h .isinstance fz [.d c.data, .ty "tuple"] σ = .ok (vb true) σ := rfl
theorem len_deed (d : Deed) : bcall X h .len fz [.d d.data] σ = .ok (vi ((2 + (textD d.text).length : Nat) : Int)) σ := by
  rw [data_eq, bc_len_t]; simp; omega
theorem len_mark (m : List Nat × Int) : bcall X h .len fz [.d (markD (some m))] σ = .ok (vi 2) σ := rfl
theorem len_ch (c : Ch) : bcall X h .len fz [.d c.data] σ = .ok (vi 3) σ := rfl
theorem e_or3 {p q r : Bool} {a b c : E} (h1 : evalE C a ρ σ = .ok (vb p) σ) (h2 : p = false → evalE C b ρ σ = .ok (vb q) σ) (h3 : p = false → q = false → evalE C c ρ σ = .ok (vb r) σ) : evalE C (.bop .Or [a, b, c]) ρ σ = .ok (vb (p || q || r)) σ := by
  cases p <;> cases q <;> simp_all [eA_9, eC_2, eC_3, ok_bind, tr_b]
theorem bools_true {α : Type} (l : List α) : boolsV ((l.map fun _ => PyData.bool true).map V.d) = some (l.map fun _ => true) := by
  induction l with
  | nil => rfl
  | cons a l ih => simp only [List.map_cons, boolsV, isBoolV, ih]
theorem e_all {α : Type} {l : List α} {e : E} (hhd : C.hd = false) (he : evalE C e ρ σ = .ok (.d (.list (l.map fun _ => .bool true))) σ₁) : evalE C (.bcall .all fz [e]) ρ σ = .ok (vb true) σ₁ := by
  have ha : (l.map fun _ => true).all id = true := by simp
  rw [eA_17, eB_2, he, ok_bind, eB_1, ok_bind, ok_bind]
  show bAll C.hd (.d (.list (l.map fun _ => .bool true))) σ₁ = _
  have hl : lstOf σ₁ (.d (.list (l.map fun _ => .bool true))) = some ((l.map fun _ => PyData.bool true).map V.d) := rfl
  simp only [bAll, hl, bools_true, hhd, if_true, ha]
theorem e_comp2D {α : Type} {elt : E} {t u : Nat} {it : It} {l : List α} (a b g : α → PyData) (hhd : C.hd = false)
    (hi : evalIt C it ρ σ = .ok (.items (l.map fun x => V.d (.tuple [a x, b x]))) σ₁) (hl : l.length ≤ line)
    (hg : ∀ x ∈ l, evalE C elt ((((ρ.set t none).set u none).set t (some (.d (a x)))).set u (some (.d (b x)))) σ₁ = .ok (.d (g x)) σ₁) :
    evalE C (.comp true elt [t, u] it []) ρ σ = .ok (.d (.list (l.map g))) σ₁ := by
  rw [eA_20, hi, ok_bind]
  show (compS _ ((l.map fun x => V.d (.tuple [a x, b x])).length + 1) (.items (l.map fun x => V.d (.tuple [a x, b x]))) σ₁).bind _ = _
  rw [compS_items, compGo_map (fun x => V.d (.tuple [a x, b x])) (fun x => some (.d (g x))) l]
  · rw [ok_bind]
    have e : l.filterMap (fun x => some (V.d (g x))) = (l.map g).map V.d := by
      rw [List.map_map]; induction l with
      | nil => rfl
      | cons x r ih => simp
    rw [e]
    exact mkListT _ (by simpa using hl)
  · intro x hx
    have hb : bindTs C.hd (clearTs ρ [t, u]) [t, u] (.d (.tuple [a x, b x])) = some ((((ρ.set t none).set u none).set t (some (.d (a x)))).set u (some (.d (b x)))) := by
      rw [hhd]; rfl
    simp only [compStep, hb, eF_1, ok_bind, hg x hx]
end
theorem textD_map (o : Option (List Nat)) : textD o = o.toList.map fun l => .str (Tx l) := by cases o <;> rfl
section
variable {fuel n : Nat} {hd : Bool} {σ : Store}
theorem Q26 : P02 26 = some Flaw_deed_like := rfl
theorem Q27 : P02 27 = some Flaw_change_like := rfl
theorem ev_deed_like (d : Deed) : callF P02 isExc fuel (n + 1) false .frz 26 [.d d.data, .d d.data] σ = .ok (vb true) σ := by
  refine frz_ok (v := vb true) (σ₁ := []) Q26 rfl (run_ret rfl ?_) rfl
  generalize hC : (⟨callF P02 isExc fuel n, isExc, fuel, false⟩ : Cfg) = C
  have hhd : C.hd = false := by rw [← hC]
  show Ends (fun r => r = _) (execSs C [_, _, _] [some (.d d.data), some (.d d.data), none, none] [])
  obtain ⟨L, hL⟩ : ∃ L : Int, L = ((2 + (textD d.text).length : Nat) : Int) := ⟨_, rfl⟩
  have hlen : ∀ (X : Nat → Nat → Option Bool) (h fz : Bool) (σ : Store), bcall X h .len fz [.d d.data] σ = .ok (vi L) σ := fun X h fz σ => by rw [hL]; exact len_deed d
  clear hL
  refine go_ite (t := !true || !decide (L = L) || !true) (σ₁ := []) (e_or3 (e_not (by simp only [eA_1, eA_2, eA_4, eA_5, eA_6, eA_7, eA_10, eA_12, eA_13, eA_15, eA_16, eA_17, eA_18, eA_19, eB_1, eB_2, eO_1, eO_2, ok_bind, List.getElem?_cons_zero, List.getElem?_cons_succ, List.set_cons_zero, List.set_cons_succ, bc_len_s, bc_len_l, bc_len_t, c_eq, c_ne, c_in, c_nin, c_is, c_isn, c_lt, c_gt, c_ge, lt_i, gt_i, ge_s, no_s, eq_int, eq_str, in_sign, in_strs, Tx_size, Tx_len, b_add, b_sub, tr_b, eA_3, isi_deed] <;> rfl)) (fun _ => (by simp only [eA_1, eA_2, eA_4, eA_5, eA_6, eA_7, eA_10, eA_12, eA_13, eA_15, eA_16, eA_17, eA_18, eA_19, eB_1, eB_2, eO_1, eO_2, ok_bind, List.getElem?_cons_zero, List.getElem?_cons_succ, List.set_cons_zero, List.set_cons_succ, bc_len_s, bc_len_l, bc_len_t, c_eq, c_ne, c_in, c_nin, c_is, c_isn, c_lt, c_gt, c_ge, lt_i, gt_i, ge_s, no_s, eq_int, eq_str, in_sign, in_strs, Tx_size, Tx_len, b_add, b_sub, tr_b, hlen] <;> rfl)) (fun _ _ => e_not (by simp only [eA_1, eA_2, eA_4, eA_5, eA_6, eA_7, eA_10, eA_12, eA_13, eA_15, eA_16, eA_17, eA_18, eA_19, eB_1, eB_2, eO_1, eO_2, ok_bind, List.getElem?_cons_zero, List.getElem?_cons_succ, List.set_cons_zero, List.set_cons_succ, bc_len_s, bc_len_l, bc_len_t, c_eq, c_ne, c_in, c_nin, c_is, c_isn, c_lt, c_gt, c_ge, lt_i, gt_i, ge_s, no_s, eq_int, eq_str, in_sign, in_strs, Tx_size, Tx_len, b_add, b_sub, tr_b, eA_3, sub_word, isi_str] <;> rfl))) (fun e => ?_) (fun _ => ?_)
  · simp at e
  refine go_mid (M := fun ρ σ => (∃ z, ρ = [some (.d d.data), some (.d d.data), z, none]) ∧ σ = []) ?_ ?_
  · refine go_ite (t := !d.mark.isNone) (σ₁ := []) (by simp only [eA_1, eA_2, eA_4, eA_5, eA_6, eA_7, eA_10, eA_12, eA_13, eA_15, eA_16, eA_17, eA_18, eA_19, eB_1, eB_2, eO_1, eO_2, ok_bind, List.getElem?_cons_zero, List.getElem?_cons_succ, List.set_cons_zero, List.set_cons_succ, bc_len_s, bc_len_l, bc_len_t, c_eq, c_ne, c_in, c_nin, c_is, c_isn, c_lt, c_gt, c_ge, lt_i, gt_i, ge_s, no_s, eq_int, eq_str, in_sign, in_strs, Tx_size, Tx_len, b_add, b_sub, tr_b, sub_mark, is_mark] <;> rfl) (fun e => ?_) (fun _ => go_nil ⟨_, _, ⟨⟨_, rfl⟩, rfl⟩, rfl⟩)
    obtain ⟨w, o, tx⟩ := d
    cases o with
    | none => cases e
    | some m =>
      refine go_asg (v := .d (markD (some m))) (σ₁ := []) (by simp only [eA_1, eA_2, eA_4, eA_5, eA_6, eA_7, eA_10, eA_12, eA_13, eA_15, eA_16, eA_17, eA_18, eA_19, eB_1, eB_2, eO_1, eO_2, ok_bind, List.getElem?_cons_zero, List.getElem?_cons_succ, List.set_cons_zero, List.set_cons_succ, bc_len_s, bc_len_l, bc_len_t, c_eq, c_ne, c_in, c_nin, c_is, c_isn, c_lt, c_gt, c_ge, lt_i, gt_i, ge_s, no_s, eq_int, eq_str, in_sign, in_strs, Tx_size, Tx_len, b_add, b_sub, tr_b, sub_mark] <;> rfl) ?_
      refine go_ite (t := !true || !decide ((2 : Int) = 2) || !true) (σ₁ := []) (e_or3 (e_not (by simp only [eA_1, eA_2, eA_4, eA_5, eA_6, eA_7, eA_10, eA_12, eA_13, eA_15, eA_16, eA_17, eA_18, eA_19, eB_1, eB_2, eO_1, eO_2, ok_bind, List.getElem?_cons_zero, List.getElem?_cons_succ, List.set_cons_zero, List.set_cons_succ, bc_len_s, bc_len_l, bc_len_t, c_eq, c_ne, c_in, c_nin, c_is, c_isn, c_lt, c_gt, c_ge, lt_i, gt_i, ge_s, no_s, eq_int, eq_str, in_sign, in_strs, Tx_size, Tx_len, b_add, b_sub, tr_b, eA_3, isi_mark] <;> rfl)) (fun _ => (by simp only [eA_1, eA_2, eA_4, eA_5, eA_6, eA_7, eA_10, eA_12, eA_13, eA_15, eA_16, eA_17, eA_18, eA_19, eB_1, eB_2, eO_1, eO_2, ok_bind, List.getElem?_cons_zero, List.getElem?_cons_succ, List.set_cons_zero, List.set_cons_succ, bc_len_s, bc_len_l, bc_len_t, c_eq, c_ne, c_in, c_nin, c_is, c_isn, c_lt, c_gt, c_ge, lt_i, gt_i, ge_s, no_s, eq_int, eq_str, in_sign, in_strs, Tx_size, Tx_len, b_add, b_sub, tr_b, len_mark] <;> rfl)) (fun _ _ => e_not (by simp only [eA_1, eA_2, eA_4, eA_5, eA_6, eA_7, eA_10, eA_12, eA_13, eA_15, eA_16, eA_17, eA_18, eA_19, eB_1, eB_2, eO_1, eO_2, ok_bind, List.getElem?_cons_zero, List.getElem?_cons_succ, List.set_cons_zero, List.set_cons_succ, bc_len_s, bc_len_l, bc_len_t, c_eq, c_ne, c_in, c_nin, c_is, c_isn, c_lt, c_gt, c_ge, lt_i, gt_i, ge_s, no_s, eq_int, eq_str, in_sign, in_strs, Tx_size, Tx_len, b_add, b_sub, tr_b, eA_3, sub_m0, isi_str] <;> rfl))) (fun e => ?_) (fun _ => ?_)
      · simp at e
      refine go_ite (t := !true || false) (σ₁ := []) (e_or2 (e_not (by simp only [eA_1, eA_2, eA_4, eA_5, eA_6, eA_7, eA_10, eA_12, eA_13, eA_15, eA_16, eA_17, eA_18, eA_19, eB_1, eB_2, eO_1, eO_2, ok_bind, List.getElem?_cons_zero, List.getElem?_cons_succ, List.set_cons_zero, List.set_cons_succ, bc_len_s, bc_len_l, bc_len_t, c_eq, c_ne, c_in, c_nin, c_is, c_isn, c_lt, c_gt, c_ge, lt_i, gt_i, ge_s, no_s, eq_int, eq_str, in_sign, in_strs, Tx_size, Tx_len, b_add, b_sub, tr_b, eA_3, sub_m1, isi_int] <;> rfl)) (fun _ => (by simp only [eA_1, eA_2, eA_4, eA_5, eA_6, eA_7, eA_10, eA_12, eA_13, eA_15, eA_16, eA_17, eA_18, eA_19, eB_1, eB_2, eO_1, eO_2, ok_bind, List.getElem?_cons_zero, List.getElem?_cons_succ, List.set_cons_zero, List.set_cons_succ, bc_len_s, bc_len_l, bc_len_t, c_eq, c_ne, c_in, c_nin, c_is, c_isn, c_lt, c_gt, c_ge, lt_i, gt_i, ge_s, no_s, eq_int, eq_str, in_sign, in_strs, Tx_size, Tx_len, b_add, b_sub, tr_b, eA_3, sub_m1, isi_bool] <;> rfl))) (fun e => ?_) (fun _ => ?_)
      · simp at e
      exact go_nil ⟨_, _, ⟨⟨_, rfl⟩, rfl⟩, rfl⟩
  rintro _ _ ⟨⟨z, rfl⟩, rfl⟩
  have hs := sl_deed (σ := []) d
  rw [textD_map] at hs
  have hcomp := e_comp1D (C := C) (elt := .bcall .isinstance true [.var 3, .ty "str"]) (t := 3) (it := .of (.slc true (.var 0) (some (.cst (.int 2))) none)) (ρ := [some (.d d.data), some (.d d.data), z, none]) (σ := []) (σ₁ := []) (l := d.text.toList) (fun l => vs l) (fun _ => .bool true)
    (it_of (v := .d (.tuple (d.text.toList.map fun l => .str (Tx l)))) (by simp only [eA_1, eA_2, eA_4, eA_5, eA_6, eA_7, eA_10, eA_12, eA_13, eA_15, eA_16, eA_17, eA_18, eA_19, eB_1, eB_2, eO_1, eO_2, ok_bind, List.getElem?_cons_zero, List.getElem?_cons_succ, List.set_cons_zero, List.set_cons_succ, bc_len_s, bc_len_l, bc_len_t, c_eq, c_ne, c_in, c_nin, c_is, c_isn, c_lt, c_gt, c_ge, lt_i, gt_i, ge_s, no_s, eq_int, eq_str, in_sign, in_strs, Tx_size, Tx_len, b_add, b_sub, tr_b, hs] <;> rfl) (by simp [itemsOf, hhd])) (by cases d.text <;> simp [line]) (fun l _ => (by simp only [eA_1, eA_2, eA_4, eA_5, eA_6, eA_7, eA_10, eA_12, eA_13, eA_15, eA_16, eA_17, eA_18, eA_19, eB_1, eB_2, eO_1, eO_2, ok_bind, List.getElem?_cons_zero, List.getElem?_cons_succ, List.set_cons_zero, List.set_cons_succ, bc_len_s, bc_len_l, bc_len_t, c_eq, c_ne, c_in, c_nin, c_is, c_isn, c_lt, c_gt, c_ge, lt_i, gt_i, ge_s, no_s, eq_int, eq_str, in_sign, in_strs, Tx_size, Tx_len, b_add, b_sub, tr_b, eA_3, isi_str] <;> rfl))
  exact go_ret (v := vb (true && true)) (σ₁ := []) (e_and2 (e_all hhd hcomp) (fun _ => (by simp only [eA_1, eA_2, eA_4, eA_5, eA_6, eA_7, eA_10, eA_12, eA_13, eA_15, eA_16, eA_17, eA_18, eA_19, eB_1, eB_2, eO_1, eO_2, ok_bind, List.getElem?_cons_zero, List.getElem?_cons_succ, List.set_cons_zero, List.set_cons_succ, bc_len_s, bc_len_l, bc_len_t, c_eq, c_ne, c_in, c_nin, c_is, c_isn, c_lt, c_gt, c_ge, lt_i, gt_i, ge_s, no_s, eq_int, eq_str, in_sign, in_strs, Tx_size, Tx_len, b_add, b_sub, tr_b, eq_deed] <;> rfl))) rfl
theorem ev_change_like (c : Ch) (h1 : c.2.1.length ≤ 1000) (h2 : c.2.2.length ≤ 1000) : callF P02 isExc fuel (n + 2) false .frz 27 [.d c.data, .d c.data] σ = .ok (vb true) σ := by
  refine frz_ok (v := vb true) (σ₁ := []) Q27 rfl (run_ret rfl ?_) rfl
  have hdl := fun d σ => ev_deed_like (fuel := fuel) (n := n) (σ := σ) d
  generalize hC : (⟨callF P02 isExc fuel (n + 1), isExc, fuel, false⟩ : Cfg) = C
  have hhd : C.hd = false := by rw [← hC]
  have hcf : C.cf = callF P02 isExc fuel (n + 1) := by rw [← hC]
  show Ends (fun r => r = _) (execSs C [_, _, _, _, _] [some (.d c.data), some (.d c.data), none, none, none] [])
  refine go_ite (t := !true || !decide ((3 : Int) = 3) || !true) (σ₁ := []) (e_or3 (e_not (by simp only [eA_1, eA_2, eA_4, eA_5, eA_6, eA_7, eA_10, eA_12, eA_13, eA_15, eA_16, eA_17, eA_18, eA_19, eB_1, eB_2, eO_1, eO_2, ok_bind, List.getElem?_cons_zero, List.getElem?_cons_succ, List.set_cons_zero, List.set_cons_succ, bc_len_s, bc_len_l, bc_len_t, c_eq, c_ne, c_in, c_nin, c_is, c_isn, c_lt, c_gt, c_ge, lt_i, gt_i, ge_s, no_s, eq_int, eq_str, in_sign, in_strs, Tx_size, Tx_len, b_add, b_sub, tr_b, eA_3, isi_ch] <;> rfl)) (fun _ => (by simp only [eA_1, eA_2, eA_4, eA_5, eA_6, eA_7, eA_10, eA_12, eA_13, eA_15, eA_16, eA_17, eA_18, eA_19, eB_1, eB_2, eO_1, eO_2, ok_bind, List.getElem?_cons_zero, List.getElem?_cons_succ, List.set_cons_zero, List.set_cons_succ, bc_len_s, bc_len_l, bc_len_t, c_eq, c_ne, c_in, c_nin, c_is, c_isn, c_lt, c_gt, c_ge, lt_i, gt_i, ge_s, no_s, eq_int, eq_str, in_sign, in_strs, Tx_size, Tx_len, b_add, b_sub, tr_b, len_ch] <;> rfl)) (fun _ _ => e_not (by simp only [eA_1, eA_2, eA_4, eA_5, eA_6, eA_7, eA_10, eA_12, eA_13, eA_15, eA_16, eA_17, eA_18, eA_19, eB_1, eB_2, eO_1, eO_2, ok_bind, List.getElem?_cons_zero, List.getElem?_cons_succ, List.set_cons_zero, List.set_cons_succ, bc_len_s, bc_len_l, bc_len_t, c_eq, c_ne, c_in, c_nin, c_is, c_isn, c_lt, c_gt, c_ge, lt_i, gt_i, ge_s, no_s, eq_int, eq_str, in_sign, in_strs, Tx_size, Tx_len, b_add, b_sub, tr_b, eA_3, sub_ch0, isi_str] <;> rfl))) (fun e => ?_) (fun _ => ?_)
  · simp at e
  refine go_ite (t := !true || !true) (σ₁ := []) (e_or2 (e_not (by simp only [eA_1, eA_2, eA_4, eA_5, eA_6, eA_7, eA_10, eA_12, eA_13, eA_15, eA_16, eA_17, eA_18, eA_19, eB_1, eB_2, eO_1, eO_2, ok_bind, List.getElem?_cons_zero, List.getElem?_cons_succ, List.set_cons_zero, List.set_cons_succ, bc_len_s, bc_len_l, bc_len_t, c_eq, c_ne, c_in, c_nin, c_is, c_isn, c_lt, c_gt, c_ge, lt_i, gt_i, ge_s, no_s, eq_int, eq_str, in_sign, in_strs, Tx_size, Tx_len, b_add, b_sub, tr_b, eA_3, sub_ch1, isi_list] <;> rfl)) (fun _ => e_not (by simp only [eA_1, eA_2, eA_4, eA_5, eA_6, eA_7, eA_10, eA_12, eA_13, eA_15, eA_16, eA_17, eA_18, eA_19, eB_1, eB_2, eO_1, eO_2, ok_bind, List.getElem?_cons_zero, List.getElem?_cons_succ, List.set_cons_zero, List.set_cons_succ, bc_len_s, bc_len_l, bc_len_t, c_eq, c_ne, c_in, c_nin, c_is, c_isn, c_lt, c_gt, c_ge, lt_i, gt_i, ge_s, no_s, eq_int, eq_str, in_sign, in_strs, Tx_size, Tx_len, b_add, b_sub, tr_b, eA_3, sub_ch2, isi_list] <;> rfl))) (fun e => ?_) (fun _ => ?_)
  · simp at e
  have hc1 := e_comp1D (C := C) (elt := .bcall .isinstance true [.var 2, .ty "str"]) (t := 2) (it := .of (.sub (.var 0) (.cst (.int 1)))) (ρ := [some (.d c.data), some (.d c.data), none, none, none]) (σ := []) (σ₁ := []) (l := c.2.1) (fun l => vs l) (fun _ => .bool true)
    (it_of (v := .d (dl c.2.1)) (by simp only [eA_1, eA_2, eA_4, eA_5, eA_6, eA_7, eA_10, eA_12, eA_13, eA_15, eA_16, eA_17, eA_18, eA_19, eB_1, eB_2, eO_1, eO_2, ok_bind, List.getElem?_cons_zero, List.getElem?_cons_succ, List.set_cons_zero, List.set_cons_succ, bc_len_s, bc_len_l, bc_len_t, c_eq, c_ne, c_in, c_nin, c_is, c_isn, c_lt, c_gt, c_ge, lt_i, gt_i, ge_s, no_s, eq_int, eq_str, in_sign, in_strs, Tx_size, Tx_len, b_add, b_sub, tr_b, sub_ch1] <;> rfl) (by simp [itemsOf])) (by simp [line]; omega) (fun l _ => (by simp only [eA_1, eA_2, eA_4, eA_5, eA_6, eA_7, eA_10, eA_12, eA_13, eA_15, eA_16, eA_17, eA_18, eA_19, eB_1, eB_2, eO_1, eO_2, ok_bind, List.getElem?_cons_zero, List.getElem?_cons_succ, List.set_cons_zero, List.set_cons_succ, bc_len_s, bc_len_l, bc_len_t, c_eq, c_ne, c_in, c_nin, c_is, c_isn, c_lt, c_gt, c_ge, lt_i, gt_i, ge_s, no_s, eq_int, eq_str, in_sign, in_strs, Tx_size, Tx_len, b_add, b_sub, tr_b, eA_3, isi_str] <;> rfl))
  refine go_ite (t := !true || !decide ((c.2.2.length : Int) = c.2.2.length)) (σ₁ := []) (e_or2 (e_not (e_all hhd hc1)) (fun _ => (by simp only [eA_1, eA_2, eA_4, eA_5, eA_6, eA_7, eA_10, eA_12, eA_13, eA_15, eA_16, eA_17, eA_18, eA_19, eB_1, eB_2, eO_1, eO_2, ok_bind, List.getElem?_cons_zero, List.getElem?_cons_succ, List.set_cons_zero, List.set_cons_succ, bc_len_s, bc_len_l, bc_len_t, c_eq, c_ne, c_in, c_nin, c_is, c_isn, c_lt, c_gt, c_ge, lt_i, gt_i, ge_s, no_s, eq_int, eq_str, in_sign, in_strs, Tx_size, Tx_len, b_add, b_sub, tr_b, sub_ch2, List.length_map] <;> rfl))) (fun e => ?_) (fun _ => ?_)
  · simp at e
  refine go_ite (t := !decide (c.1 = c.1) || !true) (σ₁ := []) (e_or2 (by simp only [eA_1, eA_2, eA_4, eA_5, eA_6, eA_7, eA_10, eA_12, eA_13, eA_15, eA_16, eA_17, eA_18, eA_19, eB_1, eB_2, eO_1, eO_2, ok_bind, List.getElem?_cons_zero, List.getElem?_cons_succ, List.set_cons_zero, List.set_cons_succ, bc_len_s, bc_len_l, bc_len_t, c_eq, c_ne, c_in, c_nin, c_is, c_isn, c_lt, c_gt, c_ge, lt_i, gt_i, ge_s, no_s, eq_int, eq_str, in_sign, in_strs, Tx_size, Tx_len, b_add, b_sub, tr_b, sub_ch0] <;> rfl) (fun _ => (by simp only [eA_1, eA_2, eA_4, eA_5, eA_6, eA_7, eA_10, eA_12, eA_13, eA_15, eA_16, eA_17, eA_18, eA_19, eB_1, eB_2, eO_1, eO_2, ok_bind, List.getElem?_cons_zero, List.getElem?_cons_succ, List.set_cons_zero, List.set_cons_succ, bc_len_s, bc_len_l, bc_len_t, c_eq, c_ne, c_in, c_nin, c_is, c_isn, c_lt, c_gt, c_ge, lt_i, gt_i, ge_s, no_s, eq_int, eq_str, in_sign, in_strs, Tx_size, Tx_len, b_add, b_sub, tr_b, sub_ch1, eq_dl] <;> rfl))) (fun e => ?_) (fun _ => ?_)
  · simp at e
  have hit : evalIt C (.zip (.sub (.var 0) (.cst (.int 2))) (.sub (.var 1) (.cst (.int 2)))) [some (.d c.data), some (.d c.data), none, none, none] [] = .ok (.items (c.2.2.map fun d => V.d (.tuple [d.data, d.data]))) [] := by
    have hd : dlist false (.d (.list (c.2.2.map Deed.data))) = some ((c.2.2.map Deed.data).map .d) := rfl
    simp only [eI_2, eA_1, eA_2, eA_4, eA_5, eA_6, eA_7, eA_10, eA_12, eA_13, eA_15, eA_16, eA_17, eA_18, eA_19, eB_1, eB_2, eO_1, eO_2, ok_bind, List.getElem?_cons_zero, List.getElem?_cons_succ, List.set_cons_zero, List.set_cons_succ, bc_len_s, bc_len_l, bc_len_t, c_eq, c_ne, c_in, c_nin, c_is, c_isn, c_lt, c_gt, c_ge, lt_i, gt_i, ge_s, no_s, eq_int, eq_str, in_sign, in_strs, Tx_size, Tx_len, b_add, b_sub, tr_b, sub_ch2, hhd, hd, zipV_d, List.zip_map']
    rw [List.map_map]; rfl
  have hc2 := e_comp2D (C := C) (elt := .fcall .frz 26 [.var 3, .var 4]) (t := 3) (u := 4) (l := c.2.2) Deed.data Deed.data (fun _ => .bool true) hhd hit (by simp [line]; omega) (fun d _ => (by simp only [eA_1, eA_2, eA_4, eA_5, eA_6, eA_7, eA_10, eA_12, eA_13, eA_15, eA_16, eA_17, eA_18, eA_19, eB_1, eB_2, eO_1, eO_2, ok_bind, List.getElem?_cons_zero, List.getElem?_cons_succ, List.set_cons_zero, List.set_cons_succ, bc_len_s, bc_len_l, bc_len_t, c_eq, c_ne, c_in, c_nin, c_is, c_isn, c_lt, c_gt, c_ge, lt_i, gt_i, ge_s, no_s, eq_int, eq_str, in_sign, in_strs, Tx_size, Tx_len, b_add, b_sub, tr_b, hcf, hhd, hdl] <;> rfl))
  exact go_ret (e_all hhd hc2) rfl
end
end Mine

namespace Mine
open PySem
noncomputable def zzC : Ch := ([122, 122], [[97]], [⟨kadd, none, some [120]⟩, ⟨kcut, some ([97], 0), none⟩])
theorem zz_good : GoodCh zzC := by
  refine ⟨by decide, by decide, by decide, ?_⟩
  intro d hd
  simp only [zzC, List.mem_cons, List.not_mem_nil, or_false] at hd
  rcases hd with rfl | rfl
  · exact ⟨.inl ⟨[120], by decide, rfl, .inl rfl⟩, fun m e => by cases e⟩
  · refine ⟨.inr ⟨rfl, rfl, fun e => by cases e⟩, fun m e => ?_⟩
    cases e
    exact ⟨.inr (by simp [zzC]), by decide, by decide⟩
theorem fig0 : fig 0 = [48] := by decide +kernel
theorem k_zz : Str.ofString "change zz on a\nadd -: x\ncut a 0" = Tx (noteT zzC) := by
  have : noteT zzC = [99, 104, 97, 110, 103, 101, 32, 122, 122, 32, 111, 110, 32, 97, 10, 97, 100, 100, 32, 45, 58, 32, 120, 10, 99, 117, 116, 32, 97, 32, 48] := by
    simp [noteT, zzC, headW, deedT, markT, tailT, sepL, fig0, kadd, kcut, kchg, kon]
  rw [this]; decide +kernel
theorem run_law02 (ns : List Int) (hns : ns.length ≤ 63) : ∃ σ', runFn ⟨callF P02 isExc 0 8, isExc, 0, false⟩ FLaw [.d (scD ns)] [] = .ok (.d (.bool true)) σ' := by
  obtain ⟨c, hg, h22⟩ := ev_one (fuel := 0) (n := 4) ns (by omega)
  have hf := hg.fine
  have hl1 : c.2.1.length ≤ 1000 := by have := hg.few; omega
  have hl2 : c.2.2.length ≤ 1000 := by have := hg.deeds; omega
  have h28 := fun σ => ev_copy (fuel := 0) (n := 7) (σ := σ) c.1 c.2.1 c.2.2 hl1 hl2
  have h7 := fun σ => ev_written (fuel := 0) (n := 6) (σ := σ) c hf
  have h25 := fun σ => ev_lwritten (fuel := 0) (n := 5) (σ := σ) c hf
  have h12 := fun σ => ev_read (fuel := 0) (n := 4) (σ := σ) hg
  have hzz := fun σ => ev_read (fuel := 0) (n := 4) (σ := σ) zz_good
  have h27 : ∀ σ k j, σ[k]? = some (O.list (c.2.1.map vs)) → σ[j]? = some (O.list (c.2.2.map fun d => V.d d.data)) → callF P02 isExc 0 8 false .frz 27 [heldV c k j, .d c.data] σ = .ok (vb true) σ := fun σ k j e1 e2 =>
    frz_any (σ₀ := []) (ev_change_like (fuel := 0) (n := 6) c hl1 hl2) rfl rfl rfl (lent_held e1 e2 (r := [.d c.data]) (xs := [.d c.data]) rfl)
  have key : Ends (fun r => ∃ σ', r = .ok (.ret (.d (.bool true))) σ') (execSs ⟨callF P02 isExc 0 8, isExc, 0, false⟩ FLaw.body [some (.d (scD ns)), none, none, none, none, none] []) := by
    generalize hC : (⟨callF P02 isExc 0 8, isExc, 0, false⟩ : Cfg) = C
    have hhd : C.hd = false := by rw [← hC]
    have hcf : C.cf = callF P02 isExc 0 8 := by rw [← hC]
    generalize callF P02 isExc 0 8 = F at hcf h22 h28 h7 h25 h12 hzz h27
    generalize hA : O.list (c.2.1.map vs) = A at h12 h27
    generalize hB : O.list (c.2.2.map fun d => V.d d.data) = B at h12 h27
    generalize O.list (zzC.2.1.map vs) = X at hzz
    generalize O.list (zzC.2.2.map fun d => V.d d.data) = Y at hzz
    have r1 : F false .shared 12 [vs (noteT c)] [] = .ok (heldV c 0 1) [A, B] := h12 []
    have r2 : F false .shared 12 [vs (noteT zzC)] [A, B] = .ok (heldV zzC 2 3) [A, B, X, Y] := hzz _
    have r3 : F false .shared 12 [vs (noteT c)] [A, B, X, Y] = .ok (heldV c 4 5) [A, B, X, Y, A, B] := h12 _
    have r4 : ∀ A' B', F false .shared 12 [vs (noteT c)] [A, B, X, Y, A', B'] = .ok (heldV c 6 7) [A, B, X, Y, A', B', A, B] := fun A' B' => h12 _
    have l1 := h27 [A, B, X, Y, A, B] 4 5 rfl rfl
    have l2 := fun A' B' => h27 [A, B, X, Y, A', B'] 0 1 rfl rfl
    have l3 := fun A' B' => h27 [A, B, X, Y, A', B', A, B] 6 7 rfl rfl
    clear h12 hzz h27
    show Ends _ (execSs C [_, _, _, _, _, _, _, _, _, _, _] _ [])
    refine go_asg (v := .d c.data) (σ₁ := []) (by simp only [eA_1, eA_2, eA_4, eA_5, eA_6, eA_7, eA_10, eA_12, eA_13, eA_15, eA_16, eA_17, eA_18, eA_19, eB_1, eB_2, eO_1, eO_2, ok_bind, List.getElem?_cons_zero, List.getElem?_cons_succ, List.set_cons_zero, List.set_cons_succ, bc_len_s, bc_len_l, bc_len_t, c_eq, c_ne, c_in, c_nin, c_is, c_isn, c_lt, c_gt, c_ge, lt_i, gt_i, ge_s, no_s, eq_int, eq_str, in_sign, in_strs, Tx_size, Tx_len, b_add, b_sub, tr_b, hcf, hhd, h22] <;> rfl) ?_
    refine go_asg (v := .d c.data) (σ₁ := []) (by simp only [eA_1, eA_2, eA_4, eA_5, eA_6, eA_7, eA_10, eA_12, eA_13, eA_15, eA_16, eA_17, eA_18, eA_19, eB_1, eB_2, eO_1, eO_2, ok_bind, List.getElem?_cons_zero, List.getElem?_cons_succ, List.set_cons_zero, List.set_cons_succ, bc_len_s, bc_len_l, bc_len_t, c_eq, c_ne, c_in, c_nin, c_is, c_isn, c_lt, c_gt, c_ge, lt_i, gt_i, ge_s, no_s, eq_int, eq_str, in_sign, in_strs, Tx_size, Tx_len, b_add, b_sub, tr_b, hcf, hhd, h28] <;> rfl) ?_
    refine go_asg (v := vs (noteT c)) (σ₁ := []) (by simp only [eA_1, eA_2, eA_4, eA_5, eA_6, eA_7, eA_10, eA_12, eA_13, eA_15, eA_16, eA_17, eA_18, eA_19, eB_1, eB_2, eO_1, eO_2, ok_bind, List.getElem?_cons_zero, List.getElem?_cons_succ, List.set_cons_zero, List.set_cons_succ, bc_len_s, bc_len_l, bc_len_t, c_eq, c_ne, c_in, c_nin, c_is, c_isn, c_lt, c_gt, c_ge, lt_i, gt_i, ge_s, no_s, eq_int, eq_str, in_sign, in_strs, Tx_size, Tx_len, b_add, b_sub, tr_b, hcf, hhd, h7] <;> rfl) ?_
    refine go_ite (t := !true || !decide (noteT c = noteT c) || !true) (σ₁ := []) (e_or3 (e_not (by simp only [eA_1, eA_2, eA_4, eA_5, eA_6, eA_7, eA_10, eA_12, eA_13, eA_15, eA_16, eA_17, eA_18, eA_19, eB_1, eB_2, eO_1, eO_2, ok_bind, List.getElem?_cons_zero, List.getElem?_cons_succ, List.set_cons_zero, List.set_cons_succ, bc_len_s, bc_len_l, bc_len_t, c_eq, c_ne, c_in, c_nin, c_is, c_isn, c_lt, c_gt, c_ge, lt_i, gt_i, ge_s, no_s, eq_int, eq_str, in_sign, in_strs, Tx_size, Tx_len, b_add, b_sub, tr_b, eA_3, isi_str] <;> rfl)) (fun _ => (by simp only [eA_1, eA_2, eA_4, eA_5, eA_6, eA_7, eA_10, eA_12, eA_13, eA_15, eA_16, eA_17, eA_18, eA_19, eB_1, eB_2, eO_1, eO_2, ok_bind, List.getElem?_cons_zero, List.getElem?_cons_succ, List.set_cons_zero, List.set_cons_succ, bc_len_s, bc_len_l, bc_len_t, c_eq, c_ne, c_in, c_nin, c_is, c_isn, c_lt, c_gt, c_ge, lt_i, gt_i, ge_s, no_s, eq_int, eq_str, in_sign, in_strs, Tx_size, Tx_len, b_add, b_sub, tr_b, hcf, hhd, h25] <;> rfl)) (fun _ _ => (by simp only [eA_1, eA_2, eA_4, eA_5, eA_6, eA_7, eA_10, eA_12, eA_13, eA_15, eA_16, eA_17, eA_18, eA_19, eB_1, eB_2, eO_1, eO_2, ok_bind, List.getElem?_cons_zero, List.getElem?_cons_succ, List.set_cons_zero, List.set_cons_succ, bc_len_s, bc_len_l, bc_len_t, c_eq, c_ne, c_in, c_nin, c_is, c_isn, c_lt, c_gt, c_ge, lt_i, gt_i, ge_s, no_s, eq_int, eq_str, in_sign, in_strs, Tx_size, Tx_len, b_add, b_sub, tr_b, eq_ch] <;> rfl))) (fun e => ?_) (fun _ => ?_)
    · simp at e
    refine go_asg (v := heldV c 0 1) (σ₁ := [A, B]) (by simp only [eA_1, eA_2, eA_4, eA_5, eA_6, eA_7, eA_10, eA_12, eA_13, eA_15, eA_16, eA_17, eA_18, eA_19, eB_1, eB_2, eO_1, eO_2, ok_bind, List.getElem?_cons_zero, List.getElem?_cons_succ, List.set_cons_zero, List.set_cons_succ, bc_len_s, bc_len_l, bc_len_t, c_eq, c_ne, c_in, c_nin, c_is, c_isn, c_lt, c_gt, c_ge, lt_i, gt_i, ge_s, no_s, eq_int, eq_str, in_sign, in_strs, Tx_size, Tx_len, b_add, b_sub, tr_b, hcf, hhd, r1] <;> rfl) ?_
    refine go_exp (v := heldV zzC 2 3) (σ₁ := [A, B, X, Y]) (by simp only [eA_1, eA_2, eA_4, eA_5, eA_6, eA_7, eA_10, eA_12, eA_13, eA_15, eA_16, eA_17, eA_18, eA_19, eB_1, eB_2, eO_1, eO_2, ok_bind, List.getElem?_cons_zero, List.getElem?_cons_succ, List.set_cons_zero, List.set_cons_succ, bc_len_s, bc_len_l, bc_len_t, c_eq, c_ne, c_in, c_nin, c_is, c_isn, c_lt, c_gt, c_ge, lt_i, gt_i, ge_s, no_s, eq_int, eq_str, in_sign, in_strs, Tx_size, Tx_len, b_add, b_sub, tr_b, hcf, hhd, k_zz, r2] <;> rfl) ?_
    refine go_asg (v := heldV c 4 5) (σ₁ := [A, B, X, Y, A, B]) (by simp only [eA_1, eA_2, eA_4, eA_5, eA_6, eA_7, eA_10, eA_12, eA_13, eA_15, eA_16, eA_17, eA_18, eA_19, eB_1, eB_2, eO_1, eO_2, ok_bind, List.getElem?_cons_zero, List.getElem?_cons_succ, List.set_cons_zero, List.set_cons_succ, bc_len_s, bc_len_l, bc_len_t, c_eq, c_ne, c_in, c_nin, c_is, c_isn, c_lt, c_gt, c_ge, lt_i, gt_i, ge_s, no_s, eq_int, eq_str, in_sign, in_strs, Tx_size, Tx_len, b_add, b_sub, tr_b, hcf, hhd, r3] <;> rfl) ?_
    refine go_ite (t := !true) (σ₁ := [A, B, X, Y, A, B]) (e_not (by simp only [eA_1, eA_2, eA_4, eA_5, eA_6, eA_7, eA_10, eA_12, eA_13, eA_15, eA_16, eA_17, eA_18, eA_19, eB_1, eB_2, eO_1, eO_2, ok_bind, List.getElem?_cons_zero, List.getElem?_cons_succ, List.set_cons_zero, List.set_cons_succ, bc_len_s, bc_len_l, bc_len_t, c_eq, c_ne, c_in, c_nin, c_is, c_isn, c_lt, c_gt, c_ge, lt_i, gt_i, ge_s, no_s, eq_int, eq_str, in_sign, in_strs, Tx_size, Tx_len, b_add, b_sub, tr_b, hcf, hhd, l1] <;> rfl)) (fun e => ?_) (fun _ => ?_)
    · cases e
    have s1 : subscr (heldV c 4 5) (vi 1) [A, B, X, Y, A, B] = some (.ref 4) := rfl
    have p1 : methPre .append (.ref 4) [A, B, X, Y, A, B] = true := by rw [← hA]; rfl
    have m1 : methcall .append true (.ref 4) [vs [97]] [A, B, X, Y, A, B] = .ok (.d .none) [A, B, X, Y, .list (c.2.1.map vs ++ [vs [97]]), B] := by
      show appendTo 4 (vs [97]) [A, B, X, Y, A, B] (some A) = _
      have hll : (c.2.1.map vs).length < line := by simp [line]; omega
      rw [← hA]
      exact if_pos hll
    refine go_exp (v := .d .none) (σ₁ := [A, B, X, Y, .list (c.2.1.map vs ++ [vs [97]]), B]) (by simp only [eA_1, eA_2, eA_4, eA_5, eA_6, eA_7, eA_10, eA_12, eA_13, eA_15, eA_16, eA_17, eA_18, eA_19, eB_1, eB_2, eO_1, eO_2, ok_bind, List.getElem?_cons_zero, List.getElem?_cons_succ, List.set_cons_zero, List.set_cons_succ, bc_len_s, bc_len_l, bc_len_t, c_eq, c_ne, c_in, c_nin, c_is, c_isn, c_lt, c_gt, c_ge, lt_i, gt_i, ge_s, no_s, eq_int, eq_str, in_sign, in_strs, Tx_size, Tx_len, b_add, b_sub, tr_b, s1, p1, if_true, k_a]; exact m1) ?_
    generalize O.list (c.2.1.map vs ++ [vs [97]]) = A'
    have s2 : subscr (heldV c 4 5) (vi 2) [A, B, X, Y, A', B] = some (.ref 5) := rfl
    have p2 : methPre .clear (.ref 5) [A, B, X, Y, A', B] = true := by rw [← hB]; rfl
    have m2 : methcall .clear true (.ref 5) [] [A, B, X, Y, A', B] = .ok (.d .none) [A, B, X, Y, A', .list []] := by rw [← hB]; rfl
    refine go_exp (v := .d .none) (σ₁ := [A, B, X, Y, A', .list []]) (by simp only [eA_1, eA_2, eA_4, eA_5, eA_6, eA_7, eA_10, eA_12, eA_13, eA_15, eA_16, eA_17, eA_18, eA_19, eB_1, eB_2, eO_1, eO_2, ok_bind, List.getElem?_cons_zero, List.getElem?_cons_succ, List.set_cons_zero, List.set_cons_succ, bc_len_s, bc_len_l, bc_len_t, c_eq, c_ne, c_in, c_nin, c_is, c_isn, c_lt, c_gt, c_ge, lt_i, gt_i, ge_s, no_s, eq_int, eq_str, in_sign, in_strs, Tx_size, Tx_len, b_add, b_sub, tr_b, s2, p2, if_true]; exact m2) ?_
    refine go_ret (v := vb true) (σ₁ := [A, B, X, Y, A', .list [], A, B]) ?_ ⟨_, rfl⟩
    rw [eA_9, eC_3]
    simp only [eA_1, eA_2, eA_4, eA_5, eA_6, eA_7, eA_10, eA_12, eA_13, eA_15, eA_16, eA_17, eA_18, eA_19, eB_1, eB_2, eO_1, eO_2, ok_bind, List.getElem?_cons_zero, List.getElem?_cons_succ, List.set_cons_zero, List.set_cons_succ, bc_len_s, bc_len_l, bc_len_t, c_eq, c_ne, c_in, c_nin, c_is, c_isn, c_lt, c_gt, c_ge, lt_i, gt_i, ge_s, no_s, eq_int, eq_str, in_sign, in_strs, Tx_size, Tx_len, b_add, b_sub, tr_b, eC_2, hcf, hhd, l2, r4, l3]
  obtain ⟨σ', k⟩ := key
  exact ⟨σ', run_ret rfl k⟩
end Mine

set_option maxRecDepth 100000
namespace Mine
open PySem PySem.Calls PyProof.Rows PySem.W
section
variable {w : World} {s₁ : Shared} {mean : ExcName → Option Value} {mg mb : Str → Option Value}
noncomputable def top02 (w : World) (h : Heap) (mg : Str → Option Value) : Mine.Top := ⟨PySem.Challenge.rw_uf010019_02.row.prog, w, h, clsOf mg cn02, fnsOf mg fns02⟩
theorem ready02 (Tp : PyProof.Rows.Top view02 (looseW view02 []) mean mg mb s₁.heap) : Ready (top02 w s₁.heap mg) gl02 isExc := by
  refine ⟨⟨Tp.nolimit, Tp.seer (by decide +kernel), rfl⟩, ?_, ?_, ?_, ?_, ?_⟩
  · exact fun _ _ _ _ h => nomatch h
  · exact raise_of (own_of (T := top02 w s₁.heap mg) Tp rfl okOwn02)
  · exact fun _ _ _ _ h => nomatch h
  · exact fnob_of (T := top02 w s₁.heap mg) (gl := gl02) Tp rfl okAll02
  · exact ns_of (T := top02 w s₁.heap mg) (gl := gl02) (L := gll02) Tp rfl rfl okAll02 okGl02
end

theorem ints_rep {f : Addr → Option Obj} : ∀ {vs : List Value} {ns : List Int}, IntsAre vs ns → RepDs f (ns.map .int) vs
  | _, _, .nil => trivial
  | _, _, .cons n t r => ⟨⟨t, rfl⟩, ints_rep r⟩

theorem law02 {w : World} {s₁ : Shared} {mean : ExcName → Option Value} {mg mb : Str → Option Value} (Tp : PyProof.Rows.Top view02 (looseW view02 []) mean mg mb s₁.heap) {fa l : Addr} {vs : List Value} {ns : List Int} (hmg : mg (Str.ofString "law") = some (.ref fa)) (hL : s₁.heap.IsList l vs.toArray) (hI : IntsAre vs ns) (hn : ns.length ≤ 63) (run : ∀ ns : List Int, ns.length ≤ 63 → ∃ σ', runFn ⟨callF P02 isExc 0 8, isExc, 0, false⟩ FLaw [.d (scD ns)] [] = .ok (.d (.bool true)) σ') {Q : Value → Shared → Prop} {E : Value → Shared → Prop}
    (hQ : ∀ s', (∀ b o, s₁.heap.get? b = some o → s'.heap.get? b = some o) → s'.gens = s₁.gens → s'.os = s₁.os → Q (.bool true) s') :
    wpAny (model PySem.Challenge.rw_uf010019_02.row.prog w) callerA (call (.ref fa) [.ref l]) Q E s₁ := by
  have rd := ready02 (w := w) Tp
  have fns := fns_ok (T := top02 w s₁.heap mg) (gl := gl02) Tp rfl okAll02 emAll02 okP02
  have cf : CallOk (top02 w s₁.heap mg) (callF P02 isExc 0 8) 8 := callF_ok 0 rd fns 8
  have hfa : (top02 w s₁.heap mg).fn 29 = some fa := by
    show fnsOf mg fns02 29 = some fa
    unfold fnsOf
    rw [show fns02.find? (·.1 == 29) = some (fns02[28]'(by decide)) from rfl]
    show (match mg (Str.ofString "law") with | some (.ref a) => some a | _ => none) = some fa
    rw [hmg]
  have fo := fns 29 FLaw fa rfl hfa
  obtain ⟨o, ho, hc, m, hd⟩ := hL
  let g : G := ⟨fun a => s₁.heap.get? a, []⟩
  have st : St (top02 w s₁.heap mg) g [] s₁.heap := ⟨fun _ _ e => e, rfl, List.nodup_nil, (fun a h => by cases h), (fun k a o e _ => by simp [g] at e), fun _ _ e => e⟩
  have r : RepVs (top02 w s₁.heap mg) g [.d (scD ns)] [.ref l] := ⟨⟨l, o, vs.toArray, m, rfl, ho, hc, hd, by simpa using ints_rep hI, by simp [line]; omega⟩, trivial⟩
  have sim := fn_sim (fe := []) (n := 8) (A := callerA) (C := ⟨callF P02 isExc 0 8, isExc, 0, false⟩) rd fo cf st trivial ⟨rfl, by decide, by decide, fun _ => rfl⟩ (.inl rfl) r
  obtain ⟨σe, hrun⟩ := run ns hn
  rw [hrun] at sim
  refine wpAny_mono (sim (by simp)) ?_ ?_
  · rintro x s' ⟨b, σ', g', e, stp, rv⟩
    cases e
    have hx : x = .bool true := rv
    subst hx
    exact hQ s' (fun b o e => stp.kept.same b o e (by simp [g]) (by simp [frsOf])) stp.gens stp.os
  · rintro x s' ⟨c, σ', g', e, _⟩
    cases e
end Mine
open PySem PySem.W PyProof.Rows
set_option maxRecDepth 100000
set_option maxHeartbeats 8000000
theorem PySem.Challenge.cw_uf010019_02_holds : PySem.Challenge.rw_uf010019_02.Holds := by
  refine holds_law Mine.said02 fun said => ?_
  refine W.holds_open (q := Mine.view02) (loose := []) (Xt := fun s => xlAt Mine.view02 [] s && recOk (RowW.records (OpenRow.toRowW (PySem.Challenge.rw_uf010019_02.row))) s) (XP := XL Mine.view02 []) (Yf := Hook.obs Mine.hook02) (Ya := Hook.val Mine.hook02) (YP := Hook.says Mine.hook02) (N := 5300) ?hl (Hook.of Mine.hook02) (Hook.keeps Mine.hook02) (fun s e => xl_of s (Bool.and_eq_true_iff.mp e).1) XL.keeps (by rfl) (by rfl) (by rfl) (fun s e => recFacts_of (Bool.and_eq_true_iff.mp e).2) (by rfl) said (by decide +kernel) ⟨rfl, rfl, rfl, rfl, rfl, by decide +kernel⟩ ?hw ?hc
  case hl => intro w; kernel_rfl
  case hw => w_witness2
  intro w s₀ s₁ mg mb G Y fa o pm cd doc dV kV ho hd hcd hD hmg hg args vals as hpre hlay hrd hwl hlo
  have X := (Ground.X G).1
  have V := (Ground.X G).2
  refine Ground.open G ?_
  intro T B D TE TW
  clear hd hcd hD ho
  wrow_args hpre hlay hrd hwl hlo
  rename_i sc _ _ _ _ _ _ _ l vs _ hL _ _ _ hI _ hlen _
  refine Mine.law02 (w := w) T hmg hL hI (by omega) Mine.run_law02 ?_
  intro s' hk hgens hos
  refine ⟨.inl ⟨.bool true, .bool true, [], rfl, ?_, .bool true, ?_, ?_⟩, OldK.of_keep hk, hos, ?_⟩
  · intro cls; rfl
  · wrow_post
  · exact fun _ => ⟨List.nodup_nil, fun a h => by cases h⟩
  · exact AllBare.of_eq (hgens.trans hg)

