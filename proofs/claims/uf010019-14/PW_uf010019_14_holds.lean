import PyProof.Rows.All
import Wide.Line
import Wide.Tac
import Wide.Loose
import Open.Line
import OpenK.KWalk
import PyProof.TupleKey
import PyProof.DictFindH
import KE.KSortKey
import KE.KNest
import KE.KMinKey
import KE.KLam
import PySem.Challenge.RW_uf010019_14
set_option Elab.async false
set_option autoImplicit false
set_option genSizeOf false
set_option bootstrap.genMatcherCode false
set_option linter.all false
set_option tactic.hygienic false
set_option genInjectivity false
set_option genCtorIdx false
set_option backward.match.sparseCases false
namespace Mine.Internal
set_option tactic.hygienic true
set_option maxRecDepth 100000
open PySem PySem.W PyProof.Rows
noncomputable def view14 : Program := { PySem.Challenge.pw_uf010019_14 with main := { PySem.Challenge.pw_uf010019_14.main with body := PySem.Challenge.pw_uf010019_14.main.body.filter fun st => match st with | .Assign [.Name x _] _ _ => x != Str.ofString "__name__" | _ => true } }
theorem said14 : PySem.Challenge.rw_uf010019_14.wellSaid = true := by kernel_rfl
noncomputable def hook14 : Hook := ⟨Bool, fun _ => true, fun _ => true, fun _ _ => True, fun _ _ _ => trivial, fun _ _ _ _ _ => trivial⟩
theorem left14 : LeftO PySem.Challenge.rw_uf010019_14.row.toRowW.prog view14 [] (fun s => xlAt view14 [] s && recOk (RowW.records (OpenRow.toRowW (PySem.Challenge.rw_uf010019_14.row))) s) (Hook.obs hook14) (Hook.val hook14) 5300 := by
 intro w; kernel_rfl
end Mine.Internal
namespace Mine.Internal
set_option tactic.hygienic true
set_option backward.match.sparseCases true
open PySem
section
variable {prog : Program} {w : World} {A : Around} {E : Value -> Shared -> Prop} {s : Shared}
theorem eqBool_str_int {a : Str} {b : Int} {t u : Tok} {Q : Bool -> Shared -> Prop} (h : Q false s) : wpAny (model prog w) A (eqBool (.str a t) (.int b u)) Q E s := by
 unfold eqBool
 refine wpAny_holding ?_
 rw [if_neg (show ¬ ((Value.str a t == Value.int b u) = true) from fun q => nomatch eq_of_beq q)]
 show wpAny _ _ (compareOp .Eq (.str a t) (.int b u) >>= fun r => truthOfDropped r) Q E s
 exact wpAny_bind (EqMixed.eq_str_int (wpAny_truthy_bool h))
theorem eqBool_int_str {a : Str} {b : Int} {t u : Tok} {Q : Bool -> Shared -> Prop} (h : Q false s) : wpAny (model prog w) A (eqBool (.int b u) (.str a t)) Q E s := by
 unfold eqBool
 refine wpAny_holding ?_
 rw [if_neg (show ¬ ((Value.int b u == Value.str a t) = true) from fun q => nomatch eq_of_beq q)]
 show wpAny _ _ (compareOp .Eq (.int b u) (.str a t) >>= fun r => truthOfDropped r) Q E s
 exact wpAny_bind (EqMixed.eq_int_str (wpAny_truthy_bool h))
end
noncomputable def mixKind (prog : Program) (w : World) : KeyKind prog w (Str ⊕ Int) where
 is := fun k v => match k with | .inl x => Value.isStrOf x v | .inr i => Value.isInt i v
 hash := fun k => match k with | .inl x => hashStr w x | .inr i => hashInt i
 inj := fun v a b ha hb => by
  cases a with
  | inl x =>
   obtain ⟨t, rfl⟩ := Value.isStrOf_shape ha
   cases b with
   | inl y => exact congrArg _ (Value.isStrOf_inj _ _ _ ha hb)
   | inr j => obtain ⟨t', e⟩ := Value.isInt_shape hb; cases e
  | inr i =>
   obtain ⟨t, rfl⟩ := Value.isInt_shape ha
   cases b with
   | inl y => obtain ⟨t', e⟩ := Value.isStrOf_shape hb; cases e
   | inr j => exact congrArg _ (Value.isInt_inj _ _ _ ha hb)
 byValue := fun k v h => by
  cases k with
  | inl x => obtain ⟨t, rfl⟩ := Value.isStrOf_shape h; rfl
  | inr i => obtain ⟨t, rfl⟩ := Value.isInt_shape h; rfl
 pyHash := fun {A E s k v Q} hv h => by
  cases k with
  | inl x => obtain ⟨t, rfl⟩ := Value.isStrOf_shape hv; exact wpAny_pyHash_str h
  | inr i => obtain ⟨t, rfl⟩ := Value.isInt_shape hv; exact wpAny_pyHash_int h
 eqBool := fun {A E s a b u v Q} hu hv h => by
  cases a with
  | inl x =>
   obtain ⟨t, rfl⟩ := Value.isStrOf_shape hu
   cases b with
   | inl y => obtain ⟨t', rfl⟩ := Value.isStrOf_shape hv; exact wpAny_eqBool_str (by simpa using h)
   | inr j => obtain ⟨t', rfl⟩ := Value.isInt_shape hv; exact eqBool_str_int (by simpa using h)
  | inr i =>
   obtain ⟨t, rfl⟩ := Value.isInt_shape hu
   cases b with
   | inl y => obtain ⟨t', rfl⟩ := Value.isStrOf_shape hv; exact eqBool_int_str (by simpa using h)
   | inr j => obtain ⟨t', rfl⟩ := Value.isInt_shape hv; rw [show decide ((Sum.inr i : Str ⊕ Int) = Sum.inr j) = decide (i = j) by simp] at h; exact wpAny_eqBool_int h
 «strs» := fun k x t v h => by
  cases k with
  | inl y => exact (strKind prog w).«strs» y x t v h
  | inr i => obtain ⟨t', e⟩ := Value.isInt_shape h; cases e
end Mine.Internal
namespace Mine.Internal
open PySem
theorem cps_ {G : Prop} (h : ∀ R : Prop, (G -> R) -> R) : G := h G id
set_option genCtorIdx true in
inductive V where
 | d (x : PyData)
 | ref (k : Nat)
 | tup (vs : List V)
 | ty (t : String)
set_option genCtorIdx true in
inductive O where
 | list (vs : List V)
 | dictS (kvs : List (Str × PyData))
 | dictP (kvs : List ((Str × Int) × PyData))
abbrev Store := List O
abbrev Vars := List (Option V)
set_option genCtorIdx true in
inductive Res (α : Type) where
 | ok (a : α) (σ : Store)
 | bad
section
variable {α : Type} {a b : α} {l : List α} {P : Prop} {σ τ : Store}
theorem none_ne (h : none = some a) : P := nomatch h
theorem some_ne (h : some a = none) : P := nomatch h
theorem ff_ (h : false = true) : P := nomatch h
theorem tt_ (h : true = false) : P := nomatch h
theorem bad_ok (h : Res.bad = .ok a σ) : P := nomatch h
theorem ok_bad (h : Res.ok a σ = .bad) : P := nomatch h
theorem nil_ne (h : [] = a :: l) : P := nomatch h
theorem ok_inj (h : Res.ok a σ = .ok b τ) : a = b ∧ σ = τ := by cases h; exact ⟨rfl, rfl⟩
theorem cons_ne (h : a :: l = []) : P := nomatch h
theorem nat_ne {m n : Nat} (h : m = n) (e : Nat.beq m n = false) : P := by rw [h, Nat.beq_refl] at e; cases e
end
noncomputable def Res.bind {α β : Type} (r : Res α) (f : α -> Store -> Res β) : Res β :=
 match r with
 | .ok a σ => f a σ
 | .bad => .bad
set_option genCtorIdx true in
inductive Meth where
 | append | join | index | insert | pop | extend
set_option genCtorIdx true in
inductive Bi where
 | len | sorted | min | isinstance | str | all | list | max
set_option genCtorIdx true in
inductive Mode where
 | frz | shared
mutual
inductive E where
 | cst (x : PyData)
 | var (i : Nat)
 | ty (t : String)
 | bin (fz : Bool) (op : Operator) (a b : E)
 | neg (a : E)
 | not (a : E)
 | bop (op : BoolOp) (es : List E)
 | cmp (op : CmpOp) (a b : E)
 | tup (es : List E)
 | lst (fz : Bool) (es : List E)
 | dct (pp : Bool)
 | sub (a i : E)
 | slc (fz : Bool) (a : E) (lo hi : Option E)
 | bcall (b : Bi) (fz : Bool) (args : List E)
 | maxd (a : E) (z : Int)
 | sortk (fz rev : Bool) (a : E) (i : Nat) (key : E)
 | fcall (m : Mode) (f : Nat) (args : List E)
 | meth (m : Meth) (fz : Bool) (o : E) (args : List E)
 | comp (fz : Bool) (elt : E) (ts : List Nat) (it : It) (ifs : List E)
inductive It where
 | of (e : E)
 | range (args : List E)
 | zip (a b : E)
 | enum (a : E)
end
inductive S where
 | asg (x : Nat) (e : E)
 | swp (xs : List Nat) (es : List E)
 | set (o i v : E)
 | exp (e : E)
 | ite (c : E) (a b : List S)
 | for_ (ts : List Nat) (it : It) (body : List S)
 | while_ (c : E) (body : List S)
 | ret (e : E)
noncomputable def allD : List V -> Option (List PyData)
 | [] => some []
 | .d x :: r => match allD r with | some xs => some (x :: xs) | none => none
 | _ :: _ => none
noncomputable def mkTup (vs : List V) : V := match allD vs with | some xs => .d (.tuple xs) | none => .tup vs
noncomputable def line : Nat := 16777216
noncomputable def mkList (fz : Bool) (vs : List V) (σ : Store) : Res V :=
 if vs.length <= line then
  (match fz with
   | true => (match allD vs with | some xs => .ok (.d (.list xs)) σ | none => .bad)
   | false => .ok (.ref σ.length) (σ ++ [.list vs]))
 else .bad
noncomputable def lstOf (σ : Store) : V -> Option (List V)
 | .d (.list xs) => some (xs.map .d)
 | .ref k => match σ[k]? with | some (.list vs) => some vs | _ => none
 | _ => none
noncomputable def seqOf (σ : Store) : V -> Option (List V)
 | .d (.list xs) => some (xs.map .d)
 | .d (.tuple xs) => some (xs.map .d)
 | .tup vs => some vs
 | .ref k => match σ[k]? with | some (.list vs) => some vs | _ => none
 | _ => none
noncomputable def snapL (f : V -> Option PyData) : List V -> Option (List PyData)
 | [] => some []
 | v :: r => match f v with
  | some x => (match snapL f r with | some xs => some (x :: xs) | none => none)
  | none => none
noncomputable def snapO (f : V -> Option PyData) (o : Option O) : Option PyData :=
 match o with
 | some o => (match o with | .list vs => (match snapL f vs with | some xs => some (.list xs) | none => none) | _ => none)
 | none => none
noncomputable def snap (σ : Store) : Nat -> V -> Option PyData
 | 0, v => (match v with | .d x => some x | _ => none)
 | n + 1, v => (match v with
  | .d x => some x
  | .ref k => snapO (snap σ n) σ[k]?
  | .tup vs => (match snapL (snap σ n) vs with | some xs => some (.tuple xs) | none => none)
  | _ => none)
noncomputable def strOf (n : Int) : Str := Str.ofString (toString n)
noncomputable def eqLeaf (a b : PyData) : Option Bool :=
 match a with
 | .none => (match b with | .none => some true | .str _ => some false | .tuple _ => some false | _ => none)
 | .bool x => (match b with | .bool y => some (x == y) | _ => none)
 | .int x => (match b with | .int y => some (x == y) | _ => none)
 | .str x => (match b with | .str y => some (x == y) | .none => some false | _ => none)
 | .tuple _ => (match b with | .none => some false | _ => none)
 | _ => none
noncomputable def eqNsW (f : PyData -> PyData -> Option Bool) : List PyData -> List PyData -> Option Bool
 | [], ys => (match ys with | [] => some true | _ :: _ => some false)
 | x :: xs, ys => (match ys with
  | [] => some false
  | y :: ys => (match f x y with
   | some a => (match eqNsW f xs ys with | some b => some (a && b) | none => none)
   | none => none))
noncomputable def eqSeq (f : PyData -> PyData -> Option Bool) (a b : PyData) : Option Bool :=
 match a with
 | .list xs => (match b with | .list ys => if xs.length = ys.length then eqNsW f xs ys else some false | _ => none)
 | .tuple xs => (match b with | .tuple ys => eqNsW f xs ys | _ => eqLeaf a b)
 | _ => eqLeaf a b
noncomputable def eqN : Nat -> PyData -> PyData -> Option Bool
 | 0, a, b => eqLeaf a b
 | n + 1, a, b => eqSeq (eqN n) a b
noncomputable def eqNs (n : Nat) (xs ys : List PyData) : Option Bool := eqNsW (eqN n) xs ys
noncomputable def small (i : Int) : Bool := decide (-9223372036854775808 < i) && decide (i < 9223372036854775808)
noncomputable def catS (a b : Str) : Str := a ++ b
noncomputable def cutAt {α : Type} (lo hi : Option Int) (xs : List α) : List α :=
 (xs.drop (lo.elim 0 (clipAt xs.length))).take (hi.elim xs.length (clipAt xs.length) - lo.elim 0 (clipAt xs.length))
noncomputable def cutS (lo hi : Option Int) (x : Str) : Str := ⟨(cutAt lo hi x.cps.toList).toArray⟩
noncomputable def chr1 (c : Nat) : Str := ⟨#[c]⟩
noncomputable def truthD : PyData -> Option Bool
 | .none => some false
 | .bool b => some b
 | .int i => some (i != 0)
 | .str s => some (s.cps.size != 0)
 | .list xs => some (!xs.isEmpty)
 | .tuple xs => some (!xs.isEmpty)
 | .dict _ => none
noncomputable def truth (σ : Store) : V -> Option Bool
 | .d x => truthD x
 | .ref k => match σ[k]? with | some (.list vs) => some (!vs.isEmpty) | _ => none
 | _ => none
noncomputable def isIntV : V -> Option Int
 | .d (.int i) => some i
 | _ => none
noncomputable def isStrV : V -> Option Str
 | .d (.str x) => some x
 | _ => none
noncomputable def isTupV : V -> Option (List PyData)
 | .d (.tuple xs) => some xs
 | _ => none
noncomputable def lstAdd (fz : Bool) (a b : V) (σ : Store) : Res V :=
 match lstOf σ a with
 | some xs => (match lstOf σ b with | some ys => mkList fz (xs ++ ys) σ | none => .bad)
 | none => .bad
noncomputable def binAdd (fz : Bool) (a b : V) (σ : Store) : Res V :=
 match isIntV a with
 | some i => (match isIntV b with | some j => .ok (.d (.int (i + j))) σ | none => .bad)
 | none => (match isStrV a with
  | some x => (match isStrV b with | some y => if x.length + y.length <= line then .ok (.d (.str (x ++ y))) σ else .bad | none => .bad)
  | none => lstAdd fz a b σ)
noncomputable def binop (fz : Bool) (op : Operator) (a b : V) (σ : Store) : Res V :=
 match op with
 | .Add => binAdd fz a b σ
 | .Sub => (match isIntV a, isIntV b with | some i, some j => .ok (.d (.int (i - j))) σ | _, _ => .bad)
 | .Mult => (match isIntV a, isIntV b with | some i, some j => if small i || small j then .ok (.d (.int (i * j))) σ else .bad | _, _ => .bad)
 | .FloorDiv => (match isIntV a, isIntV b with | some i, some j => if j = 0 then .bad else .ok (.d (.int (i.fdiv j))) σ | _, _ => .bad)
 | .Mod => (match isIntV a, isIntV b with | some i, some j => if j = 0 then .bad else .ok (.d (.int (i.fmod j))) σ | _, _ => .bad)
 | _ => .bad
noncomputable def getK {κ β : Type} [DecidableEq κ] (kvs : List (κ × β)) (k : κ) : Option β := (kvs.find? fun p => p.1 = k).map (·.2)
noncomputable def putK {κ β : Type} [DecidableEq κ] (kvs : List (κ × β)) (k : κ) (d : β) : List (κ × β) :=
 if kvs.any (fun p => p.1 = k) then kvs.map (fun p => if p.1 = k then (p.1, d) else p) else kvs ++ [(k, d)]
noncomputable def pairOf (xs : List PyData) : Option (Str × Int) :=
 match xs with
 | [x, y] => (match isStrV (.d x) with | some a => (match isIntV (.d y) with | some i => some (a, i) | none => none) | none => none)
 | _ => none
noncomputable def isPairV (v : V) : Option (Str × Int) := match isTupV v with | some xs => pairOf xs | none => none
noncomputable def isDV : V -> Option PyData
 | .d x => some x
 | _ => none
noncomputable def dictO (o : Option O) : Option O :=
 match o with
 | some o => (match o with | .list _ => none | .dictS kvs => some (.dictS kvs) | .dictP kvs => some (.dictP kvs))
 | none => none
noncomputable def dictOf (σ : Store) (v : V) : Option O := match v with | .ref k => dictO σ[k]? | _ => none
noncomputable def getD1 (o : O) (v : V) : Option (Option PyData) :=
 match o with
 | .dictS kvs => (match isStrV v with | some x => some (getK kvs x) | none => none)
 | .dictP kvs => (match isPairV v with | some q => some (getK kvs q) | none => none)
 | .list _ => none
noncomputable def ltStr (a b : Str) : Bool := decide (a.cps.toList < b.cps.toList)
noncomputable def eqDepth : Nat := 40
noncomputable def inD (x : PyData) : List PyData -> Option Bool
 | [] => some false
 | y :: r => match eqN eqDepth y x, inD x r with | some a, some b => some (a || b) | _, _ => none
noncomputable def notO : Option Bool -> Option Bool
 | some b => some (!b)
 | none => none
noncomputable def eqV (σ : Store) (a b : V) : Option Bool :=
 match snap σ eqDepth a, snap σ eqDepth b with
 | some x, some y => eqN eqDepth x y
 | _, _ => none
noncomputable def inSeqD (x d : PyData) : Option Bool :=
 match d with
 | .list ys => inD x ys
 | .tuple ys => inD x ys
 | _ => none
noncomputable def inSeq (σ : Store) (a b : V) : Option Bool :=
 match snap σ eqDepth a with
 | some x => (match snap σ eqDepth b with | some d => inSeqD x d | none => none)
 | none => none
noncomputable def inV (σ : Store) (a b : V) : Option Bool :=
 match dictOf σ b with
 | some o => (match getD1 o a with | some r => some r.isSome | none => none)
 | none => inSeq σ a b
noncomputable def isV : V -> V -> Option Bool
 | a, .d .none => (match a with
  | .d .none => some true
  | .d _ => some false
  | .ref _ => some false
  | .tup _ => some false
  | .ty _ => none)
 | _, _ => none
noncomputable def ordV (f : Int -> Int -> Bool) (k : Str -> Str -> Bool) (a b : V) : Option Bool :=
 match isIntV a with
 | some i => (match isIntV b with | some j => some (f i j) | none => none)
 | none => (match isStrV a with
  | some x => (match isStrV b with | some y => some (k x y) | none => none)
  | none => none)
noncomputable def ltV (a b : V) : Option Bool := ordV (fun i j => decide (i < j)) (fun x y => ltStr x y) a b
noncomputable def leV (a b : V) : Option Bool := ordV (fun i j => decide (i <= j)) (fun x y => !ltStr y x) a b
noncomputable def gtV (a b : V) : Option Bool := ordV (fun i j => decide (i > j)) (fun x y => ltStr y x) a b
noncomputable def geV (a b : V) : Option Bool := ordV (fun i j => decide (i ≥ j)) (fun x y => !ltStr x y) a b
noncomputable def cmpop (op : CmpOp) (a b : V) (σ : Store) : Option Bool :=
 match op with
 | .Eq => eqV σ a b
 | .NotEq => notO (eqV σ a b)
 | .In => inV σ a b
 | .NotIn => notO (inV σ a b)
 | .Is => isV a b
 | .IsNot => notO (isV a b)
 | .Lt => ltV a b
 | .LtE => leV a b
 | .Gt => gtV a b
 | .GtE => geV a b
noncomputable def subscrAt (a : V) (k : Int) (σ : Store) : Option V :=
 match isStrV a with
 | some x => (match Txt.charAt x k with | some c => some (.d (.str (chr1 c))) | none => none)
 | none => (match seqOf σ a with | some vs => (match seqIndex? k vs.length with | some j => vs[j]? | none => none) | none => none)
noncomputable def subscrI (a i : V) (σ : Store) : Option V :=
 match isIntV i with
 | some k => if small k then subscrAt a k σ else none
 | none => none
noncomputable def subscr (a i : V) (σ : Store) : Option V :=
 match dictOf σ a with
 | some o => (match getD1 o i with | some r => (match r with | some d => some (.d d) | none => none) | none => none)
 | none => subscrI a i σ
noncomputable def endOf (o : Option V) : Option (Option Int) :=
 match o with
 | none => some none
 | some v => (match isIntV v with | some i => if small i then some (some i) else none | none => none)
noncomputable def sliceTup (xs : List PyData) (l h : Option Int) : Option (List PyData) :=
 match l with
 | some a => (match h with | none => if 1 <= a ∧ a <= xs.length then some (xs.drop a.toNat) else none | some _ => none)
 | none => none
noncomputable def sliceAt (fz : Bool) (a : V) (l h : Option Int) (σ : Store) : Res V :=
 match isStrV a with
 | some x => .ok (.d (.str (cutS l h x))) σ
 | none => (match isTupV a with
  | some xs => (match sliceTup xs l h with | some ys => .ok (.d (.tuple ys)) σ | none => .bad)
  | none => (match lstOf σ a with
   | some xs => mkList fz (cutAt l h xs) σ
   | none => .bad))
noncomputable def slice (fz : Bool) (a : V) (lo hi : Option V) (σ : Store) : Res V :=
 match endOf lo with
 | some l => (match endOf hi with | some h => sliceAt fz a l h σ | none => .bad)
 | none => .bad
noncomputable def strsV : List V -> Option (List Str)
 | [] => some []
 | v :: r => (match isStrV v with
  | some x => (match strsV r with | some xs => some (x :: xs) | none => none)
  | none => none)
noncomputable def insStr (x : Str) : List Str -> List Str
 | [] => [x]
 | y :: r => if ltStr x y then x :: y :: r else y :: insStr x r
noncomputable def sortStr : List Str -> List Str
 | [] => []
 | x :: r => insStr x (sortStr r)
noncomputable def isListO (o : Option O) : Bool :=
 match o with
 | some o => (match o with | .list _ => true | _ => false)
 | none => false
noncomputable def isTyD (x : PyData) (t : String) : Option Bool :=
 match x with
 | .tuple _ => if t = "tuple" then some true else none
 | .list _ => if t = "list" then some true else none
 | .str _ => if t = "str" then some true else none
 | .int _ => if t = "int" then some true else if t = "bool" then some false else none
 | .bool _ => if t = "bool" then some true else none
 | _ => none
noncomputable def isTy (σ : Store) (v : V) (t : String) : Option Bool :=
 match v with
 | .d x => isTyD x t
 | .tup _ => if t = "tuple" then some true else none
 | .ref k => if isListO σ[k]? = true ∧ t = "list" then some true else none
 | _ => none
noncomputable def isBoolV : V -> Option Bool
 | .d (.bool b) => some b
 | _ => none
noncomputable def boolsV : List V -> Option (List Bool)
 | [] => some []
 | v :: r => (match isBoolV v with
  | some b => (match boolsV r with | some bs => some (b :: bs) | none => none)
  | none => none)
noncomputable def bAll (v : V) (σ : Store) : Res V :=
 match lstOf σ v with
 | some xs => (match boolsV xs with | some bs => .ok (.d (.bool (bs.all id))) σ | none => .bad)
 | none => .bad
noncomputable def bList (fz : Bool) (v : V) (σ : Store) : Res V := match lstOf σ v with | some xs => mkList fz xs σ | none => .bad
noncomputable def bLen (v : V) (σ : Store) : Res V :=
 match isStrV v with
 | some x => .ok (.d (.int x.cps.size)) σ
 | none => (match seqOf σ v with | some xs => .ok (.d (.int xs.length)) σ | none => .bad)
noncomputable def bSort (fz : Bool) (v : V) (σ : Store) : Res V :=
 match lstOf σ v with
 | some xs => (match strsV xs with | some ss => if ss.length < 64 then mkList fz ((sortStr ss).map fun s => .d (.str s)) σ else .bad | none => .bad)
 | none => .bad
noncomputable def bIsi (v w : V) (σ : Store) : Res V :=
 match w with
 | .ty t => (match isTy σ v t with | some b => .ok (.d (.bool b)) σ | none => .bad)
 | _ => .bad
noncomputable def bcall1 (b : Bi) (fz : Bool) (v : V) (σ : Store) : Res V :=
 match b with
 | .len => bLen v σ
 | .str => (match isIntV v with | some i => if i.natAbs < 1000000000000 then .ok (.d (.str (strOf i))) σ else .bad | none => .bad)
 | .sorted => bSort fz v σ
 | .all => bAll v σ
 | .list => bList fz v σ
 | _ => .bad
noncomputable def bcall2 (b : Bi) (v w : V) (σ : Store) : Res V :=
 match b with
 | .min => (match isIntV v, isIntV w with | some i, some j => .ok (.d (.int (if j < i then j else i))) σ | _, _ => .bad)
 | .isinstance => bIsi v w σ
 | _ => .bad
noncomputable def bcall (b : Bi) (fz : Bool) (vs : List V) (σ : Store) : Res V :=
 match vs with
 | [v] => bcall1 b fz v σ
 | [v, w] => bcall2 b v w σ
 | _ => .bad
noncomputable def intsV : List V -> Option (List Int)
 | [] => some []
 | v :: r => (match isIntV v with
  | some x => (match intsV r with | some xs => some (x :: xs) | none => none)
  | none => none)
noncomputable def maxOf (z : Int) : List Int -> Int
 | [] => z
 | x :: r => r.foldl (fun a b => if a < b then b else a) x
noncomputable def bMax (z : Int) (v : V) (σ : Store) : Res V :=
 match lstOf σ v with
 | some xs => (match intsV xs with | some is => .ok (.d (.int (maxOf z is))) σ | none => .bad)
 | none => .bad
noncomputable def insBy {κ α : Type} (lt : κ -> κ -> Bool) (p : κ × α) : List (κ × α) -> List (κ × α)
 | [] => [p]
 | q :: r => if lt q.1 p.1 then q :: insBy lt p r else p :: q :: r
noncomputable def sortBy {κ α : Type} (lt : κ -> κ -> Bool) : List (κ × α) -> List (κ × α)
 | [] => []
 | p :: r => insBy lt p (sortBy lt r)
noncomputable def sortOut {κ α : Type} (rev : Bool) (lt : κ -> κ -> Bool) (l : List (κ × α)) : List α :=
 match rev with
 | true => (sortBy lt l.reverse).reverse.map (·.2)
 | false => (sortBy lt l).map (·.2)
noncomputable def ltI (a b : Int) : Bool := decide (a < b)
noncomputable def sortKs (fz rev : Bool) (xs : List PyData) (ks : List V) (σ : Store) : Res V :=
 match intsV ks with
 | some is => mkList fz ((sortOut rev ltI (is.zip xs)).map .d) σ
 | none => (match strsV ks with
  | some ss => mkList fz ((sortOut rev ltStr (ss.zip xs)).map .d) σ
  | none => .bad)
noncomputable def sortK (fz rev : Bool) (vs ks : List V) (σ : Store) : Res V :=
 match allD vs with
 | some xs => @ite _ (xs.Nodup ∧ xs.length < 64) (Classical.propDecidable _) (sortKs fz rev xs ks σ) .bad
 | none => .bad
noncomputable def keysGo (f : V -> Store -> Res V) : List V -> Store -> Res (List V)
 | [], σ => .ok [] σ
 | v :: r, σ => (f v σ).bind fun k σ => (keysGo f r σ).bind fun ks σ => .ok (k :: ks) σ
noncomputable def appendTo (k : Nat) (v : V) (σ : Store) (o : Option O) : Res V :=
 match o with
 | some o => (match o with
  | .list xs => if xs.length < line then .ok (.d .none) (σ.set k (.list (xs ++ [v]))) else .bad
  | _ => .bad)
 | none => .bad
noncomputable def joinBy (x : Str) (v : V) (σ : Store) : Res V :=
 match lstOf σ v with
 | some xs => (match strsV xs with
  | some ss => if JoinOk x ss then .ok (.d (.str (Txt.join x ss))) σ else .bad
  | none => .bad)
 | none => .bad
noncomputable def idxD (x : PyData) : List PyData -> Option Nat
 | [] => none
 | y :: r => (match eqN eqDepth y x with
  | some b => (match b with | true => some 0 | false => (match idxD x r with | some j => some (j + 1) | none => none))
  | none => none)
noncomputable def idxIn (v : V) (ws : List V) (σ : Store) : Res V :=
 match isDV v with
 | some x => (match allD ws with
  | some xs => (match inD x xs with | some _ => (match idxD x xs with | some j => .ok (.d (.int j)) σ | none => .bad) | none => .bad)
  | none => .bad)
 | none => .bad
noncomputable def insTo (k : Nat) (i v : V) (ws : List V) (σ : Store) : Res V :=
 match isIntV i with
 | some j => if 0 <= j ∧ j <= ws.length ∧ ws.length < line then .ok (.d .none) (σ.set k (.list (ws.take j.toNat ++ v :: ws.drop j.toNat))) else .bad
 | none => .bad
noncomputable def popOf (k : Nat) (j : Nat) (ws : List V) (σ : Store) : Res V :=
 match ws[j]? with
 | some v => if ws.length <= line then .ok v (σ.set k (.list (ws.eraseIdx j))) else .bad
 | none => .bad
noncomputable def popAtV (k : Nat) (i : V) (ws : List V) (σ : Store) : Res V :=
 match isIntV i with
 | some j => if 0 <= j then popOf k j.toNat ws σ else .bad
 | none => .bad
noncomputable def extTo (k : Nat) (v : V) (ws : List V) (σ : Store) : Res V :=
 match isDV v with
 | some x => (match lstOf σ (.d x) with | some us => if ws.length + us.length <= line then .ok (.d .none) (σ.set k (.list (ws ++ us))) else .bad | none => .bad)
 | none => .bad
noncomputable def lstM0 (m : Meth) (k : Nat) (ws : List V) (σ : Store) : Res V :=
 match m with
 | .pop => popOf k (ws.length - 1) ws σ
 | _ => .bad
noncomputable def lstM1 (m : Meth) (k : Nat) (v : V) (ws : List V) (σ : Store) : Res V :=
 match m with
 | .index => idxIn v ws σ
 | .pop => popAtV k v ws σ
 | .extend => extTo k v ws σ
 | _ => .bad
noncomputable def lstM2 (m : Meth) (k : Nat) (u v : V) (ws : List V) (σ : Store) : Res V :=
 match m with
 | .insert => insTo k u v ws σ
 | _ => .bad
noncomputable def onLst (o : V) (σ : Store) (f : Nat -> List V -> Res V) : Res V :=
 match o with
 | .ref k => (match σ[k]? with | some ob => (match ob with | .list ws => f k ws | _ => .bad) | none => .bad)
 | _ => .bad
noncomputable def methcall1 (m : Meth) (fz : Bool) (o v : V) (σ : Store) : Res V :=
 match m with
 | .append => (match o with | .ref k => appendTo k v σ σ[k]? | _ => .bad)
 | .join => (match isStrV o with | some x => joinBy x v σ | none => .bad)
 | m => onLst o σ fun k ws => lstM1 m k v ws σ
noncomputable def methcall (m : Meth) (fz : Bool) (o : V) (vs : List V) (σ : Store) : Res V :=
 match vs with
 | [] => onLst o σ fun k ws => lstM0 m k ws σ
 | [v] => methcall1 m fz o v σ
 | [u, v] => onLst o σ fun k ws => lstM2 m k u v ws σ
 | _ => .bad
noncomputable def methPre (m : Meth) (o : V) (σ : Store) : Bool :=
 match m with
 | .join => (match isStrV o with | some _ => true | none => false)
 | _ => (match o with | .ref k => isListO σ[k]? | _ => false)
noncomputable def rangeV (lo : Int) : Nat -> List V
 | 0 => []
 | n + 1 => .d (.int lo) :: rangeV (lo + 1) n
noncomputable def downV : Nat -> List V
 | 0 => []
 | n + 1 => .d (.int n) :: downV n
noncomputable def rangeOf (vs : List V) : Option (List V) :=
 match vs with
 | [v] => (match isIntV v with
  | some n => if n <= 1000000 ∧ -1000000 <= n then some (rangeV 0 n.toNat) else none
  | none => none)
 | [u, v, w] => (match isIntV u with
  | some a => (match isIntV v with
   | some b => (match isIntV w with
    | some c => if a <= 1000000 ∧ -1 <= a ∧ b = -1 ∧ c = -1 then some (downV (a + 1).toNat) else none
    | none => none)
   | none => none)
  | none => none)
 | _ => none
noncomputable def zipV : List V -> List V -> List V
 | x :: xs, y :: ys => mkTup [x, y] :: zipV xs ys
 | _, _ => []
noncomputable def enumV (k : Nat) : List V -> List V
 | [] => []
 | x :: xs => mkTup [.d (.int k), x] :: enumV (k + 1) xs
noncomputable def tupOf : V -> Option (List V)
 | .d (.tuple xs) => some (xs.map .d)
 | .tup vs => some vs
 | _ => none
noncomputable def setTs : Vars -> List Nat -> List V -> Vars
 | ρ, i :: is, v :: vs => setTs (ρ.set i (some v)) is vs
 | ρ, _, _ => ρ
noncomputable def bindTs (ρ : Vars) (ts : List Nat) (v : V) : Option Vars :=
 match ts with
 | [i] => some (ρ.set i (some v))
 | ts => match tupOf v with
  | some vs => if vs.length = ts.length then some (setTs ρ ts vs) else none
  | none => none
noncomputable def clearTs (ρ : Vars) (ts : List Nat) : Vars := ts.foldl (fun r i => r.set i none) ρ
set_option genCtorIdx true in
inductive Src where
 | items (vs : List V)
 | lref (k i : Nat)
noncomputable def nextAt (k i : Nat) (o : Option O) : Option (Option (V × Src)) :=
 match o with
 | some o => (match o with
  | .list ws => (match ws[i]? with | some v => some (some (v, .lref k (i + 1))) | none => some none)
  | _ => none)
 | none => none
noncomputable def Src.next (σ : Store) (s : Src) : Option (Option (V × Src)) :=
 match s with
 | .items vs => (match vs with | [] => some none | v :: r => some (some (v, .items r)))
 | .lref k i => nextAt k i σ[k]?
noncomputable def Src.fuel (σ : Store) (s : Src) : Nat :=
 match s with
 | .items vs => vs.length + 1
 | .lref k _ => (match lstOf σ (.ref k) with | some ws => ws.length + 1 | none => 0)
noncomputable def itemsOf (σ : Store) : V -> Option Src
 | .d (.list xs) => some (.items (xs.map .d))
 | .d (.tuple xs) => some (.items (xs.map .d))
 | .ref k => if isListO σ[k]? = true then some (.lref k 0) else none
 | _ => none
noncomputable def dlist : V -> Option (List V)
 | .d (.list xs) => some (xs.map .d)
 | _ => none
noncomputable def compGo (f : V -> Store -> Res (Option V)) : List V -> Store -> Res (List V)
 | [], σ => .ok [] σ
 | v :: r, σ => (match f v σ with
  | .ok x σ => (match compGo f r σ with | .ok xs σ => .ok (match x with | some y => y :: xs | none => xs) σ | .bad => .bad)
  | .bad => .bad)
noncomputable def compOne (go : Src -> Store -> Res (List V)) (f : V -> Store -> Res (Option V)) (σ : Store) (o : Option (Option (V × Src))) : Res (List V) :=
 match o with
 | some o => (match o with
  | some p => (match f p.1 σ with
   | .ok x σ => (match go p.2 σ with | .ok xs σ => .ok (match x with | some y => y :: xs | none => xs) σ | .bad => .bad)
   | .bad => .bad)
  | none => .ok [] σ)
 | none => .bad
noncomputable def compS (f : V -> Store -> Res (Option V)) : Nat -> Src -> Store -> Res (List V)
 | 0, _, _ => .bad
 | n + 1, src, σ => compOne (compS f n) f σ (src.next σ)
noncomputable def compEnd (fz : Bool) (r : Res (List V)) : Res V := r.bind fun ys σ => mkList fz ys σ
noncomputable def compStep (ρ : Vars) (ts : List Nat) (tests : Vars -> Store -> Res Bool) (elt : Vars -> Store -> Res V) (v : V) (σ : Store) : Res (Option V) :=
 match bindTs (clearTs ρ ts) ts v with
 | some ρ' => (tests ρ' σ).bind fun b σ => (match b with
  | true => (elt ρ' σ).bind fun y σ => .ok (some y) σ
  | false => .ok none σ)
 | none => .bad
abbrev CF := Mode -> Nat -> List V -> Store -> Res V
structure Cfg where
 cf : CF
 fuel : Nat
noncomputable def Cfg.still (C : Cfg) : Cfg := ⟨fun _ _ _ _ => .bad, C.fuel⟩
mutual
noncomputable def evalE (C : Cfg) : E -> Vars -> Store -> Res V
 | .cst x, _, σ => .ok (.d x) σ
 | .ty t, _, σ => .ok (.ty t) σ
 | .var i, ρ, σ => (match ρ[i]? with | some (some v) => .ok v σ | _ => .bad)
 | .bin fz op a b, ρ, σ => (evalE C a ρ σ).bind fun x σ => (evalE C b ρ σ).bind fun y σ => binop fz op x y σ
 | .neg a, ρ, σ => (evalE C a ρ σ).bind fun x σ => (match x with | .d (.int i) => .ok (.d (.int (-i))) σ | _ => .bad)
 | .not a, ρ, σ => (evalE C a ρ σ).bind fun x σ => (match truth σ x with | some b => .ok (.d (.bool (!b))) σ | none => .bad)
 | .bop op es, ρ, σ => evalB C op es ρ σ
 | .cmp op a b, ρ, σ => (evalE C a ρ σ).bind fun x σ => (evalE C b ρ σ).bind fun y σ => (match cmpop op x y σ with | some b => .ok (.d (.bool b)) σ | none => .bad)
 | .tup es, ρ, σ => (evalEs C es ρ σ).bind fun vs σ => if vs.length <= line then .ok (mkTup vs) σ else .bad
 | .lst fz es, ρ, σ => (evalEs C es ρ σ).bind fun vs σ => mkList fz vs σ
 | .dct pp, _, σ => .ok (.ref σ.length) (σ ++ [match pp with | true => .dictP [] | false => .dictS []])
 | .sub a i, ρ, σ => (evalE C a ρ σ).bind fun x σ => (evalE C i ρ σ).bind fun y σ => (match subscr x y σ with | some v => .ok v σ | none => .bad)
 | .slc fz a lo hi, ρ, σ => (evalE C a ρ σ).bind fun x σ => (evalO C lo ρ σ).bind fun l σ => (evalO C hi ρ σ).bind fun h σ => slice fz x l h σ
 | .bcall b fz es, ρ, σ => (evalEs C es ρ σ).bind fun vs σ => bcall b fz vs σ
 | .maxd a z, ρ, σ => (evalE C a ρ σ).bind fun x σ => bMax z x σ
 | .sortk fz rev a i key, ρ, σ => (evalE C a ρ σ).bind fun x σ => (match lstOf σ x with
  | some vs => (keysGo (fun v σ => evalE C.still key (ρ.set i (some v)) σ) vs σ).bind fun ks σ => sortK fz rev vs ks σ
  | none => .bad)
 | .fcall m f es, ρ, σ => (evalEs C es ρ σ).bind fun vs σ => C.cf m f vs σ
 | .meth m fz o es, ρ, σ => (evalE C o ρ σ).bind fun x σ => if methPre m x σ then (evalEs C es ρ σ).bind fun vs σ => methcall m fz x vs σ else .bad
 | .comp fz elt ts it ifs, ρ, σ => (evalIt C it ρ σ).bind fun vs σ =>
  compEnd fz (compS (compStep ρ ts (fun ρ σ => evalIfs C ifs ρ σ) (fun ρ σ => evalE C elt ρ σ)) (vs.fuel σ) vs σ)
noncomputable def evalEs (C : Cfg) : List E -> Vars -> Store -> Res (List V)
 | [], _, σ => .ok [] σ
 | e :: r, ρ, σ => (evalE C e ρ σ).bind fun v σ => (evalEs C r ρ σ).bind fun vs σ => .ok (v :: vs) σ
noncomputable def evalO (C : Cfg) : Option E -> Vars -> Store -> Res (Option V)
 | none, _, σ => .ok none σ
 | some e, ρ, σ => (evalE C e ρ σ).bind fun v σ => .ok (some v) σ
noncomputable def evalB (C : Cfg) (op : BoolOp) : List E -> Vars -> Store -> Res V
 | [], _, _ => .bad
 | [e], ρ, σ => evalE C e ρ σ
 | e :: e' :: r, ρ, σ => (evalE C e ρ σ).bind fun v σ => (match truth σ v, op with
  | some false, .And => .ok v σ
  | some true, .Or => .ok v σ
  | some _, _ => evalB C op (e' :: r) ρ σ
  | none, _ => .bad)
noncomputable def evalIfs (C : Cfg) : List E -> Vars -> Store -> Res Bool
 | [], _, σ => .ok true σ
 | e :: r, ρ, σ => (evalE C e ρ σ).bind fun v σ => (match truth σ v with
  | some true => evalIfs C r ρ σ
  | some false => .ok false σ
  | none => .bad)
noncomputable def evalIt (C : Cfg) : It -> Vars -> Store -> Res Src
 | .range es, ρ, σ => (evalEs C es ρ σ).bind fun vs σ => (match rangeOf vs with | some xs => .ok (.items xs) σ | none => .bad)
 | .zip a b, ρ, σ => (evalE C a ρ σ).bind fun x σ => (evalE C b ρ σ).bind fun y σ => (match dlist x, dlist y with | some xs, some ys => .ok (.items (zipV xs ys)) σ | _, _ => .bad)
 | .enum a, ρ, σ => (evalE C a ρ σ).bind fun x σ => (match dlist x with | some xs => .ok (.items (enumV 0 xs)) σ | none => .bad)
 | .of e, ρ, σ => (evalE C e ρ σ).bind fun x σ => (match itemsOf σ x with | some xs => .ok xs σ | none => .bad)
end
set_option genCtorIdx true in
inductive Fl where
 | next (ρ : Vars)
 | ret (v : V)
noncomputable def forStep (ts : List Nat) (body : Vars -> Store -> Res Fl) (v : V) (ρ : Vars) (σ : Store) : Res Fl :=
 match bindTs ρ ts v with
 | some ρ' => body ρ' σ
 | none => .bad
noncomputable def forGo (f : V -> Vars -> Store -> Res Fl) : List V -> Vars -> Store -> Res Fl
 | [], ρ, σ => .ok (.next ρ) σ
 | v :: r, ρ, σ => (f v ρ σ).bind fun x σ => (match x with | .next ρ => forGo f r ρ σ | .ret y => .ok (.ret y) σ)
noncomputable def forOne (go : Src -> Vars -> Store -> Res Fl) (f : V -> Vars -> Store -> Res Fl) (ρ : Vars) (σ : Store) (o : Option (Option (V × Src))) : Res Fl :=
 match o with
 | some o => (match o with
  | some p => (f p.1 ρ σ).bind fun x σ => (match x with | .next ρ => go p.2 ρ σ | .ret y => .ok (.ret y) σ)
  | none => .ok (.next ρ) σ)
 | none => .bad
noncomputable def forS (f : V -> Vars -> Store -> Res Fl) : Nat -> Src -> Vars -> Store -> Res Fl
 | 0, _, _, _ => .bad
 | n + 1, src, ρ, σ => forOne (forS f n) f ρ σ (src.next σ)
noncomputable def setAt (k : Nat) (i v : V) (σ : Store) (o : Option O) : Res Fl :=
 match o with
 | some o => (match o with
  | .list xs => (match isIntV i with | some j => if 0 <= j ∧ j < xs.length then .ok (.next []) (σ.set k (.list (xs.set j.toNat v))) else .bad | none => .bad)
  | .dictS kvs => (match isStrV i with | some x => (match isDV v with | some d => if kvs.length < line then .ok (.next []) (σ.set k (.dictS (putK kvs x d))) else .bad | none => .bad) | none => .bad)
  | .dictP kvs => (match isPairV i with | some x => (match isDV v with | some d => if kvs.length < line then .ok (.next []) (σ.set k (.dictP (putK kvs x d))) else .bad | none => .bad) | none => .bad))
 | none => .bad
noncomputable def setItemV (o i v : V) (σ : Store) : Res Fl :=
 match o with
 | .ref k => setAt k i v σ σ[k]?
 | _ => .bad
mutual
noncomputable def asgs : S -> List Nat
 | .asg x _ => [x]
 | .swp xs _ => xs
 | .ite _ a b => asgAll a ++ asgAll b
 | .for_ ts _ body => ts ++ asgAll body
 | .while_ _ body => asgAll body
 | _ => []
noncomputable def asgAll : List S -> List Nat
 | [] => []
 | s :: r => asgs s ++ asgAll r
end
noncomputable def whileGo (t : Vars -> Store -> Res Bool) (b : Vars -> Store -> Res Fl) : Nat -> Vars -> Store -> Res Fl
 | 0, _, _ => .bad
 | n + 1, ρ, σ => (t ρ σ).bind fun q σ => (match q with
  | true => (b ρ σ).bind fun f σ => (match f with | .next ρ => whileGo t b n ρ σ | .ret v => .ok (.ret v) σ)
  | false => .ok (.next ρ) σ)
mutual
noncomputable def execS (C : Cfg) : S -> Vars -> Store -> Res Fl
 | .asg x e, ρ, σ => (evalE C e ρ σ).bind fun v σ => .ok (.next (ρ.set x (some v))) σ
 | .swp xs es, ρ, σ => (evalEs C es ρ σ).bind fun vs σ =>
  if vs.length = xs.length then .ok (.next (setTs ρ xs vs)) σ else .bad
 | .set o i v, ρ, σ => (evalE C v ρ σ).bind fun x σ => (evalE C o ρ σ).bind fun y σ => (evalE C i ρ σ).bind fun z σ => (setItemV y z x σ).bind fun _ σ => .ok (.next ρ) σ
 | .exp e, ρ, σ => (evalE C e ρ σ).bind fun _ σ => .ok (.next ρ) σ
 | .ite c a b, ρ, σ => (evalE C c ρ σ).bind fun v σ => (match truth σ v with
  | some true => execSs C a ρ σ
  | some false => execSs C b ρ σ
  | none => .bad)
 | .for_ ts it body, ρ, σ => (evalIt C it ρ σ).bind fun vs σ =>
  forS (forStep ts (fun ρ σ => execSs C body ρ σ)) (vs.fuel σ) vs ρ σ
 | .while_ c body, ρ, σ => whileGo (fun ρ σ => (evalE C c ρ σ).bind fun v σ => (match truth σ v with | some b => .ok b σ | none => .bad)) (fun ρ σ => execSs C body ρ σ) C.fuel ρ σ
 | .ret e, ρ, σ => (evalE C e ρ σ).bind fun v σ => .ok (.ret v) σ
noncomputable def execSs (C : Cfg) : List S -> Vars -> Store -> Res Fl
 | [], ρ, σ => .ok (.next ρ) σ
 | s :: r, ρ, σ => (execS C s ρ σ).bind fun f σ => (match f with | .next ρ => execSs C r ρ σ | .ret v => .ok (.ret v) σ)
end
structure Fn where
 nparams : Nat
 nvars : Nat
 body : List S
noncomputable def noList : PyData -> Bool
 | .none => true
 | .bool _ => true
 | .int _ => true
 | .str _ => true
 | _ => false
noncomputable def runFn (C : Cfg) (fn : Fn) (vs : List V) (σ : Store) : Res V :=
 if vs.length = fn.nparams then
  (execSs C fn.body (vs.map some ++ List.replicate (fn.nvars - fn.nparams) none) σ).bind fun f σ => (match f with | .ret v => .ok v σ | .next _ => .ok (.d .none) σ)
 else .bad
noncomputable def fresh (σ : Store) : Nat -> V -> Option PyData
 | 0, v => (match v with | .d x => if noList x = true then some x else none | _ => none)
 | n + 1, v => (match v with
  | .d x => if noList x = true then some x else none
  | .ref k => snapO (fresh σ n) σ[k]?
  | _ => none)
noncomputable def ansOf1 (flat : Bool) (σ : Store) (v : V) : Option PyData := match flat with | true => fresh σ 8 v | false => snap σ 8 v
noncomputable def isoCall (run : List V -> Store -> Res V) (xs : List V) (flat : Bool) (σ : Store) : Res V :=
 match run xs [] with
 | .ok v σ' => (match ansOf1 flat σ' v with | some y => .ok (.d y) σ | none => .bad)
 | .bad => .bad
noncomputable def inert : List V -> Bool
 | [] => true
 | .d _ :: r => inert r
 | _ :: _ => false
noncomputable def lent (σ : Store) : List V -> Option (List V)
 | [] => some []
 | v :: r => (match snap σ 8 v, lent σ r with | some x, some xs => some (.d x :: xs) | _, _ => none)
noncomputable def callF (P : Nat -> Option Fn) (fuel : Nat) : Nat -> CF
 | 0, _, _, _, _ => .bad
 | n + 1, m, f, vs, σ => (match P f with
  | none => .bad
  | some fn => (match m with
   | .shared => runFn ⟨callF P fuel n, fuel⟩ fn vs σ
   | .frz => (match inert vs with
    | true => isoCall (runFn ⟨callF P fuel n, fuel⟩ fn) vs false σ
    | false => (match lent σ vs with
     | some xs => isoCall (runFn ⟨callF P fuel n, fuel⟩ fn) xs true σ
     | none => .bad))))
theorem eA_1 {C : Cfg} {x : _} {w1 : _} {σ : _} : evalE C (.cst x) w1 σ = .ok (.d x) σ := rfl
theorem eA_3 {C : Cfg} {x : _} {w1 : _} {σ : _} : evalE C (.ty x) w1 σ = .ok (.ty x) σ := rfl
theorem eA_5 {C : Cfg} {i : _} {ρ : _} {σ : _} : evalE C (.var i) ρ σ = (match ρ[i]? with | some (some v) => .ok v σ | _ => .bad) := rfl
theorem eA_6 {C : Cfg} {fz : _} {op : _} {a : _} {b : _} {ρ : _} {σ : _} : evalE C (.bin fz op a b) ρ σ = (evalE C a ρ σ).bind fun x σ => (evalE C b ρ σ).bind fun y σ => binop fz op x y σ := rfl
theorem eA_7 {C : Cfg} {a : _} {ρ : _} {σ : _} : evalE C (.neg a) ρ σ = (evalE C a ρ σ).bind fun x σ => (match x with | .d (.int i) => .ok (.d (.int (-i))) σ | _ => .bad) := rfl
theorem eA_8 {C : Cfg} {a : _} {ρ : _} {σ : _} : evalE C (.not a) ρ σ = (evalE C a ρ σ).bind fun x σ => (match truth σ x with | some b => .ok (.d (.bool (!b))) σ | none => .bad) := rfl
theorem eA_9 {C : Cfg} {op : _} {es : _} {ρ : _} {σ : _} : evalE C (.bop op es) ρ σ = evalB C op es ρ σ := rfl
theorem eA_10 {C : Cfg} {op : _} {a : _} {b : _} {ρ : _} {σ : _} : evalE C (.cmp op a b) ρ σ = (evalE C a ρ σ).bind fun x σ => (evalE C b ρ σ).bind fun y σ => (match cmpop op x y σ with | some b => .ok (.d (.bool b)) σ | none => .bad) := rfl
theorem eA_12 {C : Cfg} {es : _} {ρ : _} {σ : _} : evalE C (.tup es) ρ σ = (evalEs C es ρ σ).bind fun vs σ => if vs.length <= line then .ok (mkTup vs) σ else .bad := rfl
theorem eA_13 {C : Cfg} {fz : _} {es : _} {ρ : _} {σ : _} : evalE C (.lst fz es) ρ σ = (evalEs C es ρ σ).bind fun vs σ => mkList fz vs σ := rfl
theorem eA_15 {C : Cfg} {a : _} {i : _} {ρ : _} {σ : _} : evalE C (.sub a i) ρ σ = (evalE C a ρ σ).bind fun x σ => (evalE C i ρ σ).bind fun y σ => (match subscr x y σ with | some v => .ok v σ | none => .bad) := rfl
theorem eA_16 {C : Cfg} {fz : _} {a : _} {lo : _} {hi : _} {ρ : _} {σ : _} : evalE C (.slc fz a lo hi) ρ σ = (evalE C a ρ σ).bind fun x σ => (evalO C lo ρ σ).bind fun l σ => (evalO C hi ρ σ).bind fun h σ => slice fz x l h σ := rfl
theorem eA_17 {C : Cfg} {b : _} {fz : _} {es : _} {ρ : _} {σ : _} : evalE C (.bcall b fz es) ρ σ = (evalEs C es ρ σ).bind fun vs σ => bcall b fz vs σ := rfl
theorem eA_18 {C : Cfg} {m : _} {f : _} {es : _} {ρ : _} {σ : _} : evalE C (.fcall m f es) ρ σ = (evalEs C es ρ σ).bind fun vs σ => C.cf m f vs σ := rfl
theorem eA_19 {C : Cfg} {m : _} {fz : _} {o : _} {es : _} {ρ : _} {σ : _} : evalE C (.meth m fz o es) ρ σ = (evalE C o ρ σ).bind fun x σ => if methPre m x σ then (evalEs C es ρ σ).bind fun vs σ => methcall m fz x vs σ else .bad := rfl
theorem eA_20 {C : Cfg} {fz : _} {elt : _} {ts : _} {it : _} {ifs : _} {ρ : _} {σ : _} : evalE C (.comp fz elt ts it ifs) ρ σ = (evalIt C it ρ σ).bind fun vs σ =>
 compEnd fz (compS (compStep ρ ts (fun ρ σ => evalIfs C ifs ρ σ) (fun ρ σ => evalE C elt ρ σ)) (vs.fuel σ) vs σ) := rfl
theorem eA_21 {C : Cfg} {pp : Bool} {ρ : _} {σ : _} : evalE C (.dct pp) ρ σ = .ok (.ref σ.length) (σ ++ [match pp with | true => .dictP [] | false => .dictS []]) := rfl
theorem eA_22 {C : Cfg} {a : _} {z : _} {ρ : _} {σ : _} : evalE C (.maxd a z) ρ σ = (evalE C a ρ σ).bind fun x σ => bMax z x σ := rfl
theorem eA_23 {C : Cfg} {fz rev : Bool} {a : _} {i : _} {key : _} {ρ : _} {σ : _} : evalE C (.sortk fz rev a i key) ρ σ = (evalE C a ρ σ).bind fun x σ => (match lstOf σ x with
 | some vs => (keysGo (fun v σ => evalE C.still key (ρ.set i (some v)) σ) vs σ).bind fun ks σ => sortK fz rev vs ks σ
 | none => .bad) := rfl
theorem eB_1 {C : Cfg} {w1 : _} {σ : _} : evalEs C [] w1 σ = .ok [] σ := rfl
theorem eB_2 {C : Cfg} {e : _} {r : _} {ρ : _} {σ : _} : evalEs C (e :: r) ρ σ = (evalE C e ρ σ).bind fun v σ => (evalEs C r ρ σ).bind fun vs σ => .ok (v :: vs) σ := rfl
theorem eO_1 {C : Cfg} {w1 : _} {σ : _} : evalO C none w1 σ = .ok none σ := rfl
theorem eO_2 {C : Cfg} {e : _} {ρ : _} {σ : _} : evalO C (some e) ρ σ = (evalE C e ρ σ).bind fun v σ => .ok (some v) σ := rfl
theorem eC_1 {C : Cfg} {op : BoolOp} {w1 : _} {w2 : _} : evalB C op [] w1 w2 = .bad := rfl
theorem eC_2 {C : Cfg} {op : BoolOp} {e : _} {ρ : _} {σ : _} : evalB C op [e] ρ σ = evalE C e ρ σ := rfl
theorem eC_3 {C : Cfg} {op : BoolOp} {e : _} {e' : _} {r : _} {ρ : _} {σ : _} : evalB C op (e :: e' :: r) ρ σ = (evalE C e ρ σ).bind fun v σ => (match truth σ v, op with
 | some false, .And => .ok v σ
 | some true, .Or => .ok v σ
 | some _, _ => evalB C op (e' :: r) ρ σ
 | none, _ => .bad) := rfl
theorem eF_1 {C : Cfg} {w1 : _} {σ : _} : evalIfs C [] w1 σ = .ok true σ := rfl
theorem eF_2 {C : Cfg} {e : _} {r : _} {ρ : _} {σ : _} : evalIfs C (e :: r) ρ σ = (evalE C e ρ σ).bind fun v σ => (match truth σ v with
 | some true => evalIfs C r ρ σ
 | some false => .ok false σ
 | none => .bad) := rfl
theorem eI_1 {C : Cfg} {es : _} {ρ : _} {σ : _} : evalIt C (.range es) ρ σ = (evalEs C es ρ σ).bind fun vs σ => (match rangeOf vs with | some xs => .ok (.items xs) σ | none => .bad) := rfl
theorem eI_2 {C : Cfg} {a : _} {b : _} {ρ : _} {σ : _} : evalIt C (.zip a b) ρ σ = (evalE C a ρ σ).bind fun x σ => (evalE C b ρ σ).bind fun y σ => (match dlist x, dlist y with | some xs, some ys => .ok (.items (zipV xs ys)) σ | _, _ => .bad) := rfl
theorem eI_3 {C : Cfg} {a : _} {ρ : _} {σ : _} : evalIt C (.enum a) ρ σ = (evalE C a ρ σ).bind fun x σ => (match dlist x with | some xs => .ok (.items (enumV 0 xs)) σ | none => .bad) := rfl
theorem eI_4 {C : Cfg} {e : _} {ρ : _} {σ : _} : evalIt C (.of e) ρ σ = (evalE C e ρ σ).bind fun x σ => (match itemsOf σ x with | some xs => .ok xs σ | none => .bad) := rfl
theorem xA_1 {C : Cfg} {x : _} {e : _} {ρ : _} {σ : _} : execS C (.asg x e) ρ σ = (evalE C e ρ σ).bind fun v σ => .ok (.next (ρ.set x (some v))) σ := rfl
theorem xA_3 {C : Cfg} {xs : _} {es : _} {ρ : _} {σ : _} : execS C (.swp xs es) ρ σ = (evalEs C es ρ σ).bind fun vs σ =>
 if vs.length = xs.length then .ok (.next (setTs ρ xs vs)) σ else .bad := rfl
theorem xA_4 {C : Cfg} {o : _} {i : _} {v : _} {ρ : _} {σ : _} : execS C (.set o i v) ρ σ = (evalE C v ρ σ).bind fun x σ => (evalE C o ρ σ).bind fun y σ => (evalE C i ρ σ).bind fun z σ => (setItemV y z x σ).bind fun _ σ => .ok (.next ρ) σ := rfl
theorem xA_6 {C : Cfg} {e : _} {ρ : _} {σ : _} : execS C (.exp e) ρ σ = (evalE C e ρ σ).bind fun _ σ => .ok (.next ρ) σ := rfl
theorem xA_7 {C : Cfg} {c : _} {a : _} {b : _} {ρ : _} {σ : _} : execS C (.ite c a b) ρ σ = (evalE C c ρ σ).bind fun v σ => (match truth σ v with
 | some true => execSs C a ρ σ
 | some false => execSs C b ρ σ
 | none => .bad) := rfl
theorem xA_8 {C : Cfg} {ts : _} {it : _} {body : _} {ρ : _} {σ : _} : execS C (.for_ ts it body) ρ σ = (evalIt C it ρ σ).bind fun vs σ =>
 forS (forStep ts (fun ρ σ => execSs C body ρ σ)) (vs.fuel σ) vs ρ σ := rfl
theorem xA_10 {C : Cfg} {e : _} {ρ : _} {σ : _} : execS C (.ret e) ρ σ = (evalE C e ρ σ).bind fun v σ => .ok (.ret v) σ := rfl
theorem xA_11 {C : Cfg} {c : _} {body : _} {ρ : _} {σ : _} : execS C (.while_ c body) ρ σ = whileGo (fun ρ σ => (evalE C c ρ σ).bind fun v σ => (match truth σ v with | some b => .ok b σ | none => .bad)) (fun ρ σ => execSs C body ρ σ) C.fuel ρ σ := rfl
theorem xB_1 {C : Cfg} {ρ : _} {σ : _} : execSs C [] ρ σ = .ok (.next ρ) σ := rfl
theorem xB_2 {C : Cfg} {s : _} {r : _} {ρ : _} {σ : _} : execSs C (s :: r) ρ σ = (execS C s ρ σ).bind fun f σ => (match f with | .next ρ => execSs C r ρ σ | .ret v => .ok (.ret v) σ) := rfl
end Mine.Internal
namespace Mine.Internal
open PySem
structure Top where
 prog : Program
 w : World
 h0 : Heap
 fn : Nat -> Option Addr
 tab : Addr
 lq : Str
inductive SeqIs (fz : Addr -> Option Obj) (cl : String) (x : Value) (P : List Value -> Prop) (n : Nat) : Prop
 | mk (a : Addr) (o : Obj) (vs : Array Value) (m : Nat) (e : x = .ref a) (hf : fz a = some o) (hc : o.cls = .type cl) (hd : o.data = .seq vs m) (hr : P vs.toList) (hl : n <= line) : SeqIs fz cl x P n
mutual
noncomputable def RepD (fz : Addr -> Option Obj) : PyData -> Value -> Prop
 | .none, x => x = .none
 | .bool b, x => x = .bool b
 | .int i, x => ∃ t, x = .int i t
 | .str s, x => ∃ t, x = .str s t ∧ s.length <= line
 | .list ds, x => SeqIs fz "list" x (fun vs => RepDs fz ds vs) ds.length
 | .tuple ds, x => SeqIs fz "tuple" x (fun vs => RepDs fz ds vs) ds.length
 | .dict _, _ => False
noncomputable def RepDs (fz : Addr -> Option Obj) : List PyData -> List Value -> Prop
 | [], [] => True
 | d :: ds, v :: vs => RepD fz d v ∧ RepDs fz ds vs
 | _, _ => False
end
structure G where
 fz : Addr -> Option Obj
 mu : List Addr
mutual
noncomputable def RepV (T : Top) (g : G) : V -> Value -> Prop
 | .d x, v => RepD g.fz x v
 | .ref k, v => ∃ a, g.mu[k + 1]? = some a ∧ v = .ref a
 | .tup ws, v => SeqIs g.fz "tuple" v (fun xs => RepVs T g ws xs) ws.length
 | .ty t, v => v = .type t
noncomputable def RepVs (T : Top) (g : G) : List V -> List Value -> Prop
 | [], [] => True
 | w :: ws, v :: vs => RepV T g w v ∧ RepVs T g ws vs
 | _, _ => False
end
inductive ListIs (o : Obj) (P : List Value -> Prop) (n : Nat) : Prop
 | mk (xs : Array Value) (m : Nat) (e : o = { cls := .type "list", dict := none, data := .seq xs m, slots := #[] }) (hr : P xs.toList) (hl : n <= line) : ListIs o P n
noncomputable def RepKV {K : Type} (fz : Addr -> Option Obj) : List (K × PyData) -> List (K × Value) -> Prop
 | [], [] => True
 | d :: ds, v :: vs => (d.1 = v.1 ∧ RepD fz d.2 v.2) ∧ RepKV fz ds vs
 | _, _ => False
inductive TabS (T : Top) (fz : Addr -> Option Obj) (o : Obj) (kvs : List (Str × PyData)) : Prop
 | mk (es : Array DictEntry) (ep : Nat) (ws : List (Str × Value)) (ho : o.ExactDict) (hd : o.data = .dict es ep) (hk : KeysOf (strKind T.prog T.w) es) (hp : Pairs (strKind T.prog T.w) es.toList ws) (hn : (ws.map (·.1)).Nodup) (hr : RepKV fz kvs ws) (hl : kvs.length <= line) : TabS T fz o kvs
noncomputable def keyP (k : Str × Int) : List (Str ⊕ Int) := [.inl k.1, .inr k.2]
noncomputable def RepKP (fz : Addr -> Option Obj) : List ((Str × Int) × PyData) -> List (List (Str ⊕ Int) × Addr × Value) -> Prop
 | [], [] => True
 | d :: ds, v :: vs => (keyP d.1 = v.1 ∧ RepD fz (.tuple [.str d.1.1, .int d.1.2]) (.ref v.2.1) ∧ RepD fz d.2 v.2.2) ∧ RepKP fz ds vs
 | _, _ => False
inductive TabP (T : Top) (fz : Addr -> Option Obj) (o : Obj) (kvs : List ((Str × Int) × PyData)) : Prop
 | mk (es : Array DictEntry) (ep : Nat) (ws : List (List (Str ⊕ Int) × Addr × Value)) (ho : o.ExactDict) (hd : o.data = .dict es ep) (he : es.toList = ws.map (entryOfKey (tupleKind (mixKind T.prog T.w)))) (hn : (ws.map (·.1)).Nodup) (hr : RepKP fz kvs ws) (hl : kvs.length <= line) : TabP T fz o kvs
noncomputable def RepO (T : Top) (g : G) : O -> Obj -> Prop
 | .list vs, o => ListIs o (fun xs => RepVs T g vs xs) vs.length
 | .dictS kvs, o => TabS T g.fz o kvs
 | .dictP kvs, o => TabP T g.fz o kvs
noncomputable def FzLe (f f' : Addr -> Option Obj) : Prop := ∀ a o, f a = some o -> f' a = some o
structure G.le (g g' : G) : Prop where
 fz : FzLe g.fz g'.fz
 mu : ∀ (k : Nat) (a : Addr), g.mu[k]? = some a -> g'.mu[k]? = some a
theorem G.le.refl (g : G) : G.le g g := ⟨fun _ _ e => e, fun _ _ e => e⟩
theorem G.le.trans {g g' g'' : G} (x : G.le g g') (y : G.le g' g'') : G.le g g'' := ⟨fun a o e => y.fz a o (x.fz a o e), fun k a e => y.mu k a (x.mu k a e)⟩
mutual
theorem RepD.mono {f f' : Addr -> Option Obj} (h : FzLe f f') : ∀ (d : PyData) (v : Value), RepD f d v -> RepD f' d v
 | .none, _, x => x
 | .bool _, _, x => x
 | .int _, _, x => x
 | .str _, _, x => x
 | .list ds, _, x => by
  obtain ⟨a, o, vs, n, e, hf, hc, hd, hr, hl⟩ := x
  exact ⟨a, o, vs, n, e, h a o hf, hc, hd, RepDs.mono h ds vs.toList hr, hl⟩
 | .tuple ds, _, x => by
  obtain ⟨a, o, vs, n, e, hf, hc, hd, hr, hl⟩ := x
  exact ⟨a, o, vs, n, e, h a o hf, hc, hd, RepDs.mono h ds vs.toList hr, hl⟩
 | .dict _, _, x => x
theorem RepDs.mono {f f' : Addr -> Option Obj} (h : FzLe f f') : ∀ (ds : List PyData) (vs : List Value), RepDs f ds vs -> RepDs f' ds vs
 | [], [], _ => trivial
 | d :: ds, v :: vs, x => ⟨RepD.mono h d v x.1, RepDs.mono h ds vs x.2⟩
 | [], _ :: _, x => x
 | _ :: _, [], x => x
end
mutual
theorem RepV.mono {T : Top} {g g' : G} (h : G.le g g') : ∀ (w : V) (v : Value), RepV T g w v -> RepV T g' w v
 | .d x, v, r => RepD.mono h.fz x v r
 | .ref k, v, r => by obtain ⟨a, e, q⟩ := r; exact ⟨a, h.mu (k + 1) a e, q⟩
 | .tup ws, v, r => by
  obtain ⟨a, o, xs, n, e, hf, hc, hd, hr, hl⟩ := r
  exact ⟨a, o, xs, n, e, h.fz a o hf, hc, hd, RepVs.mono h ws xs.toList hr, hl⟩
 | .ty _, _, r => r
theorem RepVs.mono {T : Top} {g g' : G} (h : G.le g g') : ∀ (ws : List V) (vs : List Value), RepVs T g ws vs -> RepVs T g' ws vs
 | [], [], _ => trivial
 | w :: ws, v :: vs, x => ⟨RepV.mono h w v x.1, RepVs.mono h ws vs x.2⟩
 | [], _ :: _, x => x
 | _ :: _, [], x => x
end
theorem RepKV.mono {K : Type} {f f' : Addr -> Option Obj} (h : FzLe f f') : ∀ {ds : List (K × PyData)} {vs : List (K × Value)}, RepKV f ds vs -> RepKV f' ds vs
 | [], [], _ => trivial
 | _ :: _, _ :: _, x => ⟨⟨x.1.1, RepD.mono h _ _ x.1.2⟩, RepKV.mono h x.2⟩
 | [], _ :: _, x => x
 | _ :: _, [], x => x
theorem RepKP.mono {f f' : Addr -> Option Obj} (h : FzLe f f') : ∀ {ds : List ((Str × Int) × PyData)} {vs : List (List (Str ⊕ Int) × Addr × Value)}, RepKP f ds vs -> RepKP f' ds vs
 | [], [], _ => trivial
 | _ :: _, _ :: _, x => ⟨⟨x.1.1, RepD.mono h _ _ x.1.2.1, RepD.mono h _ _ x.1.2.2⟩, RepKP.mono h x.2⟩
 | [], _ :: _, x => x
 | _ :: _, [], x => x
theorem RepO.mono {T : Top} {g g' : G} (h : G.le g g') : ∀ (o : O) (x : Obj), RepO T g o x -> RepO T g' o x
 | .list vs, _, ⟨xs, n, hd, hr, hl⟩ => ⟨xs, n, hd, RepVs.mono h vs xs.toList hr, hl⟩
 | .dictS kvs, _, x => by
  obtain ⟨es, ep, ws, ho, hd, hk, hp, hn, hr, hl⟩ := x
  exact ⟨es, ep, ws, ho, hd, hk, hp, hn, hr.mono h.fz, hl⟩
 | .dictP kvs, _, x => by
  obtain ⟨es, ep, ws, ho, hd, he, hn, hr, hl⟩ := x
  exact ⟨es, ep, ws, ho, hd, he, hn, hr.mono h.fz, hl⟩
theorem RepVs.length {T : Top} {g : G} : ∀ {ws : List V} {vs : List Value}, RepVs T g ws vs -> ws.length = vs.length
 | [], [], _ => rfl
 | _ :: _, _ :: _, x => congrArg (· + 1) (RepVs.length x.2)
 | [], _ :: _, x => x.elim
 | _ :: _, [], x => x.elim
theorem RepDs.length {fz : Addr -> Option Obj} : ∀ {ws : List PyData} {vs : List Value}, RepDs fz ws vs -> ws.length = vs.length
 | [], [], _ => rfl
 | _ :: _, _ :: _, x => congrArg (· + 1) (RepDs.length x.2)
 | [], _ :: _, x => x.elim
 | _ :: _, [], x => x.elim
theorem RepVs.get {T : Top} {g : G} : ∀ {ws : List V} {vs : List Value}, RepVs T g ws vs -> ∀ {k : Nat} {w : V}, ws[k]? = some w -> ∃ v, vs[k]? = some v ∧ RepV T g w v
 | w :: _, v :: _, x, 0, _, e => by cases e; exact ⟨v, rfl, x.1⟩
 | _ :: _, _ :: _, x, k + 1, w, e => RepVs.get x.2 (k := k) (w := w) (by simpa using e)
 | [], [], _, _, _, e => by simp at e
 | [], _ :: _, x, _, _, _ => x.elim
 | _ :: _, [], x, _, _, _ => x.elim
theorem RepVs.append {T : Top} {g : G} : ∀ {ws ws' : List V} {vs vs' : List Value}, RepVs T g ws vs -> RepVs T g ws' vs' -> RepVs T g (ws ++ ws') (vs ++ vs')
 | [], _, [], _, _, y => y
 | _ :: _, _, _ :: _, _, x, y => ⟨x.1, RepVs.append x.2 y⟩
 | [], _, _ :: _, _, x, _ => x.elim
 | _ :: _, _, [], _, x, _ => x.elim
theorem RepVs.ofD {T : Top} {g : G} : ∀ {ds : List PyData} {vs : List Value}, RepDs g.fz ds vs -> RepVs T g (ds.map .d) vs
 | [], [], _ => trivial
 | _ :: _, _ :: _, x => ⟨x.1, RepVs.ofD x.2⟩
 | [], _ :: _, x => x.elim
 | _ :: _, [], x => x.elim
theorem RepDs.ofV {T : Top} {g : G} {ws : List V} : ∀ {vs : List Value} {ds : List PyData}, RepVs T g ws vs -> allD ws = some ds -> RepDs g.fz ds vs := by
 induction ws with
 | nil =>
  intro vs ds r e
  rcases vs with _ | ⟨v, vs⟩
  ·rw [<- Option.some.inj (show some [] = some ds from e)]; exact trivial
  ·exact r.elim
 | cons w ws ih =>
  intro vs ds r e
  rcases vs with _ | ⟨v, vs⟩
  ·exact r.elim
  ·cases w with
   | d x =>
    have e : (match allD ws with | some xs => some (x :: xs) | none => none) = some ds := e
    induction h : allD ws with
    | none => rw [h] at e; exact none_ne e
    | some xs => rw [h] at e; rw [<- Option.some.inj e]; exact ⟨r.1, ih r.2 h⟩
   | _ => exact none_ne e
inductive TabIs (T : Top) (g : G) (h : Heap) : Prop
 | mk (ps : Array Value) (h0 : g.mu[0]? = some T.tab) (ho : h.get? T.tab = some { cls := .none, data := .fields ps }) (ht : TriplesOk ps.toList)
  (hc : ∀ pos cv, codeAmong pos ps.toList = some cv -> ∃ c o vs t, cv = .ref c ∧ g.fz c = some o ∧ o.data = .fields vs ∧ vs[1]? = some (.str T.lq t)) : TabIs T g h
theorem TabIs.keep {T : Top} {g g' : G} {h h' : Heap} (x : TabIs T g h) (le : G.le g g') (k : ∀ o, h.get? T.tab = some o -> h'.get? T.tab = some o) : TabIs T g' h' := by
 obtain ⟨ps, h0, ho, ht, hc⟩ := x
 refine ⟨ps, le.mu _ _ h0, k _ ho, ht, fun pos cv e => ?_⟩
 obtain ⟨c, o, vs, t, h1, h2, h3⟩ := hc pos cv e
 exact ⟨c, o, vs, t, h1, le.fz _ _ h2, h3⟩
theorem TabIs.mem {T : Top} {g : G} {h : Heap} (x : TabIs T g h) : T.tab ∈ g.mu := by obtain ⟨ps, h0, _⟩ := x; exact List.mem_of_getElem? h0
structure St (T : Top) (g : G) (σ : Store) (h : Heap) : Prop where
 fz : ∀ a o, g.fz a = some o -> h.get? a = some o
 len : g.mu.length = σ.length + 1
 nd : g.mu.Nodup
 ap : ∀ a, a ∈ g.mu -> g.fz a = none
 ob : ∀ (k : Nat) (a : Addr) (o : O), g.mu[k + 1]? = some a -> σ[k]? = some o -> ∃ x, h.get? a = some x ∧ RepO T g o x
 base : ∀ a o, T.h0.get? a = some o -> g.fz a = some o
 tb : TabIs T g h
structure Kept (X fs : List Addr) (h h' : Heap) : Prop where
 alive : ∀ b o, h.get? b = some o -> ∃ o', h'.get? b = some o'
 same : ∀ b o, h.get? b = some o -> b ∉ X -> b ∉ fs -> h'.get? b = some o
 slots : ∀ b o, h.get? b = some o -> b ∉ X -> b ∈ fs -> ∃ sl, h'.get? b = some { o with slots := sl }
theorem Kept.refl (X fs : List Addr) (h : Heap) : Kept X fs h h := ⟨fun _ o e => ⟨o, e⟩, fun _ _ e _ _ => e, fun _ o e _ _ => ⟨o.slots, e⟩⟩
theorem Kept.of_keeps {X fs : List Addr} {h h' : Heap} (k : ∀ b o, h.get? b = some o -> h'.get? b = some o) : Kept X fs h h' :=
 ⟨fun b o e => ⟨o, k b o e⟩, fun b o e _ _ => k b o e, fun b o e _ _ => ⟨o.slots, k b o e⟩⟩
theorem Kept.dead {X fs : List Addr} {h h' : Heap} (k : Kept X fs h h') {a : Addr} (e : h'.get? a = none) : h.get? a = none := by
 induction q : h.get? a with
 | none => rfl
 | some o => obtain ⟨o', e'⟩ := k.alive a o q; exact none_ne (e.symm.trans e')
structure New (g g' : G) (h : Heap) : Prop where
 mu : ∀ a, a ∈ g'.mu -> a ∈ g.mu ∨ h.get? a = none
 fz : ∀ a o, g'.fz a = some o -> g.fz a = some o ∨ h.get? a = none ∨ a ∈ g.mu
theorem New.refl (g : G) (h : Heap) : New g g h := ⟨fun _ h => .inl h, fun _ _ h => .inl h⟩
theorem New.trans {g g' g'' : G} {h h' : Heap} (x : New g g' h) (y : New g' g'' h') (hn : ∀ a, h'.get? a = none -> h.get? a = none) : New g g'' h :=
 ⟨fun a e => (y.mu a e).elim (fun q => x.mu a q) fun q => .inr (hn a q),
  fun a o e => (y.fz a o e).elim (fun q => x.fz a o q) fun q => q.elim (fun q => .inr (.inl (hn a q))) fun q => (x.mu a q).elim (fun q => .inr (.inr q)) fun q => .inr (.inl q)⟩
structure Step (T : Top) (X fs : List Addr) (g : G) (s : Shared) (g' : G) (σ' : Store) (s' : Shared) : Prop where
 le : G.le g g'
 st : St T g' σ' s'.heap
 kept : Kept X fs s.heap s'.heap
 new : New g g' s.heap
 gens : s'.gens = s.gens
 os : s'.os = s.os
theorem Kept.trans {X X' fs : List Addr} {h h' h'' : Heap} (x : Kept X fs h h') (y : Kept X' fs h' h'') (hX : ∀ a, a ∈ X' -> a ∈ X ∨ h.get? a = none) : Kept X fs h h'' := by
 have nx : ∀ b o, h.get? b = some o -> b ∉ X -> b ∉ X' := fun b o e nb q => (hX b q).elim nb fun q => by exact none_ne (q.symm.trans e)
 refine ⟨fun b o e => ?_, fun b o e nb nf => y.same b o (x.same b o e nb nf) (nx b o e nb) nf, fun b o e nb hf => ?_⟩
 ·obtain ⟨o', e'⟩ := x.alive b o e
  exact y.alive b o' e'
 ·obtain ⟨sl, e1⟩ := x.slots b o e nb hf
  obtain ⟨sl', e2⟩ := y.slots b _ e1 (nx b o e nb) hf
  exact ⟨sl', e2⟩
theorem Step.trans {T : Top} {fs : List Addr} {g g' g'' : G} {s s' s'' : Shared} {σ' σ'' : Store} (x : Step T g.mu fs g s g' σ' s') (y : Step T g'.mu fs g' s' g'' σ'' s'') : Step T g.mu fs g s g'' σ'' s'' :=
 ⟨x.le.trans y.le, y.st, x.kept.trans y.kept x.new.mu, x.new.trans y.new fun _ e => x.kept.dead e, y.gens.trans x.gens, y.os.trans x.os⟩
theorem Step.refl {T : Top} {X fs : List Addr} {g : G} {σ : Store} {s : Shared} (h : St T g σ s.heap) : Step T X fs g s g σ s :=
 ⟨.refl g, h, .refl .., .refl .., rfl, rfl⟩
end Mine.Internal
namespace Mine.Internal
open PySem
noncomputable def frsOf (fe : List Env) : List Addr := fe.filterMap (·.frame)
structure AOk (fe : List Env) (n : Nat) (A : Around) : Prop where
 frames : A.frames = some fe
 depth : A.depth + n <= 600
 units : A.units + 100 * n <= 9000
 handled : A.handled = none
theorem AOk.le {fe : List Env} {n m : Nat} {A : Around} (x : AOk fe n A) (h : m <= n) : AOk fe m A :=
 ⟨x.frames, by have := x.depth; lia, by have := x.units; lia, x.handled⟩
inductive FrAt (g : G) (h : Heap) (e : Env) : Prop
 | mk (L : Addr) (o : Obj) (hf : e.frame = some L) (ho : h.get? L = some o) (hd : ∀ vs, o.data ≠ .fields vs) (h1 : g.fz L = none) (h2 : L ∉ g.mu) : FrAt g h e
noncomputable def FrOk (g : G) (h : Heap) : List Env -> Prop
 | [] => True
 | e :: r => (e.scope.kind ≠ .module ∧ e.scope.isGenerator = false ∧ e.scope.isCoroutine = false ∧ e.builtins = builtinsNs ∧ e.globals = mainGlobals) ∧ FrAt g h e ∧ FrOk g h r
noncomputable def Apart (g : G) (h : Heap) (a : Addr) : Prop := g.fz a = none ∧ a ∉ g.mu ∧ ∃ o, h.get? a = some o
theorem Apart.step {T : Top} {X fs : List Addr} {g g' : G} {s s' : Shared} {σ' : Store} {a : Addr} (x : Step T X fs g s g' σ' s') (h : Apart g s.heap a) : Apart g' s'.heap a := by
 obtain ⟨h1, h2, o, h3⟩ := h
 refine ⟨?_, fun q => (x.new.mu a q).elim h2 (fun q => by exact some_ne (h3.symm.trans q)), x.kept.alive a o h3⟩
 induction e : g'.fz a with
 | none => rfl
 | some o =>
  rcases x.new.fz a o e with q | q | q
  ·exact none_ne (h1.symm.trans q)
  ·exact some_ne (h3.symm.trans q)
  ·exact absurd q h2
theorem Step.keepsData {T : Top} {fs : List Addr} {g g' : G} {s s' : Shared} {σ' : Store} {a : Addr} {o : Obj} (x : Step T g.mu fs g s g' σ' s') (h : s.heap.get? a = some o) (ha : a ∉ g.mu) :
 ∃ sl, s'.heap.get? a = some { o with slots := sl } := by
 by_cases hf : a ∈ fs
 ·exact x.kept.slots a o h ha hf
 ·exact ⟨o.slots, x.kept.same a o h ha hf⟩
theorem FrOk.step {T : Top} {fs : List Addr} {g g' : G} {s s' : Shared} {σ' : Store} (x : Step T g.mu fs g s g' σ' s') : ∀ {l : List Env}, FrOk g s.heap l -> FrOk g' s'.heap l
 | [], _ => trivial
 | _ :: _, ⟨k, ⟨L, o, hf, ho, hd, h1, h2⟩, r⟩ => by
  obtain ⟨sl, e⟩ := x.keepsData ho h2
  have ap := Apart.step x ⟨h1, h2, o, ho⟩
  exact ⟨k, ⟨L, _, hf, e, hd, ap.1, ap.2.1⟩, FrOk.step x r⟩
structure OwnOk (g : G) (env : Env) (h : Heap) : Prop where
 kind : env.scope.kind = .function
 glob : env.globals = mainGlobals
 blt : env.builtins = builtinsNs
 loc : Apart g h env.locals
 ns : ∃ m, h.Ns env.locals m
 cell : ∀ n, env.kindOf n = some .cell ∨ env.kindOf n = some .free -> ∃ c v, env.cells.lookup n = some c ∧ h.IsCell c v ∧ Apart g h c
 cinj : ∀ n n' c, env.cells.lookup n = some c -> env.cells.lookup n' = some c -> n = n'
noncomputable def Sees (T : Top) (g : G) (env : Env) (vars : List Str) (ρ : Vars) (h : Heap) : Prop :=
 ∀ (i : Nat) (n : Str) (v : V), vars[i]? = some n -> ρ[i]? = some (some v) ->
  (env.kindOf n = some .local -> ∃ m x, h.Ns env.locals m ∧ m n = some x ∧ RepV T g v x) ∧
  (env.kindOf n = some .cell ∨ env.kindOf n = some .free -> ∃ c x, env.cells.lookup n = some c ∧ h.IsCell c (some x) ∧ RepV T g v x)
structure Inv (T : Top) (fe : List Env) (own : List Addr) (wr : List Str) (env : Env) (vars : List Str) (ρ : Vars) (g : G) (σ : Store) (h : Heap) : Prop where
 st : St T g σ h
 fr : FrOk g h fe
 top : ∃ e r, fe = e :: r ∧ e.frame = env.frame
 blk : OwnOk g env h
 sees : Sees T g env vars ρ h
 nd : vars.Nodup
 oloc : env.locals ∈ own
 ocell : ∀ n, n ∈ wr -> ∀ c, env.kindOf n = some .cell -> env.cells.lookup n = some c -> c ∈ own
 oap : ∀ a, a ∈ own -> Apart g h a
theorem ns_slots {h h' : Heap} {a : Addr} {m : Str -> Option Value} (hn : h.Ns a m) (k : ∀ o, h.get? a = some o -> ∃ sl, h'.get? a = some { o with slots := sl }) : h'.Ns a m := by
 obtain ⟨o, es, ep, ho, hd, r⟩ := hn
 obtain ⟨sl, e⟩ := k o ho
 exact ⟨_, es, ep, e, hd, r⟩
theorem cell_slots {h h' : Heap} {a : Addr} {v : Option Value} (hn : h.IsCell a v) (k : ∀ o, h.get? a = some o -> ∃ sl, h'.get? a = some { o with slots := sl }) : h'.IsCell a v := by
 obtain ⟨o, ho, hd⟩ := hn
 obtain ⟨sl, e⟩ := k o ho
 exact ⟨_, e, hd⟩
section
variable {T : Top} {fs : List Addr} {g g' : G} {s s' : Shared} {σ σ' : Store} {fe : List Env} {env : Env} {vars : List Str} {ρ : Vars}
theorem OwnOk.step (x : Step T g.mu fs g s g' σ' s') (o : OwnOk g env s.heap) : OwnOk g' env s'.heap := by
 refine ⟨o.kind, o.glob, o.blt, o.loc.step x, ?_, fun n hn => ?_, o.cinj⟩
 ·obtain ⟨m, hm⟩ := o.ns
  exact ⟨m, ns_slots hm fun ob ho => x.keepsData ho o.loc.2.1⟩
 ·obtain ⟨c, v, h1, h2, h3⟩ := o.cell n hn
  exact ⟨c, v, h1, cell_slots h2 fun ob ho => x.keepsData ho h3.2.1, h3.step x⟩
theorem Sees.step (x : Step T g.mu fs g s g' σ' s') (o : OwnOk g env s.heap) (v : Sees T g env vars ρ s.heap) : Sees T g' env vars ρ s'.heap := by
 intro i n w hi hw
 refine cps_ fun R_ k_ => ?_
 obtain ⟨h1, h2⟩ := v i n w hi hw
 refine k_ ?_
 refine ⟨fun hk => ?_, fun hk => ?_⟩
 ·refine cps_ fun R_ k_ => ?_; obtain ⟨m, y, hm, hy, hr⟩ := h1 hk
  refine k_ ?_
  exact ⟨m, y, ns_slots hm fun ob ho => x.keepsData ho o.loc.2.1, hy, RepV.mono x.le _ _ hr⟩
 ·refine cps_ fun R_ k_ => ?_; obtain ⟨c, y, hc, hy, hr⟩ := h2 hk
  obtain ⟨c', v', e1, e2, e3⟩ := o.cell n hk
  obtain rfl := Option.some.inj (hc.symm.trans e1)
  refine k_ ?_
  exact ⟨c, y, hc, cell_slots hy fun ob ho => x.keepsData ho e3.2.1, RepV.mono x.le _ _ hr⟩
theorem Inv.step {own : List Addr} {wr : List Str} (x : Step T g.mu fs g s g' σ' s') (i : Inv T fe own wr env vars ρ g σ s.heap) : Inv T fe own wr env vars ρ g' σ' s'.heap :=
 ⟨x.st, i.fr.step x, i.top, i.blk.step x, i.sees.step x i.blk, i.nd, i.oloc, i.ocell, fun a h => (i.oap a h).step x⟩
end
inductive OkR {α β : Type} (T : Top) (fs : List Addr) (g : G) (s : Shared) (rep : G -> β -> α -> Prop) (r : Res β) (x : α) (s' : Shared) : Prop
 | mk (b : β) (σ' : Store) (g' : G) (e : r = .ok b σ') (st : Step T g.mu fs g s g' σ' s') (rv : rep g' b x) : OkR T fs g s rep r x s'
theorem OkR.after {α β : Type} {T : Top} {fs : List Addr} {g g₁ : G} {s s₁ s' : Shared} {σ₁ : Store} {rep : G -> β -> α -> Prop} {r : Res β} {x : α} (st : Step T g.mu fs g s g₁ σ₁ s₁) (h : OkR T fs g₁ s₁ rep r x s') : OkR T fs g s rep r x s' := by
 cases h with | mk b σ' g' e st' rv => exact ⟨b, σ', g', e, st.trans st', rv⟩
theorem bind_ne {β γ : Type} {r : Res β} {f : β -> Store -> Res γ} (h : r.bind f ≠ .bad) : r ≠ .bad := fun q => h (by rw [q]; rfl)
noncomputable def Sim {α β : Type} (T : Top) (fs : List Addr) (A : Around) (g : G) (s : Shared) (m : Sem α) (rep : G -> β -> α -> Prop) (r : Res β) : Prop :=
 r ≠ .bad -> wpAny (model T.prog T.w) A m (OkR T fs g s rep r) (fun _ _ => False) s
section
variable {α β γ δ : Type} {T : Top} {fs : List Addr} {A : Around} {g : G} {s : Shared}
theorem Sim.bad {m : Sem α} {rep : G -> β -> α -> Prop} : Sim T fs A g s m rep .bad := fun h => absurd rfl h
theorem Sim.of {m : Sem α} {rep : G -> β -> α -> Prop} {b : β} {σ' : Store} (h : wpAny (model T.prog T.w) A m (fun x s' => ∃ g', Step T g.mu fs g s g' σ' s' ∧ rep g' b x) (fun _ _ => False) s) :
 Sim T fs A g s m rep (.ok b σ') := fun _ =>
 wpAny_mono h (fun _ _ hz_ => by obtain ⟨g', h1, h2⟩ := hz_; exact ⟨b, σ', g', rfl, h1, h2⟩) fun _ _ x => x
theorem Sim.pure {x : α} {rep : G -> β -> α -> Prop} {b : β} {σ : Store} (st : St T g σ s.heap) (h : rep g b x) : Sim T fs A g s (pure x) rep (.ok b σ) :=
 Sim.of (wpAny_pure ⟨g, .refl st, h⟩)
theorem Sim.use {m : Sem α} {rep : G -> β -> α -> Prop} {r : Res β} {f : β -> Store -> Res δ} {rep' : G -> δ -> γ -> Prop} {k : α -> Sem γ} (h : Sim T fs A g s m rep r)
 (hk : ∀ x b σ' g' s', r = .ok b σ' -> Step T g.mu fs g s g' σ' s' -> rep g' b x -> Sim T fs A g' s' (k x) rep' (f b σ')) (hr : r.bind f ≠ .bad) :
 wpAny (model T.prog T.w) A m (fun x s' => wpAny (model T.prog T.w) A (k x) (OkR T fs g s rep' (r.bind f)) (fun _ _ => False) s') (fun _ _ => False) s := by
 refine wpAny_mono (h (bind_ne hr)) (fun x s' hz_ => ?_) fun _ _ h => h
 obtain ⟨b, σ', g', e, st, rp⟩ := hz_
 have hk' := hk x b σ' g' s' e st rp (by rw [e] at hr; exact hr)
 refine wpAny_mono hk' (fun y s'' hz_ => ?_) fun _ _ h => h
 obtain ⟨b', σ'', g'', e', st', rp'⟩ := hz_
 exact ⟨b', σ'', g'', by rw [e]; exact e', st.trans st', rp'⟩
theorem Sim.bind {m : Sem α} {rep : G -> β -> α -> Prop} {r : Res β} {f : β -> Store -> Res δ} {rep' : G -> δ -> γ -> Prop} {k : α -> Sem γ} (h : Sim T fs A g s m rep r)
 (hk : ∀ x b σ' g' s', r = .ok b σ' -> Step T g.mu fs g s g' σ' s' -> rep g' b x -> Sim T fs A g' s' (k x) rep' (f b σ')) : Sim T fs A g s (m >>= k) rep' (r.bind f) :=
 fun hr => wpAny_bind (h.use hk hr)
theorem Sim.holding {vs : List Value} {m : Sem α} {rep : G -> β -> α -> Prop} {r : Res β} (h : Sim T fs A g s m rep r) : Sim T fs A g s (holding vs m) rep r :=
 fun hr => wpAny_holding (h hr)
theorem Sim.standAt {pos : Pos} {k : Unit -> Sem α} {rep : G -> β -> α -> Prop} {r : Res β} (h : Sim T fs A g s (k ()) rep r) : Sim T fs A g s (standAt pos >>= k) rep r :=
 fun hr => wpAny_bind (wpAny_standAt (h hr))
theorem Sim.operate {vs : List Value} {m : Sem Value} {rep : G -> β -> Value -> Prop} {r : Res β} (h : Sim T fs A g s m rep r) : Sim T fs A g s (operate vs m) rep r :=
 fun hr => wpAny_operating (h hr)
theorem Sim.mono {m : Sem α} {rep rep' : G -> β -> α -> Prop} {r : Res β} (h : Sim T fs A g s m rep r) (hm : ∀ g b x, rep g b x -> rep' g b x) : Sim T fs A g s m rep' r :=
 fun hr => wpAny_mono (h hr) (fun _ _ hz_ => by obtain ⟨b, σ', g', e, st, rp⟩ := hz_; exact ⟨b, σ', g', e, st, hm _ _ _ rp⟩) fun _ _ x => x
end
end Mine.Internal
namespace Mine.Internal
open PySem
section
variable {T : Top} {X fs : List Addr} {g : G} {σ : Store} {s s' : Shared}
theorem Step.heapEq (st : St T g σ s.heap) (h : s'.heap = s.heap := by rfl) (hg : s'.gens = s.gens := by rfl) (ho : s'.os = s.os := by rfl) : Step T X fs g s g σ s' :=
 ⟨.refl g, h ▸ st, h ▸ .refl .., .refl .., hg, ho⟩
theorem St.fz_none (st : St T g σ s.heap) {a : Addr} (h : s.heap.get? a = none) : g.fz a = none := by
 induction e : g.fz a with
 | none => rfl
 | some o => have := st.fz a o e; exact none_ne (h.symm.trans this)
theorem St.mu_alive (st : St T g σ s.heap) {a : Addr} (h : a ∈ g.mu) : ∃ o, s.heap.get? a = some o := by
 obtain ⟨k, hk, e⟩ := List.mem_iff_getElem.mp h
 have hl := st.len
 cases k with
 | zero =>
  obtain ⟨ps, h0, ho, _⟩ := st.tb
  rw [List.getElem?_eq_getElem hk, e] at h0
  rw [Option.some.inj h0]; exact ⟨_, ho⟩
 | succ k =>
  have hσ : k < σ.length := by lia
  obtain ⟨x, hx, _⟩ := st.ob k a σ[k] (by rw [List.getElem?_eq_getElem hk, e]) (List.getElem?_eq_getElem hσ)
  exact ⟨x, hx⟩
theorem St.mu_none (st : St T g σ s.heap) {a : Addr} (h : s.heap.get? a = none) : a ∉ g.mu := fun q => by
 obtain ⟨o, e⟩ := st.mu_alive q
 exact none_ne (h.symm.trans e)
theorem atSize (h : Heap) : h.get? h.objs.size = none := Heap.get?_none_of_le (Nat.le_refl _)
theorem Step.grow (st : St T g σ s.heap) (hk : ∀ b x, s.heap.get? b = some x -> s'.heap.get? b = some x) (hg : s'.gens = s.gens := by rfl) (ho : s'.os = s.os := by rfl) : Step T X fs g s g σ s' := by
 refine ⟨.refl g, ⟨fun a o e => hk _ _ (st.fz a o e), st.len, st.nd, st.ap, fun k a o e1 e2 => ?_, st.base, st.tb.keep (.refl g) fun o e => hk _ _ e⟩, .of_keeps hk, .refl .., hg, ho⟩
 obtain ⟨x, h1, h2⟩ := st.ob k a o e1 e2
 exact ⟨x, hk _ _ h1, h2⟩
noncomputable def G.put (g : G) (a : Addr) (o : Obj) : G := ⟨fun b => if b = a then some o else g.fz b, g.mu⟩
theorem G.le.put {g : G} {a : Addr} {o : Obj} (h : g.fz a = none) : G.le g (g.put a o) :=
 ⟨fun b x e => by show (if b = a then some o else g.fz b) = some x; rw [if_neg (fun q => by rw [q, h] at e; exact none_ne e)]; exact e, fun _ _ e => e⟩
theorem G.put_self {g : G} {a : Addr} {o : Obj} : (g.put a o).fz a = some o := if_pos rfl
theorem St.put (st : St T g σ s.heap) {h' : Heap} {a : Addr} {o : Obj} (hk : ∀ b x, s.heap.get? b = some x -> h'.get? b = some x) (ha : h'.get? a = some o) (hn : s.heap.get? a = none) : St T (g.put a o) σ h' := by
 have le : G.le g (g.put a o) := .put (st.fz_none hn)
 refine ⟨fun b x e => ?_, st.len, st.nd, fun b hb => ?_, fun k b x e1 e2 => ?_, fun b x e => le.fz b x (st.base b x e), st.tb.keep le fun o e => hk _ _ e⟩
 ·by_cases q : b = a
  ·subst q
   have e' : (if b = b then some o else g.fz b) = some x := e
   rw [if_pos rfl] at e'
   obtain rfl := Option.some.inj e'; exact ha
  ·have e' : (if b = a then some o else g.fz b) = some x := e
   rw [if_neg q] at e'
   exact hk _ _ (st.fz b x e')
 ·show (if b = a then some o else g.fz b) = none
  rw [if_neg (fun (q : b = a) => st.mu_none hn (q ▸ hb))]
  exact st.ap b hb
 ·obtain ⟨y, h1, h2⟩ := st.ob k b x e1 e2
  exact ⟨y, hk _ _ h1, RepO.mono le _ _ h2⟩
theorem Step.put (st : St T g σ s.heap) {a : Addr} {o : Obj} (hk : ∀ b x, s.heap.get? b = some x -> s'.heap.get? b = some x) (ha : s'.heap.get? a = some o) (hn : s.heap.get? a = none)
 (hg : s'.gens = s.gens := by rfl) (ho : s'.os = s.os := by rfl) : Step T X fs g s (g.put a o) σ s' := by
 refine ⟨.put (st.fz_none hn), st.put hk ha hn, .of_keeps hk, ⟨fun _ h => .inl h, fun b x e => ?_⟩, hg, ho⟩
 by_cases q : b = a
 ·exact .inr (.inl (q ▸ hn))
 ·have e' : (if b = a then some o else g.fz b) = some x := e
  rw [if_neg q] at e'
  exact .inl e'
noncomputable def G.add (g : G) (a : Addr) : G := ⟨g.fz, g.mu ++ [a]⟩
theorem G.le.add {g : G} {a : Addr} : G.le g (g.add a) :=
 ⟨fun _ _ e => e, fun k b e => by show (g.mu ++ [a])[k]? = some b; rw [List.getElem?_append_left (List.getElem?_eq_some_iff.mp e).1]; exact e⟩
theorem Step.add (st : St T g σ s.heap) {a : Addr} {x : Obj} {o : O} (hk : ∀ b x, s.heap.get? b = some x -> s'.heap.get? b = some x) (ha : s'.heap.get? a = some x) (hn : s.heap.get? a = none) (hr : RepO T (g.add a) o x)
 (hg : s'.gens = s.gens := by rfl) (ho : s'.os = s.os := by rfl) : Step T X fs g s (g.add a) (σ ++ [o]) s' := by
 have hna : a ∉ g.mu := st.mu_none hn
 refine ⟨.add, ⟨fun b y e => hk _ _ (st.fz b y e), by simp [G.add, st.len], ?_, fun b hb => ?_, fun k b y e1 e2 => ?_, st.base, st.tb.keep .add fun o e => hk _ _ e⟩, .of_keeps hk, ⟨fun b hb => ?_, fun _ _ e => .inl e⟩, hg, ho⟩
 ·show (g.mu ++ [a]).Nodup
  rw [List.nodup_append]
  exact ⟨st.nd, by simp, fun x hx y hy q => hna (by simp only [List.mem_singleton] at hy; rw [<- hy, <- q]; exact hx)⟩
 ·rcases List.mem_append.mp (show b ∈ g.mu ++ [a] from hb) with q | q
  ·exact st.ap b q
  ·rw [List.mem_singleton.mp q]; exact st.fz_none hn
 ·have e1' : (g.mu ++ [a])[k + 1]? = some b := e1
  have hl := st.len
  by_cases hkl : k < σ.length
  ·rw [List.getElem?_append_left (by lia)] at e1'
   rw [List.getElem?_append_left hkl] at e2
   obtain ⟨z, h1, h2⟩ := st.ob k b y e1' e2
   exact ⟨z, hk _ _ h1, RepO.mono .add _ _ h2⟩
  ·have hk' : k = σ.length := by
    have := (List.getElem?_eq_some_iff.mp e1').1
    simp at this; lia
   subst hk'
   rw [<- hl, List.getElem?_append_right (Nat.le_refl _)] at e1'
   rw [List.getElem?_append_right (Nat.le_refl _)] at e2
   simp only [Nat.sub_self, List.getElem?_cons_zero, Option.some.injEq] at e1' e2
   subst e1' e2
   exact ⟨x, ha, hr⟩
 ·rcases List.mem_append.mp (show b ∈ g.mu ++ [a] from hb) with q | q
  ·exact .inl q
  ·exact .inr (by rw [List.mem_singleton.mp q]; exact hn)
end
theorem line_eq : line = sizeLine := by unfold sizeLine; rfl
theorem made_at {T : Top} {g : G} {σ : Store} {h : Heap} {a : Addr} (st : St T g σ h) : (g.add a).mu[σ.length + 1]? = some a := by
 show (g.mu ++ [a])[σ.length + 1]? = some a
 rw [<- st.len, List.getElem?_append_right (Nat.le_refl _), Nat.sub_self]; rfl
theorem made_list {T : Top} {fs : List Addr} {g : G} {σ : Store} {s s' : Shared} {a : Addr} {xs : Array Value} {n : Nat} {vs : List V} {fz : Bool} (st : St T g σ s.heap)
 (hk : ∀ b x, s.heap.get? b = some x -> s'.heap.get? b = some x) (ha : s'.heap.get? a = some { cls := .type "list", dict := none, data := .seq xs n, slots := #[] }) (hn : s.heap.get? a = none) (hr : RepVs T g vs xs.toList)
 (hb : mkList fz vs σ ≠ .bad) (hg : s'.gens = s.gens := by rfl) (ho : s'.os = s.os := by rfl) :
 OkR T fs g s (RepV T) (mkList fz vs σ) (.ref a) s' := by
 unfold mkList at hb ⊢
 by_cases hl : vs.length <= line
 ·rw [if_pos hl] at hb ⊢
  induction fz with
  | true =>
   induction hd : allD vs with
   | none => rw [hd] at hb; exact absurd rfl hb
   | some ds =>
    refine ⟨_, σ, g.put a _, rfl, .put st hk ha hn hg ho, ⟨a, _, xs, n, rfl, G.put_self, rfl, rfl, RepDs.mono (G.le.put (st.fz_none hn)).fz _ _ (RepDs.ofV hr hd), by rw [(RepDs.ofV hr hd).length, <- hr.length]; exact hl⟩⟩
  | false =>
   refine ⟨_, _, g.add a, rfl, .add st hk ha hn ⟨xs, n, rfl, RepVs.mono .add _ _ hr, hl⟩ hg ho, ⟨a, made_at st, rfl⟩⟩
 ·rw [if_neg hl] at hb; exact absurd rfl hb
theorem made_tuple {T : Top} {fs : List Addr} {g : G} {σ : Store} {s s' : Shared} {a : Addr} {o : Obj} {xs : Array Value} {n : Nat} {vs : List V} (st : St T g σ s.heap)
 (hk : ∀ b x, s.heap.get? b = some x -> s'.heap.get? b = some x) (ha : s'.heap.get? a = some o) (hc : o.cls = .type "tuple") (hd : o.data = .seq xs n) (hn : s.heap.get? a = none) (hr : RepVs T g vs xs.toList) (hl : vs.length <= line)
 (hg : s'.gens = s.gens := by rfl) (ho : s'.os = s.os := by rfl) :
 ∃ g', Step T g.mu fs g s g' σ s' ∧ RepV T g' (mkTup vs) (.ref a) := by
 refine ⟨g.put a o, .put st hk ha hn hg ho, ?_⟩
 have le : G.le g (g.put a o) := .put (st.fz_none hn)
 unfold mkTup
 induction hd' : allD vs with
 | none => exact ⟨a, o, xs, n, rfl, G.put_self, hc, hd, RepVs.mono le _ _ hr, hl⟩
 | some ds => exact ⟨a, o, xs, n, rfl, G.put_self, hc, hd, RepDs.mono le.fz _ _ (RepDs.ofV hr hd'), by rw [(RepDs.ofV hr hd').length, <- hr.length]; exact hl⟩
theorem if_some {α : Type} {c : Prop} [Decidable c] {a b : α} (h : (if c then some a else none) = some b) : c ∧ a = b := by
 by_cases hc : c
 ·rw [if_pos hc] at h; exact ⟨hc, Option.some.inj h⟩
 ·rw [if_neg hc] at h; exact none_ne h
theorem lstOf_rep {T : Top} {g : G} {σ : Store} {h : Heap} (st : St T g σ h) {v : V} {x : Value} {vs : List V} (r : RepV T g v x) (e : lstOf σ v = some vs) :
 ∃ a xs, x = .ref a ∧ h.IsList a xs ∧ RepVs T g vs xs.toList ∧ xs.size <= line := by
 cases v with
 | d y =>
  cases y with
  | list ds =>
   obtain rfl : ds.map .d = vs := Option.some.inj e
   obtain ⟨a, o, ws, n, e1, e2, e3, e4, e5, e6⟩ := r
   exact ⟨a, ws, e1, ⟨o, st.fz _ _ e2, e3, n, e4⟩, RepVs.ofD e5, by rw [<- Array.length_toList, <- e5.length]; exact e6⟩
  | _ => exact none_ne e
 | ref k =>
  obtain ⟨a, e1, e2⟩ := r
  have e : (match σ[k]? with | some (.list vs) => some vs | _ => none) = some vs := e
  induction ho : σ[k]? with
  | none => rw [ho] at e; exact none_ne e
  | some o =>
   rw [ho] at e
   induction o with
   | list ws =>
    obtain rfl : ws = vs := Option.some.inj e
    obtain ⟨y, hy, xs, n, q, hr, hl⟩ := st.ob k a _ e1 ho
    subst q
    exact ⟨a, xs, e2, ⟨_, hy, rfl, n, rfl⟩, hr, by rw [<- Array.length_toList, <- hr.length]; exact hl⟩
   | _ => exact none_ne e
 | _ => exact none_ne e
theorem seqOf_rep {T : Top} {g : G} {σ : Store} {h : Heap} (st : St T g σ h) {v : V} {x : Value} {vs : List V} (r : RepV T g v x) (e : seqOf σ v = some vs) :
 ∃ a o xs n, x = .ref a ∧ h.get? a = some o ∧ (o.cls = .type "list" ∨ o.cls = .type "tuple") ∧ o.data = .seq xs n ∧ RepVs T g vs xs.toList ∧ xs.size <= line := by
 cases v with
 | d y =>
  cases y with
  | list ds =>
   obtain rfl : ds.map .d = vs := Option.some.inj e
   obtain ⟨a, o, ws, n, e1, e2, e3, e4, e5, e6⟩ := r
   exact ⟨a, o, ws, n, e1, st.fz _ _ e2, .inl e3, e4, RepVs.ofD e5, by rw [<- Array.length_toList, <- e5.length]; exact e6⟩
  | tuple ds =>
   obtain rfl : ds.map .d = vs := Option.some.inj e
   obtain ⟨a, o, ws, n, e1, e2, e3, e4, e5, e6⟩ := r
   exact ⟨a, o, ws, n, e1, st.fz _ _ e2, .inr e3, e4, RepVs.ofD e5, by rw [<- Array.length_toList, <- e5.length]; exact e6⟩
  | _ => exact none_ne e
 | tup ws =>
  obtain rfl : ws = vs := Option.some.inj e
  obtain ⟨a, o, xs, n, e1, e2, e3, e4, e5, e6⟩ := r
  exact ⟨a, o, xs, n, e1, st.fz _ _ e2, .inr e3, e4, e5, by rw [<- Array.length_toList, <- e5.length]; exact e6⟩
 | ref k =>
  obtain ⟨a, e1, e2⟩ := r
  have e : (match σ[k]? with | some (.list vs) => some vs | _ => none) = some vs := e
  induction ho : σ[k]? with
  | none => rw [ho] at e; exact none_ne e
  | some o =>
   rw [ho] at e
   induction o with
   | list ws =>
    obtain rfl : ws = vs := Option.some.inj e
    obtain ⟨y, hy, xs, n, q, hr, hl⟩ := st.ob k a _ e1 ho
    subst q
    exact ⟨a, _, xs, n, e2, hy, .inl rfl, rfl, hr, by rw [<- Array.length_toList, <- hr.length]; exact hl⟩
   | _ => exact none_ne e
 | _ => exact none_ne e
end Mine.Internal
namespace Mine.Internal
open PySem PySem.Calls
structure TopOk (T : Top) : Prop where
 nolimit : T.h0.NoLimit
 seer : T.h0.NoSeer
 tree : T.prog.given.tree = none
 mods : ∃ o, T.h0.get? sysModules = some o
section
variable {T : Top} {fe : List Env} {A : Around} {g : G} {σ : Store} {s : Shared} {n : Nat}
theorem St.keepsBase (st : St T g σ s.heap) : ∀ b o, T.h0.get? b = some o -> s.heap.get? b = some o := fun b o e => st.fz b o (st.base b o e)
theorem Sim.tok {α : Type} {m : Sem Value} {b : V} {fs : List Addr} (st : St T g σ s.heap) (h : ∀ Q : Value -> Shared -> Prop, (∀ x k, RepV T g b x -> Q x { s with toks := k }) -> wpAny (model T.prog T.w) A m Q (fun _ _ => False) s) :
 Sim T fs A g s m (RepV T) (.ok b σ) :=
 Sim.of (h _ fun x k r => ⟨g, .heapEq st, r⟩)
theorem room_pylong (ok : TopOk T) (st : St T g σ s.heap) (fr : FrOk g s.heap fe) (ha : AOk fe n A) (hne : fe ≠ []) : PylongRoom (model T.prog T.w) A s := by
 induction fe with
 | nil => exact absurd rfl hne
 | cons e r =>
  refine cps_ fun R_ k_ => ?_
  obtain ⟨⟨k1, k2, k3, k4, k5⟩, _⟩ := fr
  refine k_ ?_
  refine PylongRoom.of (ok.nolimit.keeps st.keepsBase) (by have := ha.depth; show A.depth + 100 < 1000; lia) (SeerAt.of (ok.seer.keeps st.keepsBase) ok.tree ha.frames k2 k3 k4 k5)
theorem small_bits {i : Int} (h : small i = true) : Builtin.Int.intBits i <= 64 := by
 simp only [small, Bool.and_eq_true, decide_eq_true_eq] at h
 exact intBits_le_64 (by lia) (by lia)
theorem RepDs.append {fz : Addr -> Option Obj} : ∀ {ws ws' : List PyData} {vs vs' : List Value}, RepDs fz ws vs -> RepDs fz ws' vs' -> RepDs fz (ws ++ ws') (vs ++ vs')
 | [], _, [], _, _, y => y
 | _ :: _, _, _ :: _, _, x, y => ⟨x.1, RepDs.append x.2 y⟩
 | [], _, _ :: _, _, x, _ => x.elim
 | _ :: _, _, [], _, x, _ => x.elim
theorem list_obj {h : Heap} {a : Addr} {xs : Array Value} (x : h.IsList a xs) : ∃ n dd sl, h.get? a = some { cls := .type "list", dict := dd, data := .seq xs n, slots := sl } := by
 refine cps_ fun R_ k_ => ?_
 obtain ⟨⟨c, dd, data, sl⟩, ho, hc, n, hd⟩ := x
 simp only at hc hd
 refine k_ ?_
 subst hc hd
 exact ⟨n, dd, sl, ho⟩
theorem isIntV_rep {v : V} {x : Value} {i : Int} (r : RepV T g v x) (h : isIntV v = some i) : ∃ t, x = .int i t := by
 cases v with
 | d y => cases y with
  | int j => cases h; exact r
  | _ => exact none_ne h
 | _ => exact none_ne h
theorem isTupV_rep {v : V} {x : Value} {xs : List PyData} (r : RepV T g v x) (h : isTupV v = some xs) : SeqIs g.fz "tuple" x (fun vs => RepDs g.fz xs vs) xs.length := by
 cases v with
 | d y => cases y with
  | tuple j => cases h; exact r
  | _ => exact none_ne h
 | _ => exact none_ne h
theorem isStrV_rep {v : V} {x : Value} {i : Str} (r : RepV T g v x) (h : isStrV v = some i) : ∃ t, x = .str i t ∧ i.length <= line := by
 cases v with
 | d y => cases y with
  | str j => cases h; exact r
  | _ => exact none_ne h
 | _ => exact none_ne h
theorem sim_binop (ok : TopOk T) (fz : Bool) (op : Operator) {a b : V} {x y : Value} (st : St T g σ s.heap) (fr : FrOk g s.heap fe) (ha : AOk fe n A) (hne : fe ≠ []) (ra : RepV T g a x) (rb : RepV T g b y) :
 Sim T (frsOf fe) A g s (binaryOp op x y) (RepV T) (binop fz op a b σ) := by
 have twoI : ∀ {f : Int -> Int -> Res V}, (∀ i j t u, x = .int i t -> y = .int j u -> Sim T (frsOf fe) A g s (binaryOp op x y) (RepV T) (f i j)) -> Sim T (frsOf fe) A g s (binaryOp op x y) (RepV T) (match isIntV a, isIntV b with | some i, some j => f i j | _, _ => .bad) := fun {f} h => by
  induction e1 : isIntV a with
  | none => exact Sim.bad
  | some i => induction e2 : isIntV b with
   | none => exact Sim.bad
   | some j =>
    obtain ⟨t, q1⟩ := isIntV_rep ra e1
    obtain ⟨u, q2⟩ := isIntV_rep rb e2
    exact h i j t u q1 q2
 induction op with
 | Add =>
  show Sim _ _ _ _ _ _ _ (binAdd fz a b σ)
  unfold binAdd
  induction ea : isIntV a with
  | some i => induction eb : isIntV b with
   | none => exact Sim.bad
   | some j =>
    obtain ⟨t, rfl⟩ := isIntV_rep ra ea; obtain ⟨u, rfl⟩ := isIntV_rep rb eb
    exact Sim.tok (α := Unit) st fun Q h => P.add_int (h _ _ ⟨_, rfl⟩)
  | none => induction ea : isStrV a with
   | some i => induction eb : isStrV b with
    | none => exact Sim.bad
    | some j =>
     obtain ⟨t, rfl, _⟩ := isStrV_rep ra ea; obtain ⟨u, rfl, _⟩ := isStrV_rep rb eb
     show Sim _ _ _ _ _ _ _ (if i.length + j.length <= line then _ else _)
     split
     ·rename_i hl
      exact Sim.tok (α := Unit) st fun Q h => SB.add (fun t' k => h _ _ ⟨_, rfl, by rw [Str.length_append]; exact hl⟩) (line_eq ▸ hl)
     ·exact Sim.bad
   | none =>
    show Sim _ _ _ _ _ _ _ (lstAdd fz a b σ)
    unfold lstAdd
    induction e1 : lstOf σ a with
    | none => exact Sim.bad
    | some xs => induction e2 : lstOf σ b with
    | none => exact Sim.bad
    | some ys =>
    show Sim _ _ _ _ _ _ _ (mkList fz (xs ++ ys) σ)
    obtain ⟨la, ia, rfl, ha1, ha2, _⟩ := lstOf_rep st ra e1
    obtain ⟨lb, ib, rfl, hb1, hb2, _⟩ := lstOf_rep st rb e2
    obtain ⟨n1, d1, s1, o1⟩ := list_obj ha1
    obtain ⟨n2, d2, s2, o2⟩ := list_obj hb1
    intro hr
    have hsz : (xs ++ ys).length <= line := by
     by_cases q : (xs ++ ys).length <= line
     ·exact q
     ·exact absurd (by unfold mkList; rw [if_neg q]) hr
    have hlen : ia.size + ib.size <= sizeLine := by
     have := RepVs.length ha2; have := RepVs.length hb2
     rw [<- line_eq]
     simp only [List.length_append, Array.length_toList] at *
     lia
    refine concat_meets ⟨_, o1, rfl⟩ ⟨_, o2, rfl⟩ noFill_list_add seq_list_add PySem.F.slot_list_add PySem.F.entry_list_add (PySem.F.args_list_add_2 _ _) (PyProof.Rows.list_addW la lb ia ib n1 n2 d1 d2 s1 s2 hlen) ⟨o1, o2, ?_⟩
    have hr2 : RepVs T g (xs ++ ys) (ia ++ ib).toList := by rw [Array.toList_append]; exact RepVs.append ha2 hb2
    exact made_list st (fun b x e => Heap.get?_push_of_some _ e) (Heap.get?_push_size _ rfl) (atSize _) hr2 hr
 | Sub =>
  refine twoI fun i j t u q1 q2 => ?_
  subst q1 q2
  exact Sim.tok (α := Unit) st fun Q h => P.sub_int (h _ _ ⟨_, rfl⟩)
 | FloorDiv =>
  refine twoI fun i j t u q1 q2 => ?_
  subst q1 q2
  split
  ·exact Sim.bad
  ·rename_i hj
   exact Sim.tok (α := Unit) st fun Q h => PyProof.Rows.floordiv_int hj (h _ _ ⟨_, rfl⟩) (Or.inr (room_pylong ok st fr ha hne))
 | Mod =>
  refine twoI fun i j t u q1 q2 => ?_
  subst q1 q2
  split
  ·exact Sim.bad
  ·rename_i hj
   exact Sim.tok (α := Unit) st fun Q h => PyProof.Rows.mod_int' hj (h _ _ ⟨_, rfl⟩)
 | Mult =>
  refine twoI fun i j t u q1 q2 => ?_
  subst q1 q2
  split
  ·rename_i hs
   refine Sim.tok (α := Unit) st fun Q h => P.mul_int (h _ _ ⟨_, rfl⟩) ?_
   rcases Bool.or_eq_true _ _ ▸ hs with hs | hs
   ·exact IntMulOk.of_left (small_bits hs)
   ·exact IntMulOk.of_right (small_bits hs)
  ·exact Sim.bad
 | _ => exact Sim.bad
end
end Mine.Internal
namespace Mine.Internal
open PySem PySem.Calls PySem.SeqAt
noncomputable def tagD : PyData -> Nat
 | .none => 0 | .bool _ => 1 | .int _ => 2 | .str _ => 3 | .list _ => 4 | .tuple _ => 5 | .dict _ => 6
noncomputable def tagV (f : Addr -> Option Obj) : Value -> Nat
 | .none => 0 | .bool _ => 1 | .int _ _ => 2 | .str _ _ => 3
 | .ref a => (match f a with | some o => if o.cls == .type "list" then 4 else 5 | none => 7)
 | _ => 7
theorem tag_of {f : Addr -> Option Obj} {d : PyData} {x : Value} (h : RepD f d x) : tagV f x = tagD d := by
 cases d with
 | none => have h : x = .none := h; rw [h]; rfl
 | bool b => have h : x = .bool b := h; rw [h]; rfl
 | int i => obtain ⟨t, rfl⟩ := h; rfl
 | str s => obtain ⟨t, rfl, _⟩ := h; rfl
 | list xs => obtain ⟨a, o, vs, m, rfl, hf, hc, _, _, _⟩ := h; show (match f a with | some o => _ | none => _) = _; rw [hf]; simp [hc, tagD]
 | tuple xs => obtain ⟨a, o, vs, m, rfl, hf, hc, _, _, _⟩ := h; show (match f a with | some o => _ | none => _) = _; rw [hf]; simp only [hc]; rw [if_neg (by decide)]; rfl
 | dict es => exact h.elim
theorem tag_none {d : PyData} (t : tagD d = 0) : d = .none := by cases d <;> first | rfl | exact nat_ne t rfl
theorem tag_bool {d : PyData} (t : tagD d = 1) : ∃ b, d = .bool b := by cases d <;> first | exact ⟨_, rfl⟩ | exact nat_ne t rfl
theorem tag_int {d : PyData} (t : tagD d = 2) : ∃ b, d = .int b := by cases d <;> first | exact ⟨_, rfl⟩ | exact nat_ne t rfl
theorem tag_str {d : PyData} (t : tagD d = 3) : ∃ b, d = .str b := by cases d <;> first | exact ⟨_, rfl⟩ | exact nat_ne t rfl
theorem tag_list {d : PyData} (t : tagD d = 4) : ∃ b, d = .list b := by cases d <;> first | exact ⟨_, rfl⟩ | exact nat_ne t rfl
theorem tag_tuple {d : PyData} (t : tagD d = 5) : ∃ b, d = .tuple b := by cases d <;> first | exact ⟨_, rfl⟩ | exact nat_ne t rfl
theorem seqIs_inj {f : Addr -> Option Obj} {cl : String} {x : Value} {P Q : List Value -> Prop} {n m : Nat} {α : Prop} (k : ∀ vs, P vs -> Q vs -> α) (h : SeqIs f cl x P n) (h' : SeqIs f cl x Q m) : α := by
 obtain ⟨a, o, vs, n, e1, e2, e3, e4, e5, _⟩ := h
 obtain ⟨a', o', vs', n', e1', e2', e3', e4', e5', _⟩ := h'
 obtain rfl := PySem.Value.ref.inj (e1.symm.trans e1'); obtain rfl := Option.some.inj (e2.symm.trans e2'); rw [e4] at e4'; cases e4'
 exact k _ e5 e5'
theorem tag_two {f : Addr -> Option Obj} {d d' : PyData} {x : Value} (h : RepD f d x) (h' : RepD f d' x) : tagD d' = tagD d := (tag_of h').symm.trans (tag_of h)
mutual
theorem RepD.inj {f : Addr -> Option Obj} : ∀ (d d' : PyData) (x : Value), RepD f d x -> RepD f d' x -> d = d'
 | .none, d', x, h, h' => (tag_none (tag_two h h')).symm
 | .bool a, d', x, h, h' => by
  obtain ⟨b, rfl⟩ := tag_bool (tag_two h h')
  cases (show Value.bool a = .bool b from Eq.trans (Eq.symm h) h'); rfl
 | .int a, d', x, h, h' => by
  obtain ⟨b, rfl⟩ := tag_int (tag_two h h')
  obtain ⟨_, h⟩ := h
  obtain ⟨_, h'⟩ := h'
  cases h.symm.trans h'; rfl
 | .str a, d', x, h, h' => by
  obtain ⟨b, rfl⟩ := tag_str (tag_two h h')
  obtain ⟨_, h, _⟩ := h
  obtain ⟨_, h', _⟩ := h'
  cases h.symm.trans h'; rfl
 | .list xs, d', x, h, h' => by
  obtain ⟨ys, rfl⟩ := tag_list (tag_two h h')
  exact congrArg _ (seqIs_inj (RepDs.inj xs ys) h h')
 | .tuple xs, d', x, h, h' => by
  obtain ⟨ys, rfl⟩ := tag_tuple (tag_two h h')
  exact congrArg _ (seqIs_inj (RepDs.inj xs ys) h h')
 | .dict _, _, _, h, _ => h.elim
theorem RepDs.inj {f : Addr -> Option Obj} : ∀ (ds ds' : List PyData) (xs : List Value), RepDs f ds xs -> RepDs f ds' xs -> ds = ds'
 | [], [], _, _, _ => rfl
 | d :: ds, d' :: ds', x :: xs, h, h' => by rw [RepD.inj d d' x h.1 h'.1, RepDs.inj ds ds' xs h.2 h'.2]
 | [], _ :: _, [], _, h => h.elim
 | [], _ :: _, _ :: _, h, _ => h.elim
 | _ :: _, [], [], h, _ => h.elim
 | _ :: _, [], _ :: _, _, h => h.elim
 | _ :: _, _ :: _, [], h, _ => h.elim
end
theorem eqNsW_self {f : PyData -> PyData -> Option Bool} (hf : ∀ d b, f d d = some b -> b = true) : ∀ (d : List PyData) (b : Bool), eqNsW f d d = some b -> b = true
 | [], b, h => (Option.some.inj h).symm
 | x :: xs, b, h => by
  have h : (match f x x with | some a => (match eqNsW f xs xs with | some b => some (a && b) | none => none) | none => none) = some b := h
  induction e : f x x with
  | none => rw [e] at h; exact none_ne h
  | some c =>
   rw [e] at h
   induction e' : eqNsW f xs xs with
   | none => rw [e'] at h; exact none_ne h
   | some c' =>
    rw [e'] at h
    rw [<- Option.some.inj h, hf x c e, eqNsW_self hf xs c' e']; rfl
theorem eqLeaf_self (d : PyData) (b : Bool) (h : eqLeaf d d = some b) : b = true := by
 cases d with
 | none => exact (Option.some.inj h).symm
 | bool x => rw [<- Option.some.inj h]; exact beq_self_eq_true x
 | int x => rw [<- Option.some.inj h]; exact beq_self_eq_true x
 | str x => rw [<- Option.some.inj h]; exact beq_self_eq_true x
 | _ => exact none_ne h
theorem eqN_self : ∀ (n : Nat) (d : PyData) (b : Bool), eqN n d d = some b -> b = true
 | 0, d, b, h => eqLeaf_self d b h
 | n + 1, d, b, h => by
  have h : eqSeq (eqN n) d d = some b := h
  have hl := eqLeaf_self d b
  cases d with
  | list xs =>
   have h : (if xs.length = xs.length then eqNsW (eqN n) xs xs else some false) = some b := h
   rw [if_pos rfl] at h
   exact eqNsW_self (eqN_self n) xs b h
  | tuple xs => exact eqNsW_self (eqN_self n) xs b h
  | _ => exact hl h
section
variable {A : Around} {s : Shared}
structure EqOk (A : Around) (s : Shared) (x y : Value) (b : Bool) : Prop where
 eq : EqAt A s x y b
 rc : RcAt A s x y b
 ne : RcNeAt A s x y (!b)
theorem EqAt.none_none : EqAt A s .none .none true := EqAt.same _
theorem eqNs_items (n : Nat) (ih : ∀ (d d' : PyData) (x x' : Value) (b : Bool) (A : Around), A.units + n < cLine -> RepD s.heap.get? d x -> RepD s.heap.get? d' x' -> eqN n d d' = some b -> EqOk A s x x' b) {A : Around} (hu : A.units + n < cLine) :
 ∀ (ds ds' : List PyData) (xs xs' : List Value) (b : Bool), RepDs s.heap.get? ds xs -> RepDs s.heap.get? ds' xs' -> eqNsW (eqN n) ds ds' = some b ->
  ∃ e : Nat -> Bool, (∀ j x x', xs[j]? = some x -> xs'[j]? = some x' -> EqAt A s x x' (e j)) ∧ b = ((List.range (min xs.length xs'.length)).all e && xs.length == xs'.length) := by
 intro ds
 induction ds with
 | nil =>
  intro ds' xs xs' b r r' h
  induction xs with
  | cons _ _ => exact r.elim
  | nil => induction ds' with
   | nil => induction xs' with
    | cons _ _ => exact r'.elim
    | nil => exact ⟨fun _ => true, fun j x x' h => by simp at h, (Option.some.inj h).symm⟩
   | cons d' ds' => induction xs' with
    | nil => exact r'.elim
    | cons _ _ => exact ⟨fun _ => true, fun j x x' h => by simp at h, (Option.some.inj h).symm.trans (by rfl)⟩
 | cons d ds ihl =>
  intro ds' xs xs' b r r' h
  induction xs with
  | nil => exact r.elim
  | cons x xs => induction ds' with
   | nil => induction xs' with
    | cons _ _ => exact r'.elim
    | nil => exact ⟨fun _ => true, fun j x x' _ h => by simp at h, (Option.some.inj h).symm.trans (by rfl)⟩
   | cons d' ds' => induction xs' with
    | nil => exact r'.elim
    | cons x' xs' =>
  have h : (match eqN n d d' with | some a => (match eqNsW (eqN n) ds ds' with | some b => some (a && b) | none => none) | none => none) = some b := h
  induction e : eqN n d d' with
  | none => rw [e] at h; exact none_ne h
  | some c =>
   have h0 := (ih d d' x x' c A hu r.1 r'.1 e).eq
   rw [e] at h
   induction e' : eqNsW (eqN n) ds ds' with
   | none => rw [e'] at h; exact none_ne h
   | some c' =>
    rw [e'] at h
    obtain ⟨f, h1, h2⟩ := ihl ds' xs xs' c' r.2 r'.2 e'
    refine ⟨fun j => if j = 0 then c else f (j - 1), fun j y y' hy hy' => ?_, ?_⟩
    ·induction j with
     | zero => simp at hy hy'; subst hy hy'; exact h0
     | succ j => exact h1 j y y' (by exact hy) (by exact hy')
    ·rw [<- Option.some.inj h, h2, List.length_cons, List.length_cons, Nat.add_min_add_right, List.range_succ_eq_map, List.all_cons, List.all_map]
     simp [Function.comp_def, Bool.and_assoc]
theorem eqLeaf_ok {d d' : PyData} {x x' : Value} {b : Bool} (hu : A.units < cLine) (r : RepD s.heap.get? d x) (r' : RepD s.heap.get? d' x') (h : eqLeaf d d' = some b) : EqOk A s x x' b := by
 cases d with
 | none =>
  have r : x = .none := r
  subst r
  cases d' with
  | none => have r' : x' = .none := r'; rw [r', <- Option.some.inj h]; exact ⟨EqAt.same _, RcAt.none_none, RcNeAt.none_none⟩
  | str _ => obtain ⟨t, r', _⟩ := r'; rw [r', <- Option.some.inj h]; exact ⟨EqAt.none_str _ _, RcAt.none_str _ _, RcNeAt.none_str _ _⟩
  | tuple _ => obtain ⟨a, o, vs, k, r', q1, q2, q3, q4, _⟩ := r'; rw [r', <- Option.some.inj h]; exact ⟨EqAt.none_tuple ⟨_, q1, q2, _, q3⟩ hu, RcAt.none_tuple ⟨_, q1, q2, _, q3⟩ hu, RcNeAt.none_tuple ⟨_, q1, q2, _, q3⟩ hu⟩
  | _ => exact none_ne h
 | bool a => cases d' with
  | bool c => have r : x = .bool a := r; have r' : x' = .bool c := r'; rw [r, r', <- Option.some.inj h]; exact ⟨EqAt.bool_bool _ _, RcAt.bool_bool _ _, RcNeAt.bool_bool _ _⟩
  | _ => exact none_ne h
 | int a => cases d' with
  | int c => obtain ⟨t, r⟩ := r; obtain ⟨t', r'⟩ := r'; rw [r, r', <- Option.some.inj h]; exact ⟨EqAt.int_int _ _ _ _, RcAt.int_int _ _ _ _, RcNeAt.int_int _ _ _ _⟩
  | _ => exact none_ne h
 | str a => obtain ⟨t, r, _⟩ := r; cases d' with
  | none => have r' : x' = .none := r'; rw [r, r', <- Option.some.inj h]; exact ⟨EqAt.str_none _ _, RcAt.str_none _ _, RcNeAt.str_none _ _⟩
  | str c => obtain ⟨t', r', _⟩ := r'; rw [r, r', <- Option.some.inj h]; exact ⟨EqAt.str_str _ _ _ _, RcAt.str_str _ _ _ _, RcNeAt.str_str _ _ _ _⟩
  | _ => exact none_ne h
 | tuple _ => cases d' with
  | none => obtain ⟨a, o, vs, k, r, q1, q2, q3, q4, _⟩ := r; have r' : x' = .none := r'; rw [r, r', <- Option.some.inj h]; exact ⟨EqAt.tuple_none ⟨_, q1, q2, _, q3⟩ hu, RcAt.tuple_none ⟨_, q1, q2, _, q3⟩ hu, RcNeAt.tuple_none ⟨_, q1, q2, _, q3⟩ hu⟩
  | _ => exact none_ne h
 | _ => exact none_ne h
theorem eq_refs {n : Nat} {d d' : PyData} {a a' : Addr} {b : Bool} (rr : RepD s.heap.get? d (.ref a)) (rr' : RepD s.heap.get? d' (.ref a')) (h : eqN n d d' = some b) (rc : RcAt A s (.ref a) (.ref a') b ∧ RcNeAt A s (.ref a) (.ref a') (!b)) : EqOk A s (.ref a) (.ref a') b := by
 refine ⟨?_, rc.1, rc.2⟩
 by_cases ha : a = a'
 ·subst ha
  have := RepD.inj _ _ _ rr rr'
  subst this
  rw [eqN_self n d b h]
  exact EqAt.same _
 ·exact EqAt.of_refs ha rc.1
theorem eqN_ok : ∀ (n : Nat) (d d' : PyData) (x x' : Value) (b : Bool) (A : Around), A.units + n < cLine -> RepD s.heap.get? d x -> RepD s.heap.get? d' x' -> eqN n d d' = some b -> EqOk A s x x' b := by
 intro n
 induction n with
 | zero => exact fun d d' x x' b A hu r r' h => eqLeaf_ok hu r r' h
 | succ n ih =>
  intro d d' x x' b A hu r r' h
  have hu' : A.units < cLine := Nat.lt_of_le_of_lt (Nat.le_add_right _ _) hu
  have hu1 : A.in1.units + n < cLine := by show A.units + 1 + n < cLine; lia
  have hL : eqSeq (eqN n) d d' = some b := h
  cases d with
  | list ds => cases d' with
   | list ds' =>
    have rr := r; have rr' := r'
    obtain ⟨a, o, vs, k, r, q1, q2, q3, q4, _⟩ := r
    obtain ⟨a', o', vs', k', r', p1, p2, p3, p4, _⟩ := r'
    subst r r'
    refine eq_refs rr rr' h ?_
    have hl : s.heap.IsList a vs := ⟨_, q1, q2, _, q3⟩
    have hl' : s.heap.IsList a' vs' := ⟨_, p1, p2, _, p3⟩
    have l1 := RepDs.length q4
    have l2 := RepDs.length p4
    have hL : (if ds.length = ds'.length then eqNsW (eqN n) ds ds' else some false) = some b := hL
    by_cases hsz : ds.length = ds'.length
    ·rw [if_pos hsz] at hL
     obtain ⟨e, h1, h2⟩ := eqNs_items n ih hu1 ds ds' vs.toList vs'.toList b q4 p4 hL
     have hsz' : vs.size = vs'.size := by simp at l1 l2; lia
     have hb : b = (List.range vs.size).all e := by rw [h2]; simp [hsz']
     rw [hb]
     exact ⟨RcAt.lists hl hl' hsz' hu' fun j j1 j2 => h1 j _ _ (by simp [j1]) (by simp [j2]), RcNeAt.lists hl hl' hsz' hu' fun j j1 j2 => h1 j _ _ (by simp [j1]) (by simp [j2])⟩
    ·rw [if_neg hsz] at hL
     rw [<- Option.some.inj hL]
     have hsz' : (vs.size != vs'.size) = true := by simp at l1 l2; simp; lia
     exact ⟨RcAt.lists_lengths hl hl' hsz' hu', RcNeAt.lists_lengths hl hl' hsz' hu'⟩
   | _ => exact none_ne hL
  | tuple ds => cases d' with
   | tuple ds' =>
    have rr := r; have rr' := r'
    obtain ⟨a, o, vs, k, r, q1, q2, q3, q4, _⟩ := r
    obtain ⟨a', o', vs', k', r', p1, p2, p3, p4, _⟩ := r'
    subst r r'
    refine eq_refs rr rr' h ?_
    have hl : s.heap.IsTuple a vs := ⟨_, q1, q2, _, q3⟩
    have hl' : s.heap.IsTuple a' vs' := ⟨_, p1, p2, _, p3⟩
    obtain ⟨e, h1, h2⟩ := eqNs_items n ih hu1 ds ds' vs.toList vs'.toList b q4 p4 hL
    have hb : b = ((List.range (min vs.size vs'.size)).all e && vs.size == vs'.size) := by rw [h2]; simp
    rw [hb]
    exact ⟨RcAt.tuples hl hl' hu' fun j j1 j2 => h1 j _ _ (by simp [j1]) (by simp [j2]), RcNeAt.tuples hl hl' hu' fun j j1 j2 => h1 j _ _ (by simp [j1]) (by simp [j2])⟩
   | _ => exact eqLeaf_ok hu' r r' hL
  | _ => exact eqLeaf_ok hu' r r' hL
end
end Mine.Internal
namespace Mine.Internal
open PySem PySem.Calls
section
variable {K : Type} [DecidableEq K] {f : Addr -> Option Obj}
theorem get_none {kvs : List (K × PyData)} {ws : List (K × Value)} {k : K} (r : RepKV f kvs ws) (h : getK kvs k = none) : valueAt ws k = none := by
 induction kvs generalizing ws with
 | nil => rcases ws with _ | ⟨w, ws⟩; rfl; exact r.elim
 | cons p kvs ih =>
  rcases ws with _ | ⟨w, ws⟩
  ·exact r.elim
  ·unfold getK at h
   unfold valueAt
   rw [List.find?_cons] at h ⊢
   rw [<- r.1.1]
   by_cases e : p.1 = k
   ·rw [decide_eq_true e] at h; exact some_ne h
   ·rw [decide_eq_false e] at h ⊢; exact ih r.2 h
theorem get_some {kvs : List (K × PyData)} {ws : List (K × Value)} {k : K} {d : PyData} (r : RepKV f kvs ws) (h : getK kvs k = some d) : ∃ v, valueAt ws k = some v ∧ RepD f d v := by
 induction kvs generalizing ws with
 | nil => exact none_ne h
 | cons p kvs ih =>
  rcases ws with _ | ⟨w, ws⟩
  ·exact r.elim
  ·unfold getK at h
   unfold valueAt
   rw [List.find?_cons] at h ⊢
   rw [<- r.1.1]
   by_cases e : p.1 = k
   ·rw [decide_eq_true e] at h ⊢; exact ⟨w.2, rfl, by rw [<- Option.some.inj h]; exact r.1.2⟩
   ·rw [decide_eq_false e] at h ⊢; exact ih r.2 h
theorem any_rep {kvs : List (K × PyData)} {ws : List (K × Value)} {k : K} (r : RepKV f kvs ws) : (kvs.any fun p => p.1 = k) = ws.any fun p => p.1 = k := by
 induction kvs generalizing ws with
 | nil => rcases ws with _ | ⟨w, ws⟩; rfl; exact r.elim
 | cons p kvs ih =>
  rcases ws with _ | ⟨w, ws⟩
  ·exact r.elim
  ·rw [List.any_cons, List.any_cons, ih r.2, r.1.1]
theorem map_rep {kvs : List (K × PyData)} {ws : List (K × Value)} {k : K} {d : PyData} {v : Value} (r : RepKV f kvs ws) (h : RepD f d v) : RepKV f (kvs.map fun p => if p.1 = k then (p.1, d) else p) (ws.map fun p => if p.1 = k then (p.1, v) else p) := by
 induction kvs generalizing ws with
 | nil => rcases ws with _ | ⟨w, ws⟩; exact trivial; exact r.elim
 | cons p kvs ih =>
  rcases ws with _ | ⟨w, ws⟩
  ·exact r.elim
  ·refine ⟨?_, ih r.2⟩
   dsimp only
   by_cases e : p.1 = k
   ·rw [if_pos e, if_pos (r.1.1 ▸ e)]; exact ⟨r.1.1, h⟩
   ·rw [if_neg e, if_neg (r.1.1 ▸ e)]; exact r.1
theorem app_rep {kvs ks : List (K × PyData)} {ws us : List (K × Value)} (r : RepKV f kvs ws) (h : RepKV f ks us) : RepKV f (kvs ++ ks) (ws ++ us) := by
 induction kvs generalizing ws with
 | nil => rcases ws with _ | ⟨w, ws⟩; exact h; exact r.elim
 | cons p kvs ih =>
  rcases ws with _ | ⟨w, ws⟩
  ·exact r.elim
  ·exact ⟨r.1, ih r.2⟩
theorem put_rep {kvs : List (K × PyData)} {ws : List (K × Value)} {k : K} {d : PyData} {v : Value} (r : RepKV f kvs ws) (h : RepD f d v) : RepKV f (putK kvs k d) (stored ws k v) := by
 unfold putK stored
 rw [any_rep r]
 by_cases e : (ws.any fun p => p.1 = k) = true
 ·rw [if_pos e, if_pos e]; exact map_rep r h
 ·rw [if_neg e, if_neg e]; exact app_rep r ⟨⟨rfl, h⟩, trivial⟩
theorem kv_len {kvs : List (K × PyData)} {ws : List (K × Value)} (r : RepKV f kvs ws) : kvs.length = ws.length := by
 induction kvs generalizing ws with
 | nil => rcases ws with _ | ⟨w, ws⟩; rfl; exact r.elim
 | cons p kvs ih =>
  rcases ws with _ | ⟨w, ws⟩
  ·exact r.elim
  ·exact congrArg (· + 1) (ih r.2)
theorem put_len (kvs : List (K × PyData)) (k : K) (d : PyData) : (putK kvs k d).length <= kvs.length + 1 := by
 unfold putK
 split
 ·rw [List.length_map]; exact Nat.le_succ _
 ·rw [List.length_append]; exact Nat.le_refl _
end
theorem line63 {n : Nat} (h : n <= line) : (n : Int) < 2 ^ 63 := by unfold line at h; lia
section
variable {T : Top} {fs : List Addr} {A : Around} {g : G} {σ : Store} {s : Shared} {k : Nat} {a : Addr} {kvs : List (Str × PyData)}
theorem Sim.ofTok {α β : Type} {m : Sem α} {rep : G -> β -> α -> Prop} {b : β} (st : St T g σ s.heap) (h : ∀ Q : α -> Shared -> Prop, (∀ x k, rep g b x -> Q x { s with toks := k }) -> wpAny (model T.prog T.w) A m Q (fun _ _ => False) s) :
 Sim T fs A g s m rep (.ok b σ) :=
 Sim.of (h _ fun x k r => ⟨g, .heapEq st, r⟩)
theorem not_mods (ok : TopOk T) (st : St T g σ s.heap) (hk : g.mu[k + 1]? = some a) : (a == sysModules) = false := by
 obtain ⟨o, ho⟩ := ok.mods
 refine beq_eq_false_iff_ne.mpr fun e => ?_
 have h1 := st.ap a (List.mem_of_getElem? hk)
 rw [e, st.base _ _ ho] at h1
 exact some_ne h1
theorem tabS_at (st : St T g σ s.heap) (hk : g.mu[k + 1]? = some a) (hσ : σ[k]? = some (.dictS kvs)) : ∃ ws, s.heap.DictOf (strKind T.prog T.w) a ws ∧ RepKV g.fz kvs ws ∧ kvs.length <= line := by
 obtain ⟨x, hx, es, ep, ws, ho, hd, hk', hp, hn, hr, hl⟩ := st.ob k a _ hk hσ
 exact ⟨ws, ⟨x, es, ep, hx, ho, hd, hk', hp, hn⟩, hr, hl⟩
theorem sim_inS {y : Str} {t : Tok} (hs : (a == sysModules) = false) (st : St T g σ s.heap) (hk : g.mu[k + 1]? = some a) (hσ : σ[k]? = some (.dictS kvs)) :
 Sim T fs A g s (compareOp .In (.str y t) (.ref a)) (RepV T) (.ok (.d (.bool (getK kvs y).isSome)) σ) := by
 obtain ⟨ws, hD, hr, hl⟩ := tabS_at st hk hσ
 refine Sim.ofTok st fun Q h => wpAny_in_of (k := y) (strKind_is T.prog T.w y t) hs hD.mapOf (h _ _ ?_)
 show Value.bool _ = .bool _
 cases e : getK kvs y with
 | none => rw [get_none hr e]; rfl
 | some d => obtain ⟨v, e2, _⟩ := get_some hr e; rw [e2]; rfl
theorem sim_ninS {y : Str} {t : Tok} (hs : (a == sysModules) = false) (st : St T g σ s.heap) (hk : g.mu[k + 1]? = some a) (hσ : σ[k]? = some (.dictS kvs)) :
 Sim T fs A g s (compareOp .NotIn (.str y t) (.ref a)) (RepV T) (.ok (.d (.bool (!(getK kvs y).isSome))) σ) := by
 obtain ⟨ws, hD, hr, hl⟩ := tabS_at st hk hσ
 refine Sim.ofTok st fun Q h => wpAny_notIn_of (k := y) (strKind_is T.prog T.w y t) hs hD.mapOf (h _ _ ?_)
 show Value.bool _ = .bool _
 cases e : getK kvs y with
 | none => rw [get_none hr e]; rfl
 | some d => obtain ⟨v, e2, _⟩ := get_some hr e; rw [e2]; rfl
theorem sim_getS {y : Str} {t : Tok} {d : PyData} (st : St T g σ s.heap) (hk : g.mu[k + 1]? = some a) (hσ : σ[k]? = some (.dictS kvs)) (hd : getK kvs y = some d) :
 Sim T fs A g s (getItem (.ref a) (.str y t)) (RepV T) (.ok (.d d) σ) := by
 obtain ⟨ws, hD, hr, hl⟩ := tabS_at st hk hσ
 obtain ⟨v, e, rv⟩ := get_some hr hd
 exact Sim.ofTok st fun Q h => wpAny_getItem_of (k := y) (strKind_is T.prog T.w y t) hD.mapOf e (h _ _ rv)
end
end Mine.Internal
namespace Mine.Internal
open PySem PySem.Calls
section
variable {f : Addr -> Option Obj} {kvs : List ((Str × Int) × PyData)} {ws : List (List (Str ⊕ Int) × Addr × Value)} {k : Str × Int}
theorem keyP_inj {k k' : Str × Int} (h : keyP k = keyP k') : k = k' := by
 unfold keyP at h
 have h1 := List.cons.inj h
 exact Prod.ext (Sum.inl.inj h1.1) (Sum.inr.inj (List.cons.inj h1.2).1)
theorem getP_none (r : RepKP f kvs ws) (h : getK kvs k = none) : atKey ws (keyP k) = none := by
 induction kvs generalizing ws with
 | nil => rcases ws with _ | ⟨w, ws⟩; rfl; exact r.elim
 | cons p kvs ih =>
  rcases ws with _ | ⟨w, ws⟩
  ·exact r.elim
  ·unfold getK at h
   unfold atKey
   rw [List.find?_cons] at h ⊢
   rw [<- r.1.1]
   by_cases e : p.1 = k
   ·rw [decide_eq_true e] at h; exact some_ne h
   ·rw [decide_eq_false e] at h; rw [decide_eq_false fun q => e (keyP_inj q)]; exact ih r.2 h
theorem getP_some {d : PyData} (r : RepKP f kvs ws) (h : getK kvs k = some d) : ∃ b v, atKey ws (keyP k) = some (b, v) ∧ RepD f d v := by
 induction kvs generalizing ws with
 | nil => exact none_ne h
 | cons p kvs ih =>
  rcases ws with _ | ⟨w, ws⟩
  ·exact r.elim
  ·unfold getK at h
   unfold atKey
   rw [List.find?_cons] at h ⊢
   rw [<- r.1.1]
   by_cases e : p.1 = k
   ·rw [decide_eq_true e] at h; rw [decide_eq_true (congrArg keyP e)]; exact ⟨w.2.1, w.2.2, rfl, by rw [<- Option.some.inj h]; exact r.1.2.2⟩
   ·rw [decide_eq_false e] at h; rw [decide_eq_false fun q => e (keyP_inj q)]; exact ih r.2 h
theorem anyP (kvs : List ((Str × Int) × PyData)) (k : Str × Int) : (kvs.any fun p => p.1 = k) = (getK kvs k).isSome := by
 induction kvs with
 | nil => rfl
 | cons p kvs ih =>
  unfold getK at ih ⊢
  rw [List.any_cons, List.find?_cons, ih]
  by_cases e : p.1 = k
  ·rw [decide_eq_true e]; rfl
  ·rw [decide_eq_false e]; rfl
theorem mapP {d : PyData} {v : Value} (r : RepKP f kvs ws) (h : RepD f d v) : RepKP f (kvs.map fun p => if p.1 = k then (p.1, d) else p) (ws.map (putAt (keyP k) v)) := by
 induction kvs generalizing ws with
 | nil => rcases ws with _ | ⟨w, ws⟩; exact trivial; exact r.elim
 | cons p kvs ih =>
  rcases ws with _ | ⟨w, ws⟩
  ·exact r.elim
  ·refine ⟨?_, ih r.2⟩
   dsimp only
   unfold putAt
   by_cases e : p.1 = k
   ·rw [if_pos e, if_pos (r.1.1.symm.trans (congrArg keyP e))]; exact ⟨r.1.1, r.1.2.1, h⟩
   ·rw [if_neg e, if_neg fun q => e (keyP_inj (r.1.1.trans q))]; exact r.1
theorem appP {ks : List ((Str × Int) × PyData)} {us : List (List (Str ⊕ Int) × Addr × Value)} (r : RepKP f kvs ws) (h : RepKP f ks us) : RepKP f (kvs ++ ks) (ws ++ us) := by
 induction kvs generalizing ws with
 | nil => rcases ws with _ | ⟨w, ws⟩; exact h; exact r.elim
 | cons p kvs ih =>
  rcases ws with _ | ⟨w, ws⟩
  ·exact r.elim
  ·exact ⟨r.1, ih r.2⟩
theorem putP {d : PyData} {v : Value} {b : Addr} (r : RepKP f kvs ws) (hb : RepD f (.tuple [.str k.1, .int k.2]) (.ref b)) (h : RepD f d v) : RepKP f (putK kvs k d) (storedH ws (keyP k) b v) := by
 unfold putK storedH
 rw [anyP]
 cases e : getK kvs k with
 | none => rw [getP_none r e]; exact appP r ⟨⟨rfl, hb, h⟩, trivial⟩
 | some d' => obtain ⟨b', v', e2, _⟩ := getP_some r e; rw [e2]; exact mapP r h
theorem kp_len (r : RepKP f kvs ws) : kvs.length = ws.length := by
 induction kvs generalizing ws with
 | nil => rcases ws with _ | ⟨w, ws⟩; rfl; exact r.elim
 | cons p kvs ih =>
  rcases ws with _ | ⟨w, ws⟩
  ·exact r.elim
  ·exact congrArg (· + 1) (ih r.2)
end
section
variable {T : Top} {fs : List Addr} {A : Around} {g : G} {σ : Store} {s : Shared} {k : Nat} {a b : Addr} {kvs : List ((Str × Int) × PyData)} {q : Str × Int}
theorem pair_key (st : St T g σ s.heap) (r : RepD g.fz (.tuple [.str q.1, .int q.2]) (.ref b)) : IsTupleKey (mixKind T.prog T.w) s.heap (keyP q) b := by
 obtain ⟨b', o, vs, m, e, hf, hc, hd, hr, _⟩ := r
 obtain rfl : b = b' := Value.ref.inj e
 refine ⟨o, vs, m, st.fz _ _ hf, hc, hd, ?_⟩
 rcases hv : vs.toList with _ | ⟨x, _ | ⟨y, _ | ⟨z, l⟩⟩⟩
 ·rw [hv] at hr; exact hr.elim
 ·rw [hv] at hr; exact hr.2.elim
 ·rw [hv] at hr
  obtain ⟨⟨t, rfl, _⟩, ⟨t', rfl⟩, _⟩ := hr
  exact .cons (strKind_is T.prog T.w q.1 t) (.cons (show Value.isInt q.2 (.int q.2 t') = true by simp [Value.isInt]) .nil)
 ·rw [hv] at hr; exact hr.2.2.elim
theorem keys_ok (st : St T g σ s.heap) : ∀ {kvs : List ((Str × Int) × PyData)} {ws : List (List (Str ⊕ Int) × Addr × Value)}, RepKP g.fz kvs ws -> ∀ x ∈ ws, IsTupleKey (mixKind T.prog T.w) s.heap x.1 x.2.1
 | [], [], _, x, hx => by cases hx
 | p :: kvs, w :: ws, r, x, hx => by
  rcases List.mem_cons.mp hx with rfl | hx
  ·rw [<- r.1.1]; exact pair_key st r.1.2.1
  ·exact keys_ok st r.2 x hx
 | [], _ :: _, r, _, _ => r.elim
 | _ :: _, [], r, _, _ => r.elim
theorem tabP_at (st : St T g σ s.heap) (hk : g.mu[k + 1]? = some a) (hσ : σ[k]? = some (.dictP kvs)) : ∃ ws, s.heap.DictOfH (tupleKind (mixKind T.prog T.w)) a ws ∧ RepKP g.fz kvs ws ∧ kvs.length <= line := by
 obtain ⟨x, hx, es, ep, ws, ho, hd, he, hn, hr, hl⟩ := st.ob k a _ hk hσ
 exact ⟨ws, ⟨x, es, ep, hx, ho, hd, he, keys_ok st hr, hn⟩, hr, hl⟩
theorem sim_inP (hu : A.in1.units < cLine) (hs : (a == sysModules) = false) (st : St T g σ s.heap) (hk : g.mu[k + 1]? = some a) (hσ : σ[k]? = some (.dictP kvs)) (hb : RepD g.fz (.tuple [.str q.1, .int q.2]) (.ref b)) :
 Sim T fs A g s (compareOp .In (.ref b) (.ref a)) (RepV T) (.ok (.d (.bool (getK kvs q).isSome)) σ) := by
 obtain ⟨ws, hD, hr, hl⟩ := tabP_at st hk hσ
 refine Sim.ofTok st fun Q h => wpAny_in_heap (knd := tupleKind (mixKind T.prog T.w)) hu (pair_key st hb) hs hD (h _ _ ?_)
 show Value.bool _ = .bool _
 cases e : getK kvs q with
 | none => rw [getP_none hr e]; rfl
 | some d => obtain ⟨b', v, e2, _⟩ := getP_some hr e; rw [e2]; rfl
theorem sim_ninP (hu : A.in1.units < cLine) (hs : (a == sysModules) = false) (st : St T g σ s.heap) (hk : g.mu[k + 1]? = some a) (hσ : σ[k]? = some (.dictP kvs)) (hb : RepD g.fz (.tuple [.str q.1, .int q.2]) (.ref b)) :
 Sim T fs A g s (compareOp .NotIn (.ref b) (.ref a)) (RepV T) (.ok (.d (.bool (!(getK kvs q).isSome))) σ) := by
 obtain ⟨ws, hD, hr, hl⟩ := tabP_at st hk hσ
 refine Sim.ofTok st fun Q h => PyProof.Rows.wpAny_notIn_heap (knd := tupleKind (mixKind T.prog T.w)) hu (pair_key st hb) hs hD (h _ _ ?_)
 show Value.bool _ = .bool _
 cases e : getK kvs q with
 | none => rw [getP_none hr e]; rfl
 | some d => obtain ⟨b', v, e2, _⟩ := getP_some hr e; rw [e2]; rfl
theorem sim_getP {d : PyData} (hu : A.in1.units < cLine) (st : St T g σ s.heap) (hk : g.mu[k + 1]? = some a) (hσ : σ[k]? = some (.dictP kvs)) (hb : RepD g.fz (.tuple [.str q.1, .int q.2]) (.ref b)) (hd : getK kvs q = some d) :
 Sim T fs A g s (getItem (.ref a) (.ref b)) (RepV T) (.ok (.d d) σ) := by
 obtain ⟨ws, hD, hr, hl⟩ := tabP_at st hk hσ
 obtain ⟨b', v, e, rv⟩ := getP_some hr hd
 exact Sim.ofTok st fun Q h => wpAny_getItem_heap (knd := tupleKind (mixKind T.prog T.w)) hu (pair_key st hb) hD e (h _ _ rv)
end
end Mine.Internal
namespace Mine.Internal
open PySem PySem.Calls PySem.SeqAt
section
variable {T : Top} {fs : List Addr} {A : Around} {g : G} {σ : Store} {s : Shared} {fe : List Env} {n : Nat}
noncomputable def IsB (_ : G) (b x : Bool) : Prop := x = b
theorem arr_empty {ws : List V} {xs : Array Value} (r : RepVs T g ws xs.toList) : (!xs.isEmpty) = !ws.isEmpty := by
 have := r.length
 induction ws with
 | nil =>
  obtain rfl : xs = #[] := by simpa using this.symm
  rfl
 | cons w ws => simp at this; simp; intro q; subst q; simp at this
theorem sim_truth {v : V} {x : Value} (st : St T g σ s.heap) (r : RepV T g v x) :
 Sim T fs A g s (truthy x) IsB (match truth σ v with | some b => .ok b σ | none => .bad) := by
 have seqs : ∀ ws, seqOf σ v = some ws -> Sim T fs A g s (truthy x) IsB (.ok (!ws.isEmpty) σ) := fun ws e => by
  obtain ⟨a, o, xs, k, rfl, ho, hc, hd, hr, hl⟩ := seqOf_rep st r e
  refine Sim.ofTok st fun Q h => ?_
  rcases hc with hc | hc
  ·exact wpAny_truthy_list ⟨o, ho, hc, k, hd⟩ (line63 hl) (h _ _ (arr_empty hr))
  ·exact PyProof.Rows.truthy_tuple ⟨o, ho, hc, k, hd⟩ (line63 hl) (h _ _ (arr_empty hr))
 cases v with
 | d y =>
  cases y with
  | none => have r : x = .none := r; subst r; exact Sim.ofTok st fun Q h => PyProof.Rows.truthy_none (h _ s.toks rfl)
  | bool b => have r : x = .bool b := r; subst r; exact Sim.ofTok st fun Q h => wpAny_truthy_bool (h _ s.toks rfl)
  | int i => obtain ⟨t, rfl⟩ := r; exact Sim.ofTok st fun Q h => P.truthy_int (h _ s.toks rfl)
  | str y =>
   obtain ⟨t, rfl, hl⟩ := r
   refine Sim.ofTok st fun Q h => P.truthy_str (by have := line63 hl; lia) (h _ _ ?_)
   show ((y.length : Int) != 0) = (y.cps.size != 0)
   show ((y.cps.size : Int) != 0) = (y.cps.size != 0)
   cases q : y.cps.size <;> simp <;> lia
  | list xs => have := seqs _ rfl; simp only [List.isEmpty_map] at this; exact this
  | tuple xs => have := seqs _ rfl; simp only [List.isEmpty_map] at this; exact this
  | dict _ => exact Sim.bad
 | ref k =>
  show Sim T fs A g s (truthy x) IsB (match (match σ[k]? with | some (.list vs) => some (!vs.isEmpty) | _ => none) with | some b => .ok b σ | none => .bad)
  induction ho : σ[k]? with
  | none => exact Sim.bad
  | some o =>
   induction o with
   | list ws => exact seqs ws (by show (match σ[k]? with | some (.list vs) => some vs | _ => none) = _; rw [ho])
   | _ => exact Sim.bad
 | _ => exact Sim.bad
theorem snapL_fz {fz' : Addr -> Option Obj} {f : V -> Option PyData} (hf : ∀ (v : V) (x : Value) (d : PyData), RepV T g v x -> f v = some d -> RepD fz' d x) : ∀ (vs : List V) (xs : List Value) (ds : List PyData), RepVs T g vs xs -> snapL f vs = some ds -> RepDs fz' ds xs
 | [], [], ds, _, e => by rw [<- Option.some.inj e]; exact trivial
 | v :: vs, x :: xs, ds, r, e => by
  have e : (match f v with | some x => (match snapL f vs with | some xs => some (x :: xs) | none => none) | none => none) = some ds := e
  induction h3 : f v with
  | none => rw [h3] at e; exact none_ne e
  | some d =>
   rw [h3] at e
   induction h4 : snapL f vs with
   | none => rw [h4] at e; exact none_ne e
   | some ds' =>
    rw [h4] at e
    rw [<- Option.some.inj e]
    exact ⟨hf v x d r.1 h3, snapL_fz hf vs xs ds' r.2 h4⟩
 | [], _ :: _, _, h, _ => h.elim
 | _ :: _, [], _, h, _ => h.elim
theorem snap_fz {fz' : Addr -> Option Obj} (st : St T g σ s.heap) (h1 : FzLe g.fz fz') (h2 : ∀ (k : Nat) (a : Addr), g.mu[k + 1]? = some a -> ∀ o, s.heap.get? a = some o -> fz' a = some o) : ∀ (n : Nat) (v : V) (x : Value) (d : PyData), RepV T g v x -> snap σ n v = some d -> RepD fz' d x := by
 intro n
 induction n with
 | zero =>
  intro v x d r e
  cases v with
  | d y => rw [<- Option.some.inj e]; exact RepD.mono h1 _ _ r
  | _ => exact none_ne e
 | succ n ih =>
  intro v x d r e
  cases v with
  | d y => rw [<- Option.some.inj e]; exact RepD.mono h1 _ _ r
  | ref k =>
   obtain ⟨a, e1, rfl⟩ := r
   have e : snapO (snap σ n) σ[k]? = some d := e
   induction ho : σ[k]? with
   | none => rw [ho] at e; exact none_ne e
   | some o => induction o with
   | dictS _ => rw [ho] at e; exact none_ne e
   | dictP _ => rw [ho] at e; exact none_ne e
   | list ws =>
   rw [ho] at e
   have e : (match snapL (snap σ n) ws with | some xs => some (.list xs) | none => none) = some d := e
   induction hx : snapL (snap σ n) ws with
   | none => rw [hx] at e; exact none_ne e
   | some ds =>
    rw [hx] at e
    rw [<- Option.some.inj e]
    obtain ⟨y, hy, xs, m, q, hr, hl⟩ := st.ob k a _ e1 ho
    subst q
    have h3 := snapL_fz ih ws xs.toList ds hr hx
    exact ⟨a, _, xs, m, rfl, h2 k a e1 _ hy, rfl, rfl, h3, by rw [h3.length, <- hr.length]; exact hl⟩
  | tup ws =>
   obtain ⟨a, o, xs, m, rfl, e2, e3, e4, e5, e6⟩ := r
   have e : (match snapL (snap σ n) ws with | some xs => some (.tuple xs) | none => none) = some d := e
   induction hx : snapL (snap σ n) ws with
   | none => rw [hx] at e; exact none_ne e
   | some ds =>
    rw [hx] at e
    rw [<- Option.some.inj e]
    have h3 := snapL_fz ih ws xs.toList ds e5 hx
    exact ⟨a, o, xs, m, rfl, h1 _ _ e2, e3, e4, h3, by rw [h3.length, <- e5.length]; exact e6⟩
  | _ => exact none_ne e
theorem snap_rep (st : St T g σ s.heap) (n : Nat) (v : V) (x : Value) (d : PyData) (r : RepV T g v x) (e : snap σ n v = some d) : RepD s.heap.get? d x :=
 snap_fz st (fun a o e => st.fz a o e) (fun _ _ _ _ e => e) n v x d r e
noncomputable def eqTo (h : Heap) (d : PyData) (v : Value) : Bool := @decide (∃ d', RepD h.get? d' v ∧ eqN eqDepth d' d = some true) (Classical.propDecidable _)
theorem eqTo_of {h : Heap} {d d' : PyData} {v : Value} {b : Bool} (r : RepD h.get? d' v) (e : eqN eqDepth d' d = some b) : eqTo h d v = b := by
 unfold eqTo
 induction b with
 | true => exact @decide_eq_true _ (Classical.propDecidable _) ⟨d', r, e⟩
 | false =>
  refine @decide_eq_false _ (Classical.propDecidable _) ?_
  rintro ⟨d'', r', e'⟩
  rw [RepD.inj _ _ _ r' r, e] at e'
  cases e'
theorem inD_ok {A : Around} {y : Value} {d : PyData} (hu : A.units + eqDepth < cLine) (r : RepD s.heap.get? d y) : ∀ (ds : List PyData) (xs : List Value) (b : Bool), RepDs s.heap.get? ds xs -> inD d ds = some b ->
 (∀ x, x ∈ xs -> EqAt A s x y (eqTo s.heap d x)) ∧ b = xs.any (eqTo s.heap d)
 | [], [], b, _, h => ⟨fun x h => (nomatch h), (Option.some.inj (show some false = some b from h)).symm⟩
 | z :: ds, x :: xs, b, hr, h => by
  have h : (match eqN eqDepth z d, inD d ds with | some a, some b => some (a || b) | _, _ => none) = some b := h
  induction e : eqN eqDepth z d with
  | none => rw [e] at h; exact none_ne h
  | some c =>
   induction e' : inD d ds with
   | none => rw [e, e'] at h; exact none_ne h
   | some c' =>
    rw [e, e'] at h
    have h := Option.some.inj h
    have h0 := (eqN_ok eqDepth z d x y c A hu hr.1 r e).eq
    obtain ⟨h1, h2⟩ := inD_ok hu r ds xs c' hr.2 e'
    have h3 := eqTo_of hr.1 e
    refine ⟨fun w hw => ?_, by rw [List.any_cons, h3, <- h2, h]⟩
    rcases List.mem_cons.mp hw with rfl | hw
    ·rw [h3]; exact h0
    ·exact h1 w hw
 | [], _ :: _, _, h, _ => h.elim
 | _ :: _, [], _, h, _ => h.elim
theorem eqDepth_room (ha : AOk fe n A) : A.units + eqDepth < cLine ∧ A.in1.units + eqDepth < cLine := by
 have := ha.units
 show A.units + 40 < 9900 ∧ A.units + 1 + 40 < 9900
 lia
inductive XForm : Value -> Bool -> Prop
 | none : XForm .none true
 | bool (b : Bool) : XForm (.bool b) false
 | int (i : Int) (t : Tok) : XForm (.int i t) false
 | str (y : Str) (t : Tok) : XForm (.str y t) false
 | ref (a : Addr) : XForm (.ref a) false
theorem form_facts {x : Value} {b : Bool} (h : XForm x b) : plainIs x .none = true ∧ (b = true -> x = .none) ∧ (b = false -> x ≠ .none) := by
 cases h with
 | none => exact ⟨rfl, fun _ => rfl, fun h => tt_ h⟩
 | _ => exact ⟨rfl, fun h => ff_ h, fun _ h => nomatch h⟩
theorem form_of {v : V} {x : Value} {b : Bool} (r : RepV T g v x) (h : isV v (.d .none) = some b) : XForm x b := by
 cases v with
 | d y =>
  cases y with
  | none => rw [show x = .none from r, <- Option.some.inj h]; exact .none
  | bool c => rw [show x = .bool c from r, <- Option.some.inj h]; exact .bool c
  | int i => obtain ⟨t, e⟩ := r; rw [e, <- Option.some.inj h]; exact .int i t
  | str y => obtain ⟨t, e, _⟩ := r; rw [e, <- Option.some.inj h]; exact .str y t
  | list _ => obtain ⟨a, _, _, _, e, _⟩ := r; rw [e, <- Option.some.inj h]; exact .ref a
  | tuple _ => obtain ⟨a, _, _, _, e, _⟩ := r; rw [e, <- Option.some.inj h]; exact .ref a
  | dict _ => exact r.elim
 | ref k => obtain ⟨a, _, e⟩ := r; rw [e, <- Option.some.inj h]; exact .ref a
 | tup _ => obtain ⟨a, _, _, _, e, _⟩ := r; rw [e, <- Option.some.inj h]; exact .ref a
 | _ => exact none_ne h
noncomputable def ansB (σ : Store) : Option Bool -> Res V
 | some b => .ok (.d (.bool b)) σ
 | none => .bad
theorem Sim.ansB {m : Sem Value} {b : Bool} (st : St T g σ s.heap) (h : ∀ Q : Value -> Shared -> Prop, Q (.bool b) s -> wpAny (model T.prog T.w) A m Q (fun _ _ => False) s) : Sim T fs A g s m (RepV T) (ansB σ (some b)) :=
 Sim.of (h _ ⟨g, .refl st, rfl⟩)
theorem sim_eq {a b : V} {x y : Value} (ha : AOk fe n A) (st : St T g σ s.heap) (ra : RepV T g a x) (rb : RepV T g b y) :
 Sim T fs A g s (compareOp .Eq x y) (RepV T) (ansB σ (eqV σ a b)) ∧ Sim T fs A g s (compareOp .NotEq x y) (RepV T) (ansB σ (notO (eqV σ a b))) := by
 unfold eqV
 induction h1 : snap σ eqDepth a with
 | none => exact ⟨Sim.bad, Sim.bad⟩
 | some d1 =>
  induction h2 : snap σ eqDepth b with
  | none => exact ⟨Sim.bad, Sim.bad⟩
  | some d2 =>
   simp only
   induction h3 : eqN eqDepth d1 d2 with
   | none => exact ⟨Sim.bad, Sim.bad⟩
   | some c =>
    have := eqN_ok eqDepth d1 d2 x y c A (eqDepth_room ha).1 (snap_rep st _ _ _ _ ra h1) (snap_rep st _ _ _ _ rb h2) h3
    exact ⟨Sim.ansB st fun Q h => this.rc T.prog T.w _ Q h, Sim.ansB st fun Q h => this.ne T.prog T.w _ Q h⟩
theorem sim_inL {a b : V} {x y : Value} {d : PyData} {ys : List PyData} {c : Bool} (ha : AOk fe n A) (st : St T g σ s.heap) (ra : RepV T g a x) (rb : RepV T g b y) (h1 : snap σ eqDepth a = some d) (h2 : snap σ eqDepth b = some (.list ys) ∨ snap σ eqDepth b = some (.tuple ys)) (h3 : inD d ys = some c) :
 Sim T fs A g s (compareOp .In x y) (RepV T) (ansB σ (some c)) ∧ Sim T fs A g s (compareOp .NotIn x y) (RepV T) (ansB σ (some (!c))) := by
 have r1 := snap_rep st _ _ _ _ ra h1
 rcases h2 with h2 | h2
 ·obtain ⟨l, o, vs, k, rfl, e2, e3, e4, e5, e6⟩ := snap_rep st _ _ _ _ rb h2
  obtain ⟨h4, h5⟩ := inD_ok (A := A.in1) (eqDepth_room ha).2 r1 ys vs.toList c e5 h3
  have h6 : c = vs.any (eqTo s.heap d) := by rw [h5]; simp
  rw [h6]
  exact ⟨Sim.ansB st fun Q h => in_listAt (eqTo s.heap d) ⟨o, e2, e3, k, e4⟩ (fun z hz => h4 z (by exact Array.mem_toList_iff.mpr hz)) h, Sim.ansB st fun Q h => notIn_listAt (eqTo s.heap d) ⟨o, e2, e3, k, e4⟩ (fun z hz => h4 z (by exact Array.mem_toList_iff.mpr hz)) h⟩
 ·obtain ⟨l, o, vs, k, rfl, e2, e3, e4, e5, e6⟩ := snap_rep st _ _ _ _ rb h2
  obtain ⟨h4, h5⟩ := inD_ok (A := A.in1) (eqDepth_room ha).2 r1 ys vs.toList c e5 h3
  have h6 : c = vs.any (eqTo s.heap d) := by rw [h5]; simp
  rw [h6]
  exact ⟨Sim.ansB st fun Q h => in_tupleAt (eqTo s.heap d) ⟨o, e2, e3, k, e4⟩ (fun z hz => h4 z (by exact Array.mem_toList_iff.mpr hz)) h, Sim.ansB st fun Q h => notIn_tupleAt (eqTo s.heap d) ⟨o, e2, e3, k, e4⟩ (fun z hz => h4 z (by exact Array.mem_toList_iff.mpr hz)) h⟩
theorem dictO_some {o : Option O} {d : O} (h : dictO o = some d) : o = some d ∧ ((∃ kvs, d = .dictS kvs) ∨ ∃ kvs, d = .dictP kvs) := by
 induction o with
 | none => exact none_ne h
 | some o => induction o with
  | list _ => exact none_ne h
  | dictS kvs => obtain rfl := Option.some.inj h; exact ⟨rfl, .inl ⟨kvs, rfl⟩⟩
  | dictP kvs => obtain rfl := Option.some.inj h; exact ⟨rfl, .inr ⟨kvs, rfl⟩⟩
theorem dictOf_some {v : V} {d : O} (h : dictOf σ v = some d) : ∃ k, v = .ref k ∧ σ[k]? = some d ∧ ((∃ kvs, d = .dictS kvs) ∨ ∃ kvs, d = .dictP kvs) := by
 cases v with
 | ref k => exact ⟨k, rfl, (dictO_some h).1, (dictO_some h).2⟩
 | _ => exact none_ne h
theorem isPairV_rep {v : V} {x : Value} {q : Str × Int} (r : RepV T g v x) (h : isPairV v = some q) : ∃ b, x = .ref b ∧ RepD g.fz (.tuple [.str q.1, .int q.2]) (.ref b) := by
 have h : (match isTupV v with | some xs => pairOf xs | none => none) = some q := h
 induction e : isTupV v with
 | none => rw [e] at h; exact none_ne h
 | some xs =>
  rw [e] at h
  have h : pairOf xs = some q := h
  have hx : xs = [.str q.1, .int q.2] := by
   rcases xs with _ | ⟨x, _ | ⟨y, _ | ⟨z, l⟩⟩⟩
   ·exact none_ne h
   ·exact none_ne h
   ·have h : (match isStrV (.d x) with | some a => (match isIntV (.d y) with | some i => some (a, i) | none => none) | none => none) = some q := h
    cases x with
    | str a => cases y with
     | int i => rw [<- Option.some.inj (show some (a, i) = some q from h)]
     | _ => exact none_ne h
    | _ => exact none_ne h
   ·exact none_ne h
  have r1 := isTupV_rep r e
  rw [hx] at r1
  obtain ⟨a, o, vs, n, rfl, q2⟩ := id r1
  exact ⟨a, rfl, r1⟩
theorem in1_room (ha : AOk fe n A) : A.in1.units < cLine := Nat.lt_of_le_of_lt (Nat.le_add_right _ _) (eqDepth_room ha).2
theorem sim_in {a b : V} {x y : Value} (ok : TopOk T) (ha : AOk fe n A) (st : St T g σ s.heap) (ra : RepV T g a x) (rb : RepV T g b y) :
 Sim T fs A g s (compareOp .In x y) (RepV T) (ansB σ (inV σ a b)) ∧ Sim T fs A g s (compareOp .NotIn x y) (RepV T) (ansB σ (notO (inV σ a b))) := by
 have seq : Sim T fs A g s (compareOp .In x y) (RepV T) (ansB σ (inSeq σ a b)) ∧ Sim T fs A g s (compareOp .NotIn x y) (RepV T) (ansB σ (notO (inSeq σ a b))) := by
  unfold inSeq
  induction h1 : snap σ eqDepth a with
  | none => exact ⟨Sim.bad, Sim.bad⟩
  | some d => induction h2 : snap σ eqDepth b with
  | none => exact ⟨Sim.bad, Sim.bad⟩
  | some ds => cases ds with
  | list ys =>
   show Sim T fs A g s _ _ (ansB σ (inD d ys)) ∧ Sim T fs A g s _ _ (ansB σ (notO (inD d ys)))
   induction h3 : inD d ys with
   | none => exact ⟨Sim.bad, Sim.bad⟩
   | some c => exact sim_inL ha st ra rb h1 (.inl h2) h3
  | tuple ys =>
   show Sim T fs A g s _ _ (ansB σ (inD d ys)) ∧ Sim T fs A g s _ _ (ansB σ (notO (inD d ys)))
   induction h3 : inD d ys with
   | none => exact ⟨Sim.bad, Sim.bad⟩
   | some c => exact sim_inL ha st ra rb h1 (.inr h2) h3
  | _ => exact ⟨Sim.bad, Sim.bad⟩
 unfold inV
 induction e1 : dictOf σ b with
 | none => exact seq
 | some o =>
  obtain ⟨k, rfl, hσ, hk⟩ := dictOf_some e1
  obtain ⟨l, hl, rfl⟩ := rb
  rcases hk with ⟨kvs, rfl⟩ | ⟨kvs, rfl⟩
  ·show Sim T fs A g s _ _ (ansB σ (match (match isStrV a with | some x => some (getK kvs x) | none => none) with | some r => some r.isSome | none => none)) ∧ Sim T fs A g s _ _ (ansB σ (notO (match (match isStrV a with | some x => some (getK kvs x) | none => none) with | some r => some r.isSome | none => none)))
   induction e2 : isStrV a with
   | none => exact ⟨Sim.bad, Sim.bad⟩
   | some u =>
    obtain ⟨t, rfl, _⟩ := isStrV_rep ra e2
    exact ⟨sim_inS (not_mods ok st hl) st hl hσ, sim_ninS (not_mods ok st hl) st hl hσ⟩
  ·show Sim T fs A g s _ _ (ansB σ (match (match isPairV a with | some x => some (getK kvs x) | none => none) with | some r => some r.isSome | none => none)) ∧ Sim T fs A g s _ _ (ansB σ (notO (match (match isPairV a with | some x => some (getK kvs x) | none => none) with | some r => some r.isSome | none => none)))
   induction e2 : isPairV a with
   | none => exact ⟨Sim.bad, Sim.bad⟩
   | some u =>
    obtain ⟨t, rfl, r2⟩ := isPairV_rep ra e2
    exact ⟨sim_inP (in1_room ha) (not_mods ok st hl) st hl hσ r2, sim_ninP (in1_room ha) (not_mods ok st hl) st hl hσ r2⟩
theorem sim_is {a b : V} {x y : Value} (st : St T g σ s.heap) (ra : RepV T g a x) (rb : RepV T g b y) :
 Sim T fs A g s (compareOp .Is x y) (RepV T) (ansB σ (isV a b)) ∧ Sim T fs A g s (compareOp .IsNot x y) (RepV T) (ansB σ (notO (isV a b))) := by
 cases b with
 | d z =>
  cases z with
  | none =>
   obtain rfl : y = .none := rb
   induction e : isV a (.d .none) with
   | none => exact ⟨Sim.bad, Sim.bad⟩
   | some q =>
    have f := form_facts (form_of ra e)
    cases q with
    | true => obtain rfl := f.2.1 rfl; exact ⟨Sim.ansB st fun Q h => wpAny_is_self rfl h, Sim.ansB st fun Q h => wpAny_isNot_self rfl h⟩
    | false => exact ⟨Sim.ansB st fun Q h => wpAny_is_other f.1 (f.2.2 rfl) h, Sim.ansB st fun Q h => wpAny_isNot_other f.1 (f.2.2 rfl) h⟩
  | _ => exact ⟨Sim.bad, Sim.bad⟩
 | _ => exact ⟨Sim.bad, Sim.bad⟩
theorem sim_ord {op : CmpOp} {f : Int -> Int -> Bool} {k : Str -> Str -> Bool} {a b : V} {x y : Value} (ra : RepV T g a x) (rb : RepV T g b y)
 (h1 : ∀ i j t u, Sim T fs A g s (compareOp op (.int i t) (.int j u)) (RepV T) (ansB σ (some (f i j)))) (h2 : ∀ i j t u, Sim T fs A g s (compareOp op (.str i t) (.str j u)) (RepV T) (ansB σ (some (k i j)))) :
 Sim T fs A g s (compareOp op x y) (RepV T) (ansB σ (ordV f k a b)) := by
 unfold ordV
 induction e1 : isIntV a with
 | some i =>
  induction e2 : isIntV b with
  | none => exact Sim.bad
  | some j =>
   obtain ⟨t, rfl⟩ := isIntV_rep ra e1
   obtain ⟨u, rfl⟩ := isIntV_rep rb e2
   exact h1 i j t u
 | none =>
  induction e3 : isStrV a with
  | none => exact Sim.bad
  | some i =>
   induction e4 : isStrV b with
   | none => exact Sim.bad
   | some j =>
    obtain ⟨t, rfl, _⟩ := isStrV_rep ra e3
    obtain ⟨u, rfl, _⟩ := isStrV_rep rb e4
    exact h2 i j t u
theorem sim_cmpop (ok : TopOk T) (op : CmpOp) {a b : V} {x y : Value} (ha : AOk fe n A) (st : St T g σ s.heap) (ra : RepV T g a x) (rb : RepV T g b y) :
 Sim T fs A g s (compareOp op x y) (RepV T) (ansB σ (cmpop op a b σ)) := by
 induction op with
 | Eq => exact (sim_eq ha st ra rb).1
 | NotEq => exact (sim_eq ha st ra rb).2
 | In => exact (sim_in ok ha st ra rb).1
 | NotIn => exact (sim_in ok ha st ra rb).2
 | Is => exact (sim_is st ra rb).1
 | IsNot => exact (sim_is st ra rb).2
 | Lt => exact sim_ord ra rb (fun _ _ _ _ => Sim.ansB st fun Q h => P.lt_int h) (fun _ _ _ _ => Sim.ansB st fun Q h => P.lt_str h)
 | LtE => exact sim_ord ra rb (fun _ _ _ _ => Sim.ansB st fun Q h => P.le_int h) (fun _ _ _ _ => Sim.ansB st fun Q h => P.le_str h)
 | Gt => exact sim_ord ra rb (fun _ _ _ _ => Sim.ansB st fun Q h => P.gt_int h) (fun _ _ _ _ => Sim.ansB st fun Q h => P.gt_str h)
 | GtE => exact sim_ord ra rb (fun _ _ _ _ => Sim.ansB st fun Q h => P.ge_int h) (fun _ _ _ _ => Sim.ansB st fun Q h => P.ge_str h)
end
end Mine.Internal
namespace Mine.Internal
open PySem PySem.Calls PySem.SeqAt
section
variable {T : Top} {fs : List Addr} {A : Around} {g : G} {σ : Store} {s : Shared} {fe : List Env} {n : Nat}
noncomputable def ansO (σ : Store) : Option V -> Res V
 | some v => .ok v σ
 | none => .bad
theorem small_bounds {i : Int} (h : small i = true) : -(2 ^ 63) <= i ∧ i < 2 ^ 63 := by
 simp only [small, Bool.and_eq_true, decide_eq_true_eq] at h
 lia
theorem seqIndex_nonneg {k : Int} {n j : Nat} (h : seqIndex? k n = some j) (h0 : 0 <= k) : k.toNat = j ∧ j < n := by
 unfold seqIndex? at h
 simp only [if_neg (show ¬ k < 0 by lia)] at h
 split at h
 ·rename_i q
  simp only [Bool.and_eq_true, decide_eq_true_eq] at q
  obtain rfl := Option.some.inj h
  exact ⟨rfl, by lia⟩
 ·exact none_ne h
theorem seqIndex_negative {k : Int} {n j : Nat} (h : seqIndex? k n = some j) (h0 : k < 0) : (k + n).toNat = j ∧ j < n ∧ -(n : Int) <= k := by
 unfold seqIndex? at h
 simp only [if_pos h0] at h
 split at h
 ·rename_i q
  simp only [Bool.and_eq_true, decide_eq_true_eq] at q
  obtain rfl := Option.some.inj h
  exact ⟨rfl, by lia, by lia⟩
 ·exact none_ne h
theorem chr1_len (c : Nat) : (chr1 c).length <= line := by show 1 <= line; unfold line; (exact Nat.succ_pos _)
theorem sim_getItemI {a i : V} {x y : Value} (st : St T g σ s.heap) (ra : RepV T g a x) (ri : RepV T g i y) :
 Sim T fs A g s (getItem x y) (RepV T) (ansO σ (subscrI a i σ)) := by
 unfold subscrI
 induction ei : isIntV i with
 | none => exact Sim.bad
 | some k =>
  obtain ⟨u, rfl⟩ := isIntV_rep ri ei
  show Sim T fs A g s _ _ (ansO σ (if small k = true then subscrAt a k σ else none))
  by_cases hk : small k = true
  ·rw [if_pos hk]
   have q_z := small_bounds hk
   have h1 := q_z.1
   have h2 := q_z.2
   unfold subscrAt
   induction es : isStrV a with
   | some x' =>
    obtain ⟨t, rfl, _⟩ := isStrV_rep ra es
    show Sim T fs A g s _ _ (ansO σ (match Txt.charAt x' k with | some c => some (V.d (.str (chr1 c))) | none => none))
    induction hc : Txt.charAt x' k with
    | none => exact Sim.bad
    | some c =>
     refine Sim.ofTok st fun Q h => SB.getItem ?_ (by rw [hc]; rfl) (h _ _ ⟨s.toks, ?_, chr1_len c⟩)
     ·unfold fitsSsize; simp; lia
     ·unfold Txt.item; rw [hc]; rfl
   | none =>
    show Sim T fs A g s _ _ (ansO σ (match seqOf σ a with | some vs => (match seqIndex? k vs.length with | some j => vs[j]? | none => none) | none => none))
    induction e : seqOf σ a with
    | none => exact Sim.bad
    | some vs =>
     obtain ⟨l, o, xs, m, rfl, ho, hc, hd, hr, hl⟩ := seqOf_rep st ra e
     have hlen := hr.length
     show Sim T fs A g s _ _ (ansO σ (match seqIndex? k vs.length with | some j => vs[j]? | none => none))
     induction hj : seqIndex? k vs.length with
     | none => exact Sim.bad
     | some j =>
      show Sim T fs A g s _ _ (ansO σ vs[j]?)
      induction hv : vs[j]? with
      | none => exact Sim.bad
      | some v =>
       obtain ⟨w, hw, hrw⟩ := hr.get hv
       have hw' : xs[j]? = some w := by simpa using hw
       have hn : vs.length = xs.size := by simpa using hlen
       refine Sim.of ?_
       rcases hc with hc | hc
       ·have hL : s.heap.IsList l xs := ⟨o, ho, hc, m, hd⟩
        by_cases h0 : 0 <= k
        ·have q_z := seqIndex_nonneg hj h0
         have q1 := q_z.1
         have q2 := q_z.2
         exact wpAny_getItem_list hL h0 h2 (by rw [q1]; exact hw') ⟨g, .refl st, hrw⟩
        ·have q_z := seqIndex_negative hj (by (exact Int.not_le.mp ‹_›))
         have q1 := q_z.1
         have q2 := q_z.2.1
         have q3 := q_z.2.2
         exact wpAny_getItem_list_neg hL (by (exact Int.not_le.mp ‹_›)) (by rw [<- hn]; exact q3) h1 (by rw [<- hn, q1]; exact hw') ⟨g, .refl st, hrw⟩
       ·exact PyProof.Rows.getItem_tuple ⟨o, ho, hc, m, hd⟩ h1 h2 (by rw [<- hn]; exact hj) hw' ⟨g, .refl st, hrw⟩
  ·rw [if_neg hk]; exact Sim.bad
theorem sim_getItem {a i : V} {x y : Value} (ha : AOk fe n A) (st : St T g σ s.heap) (ra : RepV T g a x) (ri : RepV T g i y) :
 Sim T fs A g s (getItem x y) (RepV T) (ansO σ (subscr a i σ)) := by
 unfold subscr
 induction e1 : dictOf σ a with
 | none => exact sim_getItemI st ra ri
 | some o =>
  obtain ⟨k, rfl, hσ, hk⟩ := dictOf_some e1
  obtain ⟨l, hl, rfl⟩ := ra
  rcases hk with ⟨kvs, rfl⟩ | ⟨kvs, rfl⟩
  ·show Sim T fs A g s _ _ (ansO σ (match (match isStrV i with | some x => some (getK kvs x) | none => none) with | some r => (match r with | some d => some (V.d d) | none => none) | none => none))
   induction e2 : isStrV i with
   | none => exact Sim.bad
   | some u =>
    obtain ⟨t, rfl, _⟩ := isStrV_rep ri e2
    show Sim T fs A g s _ _ (ansO σ (match getK kvs u with | some d => some (V.d d) | none => none))
    induction e3 : getK kvs u with
    | none => exact Sim.bad
    | some d => exact sim_getS st hl hσ e3
  ·show Sim T fs A g s _ _ (ansO σ (match (match isPairV i with | some x => some (getK kvs x) | none => none) with | some r => (match r with | some d => some (V.d d) | none => none) | none => none))
   induction e2 : isPairV i with
   | none => exact Sim.bad
   | some u =>
    obtain ⟨t, rfl, r2⟩ := isPairV_rep ri e2
    show Sim T fs A g s _ _ (ansO σ (match getK kvs u with | some d => some (V.d d) | none => none))
    induction e3 : getK kvs u with
    | none => exact Sim.bad
    | some d => exact sim_getP (in1_room ha) st hl hσ r2 e3
theorem cutAt_rep {T : Top} {g : G} {ws : List V} {xs : Array Value} (lo hi : Option Int) (r : RepVs T g ws xs.toList) : RepVs T g (cutAt lo hi ws) (slicePick xs lo hi none).toList := by
 rw [slicePick_plain]
 have hl : ws.length = xs.size := by simpa using r.length
 unfold cutAt
 rw [hl]
 have drp : ∀ (k : Nat) {ws : List V} {vs : List Value}, RepVs T g ws vs -> RepVs T g (ws.drop k) (vs.drop k) := by
  intro k
  induction k with
  | zero => intro ws vs h; simpa using h
  | succ k ih =>
   intro ws vs h
   induction ws with
   | nil => induction vs with
    | nil => simpa using h
    | cons _ _ => exact h.elim
   | cons w ws => induction vs with
    | nil => exact h.elim
    | cons v vs => simpa using ih h.2
 have tke : ∀ (k : Nat) {ws : List V} {vs : List Value}, RepVs T g ws vs -> RepVs T g (ws.take k) (vs.take k) := by
  intro k
  induction k with
  | zero => intro ws vs h; simp; exact trivial
  | succ k ih =>
   intro ws vs h
   induction ws with
   | nil => induction vs with
    | nil => simpa using h
    | cons _ _ => exact h.elim
   | cons w ws => induction vs with
    | nil => exact h.elim
    | cons v vs => exact ⟨h.1, ih h.2⟩
 exact tke _ (drp _ r)
theorem clipAt_le (n : Nat) (i : Int) : clipAt n i <= n := by
 exact Int.toNat_le.mpr (Int.max_le.mpr ⟨Int.natCast_nonneg n, Int.min_le_right _ _⟩)
theorem strSlice_eq (lo hi : Option Int) (x : Str) : Txt.slice x lo hi = cutS lo hi x := by
 have e : Builtin.Str.strSliceIndices lo hi 1 x.length = sliceRange (sliceBounds lo hi none x.length).1 (sliceBounds lo hi none x.length).2.1 1 := by
  unfold Builtin.Str.strSliceIndices
  cases lo <;> cases hi <;> simp [sliceBounds]
 have e2 : (Builtin.Str.strSliceIndices lo hi 1 x.length).filterMap (x.cps[·]?) = cutAt lo hi x.cps.toList := by
  rw [e, sliceBounds_plain]
  simp only [sliceRange_one, pick_run]
  unfold cutAt
  simp [Str.length]
 unfold Txt.slice cutS
 split
 ·rename_i q
  simp only [Bool.and_eq_true, beq_iff_eq] at q
  have q2 := q.2
  have l1 : (cutAt lo hi x.cps.toList).length = x.length := by
   have hb : hi.elim x.length (clipAt x.length) <= x.length := by
    induction hi with
    | none => exact Nat.le_refl _
    | some i => exact clipAt_le _ _
   rw [e, sliceBounds_plain] at q2
   simp only [sliceRange_one, List.length_map, List.length_range] at q2
   unfold cutAt
   have hx : x.cps.toList.length = x.length := by simp [Str.length]
   rw [hx, List.length_take, List.length_drop, hx]
   lia
  have l2 : cutAt lo hi x.cps.toList = x.cps.toList := by
   have hs : (cutAt lo hi x.cps.toList).Sublist x.cps.toList := (List.take_sublist _ _).trans (List.drop_sublist _ _)
   exact hs.eq_of_length (by rw [l1]; unfold Str.length; simp)
  rw [l2]
 ·rw [e2]
theorem cutS_len (lo hi : Option Int) (x : Str) : (cutS lo hi x).length <= x.length := by
 show ((cutAt lo hi x.cps.toList).toArray).size <= x.cps.size
 rw [List.size_toArray, <- Array.length_toList]
 exact ((List.take_sublist _ _).trans (List.drop_sublist _ _)).length_le
noncomputable def RepO' (T : Top) (g : G) : Option V -> Value -> Prop
 | none, x => x = .none
 | some v, x => RepV T g v x
theorem endOf_part {o : Option V} {x : Value} {l : Option Int} (r : RepO' T g o x) (e : endOf o = some l) : IsPart x l ∧ ∃ p : Option (Int × Tok), x = partValue p ∧ p.map (·.1) = l := by
 induction o with
 | none =>
  obtain rfl : none = l := Option.some.inj e
  obtain rfl : x = .none := r
  exact ⟨.none, none, rfl, rfl⟩
 | some v =>
  have e : (match isIntV v with | some i => if small i = true then some (some i) else none | none => none) = some l := e
  induction ei : isIntV v with
  | none => rw [ei] at e; exact none_ne e
  | some i =>
   rw [ei] at e
   obtain rfl : some i = l := (if_some e).2
   obtain ⟨t, rfl⟩ := isIntV_rep (show RepV T g v x from r) ei
   exact ⟨.int _ _, some (_, t), rfl, rfl⟩
theorem RepDs.drop {f : Addr -> Option Obj} : ∀ (n : Nat) {ds : List PyData} {vs : List Value}, RepDs f ds vs -> RepDs f (ds.drop n) (vs.drop n)
 | 0, _, _, h => h
 | _ + 1, [], [], _ => trivial
 | n + 1, _ :: _, _ :: _, h => RepDs.drop n h.2
 | _ + 1, [], _ :: _, h => h.elim
 | _ + 1, _ :: _, [], h => h.elim
theorem sim_slice {fz : Bool} {a : V} {lo hi : Option V} {x vl vu : Value} {sl : Addr} (st : St T g σ s.heap) (ra : RepV T g a x) (rl : RepO' T g lo vl) (rh : RepO' T g hi vu) (hs : s.heap.IsSliceOf sl vl vu .none) :
 Sim T fs A g s (getItem x (.ref sl)) (RepV T) (slice fz a lo hi σ) := by
 unfold slice
 induction e1 : endOf lo with
 | none => exact Sim.bad
 | some l => induction e2 : endOf hi with
 | none => exact Sim.bad
 | some h =>
 obtain ⟨p1, q1, hq1, hq1'⟩ := endOf_part rl e1
 obtain ⟨p2, q2, hq2, hq2'⟩ := endOf_part rh e2
 subst hq1 hq2
 show Sim T fs A g s _ _ (sliceAt fz a l h σ)
 unfold sliceAt
 induction es : isStrV a with
 | some x' =>
  obtain ⟨t, rfl, hl⟩ := isStrV_rep ra es
  refine Sim.ofTok st fun Q h => wpAny_getItem_str_slice (l := q1) (u := q2) (st := none) hs rfl ?_
  have e : (if (((none : Option (Int × Tok)).map (·.1)).getD 1 == 1 && (slicePicked x' q1 q2 none).length == x'.length) = true then x' else ⟨((slicePicked x' q1 q2 none).filterMap (x'.cps[·]?)).toArray⟩) = cutS (q1.map (·.1)) (q2.map (·.1)) x' := strSlice_eq _ _ _
  unfold sliceMade
  refine post_val_or_str ?_
  rw [e, hq1', hq2']
  exact ⟨Nat.le_trans (cutS_len _ _ _) (line_eq ▸ hl), fun t' k => h _ _ ⟨t', rfl, Nat.le_trans (cutS_len _ _ _) hl⟩⟩
 | none => induction et : isTupV a with
 | some xs =>
  obtain ⟨la, o, ia, m, rfl, ho, hc, hd, hr, hl⟩ := isTupV_rep ra et
  show Sim T fs A g s _ _ (match sliceTup xs l h with | some ys => (.ok (V.d (.tuple ys)) σ : Res V) | none => .bad)
  induction ey : sliceTup xs l h with
  | none => exact Sim.bad
  | some ys =>
   induction l with
   | none => exact none_ne ey
   | some a => induction h with
   | some _ => exact none_ne ey
   | none =>
   have ey : (if 1 <= a ∧ a <= xs.length then some (xs.drop a.toNat) else none) = some ys := ey
   by_cases hb : 1 <= a ∧ a <= xs.length
   ·rw [if_pos hb] at ey
    rw [<- Option.some.inj ey]
    induction q1 with
    | none => exact none_ne hq1'
    | some q1 => induction q2 with
    | some _ => exact some_ne hq2'
    | none =>
    obtain ⟨a', t'⟩ := q1
    have hq1' : a' = a := Option.some.inj hq1'
    subst hq1'
    obtain ⟨n, rfl⟩ := Int.eq_ofNat_of_zero_le (show 0 <= a' by lia)
    have hln := hr.length
    have hn : n <= ia.size := by simp at hln; lia
    refine Sim.of (PyProof.Rows.getItem_tuple_from (u := t') ⟨o, st.fz _ _ ho, hc, m, hd⟩ hs (by lia) hn ?_ (by rw [<- line_eq]; simp at hln; lia))
    have le : G.le g (g.put s.heap.objs.size { cls := .type "tuple", data := .seq (ia.toList.drop n).toArray }) := .put (st.fz_none (atSize _))
    refine ⟨_, .put st (fun b x e => Heap.get?_push_of_some _ e) (Heap.get?_push_size _ rfl) (atSize _), ⟨_, _, (ia.toList.drop n).toArray, 0, rfl, G.put_self, rfl, rfl, ?_, by rw [List.length_drop]; lia⟩⟩
    exact RepDs.mono le.fz _ _ (RepDs.drop n hr)
   ·rw [if_neg hb] at ey; exact none_ne ey
 | none =>
  show Sim T fs A g s _ _ (match lstOf σ a with | some xs => mkList fz (cutAt l h xs) σ | none => .bad)
  induction e3 : lstOf σ a with
  | none => exact Sim.bad
  | some xs =>
   obtain ⟨la, ia, rfl, ha1, ha2, hsz⟩ := lstOf_rep st ra e3
   intro hr
   exact wpAny_getItem_list_slice ha1 hs p1 p2 .none (by simp) (made_list st (fun b x e => Heap.get?_push_of_some _ e) (Heap.get?_push_size _ rfl) (atSize _) (cutAt_rep l h ha2) hr) (line_eq ▸ hsz)
end
end Mine.Internal
namespace Mine.Internal
open PySem PySem.Calls PySem.SeqAt
/-! sorting texts -/
theorem ltStr_irrefl (a : Str) : ltStr a a = false := by
 unfold ltStr; exact decide_eq_false (List.lt_irrefl _)
theorem ltStr_asymm {a b : Str} (h : ltStr a b = true) : ltStr b a = false := by
 unfold ltStr at *
 exact decide_eq_false (List.lt_asymm (of_decide_eq_true h))
theorem ltStr_trans {a b c : Str} (h : ltStr a b = true) (h' : ltStr b c = true) : ltStr a c = true := by
 unfold ltStr at *
 exact decide_eq_true (List.lt_trans (of_decide_eq_true h) (of_decide_eq_true h'))
theorem ltStr_total {a b : Str} (h : ltStr a b = false) (h' : ltStr b a = false) : a = b := by
 unfold ltStr at *
 have h1 := of_decide_eq_false h
 have h2 := of_decide_eq_false h'
 have : a.cps.toList = b.cps.toList := List.le_antisymm (List.not_lt.mp h2) (List.not_lt.mp h1)
 cases a; cases b; simp only [Str.mk.injEq]; exact Array.toList_inj.mp this
theorem leStr_trans {a b c : Str} (h : ltStr b a = false) (h' : ltStr c b = false) : ltStr c a = false := by
 induction e : ltStr c a with
 | false => rfl
 | true =>
  induction e' : ltStr a b with
  | true => exact tt_ ((Eq.symm (ltStr_trans e e')).trans h')
  | false => have := ltStr_total e' h; subst this; exact tt_ (e.symm.trans h')
noncomputable def Rising (l : List Str) : Prop := l.Pairwise fun a b => ltStr b a = false
theorem insStr_perm (x : Str) : ∀ l : List Str, (insStr x l).Perm (x :: l)
 | [] => .refl _
 | y :: r => by
  unfold insStr
  split
  ·exact .refl _
  ·exact (List.Perm.cons y (insStr_perm x r)).trans (.swap ..)
theorem sortStr_perm : ∀ l : List Str, (sortStr l).Perm l
 | [] => .refl _
 | x :: r => (insStr_perm x _).trans (.cons x (sortStr_perm r))
theorem insStr_rising (x : Str) : ∀ l : List Str, Rising l -> Rising (insStr x l)
 | [], _ => List.pairwise_singleton ..
 | y :: r, h => by
  obtain ⟨h1, h2⟩ := List.pairwise_cons.mp h
  unfold insStr
  split
  ·rename_i hx
   exact List.pairwise_cons.mpr ⟨fun z hz => by
    rcases List.mem_cons.mp hz with rfl | hz
    ·exact ltStr_asymm hx
    ·exact leStr_trans (ltStr_asymm hx) (h1 z hz), h⟩
  ·rename_i hx
   refine List.pairwise_cons.mpr ⟨fun z hz => ?_, insStr_rising x r h2⟩
   rcases List.mem_cons.mp ((insStr_perm x r).mem_iff.mp hz) with rfl | hz
   ·simpa using hx
   ·exact h1 z hz
theorem sortStr_rising : ∀ l : List Str, Rising (sortStr l)
 | [] => List.Pairwise.nil
 | x :: r => insStr_rising x _ (sortStr_rising r)
theorem rising_unique : ∀ {l l' : List Str}, Rising l -> Rising l' -> l.Perm l' -> l = l'
 | [], l', _, _, p => (List.nil_perm.mp p).symm
 | x :: r, [], _, _, p => absurd (List.perm_nil.mp p) (by exact List.cons_ne_nil _ _)
 | x :: r, y :: r', h, h', p => by
  obtain ⟨h1, h2⟩ := List.pairwise_cons.mp h
  obtain ⟨h1', h2'⟩ := List.pairwise_cons.mp h'
  have e : x = y := by
   have m1 : y ∈ x :: r := p.mem_iff.mpr (List.mem_cons_self ..)
   have m2 : x ∈ y :: r' := p.mem_iff.mp (List.mem_cons_self ..)
   rcases List.mem_cons.mp m1 with q | q
   ·exact q.symm
   ·rcases List.mem_cons.mp m2 with q' | q'
    ·exact q'
    ·exact ltStr_total (h1' x q') (h1 y q)
  subst e
  rw [rising_unique h2 h2' (List.Perm.cons_inv p)]
theorem ltCps_ltStr (a b : Str) : Spec.ltCps a.cps.toList b.cps.toList = ltStr a b := by
 unfold ltStr; exact PyProof.Rows.ltCps_eq _ _
theorem rising_of_risingS : ∀ (p : Str) (l : List Str), PyProof.Rows.risingS p l = true -> Rising (p :: l)
 | p, [], _ => List.pairwise_singleton ..
 | p, x :: r, h => by
  simp only [PyProof.Rows.risingS, Bool.and_eq_true, Bool.not_eq_true', ltCps_ltStr] at h
  have h2 := rising_of_risingS x r h.2
  refine List.pairwise_cons.mpr ⟨fun z hz => ?_, h2⟩
  rcases List.mem_cons.mp hz with rfl | hz
  ·exact h.1
  ·exact leStr_trans h.1 ((List.pairwise_cons.mp h2).1 z hz)
theorem rising_of_sortedS : ∀ (l : List Str), PyProof.Rows.sortedS l = true -> Rising l
 | [], _ => List.Pairwise.nil
 | x :: r, h => rising_of_risingS x r h
noncomputable def biVal : Bi -> Value
 | .len => .builtin "len"
 | .sorted => .builtin "sorted"
 | .min => .builtin "min"
 | .isinstance => .builtin "isinstance"
 | .str => .type "str"
 | .all => .builtin "all"
 | .max => .builtin "max"
 | .list => .type "list"
section
variable {T : Top} {fs : List Addr} {A : Around} {g : G} {σ : Store} {s : Shared} {fe : List Env} {n : Nat}
theorem isStrV_eq {v : V} {y : Str} (h : isStrV v = some y) : v = .d (.str y) := by
 cases v with
 | d x => cases x with
  | str z => rw [Option.some.inj (show some z = some y from h)]
  | _ => exact none_ne h
 | _ => exact none_ne h
theorem isBoolV_rep {v : V} {x : Value} {b : Bool} (r : RepV T g v x) (h : isBoolV v = some b) : x = .bool b := by
 cases v with
 | d y => cases y with
  | bool z => rw [<- Option.some.inj (show some z = some b from h)]; exact r
  | _ => exact none_ne h
 | _ => exact none_ne h
theorem strsV_rep : ∀ {vs : List V} {xs : List Value} {ss : List Str}, RepVs T g vs xs -> strsV vs = some ss -> PyProof.Rows.StrsAre xs ss ∧ (∀ y ∈ ss, y.length <= line) ∧ vs = ss.map (fun y => .d (.str y)) := by
 intro vs
 induction vs with
 | nil =>
  intro xs ss r e
  induction xs with
  | cons _ _ => exact r.elim
  | nil => rw [<- Option.some.inj e]; exact ⟨.nil, fun _ h => (nomatch h), rfl⟩
 | cons v vs ih =>
  intro xs ss r e
  induction xs with
  | nil => exact r.elim
  | cons x xs =>
  have e : (match isStrV v with | some x => (match strsV vs with | some xs => some (x :: xs) | none => none) | none => none) = some ss := e
  induction ev : isStrV v with
  | none => rw [ev] at e; exact none_ne e
  | some y => induction er : strsV vs with
  | none => rw [ev, er] at e; exact none_ne e
  | some ss' =>
   rw [ev, er] at e
   rw [<- Option.some.inj e]
   obtain ⟨t, rfl, hl⟩ := isStrV_rep r.1 ev
   obtain ⟨h1, h2, h3⟩ := ih r.2 er
   refine ⟨.cons y t h1, fun z hz => ?_, by rw [isStrV_eq ev, h3]; rfl⟩
   rcases List.mem_cons.mp hz with rfl | hz
   ·exact hl
   ·exact h2 z hz
theorem boolsV_rep : ∀ {vs : List V} {xs : List Value} {bs : List Bool}, RepVs T g vs xs -> boolsV vs = some bs -> xs = bs.map Value.bool := by
 intro vs
 induction vs with
 | nil =>
  intro xs ss r e
  induction xs with
  | cons _ _ => exact r.elim
  | nil => rw [<- Option.some.inj e]; rfl
 | cons v vs ih =>
  intro xs ss r e
  induction xs with
  | nil => exact r.elim
  | cons x xs =>
  have e : (match isBoolV v with | some x => (match boolsV vs with | some xs => some (x :: xs) | none => none) | none => none) = some ss := e
  induction ev : isBoolV v with
  | none => rw [ev] at e; exact none_ne e
  | some y => induction er : boolsV vs with
  | none => rw [ev, er] at e; exact none_ne e
  | some ss' =>
   rw [ev, er] at e
   rw [<- Option.some.inj e, isBoolV_rep r.1 ev, ih r.2 er]; rfl
theorem range_all : ∀ (bs : List Bool), (List.range bs.length).all (fun i => bs[i]?.getD false) = bs.all id
 | [] => rfl
 | b :: bs => by
  rw [List.length_cons, List.range_succ_eq_map, List.all_cons, List.all_map, List.all_cons, <- range_all bs]
  rfl
theorem isListO_ok {o : Option O} (h : isListO o = true) : ∃ ws, o = some (.list ws) := by
 induction o with
 | none => exact (Bool.false_ne_true h).elim
 | some o => induction o with
  | dictS _ => exact (Bool.false_ne_true h).elim
  | dictP _ => exact (Bool.false_ne_true h).elim
  | list ws => exact ⟨ws, rfl⟩
theorem sim_all {v : V} {x : Value} (ha : AOk fe n A) (st : St T g σ s.heap) (rx : RepV T g v x) : Sim T fs A g s (call (.builtin "all") [x]) (RepV T) (bAll v σ) := by
 unfold bAll
 induction e : lstOf σ v with
 | none => exact Sim.bad
 | some ws =>
 obtain ⟨a, ys, rfl, hL, hr, hl⟩ := lstOf_rep st rx e
 show Sim T fs A g s _ _ (match boolsV ws with | some bs => (.ok (V.d (.bool (bs.all id))) σ : Res V) | none => .bad)
 induction eb : boolsV ws with
 | none => exact Sim.bad
 | some bs =>
 have hb := boolsV_rep hr eb
 have hsz : ys.size = bs.length := by rw [<- Array.length_toList, hb, List.length_map]
 refine Sim.of (call_all_walk (wpAny_pyIter_list hL ?_))
 obtain ⟨ol, hol, hcl, nl, hdl⟩ := id hL
 have hne : a ≠ s.heap.objs.size := Nat.ne_of_lt (Heap.lt_size hol)
 refine ⟨_, _, _, _, _, _, fun i => bs[i]?.getD false, rfl, Walks.list (A := A.in1) (show A.in1.handled = none from ha.handled) s.heap.objs.size a hne ys, ⟨⟨_, Heap.get?_push_size _ rfl, rfl, rfl⟩, ⟨ol, Heap.get?_push_of_some _ hol, hcl, nl, hdl⟩⟩, ?_, fun h' tk hk => ?_⟩
 ·intro i w s' Q E hw hq
  have hw : ys.toList[i]? = some w := by exact Array.getElem?_toList.trans hw
  have hq : Q (bs[i]?.getD false) s' := hq
  rw [hb, List.getElem?_map] at hw
  induction ebi : bs[i]? with
  | none => rw [ebi] at hw; exact none_ne hw
  | some c =>
   rw [ebi] at hw hq
   have hw : Value.bool c = w := Option.some.inj hw
   rw [<- hw]
   exact wpAny_truthy_bool hq
 ·rw [hsz, range_all]
  refine ⟨g, .grow st fun b o e => hk b o (fun q => ?_) (Heap.get?_push_of_some _ e), rfl⟩
  rw [List.mem_singleton.mp q, atSize] at e; exact none_ne e
theorem sim_isTy {v : V} {x : Value} {t : String} {b : Bool} (st : St T g σ s.heap) (rx : RepV T g v x) (hb : isTy σ v t = some b) : Sim T fs A g s (call (.builtin "isinstance") [x, .type t]) (RepV T) (.ok (.d (.bool b)) σ) := by
 refine Sim.ofTok st fun Q h => ?_
 have h : ∀ k, Q (.bool b) { s with toks := k } := fun k => h _ k rfl
 have seq : ∀ {cl : String} {P : List Value -> Prop} {k : Nat}, SeqIs g.fz cl x P k -> s.TypeIs x cl := fun {cl P k} ⟨a, o, ys, k', e, q2, q3, q4, q5, q6⟩ => by rw [e]; exact ⟨_, st.fz _ _ q2, q3⟩
 cases v with
 | d y => cases y with
  | tuple _ =>
   obtain ⟨rfl, rfl⟩ := if_some hb
   exact call_isinstance (isinstance_true (Tx := "tuple") (by kernel_rfl) (by rw [isSubtype_type]; kernel_rfl)) ⟨seq rx, h s.toks⟩
  | list _ =>
   obtain ⟨rfl, rfl⟩ := if_some hb
   exact call_isinstance (isinstance_true (Tx := "list") (by kernel_rfl) (by rw [isSubtype_type]; kernel_rfl)) ⟨seq rx, h s.toks⟩
  | str _ =>
   obtain ⟨rfl, rfl⟩ := if_some hb
   obtain ⟨t, rfl, _⟩ := rx
   exact call_isinstance (isinstance_true (Tx := "str") (by kernel_rfl) (by rw [isSubtype_type]; kernel_rfl)) ⟨typeIs_str _ _ _, h s.toks⟩
  | int _ =>
   obtain ⟨u, rfl⟩ := rx
   have hb : (if t = "int" then some true else if t = "bool" then some false else none) = some b := hb
   by_cases q : t = "int"
   ·rw [if_pos q] at hb
    subst q
    rw [<- Option.some.inj hb] at h
    exact call_isinstance (isinstance_true (Tx := "int") (by kernel_rfl) (by rw [isSubtype_type]; kernel_rfl)) ⟨typeIs_int _ _ _, h s.toks⟩
   ·rw [if_neg q] at hb
    obtain ⟨rfl, rfl⟩ := if_some hb
    exact call_isinstance (isinstance_false_int (by decide) (by kernel_rfl) (by rw [isSubtype_type]; kernel_rfl)) (h _)
  | bool c =>
   obtain ⟨rfl, rfl⟩ := if_some hb
   have rx : x = .bool c := rx
   subst rx
   exact call_isinstance (isinstance_true (Tx := "bool") (by kernel_rfl) (by rw [isSubtype_type]; kernel_rfl)) ⟨typeIs_bool _ _, h s.toks⟩
  | _ => exact none_ne hb
 | tup _ =>
  obtain ⟨rfl, rfl⟩ := if_some hb
  exact call_isinstance (isinstance_true (Tx := "tuple") (by kernel_rfl) (by rw [isSubtype_type]; kernel_rfl)) ⟨seq rx, h s.toks⟩
 | ref k =>
  obtain ⟨⟨q, rfl⟩, rfl⟩ := if_some hb
  obtain ⟨ws, e⟩ := isListO_ok q
  obtain ⟨a, hk, rfl⟩ := rx
  obtain ⟨o, ho, ys, m', q, hr, hl⟩ := st.ob k a _ hk e
  exact call_isinstance (isinstance_true (Tx := "list") (by kernel_rfl) (by rw [isSubtype_type]; kernel_rfl)) ⟨⟨o, ho, by rw [q]⟩, h s.toks⟩
 | _ => exact none_ne hb
theorem strsAre_rep {xs : List Value} {ss : List Str} (h : PyProof.Rows.StrsAre xs ss) (hl : ∀ y ∈ ss, y.length <= line) : RepVs T g (ss.map fun y => .d (.str y)) xs := by
 induction h with
 | nil => exact trivial
 | cons y t h ih => exact ⟨⟨t, rfl, hl y (List.mem_cons_self ..)⟩, ih fun z hz => hl z (List.mem_cons_of_mem _ hz)⟩
theorem one_of {v : V} {xs : List Value} (r : RepVs T g [v] xs) : ∃ x, xs = [x] ∧ RepV T g v x := by
 rcases xs with _ | ⟨x, _ | ⟨y, l⟩⟩
 ·exact r.elim
 ·exact ⟨x, rfl, r.1⟩
 ·exact r.2.elim
theorem two_of {v w : V} {xs : List Value} (r : RepVs T g [v, w] xs) : ∃ x y, xs = [x, y] ∧ RepV T g v x ∧ RepV T g w y := by
 rcases xs with _ | ⟨x, l⟩
 ·exact r.elim
 ·obtain ⟨y, e, ry⟩ := one_of r.2
  exact ⟨x, y, by rw [e], r.1, ry⟩
theorem sim_list {fz : Bool} {v : V} {x : Value} (st : St T g σ s.heap) (rx : RepV T g v x) : Sim T fs A g s (call (.type "list") [x]) (RepV T) (bList fz v σ) := by
 unfold bList
 induction e : lstOf σ v with
 | none => exact Sim.bad
 | some vs' =>
  obtain ⟨a, ys, rfl, hL, hr, hl⟩ := lstOf_rep st rx e
  obtain ⟨o, ho, hc, m, hd⟩ := hL
  intro hb
  exact PySem.call_list_seq (hsz := line_eq ▸ hl) a (.inl rfl) ho hc hd fun h' c' hk hD => made_list st hk hD (atSize _) hr hb
set_option tactic.hygienic true in
theorem sim_bcall (b : Bi) (fz : Bool) {vs : List V} {xs : List Value} (ha : AOk fe n A) (st : St T g σ s.heap) (r : RepVs T g vs xs) :
 Sim T fs A g s (call (biVal b) xs) (RepV T) (bcall b fz vs σ) := by
 rcases vs with _ | ⟨v, _ | ⟨w, _ | ⟨u, t⟩⟩⟩
 ·exact Sim.bad
 ·obtain ⟨x, rfl, rx⟩ := one_of r
  induction b with
  | len =>
   show Sim _ _ _ _ _ _ _ (bLen v σ)
   unfold bLen
   induction es : isStrV v with
   | some x' =>
    obtain ⟨t, rfl, hl⟩ := isStrV_rep rx es
    exact Sim.ofTok st fun Q h => P.len_str (by have := line63 hl; lia) (h _ _ ⟨_, rfl⟩)
   | none =>
    induction e : seqOf σ v with
    | none => exact Sim.bad
    | some vs' =>
     obtain ⟨a, o, ys, k, rfl, ho, hc, hd, hr, hl⟩ := seqOf_rep st rx e
     have hn : vs'.length = ys.size := by exact hr.length
     refine Sim.ofTok st fun Q h => ?_
     rw [hn] at h
     rcases hc with hc | hc
     ·exact PyProof.Rows.len_list ⟨o, ho, hc, k, hd⟩ (line63 hl) (h _ _ ⟨_, rfl⟩)
     ·exact PyProof.Rows.len_tuple ⟨o, ho, hc, k, hd⟩ (line63 hl) (h _ _ ⟨_, rfl⟩)
  | str =>
   show Sim _ _ _ _ _ _ _ (match isIntV v with | some i => if i.natAbs < 1000000000000 then (.ok (V.d (.str (strOf i))) σ : Res V) else .bad | none => .bad)
   induction e : isIntV v with
   | none => exact Sim.bad
   | some i =>
    obtain ⟨t, rfl⟩ := isIntV_rep rx e
    show Sim _ _ _ _ _ _ _ (if i.natAbs < 1000000000000 then (.ok (V.d (.str (strOf i))) σ : Res V) else .bad)
    split
    ·rename_i hi
     refine Sim.ofTok st fun Q h => P.str_of_int ?_ (h _ _ ⟨_, rfl, ?_⟩)
     ·by_cases h0 : i.natAbs = 0
      ·rw [h0]; decide
      ·exact Nat.lt_trans ((Nat.log2_lt (k := 40) h0).mpr (Nat.lt_trans hi (by decide))) (by decide)
     ·have h10 := int_text_length_le10 (a := i) (k := 12) (by decide) hi
      show (Str.ofString (toString i)).length <= line
      rw [ofString_length]
      unfold line
      lia
    ·exact Sim.bad
  | sorted =>
   show Sim _ _ _ _ _ _ _ (bSort fz v σ)
   unfold bSort
   split
   ·rename_i vs' e
    obtain ⟨a, ys, rfl, hL, hr, hl⟩ := lstOf_rep st rx e
    split
    ·rename_i ss es
     split
     ·rename_i h64
      obtain ⟨h1, h2, h3⟩ := strsV_rep hr es
      intro hb
      have hlen : ys.toList.length < 64 := by rw [<- hr.length, h3, List.length_map]; exact h64
      refine PyProof.Rows.sorted_strs (vs := ys.toList) hL h1 hlen fun out ss' a1 a2 a3 => ?_
      have e1 : ss' = sortStr ss := rising_unique (rising_of_sortedS _ a3) (sortStr_rising _) (a2.trans (sortStr_perm ss).symm)
      obtain ⟨k, hk⟩ := PyProof.Rows.sortedAll_at s.heap ys.toList out
      refine made_list (s' := { s with heap := PyProof.Rows.sortedAll s.heap ys.toList out }) st (fun b x e => PyProof.Rows.sortedAll_old e) hk (Heap.get?_none_of_le (Nat.le_succ _)) ?_ hb
      rw [<- e1]
      exact strsAre_rep a1 fun z hz => h2 z (a2.mem_iff.mp hz)
     ·exact Sim.bad
    ·exact Sim.bad
   ·exact Sim.bad
  | all => exact sim_all ha st rx
  | list => exact sim_list st rx
  | _ => exact Sim.bad
 ·obtain ⟨x, y, rfl, rx, ry⟩ := two_of r
  induction b with
  | min =>
   show Sim _ _ _ _ _ _ _ (match isIntV v, isIntV w with | some i, some j => (.ok (V.d (.int (if j < i then j else i))) σ : Res V) | _, _ => .bad)
   induction e1 : isIntV v with
   | none => exact Sim.bad
   | some i => induction e2 : isIntV w with
    | none => exact Sim.bad
    | some j =>
     obtain ⟨t, rfl⟩ := isIntV_rep rx e1
     obtain ⟨u, rfl⟩ := isIntV_rep ry e2
     refine Sim.of (min_two_ints ha.handled fun h' tk hk => ⟨g, .grow st hk, ?_⟩)
     split
     ·exact ⟨u, rfl⟩
     ·exact ⟨t, rfl⟩
  | isinstance =>
   show Sim _ _ _ _ _ _ _ (bIsi v w σ)
   unfold bIsi
   cases w with
   | ty t =>
    have ry : y = .type t := ry
    subst ry
    show Sim _ _ _ _ _ _ _ (match isTy σ v t with | some b => (.ok (V.d (.bool b)) σ : Res V) | none => .bad)
    induction hb : isTy σ v t with
    | none => exact Sim.bad
    | some b' => exact sim_isTy st rx hb
   | _ => exact Sim.bad
  | _ => exact Sim.bad
 ·exact Sim.bad
end
end Mine.Internal
namespace Mine.Internal
open PySem PySem.Calls
section
variable {T : Top} {X X' fs own : List Addr} {g g' : G} {σ σ' : Store} {s s' : Shared} {fe : List Env} {wr : List Str} {env : Env} {vars : List Str} {ρ : Vars} {A : Around} {E : Value -> Shared -> Prop}
theorem Step.wide (x : Step T X fs g s g' σ' s') (h : ∀ a, a ∈ X -> a ∈ X') : Step T X' fs g s g' σ' s' :=
 ⟨x.le, x.st, ⟨x.kept.alive, fun b o e nb nf => x.kept.same b o e (fun q => nb (h b q)) nf, fun b o e nb hf => x.kept.slots b o e (fun q => nb (h b q)) hf⟩, x.new, x.gens, x.os⟩
theorem Step.transW {g'' : G} {s'' : Shared} {σ'' : Store} (x : Step T X fs g s g' σ' s') (y : Step T X' fs g' s' g'' σ'' s'') (h : ∀ a, a ∈ X' -> a ∈ X ∨ s.heap.get? a = none) : Step T X fs g s g'' σ'' s'' :=
 ⟨x.le.trans y.le, y.st, x.kept.trans y.kept h, x.new.trans y.new fun _ e => x.kept.dead e, y.gens.trans x.gens, y.os.trans x.os⟩
theorem Step.transO {g'' : G} {s'' : Shared} {σ'' : Store} (x : Step T (g.mu ++ own) fs g s g' σ' s') (y : Step T (g'.mu ++ own) fs g' s' g'' σ'' s'') : Step T (g.mu ++ own) fs g s g'' σ'' s'' :=
 x.transW y fun a h => (List.mem_append.mp h).elim (fun h => (x.new.mu a h).imp (fun h => List.mem_append.mpr (.inl h)) id) fun h => .inl (List.mem_append.mpr (.inr h))
theorem Step.toO (x : Step T g.mu fs g s g' σ' s') : Step T (g.mu ++ own) fs g s g' σ' s' := x.wide fun _ h => List.mem_append.mpr (.inl h)
theorem Step.extBut (st : St T g σ s.heap) {a : Addr} (ha : Apart g s.heap a) (hX : a ∈ X) (h : Heap.ExtBut a s.heap s'.heap) (hal : ∃ o, s'.heap.get? a = some o)
 (hg : s'.gens = s.gens := by rfl) (ho : s'.os = s.os := by rfl) : Step T X fs g s g σ s' := by
 have kp : ∀ b o, s.heap.get? b = some o -> b ≠ a -> s'.heap.get? b = some o := fun b o e q => h b o q e
 refine ⟨.refl g, ⟨fun b o e => kp b o (st.fz b o e) fun q => ?_, st.len, st.nd, st.ap, fun k b o e1 e2 => ?_, st.base, st.tb.keep (.refl g) fun o e => kp _ _ e fun q => ha.2.1 (q ▸ st.tb.mem)⟩, ⟨fun b o e => ?_, fun b o e nb _ => kp b o e fun q => nb (q ▸ hX), fun b o e nb _ => ⟨o.slots, kp b o e fun q => nb (q ▸ hX)⟩⟩, .refl .., hg, ho⟩
 ·rw [q, ha.1] at e; exact none_ne e
 ·obtain ⟨x, h1, h2⟩ := st.ob k b o e1 e2
  exact ⟨x, kp b x h1 fun q => ha.2.1 (q ▸ List.mem_of_getElem? e1), h2⟩
 ·by_cases q : b = a
  ·rw [q]; exact hal
  ·exact ⟨o, kp b o e q⟩
theorem Step.sameBut (st : St T g σ s.heap) {a : Addr} (ha : Apart g s.heap a) (hX : a ∈ X) (h : Heap.SameBut a s.heap s'.heap) (hal : ∃ o, s'.heap.get? a = some o)
 (hg : s'.gens = s.gens := by rfl) (ho : s'.os = s.os := by rfl) : Step T X fs g s g σ s' := .extBut st ha hX h.extBut hal hg ho
theorem tab_ne {k : Nat} {a : Addr} (st : St T g σ s.heap) (hk : g.mu[k + 1]? = some a) : T.tab ≠ a := by
 obtain ⟨ps, h0, _⟩ := st.tb
 intro q
 rw [q] at h0
 obtain ⟨l1, m1⟩ := List.getElem?_eq_some_iff.mp h0
 obtain ⟨l2, m2⟩ := List.getElem?_eq_some_iff.mp hk
 exact Nat.noConfusion ((List.getElem_inj st.nd).mp (m1.trans m2.symm))
theorem Step.turn {k : Nat} {a : Addr} {o : O} {x : Obj} (st : St T g σ s.heap) (hk : g.mu[k + 1]? = some a) (hs : Heap.SameBut a s.heap s'.heap) (hx : s'.heap.get? a = some x) (hr : RepO T g o x)
 (hg : s'.gens = s.gens := by rfl) (ho : s'.os = s.os := by rfl) : Step T g.mu fs g s g (σ.set k o) s' := by
 have hmem : a ∈ g.mu := List.mem_of_getElem? hk
 have hfz : g.fz a = none := st.ap a hmem
 refine ⟨.refl g, ⟨fun b y e => (hs.2 b fun q => by rw [q, hfz] at e; exact none_ne e).trans (st.fz b y e), by rw [List.length_set]; exact st.len, st.nd, st.ap, fun j b y e1 e2 => ?_, st.base, st.tb.keep (.refl g) fun o e => (hs.2 _ fun q => tab_ne st hk q).trans e⟩, ⟨fun b y e => ?_, fun b y e nb _ => (hs.2 b fun q => nb (q ▸ hmem)).trans e, fun b y e nb _ => ⟨y.slots, (hs.2 b fun q => nb (q ▸ hmem)).trans e⟩⟩, .refl .., hg, ho⟩
 ·by_cases q : j = k
  ·subst q
   obtain rfl := Option.some.inj (hk.symm.trans e1)
   rw [List.getElem?_set] at e2
   simp only [if_true] at e2
   split at e2
   ·obtain rfl := Option.some.inj e2; exact ⟨x, hx, hr⟩
   ·exact none_ne e2
  ·rw [List.getElem?_set_ne (fun h => q h.symm)] at e2
   obtain ⟨z, h1, h2⟩ := st.ob j b y e1 e2
   refine ⟨z, (hs.2 b fun q' => q ?_).trans h1, h2⟩
   subst q'
   have q_z := List.getElem?_eq_some_iff.mp e1
   have l1 := q_z.1
   have m1 := q_z.2
   have q_z := List.getElem?_eq_some_iff.mp hk
   have l2 := q_z.1
   have m2 := q_z.2
   exact Nat.succ.inj ((List.getElem_inj st.nd).mp (m1.trans m2.symm))
 ·by_cases q : b = a
  ·rw [q]; exact ⟨x, hx⟩
  ·exact ⟨y, (hs.2 b q).trans e⟩
theorem ns_cell_ne {h : Heap} {a c : Addr} {m : Str -> Option Value} {v : Option Value} (hn : h.Ns a m) (hc : h.IsCell c v) : a ≠ c := by
 obtain ⟨o, es, ep, ho, hd, _⟩ := hn
 obtain ⟨o', ho', hd'⟩ := hc
 intro q; subst q
 rw [ho] at ho'; exfalso; cases ho'
 rw [hd] at hd'; exfalso; cases hd'
theorem ns_uniq {h : Heap} {a : Addr} {m m' : Str -> Option Value} (h1 : h.Ns a m) (h2 : h.Ns a m') : m = m' := by
 refine cps_ fun R_ k_ => ?_
 obtain ⟨o, es, ep, ho, hd, _, hq⟩ := h1
 obtain ⟨o', es', ep', ho', hd', _, hq'⟩ := h2
 obtain rfl := Option.some.inj (ho.symm.trans ho')
 rw [hd] at hd'; cases hd'
 refine k_ ?_
 funext n
 rw [<- hq, <- hq']
theorem cell_uniq {h : Heap} {a : Addr} {m m' : Option Value} (h1 : h.IsCell a m) (h2 : h.IsCell a m') : m = m' := by
 obtain ⟨o, ho, hd⟩ := h1
 obtain ⟨o', ho', hd'⟩ := h2
 obtain rfl := Option.some.inj (ho.symm.trans ho')
 rw [hd] at hd'; cases hd'; rfl
theorem FrOk.sameBut {h h' : Heap} {a : Addr} (hs : Heap.SameBut a h h') (ho : ∃ o, h'.get? a = some o ∧ ∀ vs, o.data ≠ .fields vs) : ∀ {l : List Env}, FrOk g h l -> FrOk g h' l
 | [], _ => trivial
 | _ :: _, ⟨k, ⟨L, o, hf, hl, hd, h1, h2⟩, r⟩ => by
  refine ⟨k, ?_, FrOk.sameBut hs ho r⟩
  by_cases q : L = a
  ·obtain ⟨o', e1, e2⟩ := ho
   exact ⟨L, o', hf, q ▸ e1, e2, h1, h2⟩
  ·exact ⟨L, o, hf, (hs.2 L q).trans hl, hd, h1, h2⟩
theorem Apart.sameBut {h h' : Heap} {a b : Addr} (hs : Heap.SameBut a h h') (ho : ∃ o, h'.get? a = some o) (x : Apart g h b) : Apart g h' b := by
 refine ⟨x.1, x.2.1, ?_⟩
 by_cases q : b = a
 ·rw [q]; exact ho
 ·obtain ⟨o, e⟩ := x.2.2; exact ⟨o, (hs.2 b q).trans e⟩
theorem vars_get {ρ : Vars} {i j : Nat} {v : V} {w : Option V} (h : (ρ.set i w)[j]? = some (some v)) : (j = i ∧ w = some v) ∨ (j ≠ i ∧ ρ[j]? = some (some v)) := by
 by_cases q : i = j
 ·subst q
  rw [List.getElem?_set] at h
  simp only [if_true] at h
  split at h
  ·simp only [Option.some.injEq] at h; exact .inl ⟨rfl, h⟩
  ·exact none_ne h
 ·rw [List.getElem?_set_ne q] at h
  exact .inr ⟨fun e => q e.symm, h⟩
theorem nodup_inj {vars : List Str} (hn : vars.Nodup) {i j : Nat} {n : Str} (h1 : vars[i]? = some n) (h2 : vars[j]? = some n) : i = j := by
 obtain ⟨a, ha⟩ := List.getElem?_eq_some_iff.mp h1
 obtain ⟨b, hb⟩ := List.getElem?_eq_some_iff.mp h2
 exact (List.getElem_inj hn).mp (ha.trans hb.symm)
theorem Inv.setLocal {i : Nat} {n : Str} {v : Option V} {u : Option Value} {m : Str -> Option Value} {h' : Heap} (I : Inv T fe own wr env vars ρ g σ s.heap) (hi : vars[i]? = some n) (hk : env.kindOf n = some .local)
 (hm : s.heap.Ns env.locals m) (hn : h'.Ns env.locals (fun x => if x = n then u else m x)) (hs : Heap.SameBut env.locals s.heap h') (hr : ∀ w, v = some w -> ∃ x, u = some x ∧ RepV T g w x) :
 Inv T fe own wr env vars (ρ.set i v) g σ h' ∧ ∀ s' : Shared, s'.heap = h' -> s'.gens = s.gens -> s'.os = s.os -> Step T (g.mu ++ own) fs g s g σ s' := by
 refine cps_ fun R_ k_ => ?_
 obtain ⟨o, es, ep, ho, hd, hrest⟩ := id hn
 have al : ∃ o, h'.get? env.locals = some o := ⟨o, ho⟩
 have nf : ∃ o, h'.get? env.locals = some o ∧ ∀ vs, o.data ≠ .fields vs := ⟨o, ho, fun vs q => by rw [hd] at q; exfalso; cases q⟩
 have stp : ∀ s' : Shared, s'.heap = h' -> s'.gens = s.gens -> s'.os = s.os -> Step T (g.mu ++ own) fs g s g σ s' := fun s' e1 e2 e3 =>
  Step.sameBut I.st I.blk.loc (List.mem_append.mpr (.inr I.oloc)) (by rw [e1]; exact hs) (by rw [e1]; exact al) e2 e3
 have hc : ∀ c w, s.heap.IsCell c w -> h'.IsCell c w := fun c w q => by
  refine cps_ fun R_ k_ => ?_
  obtain ⟨oc, h1, h2⟩ := id q
  refine k_ ?_
  exact ⟨oc, (hs.2 c (Ne.symm (ns_cell_ne hm q))).trans h1, h2⟩
 refine k_ ?_
 refine ⟨⟨(stp { s with heap := h' } rfl rfl rfl).st, I.fr.sameBut hs nf, I.top, ⟨I.blk.kind, I.blk.glob, I.blk.blt, I.blk.loc.sameBut hs al, ⟨_, hn⟩, fun k hk' => ?_, I.blk.cinj⟩, ?_, I.nd, I.oloc, I.ocell, fun a ha => (I.oap a ha).sameBut hs al⟩, stp⟩
 ·refine cps_ fun R_ k_ => ?_; obtain ⟨c, w, h1, h2, h3⟩ := I.blk.cell k hk'
  refine k_ ?_
  exact ⟨c, w, h1, hc c w h2, h3.sameBut hs al⟩
 ·intro j k w hj hw
  rcases vars_get hw with ⟨q, e⟩ | ⟨q, e⟩
  ·subst q
   obtain rfl := Option.some.inj (hi.symm.trans hj)
   refine cps_ fun R_ k_ => ?_
   obtain ⟨x, hx, hrx⟩ := hr w e
   refine k_ ?_
   exact ⟨fun _ => ⟨_, x, hn, by simp [hx], hrx⟩, fun q => by rw [hk] at q; rcases q with q | q <;> cases q⟩
  ·have hkn : k ≠ n := fun q' => q (nodup_inj I.nd hj (q' ▸ hi))
   obtain ⟨h1, h2⟩ := I.sees j k w hj e
   refine ⟨fun hl => ?_, fun hl => ?_⟩
   ·refine cps_ fun R_ k_ => ?_; obtain ⟨m', y, q1, q2, q3⟩ := h1 hl
    have := ns_uniq hm q1
    refine k_ ?_
    subst this
    exact ⟨_, y, hn, by simp [hkn, q2], q3⟩
   ·refine cps_ fun R_ k_ => ?_; obtain ⟨c, y, q1, q2, q3⟩ := h2 hl
    refine k_ ?_
    exact ⟨c, y, q1, hc _ _ q2, q3⟩
theorem Inv.setCell {i : Nat} {n : Str} {c : Addr} {v : Option V} {u₀ u : Option Value} {h' : Heap} (I : Inv T fe own wr env vars ρ g σ s.heap) (hi : vars[i]? = some n) (hw : n ∈ wr) (hk : env.kindOf n = some .cell)
 (hc : env.cells.lookup n = some c) (h0 : s.heap.IsCell c u₀) (hn : h'.IsCell c u) (hs : Heap.SameBut c s.heap h') (hr : ∀ w, v = some w -> ∃ x, u = some x ∧ RepV T g w x) :
 Inv T fe own wr env vars (ρ.set i v) g σ h' ∧ ∀ s' : Shared, s'.heap = h' -> s'.gens = s.gens -> s'.os = s.os -> Step T (g.mu ++ own) fs g s g σ s' := by
 obtain ⟨o, ho, hd⟩ := id hn
 have al : ∃ o, h'.get? c = some o := ⟨o, ho⟩
 have nf : ∃ o, h'.get? c = some o ∧ ∀ vs, o.data ≠ .fields vs := ⟨o, ho, fun vs q => by rw [hd] at q; exfalso; cases q⟩
 obtain ⟨m, hm⟩ := I.blk.ns
 have hne : env.locals ≠ c := ns_cell_ne hm h0
 have hap : Apart g s.heap c := by
  obtain ⟨c', w, h1, _, h3⟩ := I.blk.cell n (.inl hk)
  obtain rfl := Option.some.inj (hc.symm.trans h1); exact h3
 have stp : ∀ s' : Shared, s'.heap = h' -> s'.gens = s.gens -> s'.os = s.os -> Step T (g.mu ++ own) fs g s g σ s' := fun s' e1 e2 e3 =>
  Step.sameBut I.st hap (List.mem_append.mpr (.inr (I.ocell n hw c hk hc))) (by rw [e1]; exact hs) (by rw [e1]; exact al) e2 e3
 have hns : ∀ m', s.heap.Ns env.locals m' -> h'.Ns env.locals m' := fun m' q => q.sameBut hs hne
 have hcs : ∀ k c' w, env.cells.lookup k = some c' -> k ≠ n -> s.heap.IsCell c' w -> h'.IsCell c' w := fun k c' w e q hw => by
  obtain ⟨oc, h1, h2⟩ := hw
  exact ⟨oc, (hs.2 c' fun q' => q (I.blk.cinj k n c (q' ▸ e) hc)).trans h1, h2⟩
 refine ⟨⟨(stp { s with heap := h' } rfl rfl rfl).st, I.fr.sameBut hs nf, I.top, ⟨I.blk.kind, I.blk.glob, I.blk.blt, I.blk.loc.sameBut hs al, ⟨_, hns m hm⟩, fun k hk' => ?_, I.blk.cinj⟩, ?_, I.nd, I.oloc, I.ocell, fun a ha => (I.oap a ha).sameBut hs al⟩, stp⟩
 ·obtain ⟨c', w, h1, h2, h3⟩ := I.blk.cell k hk'
  by_cases q : k = n
  ·subst q
   obtain rfl := Option.some.inj (hc.symm.trans h1)
   exact ⟨c, u, hc, hn, h3.sameBut hs al⟩
  ·exact ⟨c', w, h1, hcs k c' w h1 q h2, h3.sameBut hs al⟩
 ·intro j k w hj hw'
  rcases vars_get hw' with ⟨q, e⟩ | ⟨q, e⟩
  ·subst q
   obtain rfl := Option.some.inj (hi.symm.trans hj)
   obtain ⟨x, hx, hrx⟩ := hr w e
   exact ⟨fun q => (by exact absurd (hk.symm.trans q) (by decide)), fun _ => ⟨c, x, hc, hx ▸ hn, hrx⟩⟩
  ·have hkn : k ≠ n := fun q' => q (nodup_inj I.nd hj (q' ▸ hi))
   obtain ⟨h1, h2⟩ := I.sees j k w hj e
   refine ⟨fun hl => ?_, fun hl => ?_⟩
   ·obtain ⟨m', y, q1, q2, q3⟩ := h1 hl
    exact ⟨_, y, hns _ q1, q2, q3⟩
   ·obtain ⟨c', y, q1, q2, q3⟩ := h2 hl
    exact ⟨c', y, q1, hcs k c' _ q1 hkn q2, q3⟩
theorem function_plain {env : Env} (hk : env.scope.kind = .function) : (env.scope.kind == .class || (env.scope.kind == .module && env.locals != env.globals)) = false := by rw [hk]; rfl
theorem store_name {prog : Program} {w : World} {i : Nat} {n : Str} {v : V} {x : Value} {Q : Unit -> Shared -> Prop} (I : Inv T fe own wr env vars ρ g σ s.heap) (hi : vars[i]? = some n) (hw : n ∈ wr)
 (hk : env.kindOf n = some .local ∨ env.kindOf n = some .cell) (r : RepV T g v x)
 (h : ∀ s', Step T (g.mu ++ own) fs g s g σ s' -> Inv T fe own wr env vars (ρ.set i (some v)) g σ s'.heap -> Q () s') : wpAny (model prog w) A (storeName env n x) Q E s := by
 rcases hk with hk | hk
 ·obtain ⟨m, hm⟩ := I.blk.ns
  refine wpAny_storeName_local hk hm (fun h' hn hs => ?_) (function_plain I.blk.kind)
  obtain ⟨I', stp⟩ := Inv.setLocal (fs := fs) (v := some v) I hi hk hm hn hs fun w e => ⟨x, rfl, by cases e; exact r⟩
  exact h _ (stp _ rfl rfl rfl) I'
 ·refine cps_ fun R_ k_ => ?_; obtain ⟨c, u, h1, h2, _⟩ := I.blk.cell n (.inl hk)
  refine k_ ?_
  refine wpAny_storeName_cell I.blk.kind hk h1 h2 fun h' hn hs => ?_
  obtain ⟨I', stp⟩ := Inv.setCell (fs := fs) (v := some v) I hi hw hk h1 h2 hn hs fun w e => ⟨x, rfl, by cases e; exact r⟩
  exact h _ (stp _ rfl rfl rfl) I'
theorem load_name {prog : Program} {w : World} {i : Nat} {n : Str} {v : V} {pos : Pos} {Q : Value -> Shared -> Prop} (I : Inv T fe own wr env vars ρ g σ s.heap) (hi : vars[i]? = some n)
 (hk : env.kindOf n = some .local ∨ env.kindOf n = some .cell ∨ env.kindOf n = some .free) (hv : ρ[i]? = some (some v)) (hd : (n == ("__debug__" : Str)) = false) (hd' : (n == ("__classdict__" : Str)) = false)
 (h : ∀ x, RepV T g v x -> Q x s) : wpAny (model prog w) A (eval (.Name n pos) env) Q E s := by
 obtain ⟨h1, h2⟩ := I.sees i n v hi hv
 refine wpAny_Name ?_ hd
 rcases hk with hk | hk | hk
 ·refine cps_ fun R_ k_ => ?_; obtain ⟨m, x, hm, hx, hr⟩ := h1 hk
  refine k_ ?_
  exact wpAny_loadName_local I.blk.kind hk hm hx (h x hr)
 ·refine cps_ fun R_ k_ => ?_; obtain ⟨c, x, hc, hx, hr⟩ := h2 (.inl hk)
  refine k_ ?_
  exact wpAny_loadName_cell I.blk.kind hk hc hx (h x hr)
 ·refine cps_ fun R_ k_ => ?_; obtain ⟨c, x, hc, hx, hr⟩ := h2 (.inr hk)
  refine k_ ?_
  exact wpAny_loadName_free I.blk.kind hk hc hx (h x hr) hd'
end
end Mine.Internal
namespace Mine.Internal
open PySem PySem.Calls
noncomputable def Lone (av : List Addr) (g : G) (h : Heap) (a : Addr) : Prop := Apart g h a ∧ a ∉ av
inductive ZipIt (T : Top) (g : G) (h : Heap) : Addr -> Addr -> Addr -> Addr -> Addr -> List V -> Prop
 | mk {z TI TO i1 i2 l1 l2 : Addr} {k1 k2 : Nat} {o1 o2 : Obj} {xs ys : Array Value} {n1 n2 : Nat} {a b : Value} {vs ws : List V} :
  ZipApart z TI TO i1 i2 l1 l2 -> IsZip h z TI TO .none -> IsPair h TI (.ref i1) (.ref i2) -> IsPair h TO a b -> h.IsListIter i1 l1 k1 -> h.IsListIter i2 l2 k2 ->
  g.fz l1 = some o1 -> o1.cls = .type "list" -> o1.data = .seq xs n1 -> g.fz l2 = some o2 -> o2.cls = .type "list" -> o2.data = .seq ys n2 ->
  RepVs T g vs (xs.toList.drop k1) -> RepVs T g ws (ys.toList.drop k2) -> ZipIt T g h z TI TO i1 i2 (zipV vs ws)
inductive ItOk (T : Top) (av : List Addr) (g : G) (h : Heap) : Bool -> List Addr -> Addr -> Src -> Prop
 | list {a l : Addr} {i : Nat} {o : Obj} {xs : Array Value} {n : Nat} {vs : List V} : Lone av g h a -> h.IsListIter a l i -> g.fz l = some o -> o.cls = .type "list" -> o.data = .seq xs n -> RepVs T g vs (xs.toList.drop i) -> ItOk T av g h false [a] a (.items vs)
 | tuple {a l : Addr} {i : Nat} {o : Obj} {xs : Array Value} {n : Nat} {vs : List V} : Lone av g h a -> h.IsTupleIter a l i -> g.fz l = some o -> o.cls = .type "tuple" -> o.data = .seq xs n -> RepVs T g vs (xs.toList.drop i) -> ItOk T av g h false [a] a (.items vs)
 | enum {e it l : Addr} {i : Nat} {old : Value} {o : Obj} {xs : Array Value} {n : Nat} {vs : List V} : Lone av g h e -> Lone av g h it -> e ≠ it -> IsEnum h e it i old -> h.IsListIter it l i -> g.fz l = some o -> o.cls = .type "list" -> o.data = .seq xs n -> RepVs T g vs (xs.toList.drop i) -> ItOk T av g h true [e, it] e (.items (enumV i vs))
 | lref {a l : Addr} {k i : Nat} : Lone av g h a -> h.IsListIter a l i -> g.mu[k + 1]? = some l -> ItOk T av g h false [a] a (.lref k i)
 | range {a : Addr} {x : Int} {left : Int} : Lone av g h a -> IsRangeIter h a x left 1 -> ItOk T av g h false [a] a (.items (rangeV x left.toNat))
 | down {a : Addr} {k : Nat} : Lone av g h a -> IsRangeIter h a ((k : Int) - 1) (k : Int) (-1) -> ItOk T av g h false [a] a (.items (downV k))
 | zip {z TI TO i1 i2 : Addr} {vs : List V} : Lone av g h z -> Lone av g h TI -> Lone av g h TO -> Lone av g h i1 -> Lone av g h i2 -> ZipIt T g h z TI TO i1 i2 vs -> ItOk T av g h true [z, TO, i1, i2, TI] z (.items vs)
section
variable {T : Top} {X fs av : List Addr} {g g' : G} {σ σ' : Store} {s s' : Shared} {A : Around}
theorem Lone.step (x : Step T X fs g s g' σ' s') {a : Addr} (h : Lone av g s.heap a) : Lone av g' s'.heap a := ⟨h.1.step x, h.2⟩
theorem Lone.same (x : Step T X fs g s g' σ' s') (hX : ∀ a, a ∈ X -> a ∈ g.mu ∨ a ∈ av) (hf : ∀ a, a ∈ fs -> a ∈ av) {a : Addr} {o : Obj} (h : Lone av g s.heap a) (e : s.heap.get? a = some o) : s'.heap.get? a = some o :=
 x.kept.same a o e (fun q => (hX a q).elim h.1.2.1 h.2) fun q => h.2 (hf a q)
theorem ItOk.step (x : Step T X fs g s g' σ' s') (hX : ∀ a, a ∈ X -> a ∈ g.mu ∨ a ∈ av) (hf : ∀ a, a ∈ fs -> a ∈ av) {b : Bool} {its : List Addr} {a : Addr} {vs : Src} (I : ItOk T av g s.heap b its a vs) :
 ItOk T av g' s'.heap b its a vs := by
 induction I with
 | list h1 h2 h3 h4 h5 h6 => exact .list (h1.step x) (h2.at fun o e => h1.same x hX hf e) (x.le.fz _ _ h3) h4 h5 (RepVs.mono x.le _ _ h6)
 | tuple h1 h2 h3 h4 h5 h6 => obtain ⟨o, ho, r⟩ := h2; exact .tuple (h1.step x) ⟨o, h1.same x hX hf ho, r⟩ (x.le.fz _ _ h3) h4 h5 (RepVs.mono x.le _ _ h6)
 | enum z1 z2 ne h1 h2 h3 h4 h5 h6 => exact .enum (z1.step x) (z2.step x) ne (z1.same x hX hf h1) (h2.at fun o e => z2.same x hX hf e) (x.le.fz _ _ h3) h4 h5 (RepVs.mono x.le _ _ h6)
 | lref h1 h2 h3 => exact .lref (h1.step x) (h2.at fun o e => h1.same x hX hf e) (x.le.mu _ _ h3)
 | range h1 h2 => exact .range (h1.step x) (h1.same x hX hf h2)
 | down h1 h2 => exact .down (h1.step x) (h1.same x hX hf h2)
 | zip z1 z2 z3 z4 z5 h =>
  induction h with
  | mk D hz hTI hTO h1 h2 f1 c1 d1 f2 c2 d2 r1 r2 =>
   exact .zip (z1.step x) (z2.step x) (z3.step x) (z4.step x) (z5.step x)
    (.mk D (z1.same x hX hf hz) (z2.same x hX hf hTI) (z3.same x hX hf hTO) (h1.at fun o e => z4.same x hX hf e) (h2.at fun o e => z5.same x hX hf e)
     (x.le.fz _ _ f1) c1 d1 (x.le.fz _ _ f2) c2 d2 (RepVs.mono x.le _ _ r1) (RepVs.mono x.le _ _ r2))
theorem ItOk.lone {b : Bool} {its : List Addr} {a : Addr} {vs : Src} {h : Heap} (I : ItOk T av g h b its a vs) : ∀ c, c ∈ its -> Lone av g h c := by
 induction I with
 | list h1 => intro c hc; rw [List.mem_singleton.mp hc]; exact h1
 | tuple h1 => intro c hc; rw [List.mem_singleton.mp hc]; exact h1
 | enum z1 z2 =>
  intro c hc
  rcases List.mem_cons.mp hc with rfl | hc
  ·exact z1
  ·rw [List.mem_singleton.mp hc]; exact z2
 | lref h1 => intro c hc; rw [List.mem_singleton.mp hc]; exact h1
 | range h1 => intro c hc; rw [List.mem_singleton.mp hc]; exact h1
 | down h1 => intro c hc; rw [List.mem_singleton.mp hc]; exact h1
 | zip z1 z2 z3 z4 z5 h =>
  intro c hc
  simp only [List.mem_cons, List.not_mem_nil, or_false] at hc
  rcases hc with rfl | rfl | rfl | rfl | rfl <;> assumption
end
section
variable {prog : Program} {w : World} {A : Around} {E : Value -> Shared -> Prop} {s : Shared} {g : G}
theorem letOwned_name {x : Str} {p : Pos} {a v : Value} {Q : Unit -> Shared -> Prop} (h : Q () s) : wpAny (model prog w) A (letOwnedTupleGo (.Name x p) a v) Q E s := wpAny_pure h
theorem no_rule {b c : Bool} {x y : Sem Unit} {Q : Unit -> Shared -> Prop} (hb : b = false) (h : wpAny (model prog w) A y Q E s) : wpAny (model prog w) A (if (b && c) = true then x else y) Q E s := by
 rw [hb, Bool.false_and, if_neg Bool.false_ne_true]; exact h
theorem letOwned_plain {target : Expr} {a : Addr} {o : Obj} {n : String} {v : Value} {Q : Unit -> Shared -> Prop} (ho : s.heap.get? a = some o) (hc : o.cls = .type n)
 (hn : ["enumerate", "zip", "dict_itemiterator", "dict_reverseitemiterator", "odict_iterator", "itertools.zip_longest", "itertools.pairwise"].contains n = false) (h : Q () s) :
 wpAny (model prog w) A (letOwnedTupleGo target (.ref a) v) Q E s := by
 have key : ∀ v : Addr, wpAny (model prog w) A (letOwnedTupleGo (.List [] default) (.ref a) (.ref v)) Q E s := fun v => by
  refine wpAny_bind (wpAny_load ho ?_)
  rw [hc]
  cases o.data <;> first
   | exact wpAny_pure h
   | exact no_rule hn (wpAny_pure h)
 have key2 : wpAny (model prog w) A (letOwnedTupleGo (.List [] default) (.ref a) v) Q E s := by
  cases v <;> first | exact wpAny_pure h | exact key _
 cases target <;> first | exact wpAny_pure h | exact key2
end
end Mine.Internal
namespace Mine.Internal
open PySem PySem.Calls
section
variable {T : Top} {fs av : List Addr} {g g' : G} {σ σ' : Store} {s s' : Shared} {A : Around} {E : Value -> Shared -> Prop}
theorem drop_get {α : Type} {xs : List α} {i : Nat} {x : α} {r : List α} (h : xs.drop i = x :: r) : xs[i]? = some x ∧ xs.drop (i + 1) = r := by
 have h1 : xs[i]? = some x := by
  have := congrArg List.head? h
  rw [List.head?_drop] at this
  simpa using this
 refine ⟨h1, ?_⟩
 have := congrArg List.tail h
 rw [List.tail_drop] at this
 simpa using this
theorem drop_none {α : Type} {xs : List α} {i : Nat} (h : xs.drop i = []) : xs[i]? = none := by
 rw [List.drop_eq_nil_iff] at h
 exact List.getElem?_eq_none h
theorem repVs_cons {T : Top} {g : G} {v : V} {vs : List V} {xs : List Value} (h : RepVs T g (v :: vs) xs) : ∃ x r, xs = x :: r ∧ RepV T g v x ∧ RepVs T g vs r := by
 cases xs with
 | nil => exact h.elim
 | cons x r => exact ⟨x, r, rfl, h.1, h.2⟩
theorem repVs_nil {T : Top} {g : G} {xs : List Value} (h : RepVs T g [] xs) : xs = [] := by
 cases xs with
 | nil => rfl
 | cons x r => exact h.elim
theorem pair_step {its : List Addr} {x y : Value} {v u : V} (st : St T g σ s.heap) (L : ∀ c, c ∈ its -> Lone av g s.heap c) (al : ∀ c, c ∈ its -> ∃ o, s'.heap.get? c = some o) (kp : ∀ c o, c ∉ its -> s.heap.get? c = some o -> s'.heap.get? c = some o)
 (pr : s'.heap.get? s.heap.objs.size = some { cls := .type "tuple", data := .seq #[x, y] }) (hx : RepV T g v x) (hy : RepV T g u y) (hg : s'.gens = s.gens := by rfl) (ho : s'.os = s.os := by rfl) :
 ∃ gp, Step T (g.mu ++ its) fs g s gp σ s' ∧ RepV T gp (mkTup [v, u]) (.ref s.heap.objs.size) ∧ G.le g gp ∧ ∀ c, c ∈ its -> Lone av gp s'.heap c := by
 have hsz0 : s.heap.get? s.heap.objs.size = none := atSize _
 have le : G.le g (g.put s.heap.objs.size { cls := .type "tuple", data := .seq #[x, y] }) := .put (st.fz_none hsz0)
 have pos : ∀ {c : Addr} {o : Obj}, (g.put s.heap.objs.size { cls := .type "tuple", data := .seq #[x, y] }).fz c = some o -> (c = s.heap.objs.size ∧ o = { cls := .type "tuple", data := .seq #[x, y] }) ∨ g.fz c = some o := fun {c o} e => by
  have e' : (if c = s.heap.objs.size then some _ else g.fz c) = some o := e
  by_cases q : c = s.heap.objs.size
  ·rw [if_pos q] at e'; exact .inl ⟨q, (Option.some.inj e').symm⟩
  ·rw [if_neg q] at e'; exact .inr e'
 have neg : ∀ {c : Addr}, g.fz c = none -> (∃ o, s.heap.get? c = some o) -> (g.put s.heap.objs.size { cls := .type "tuple", data := .seq #[x, y] }).fz c = none := fun {c} e ⟨o, q⟩ => by
  show (if c = s.heap.objs.size then _ else g.fz c) = none
  rw [if_neg fun h => by rw [h, hsz0] at q; exact none_ne q]
  exact e
 have nfz : ∀ {c : Addr} {o : Obj}, g.fz c = some o -> c ∉ its := fun {c o} e q => by exact none_ne ((Eq.symm ((L c q).1.1)).trans e)
 have nmu : ∀ {c : Addr}, c ∈ g.mu -> c ∉ its := fun {c} e q => (L c q).1.2.1 e
 refine ⟨_, ⟨le, ⟨fun c o e => ?_, st.len, st.nd, fun c hc => neg (st.ap c hc) (st.mu_alive hc), fun j c o e1 e2 => ?_, fun c o e => le.fz _ _ (st.base c o e), st.tb.keep le fun o e => kp _ _ (fun q => (L _ q).1.2.1 st.tb.mem) e⟩, ⟨fun c o e => ?_, fun c o e nb _ => kp c o (fun q => nb (List.mem_append.mpr (.inr q))) e, fun c o e nb _ => ⟨o.slots, kp c o (fun q => nb (List.mem_append.mpr (.inr q))) e⟩⟩, ⟨fun _ h => .inl h, fun c o e => ?_⟩, hg, ho⟩, ?_, le, fun c hc => ⟨⟨neg (L c hc).1.1 (L c hc).1.2.2, (L c hc).1.2.1, al c hc⟩, (L c hc).2⟩⟩
 ·rcases pos e with ⟨q, q'⟩ | e'
  ·rw [q, q']; exact pr
  ·exact kp c o (nfz e') (st.fz _ _ e')
 ·obtain ⟨z, h1, h2⟩ := st.ob j c o e1 e2
  exact ⟨z, kp c z (nmu (List.mem_of_getElem? e1)) h1, RepO.mono le _ _ h2⟩
 ·by_cases q : c ∈ its
  ·exact al c q
  ·exact ⟨o, kp c o q e⟩
 ·rcases pos e with ⟨q, _⟩ | e'
  ·exact .inr (.inl (q ▸ hsz0))
  ·exact .inl e'
 ·have rr : RepVs T (g.put s.heap.objs.size { cls := .type "tuple", data := .seq #[x, y] }) [v, u] [x, y] := ⟨RepV.mono le _ _ hx, RepV.mono le _ _ hy, trivial⟩
  have two : 2 <= line := by unfold line; (exact Nat.le_add_left _ _)
  unfold mkTup
  cases hd' : allD [v, u] with
  | none => exact ⟨_, _, #[x, y], _, rfl, G.put_self, rfl, rfl, rr, two⟩
  | some ds => exact ⟨_, _, #[x, y], _, rfl, G.put_self, rfl, rfl, RepDs.ofV rr hd', by rw [(RepDs.ofV rr hd').length]; exact two⟩
theorem drop_getA {α : Type} {xs : Array α} {i : Nat} {x : α} {r : List α} (h : xs.toList.drop i = x :: r) : xs[i]? = some x ∧ xs.toList.drop (i + 1) = r :=
 ⟨Array.getElem?_toList.symm.trans (drop_get h).1, (drop_get h).2⟩
theorem drop_noneA {α : Type} {xs : Array α} {i : Nat} (h : xs.toList.drop i = []) : xs[i]? = none := Array.getElem?_toList.symm.trans (drop_none h)
structure DrawK (T : Top) (av fs : List Addr) (g : G) (σ : Store) (s : Shared) (A : Around) (target : Expr) (Q : Option Value -> Shared -> Prop) (b : Bool) (its : List Addr) (a : Addr) (vs : Src) : Prop where
 ha : A.handled = none
 ht : b = true -> ∃ es c p, target = .Tuple es c p
 hb : vs.next σ ≠ none
 h0 : vs.next σ = some none -> ∀ h', (∀ c o, c ∉ its -> s.heap.get? c = some o -> h'.get? c = some o) -> Q none { s with heap := h' }
 h1 : ∀ v rest, vs.next σ = some (some (v, rest)) -> ∀ x s₁, (∀ (Q' : Unit -> Shared -> Prop) (E' : Value -> Shared -> Prop),
  (∀ g' s', Step T (g.mu ++ its) fs g s g' σ s' -> ItOk T av g' s'.heap b its a rest -> RepV T g' v x -> Q' () s') -> wpAny (model T.prog T.w) A (letOwnedTupleGo target (.ref a) x) Q' E' s₁) -> Q (some x) s₁
theorem nhd {α : Type} {a c : α} {l : List α} (h : c ∉ a :: l) : c ≠ a := fun q => h (q ▸ .head _)
theorem ntl {α : Type} {a c : α} {l : List α} (h : c ∉ a :: l) : c ∉ l := fun q => h (.tail _ q)
theorem all_nil {α : Type} {P : α -> Prop} : ∀ c, c ∈ ([] : List α) -> P c := fun _ h => nomatch h
theorem all_cons {α : Type} {P : α -> Prop} {a : α} {l : List α} (h : P a) (t : ∀ c, c ∈ l -> P c) : ∀ c, c ∈ a :: l -> P c := fun c q => (List.mem_cons.mp q).elim (fun e => e ▸ h) (t c)
theorem draw {b : Bool} {its : List Addr} {a : Addr} {vs : Src} {target : Expr} {Q : Option Value -> Shared -> Prop} (st : St T g σ s.heap)
 (I : ItOk T av g s.heap b its a vs) (D : DrawK T av fs g σ s A target Q b its a vs) :
 wpAny (model T.prog T.w) A (pyNext (.ref a)) Q E s := by
 have mem1 : ∀ {a : Addr}, a ∈ g.mu ++ [a] := List.mem_append.mpr (.inr (List.mem_singleton.mpr rfl))
 have I' := I
 revert I' D
 induction I with
 | @list a l i o xs n vs L it hl hc hd' r =>
  intro D I'
  have hL : s.heap.IsList l xs := ⟨o, st.fz _ _ hl, hc, n, hd'⟩
  have hne : l ≠ a := fun q => by rw [q, L.1.1] at hl; exact none_ne hl
  cases vs with
  | nil =>
   have e : xs[i]? = none := drop_noneA (repVs_nil r)
   exact wpAny_pyNext_list_end D.ha it hL e fun h' he => D.h0 rfl h' fun c o hc e => he c o (nhd hc) e
  | cons v rest =>
   obtain ⟨x, r', e, hx, hr⟩ := repVs_cons r
   obtain ⟨e1, e2⟩ := drop_getA e
   refine wpAny_pyNext_list_item it hL e1 fun h' it' hs => D.h1 v (.items rest) rfl x _ fun Q' E' k => ?_
   obtain ⟨oi, hoi, hci, hdi⟩ := id it'
   refine letOwned_plain hoi hci (by decide) (k g _ (.sameBut st L.1 mem1 hs ⟨oi, hoi⟩) (.list ⟨L.1.sameBut hs ⟨oi, hoi⟩, L.2⟩ it' hl hc hd' (by rw [e2]; exact hr)) hx)
 | @lref a l k i L it hl =>
  intro D I'
  have hm : l ∈ g.mu := List.mem_of_getElem? hl
  have hne : l ≠ a := fun q => L.1.2.1 (q ▸ hm)
  cases e : σ[k]? with
  | none =>
   have := st.len
   rw [List.getElem?_eq_none_iff] at e
   exact absurd (List.getElem?_eq_some_iff.mp hl).1 (by lia)
  | some ob => cases ob with
  | dictS _ => exact absurd (by show nextAt k i σ[k]? = _; rw [e]; rfl) D.hb
  | dictP _ => exact absurd (by show nextAt k i σ[k]? = _; rw [e]; rfl) D.hb
  | list ws =>
   obtain ⟨o, ho, xs, m, q, hr, hln⟩ := st.ob k l _ hl e
   subst q
   have hL : s.heap.IsList l xs := ⟨_, ho, rfl, m, rfl⟩
   cases ew : ws[i]? with
   | none =>
    have ex : xs[i]? = none := by
     have h1 := List.getElem?_eq_none_iff.mp ew
     have h2 := hr.length
     rw [Array.getElem?_eq_none_iff]
     simp at h2; lia
    exact wpAny_pyNext_list_end D.ha it hL ex fun h' he => D.h0 (by show nextAt k i σ[k]? = _; rw [e]; show (match ws[i]? with | some v => some (some (v, Src.lref k (i + 1))) | none => some none) = _; rw [ew]) h' fun c o hc e => he c o (nhd hc) e
   | some v =>
    obtain ⟨x, ex, hx⟩ := hr.get ew
    refine wpAny_pyNext_list_item it hL (by exact Array.getElem?_toList.symm.trans ex) fun h' it' hs => D.h1 v (.lref k (i + 1)) (by show nextAt k i σ[k]? = _; rw [e]; show (match ws[i]? with | some v => some (some (v, Src.lref k (i + 1))) | none => some none) = _; rw [ew]) x _ fun Q' E' kk => ?_
    obtain ⟨oi, hoi, hci, hdi⟩ := id it'
    exact letOwned_plain hoi hci (by decide) (kk g _ (.sameBut st L.1 mem1 hs ⟨oi, hoi⟩) (.lref ⟨L.1.sameBut hs ⟨oi, hoi⟩, L.2⟩ it' hl) hx)
 | @tuple a l i o xs n vs L it hl hc hd' r =>
  intro D I'
  have hL : s.heap.IsTuple l xs := ⟨o, st.fz _ _ hl, hc, n, hd'⟩
  cases vs with
  | nil => exact wpAny_pyNext_tuple_end D.ha it hL (drop_noneA (repVs_nil r)) fun h' he => D.h0 rfl h' fun c o hc e => he c o (nhd hc) e
  | cons v rest =>
   obtain ⟨x, r', e, hx, hr⟩ := repVs_cons r
   obtain ⟨e1, e2⟩ := drop_getA e
   refine wpAny_pyNext_tuple_item it hL e1 fun h' it' hs => D.h1 v (.items rest) rfl x _ fun Q' E' k => ?_
   obtain ⟨oi, hoi, hci, hdi⟩ := id it'
   exact letOwned_plain hoi hci (by decide) (k g _ (.sameBut st L.1 mem1 hs ⟨oi, hoi⟩) (.tuple ⟨L.1.sameBut hs ⟨oi, hoi⟩, L.2⟩ it' hl hc hd' (by rw [e2]; exact hr)) hx)
 | @enum a it l i old o xs n vs L1 L2 ne he hit hl hc hd' r =>
  intro D I'
  have hL : s.heap.IsList l xs := ⟨o, st.fz _ _ hl, hc, n, hd'⟩
  cases vs with
  | nil => exact wpAny_pyNext_enum_end D.ha he hit hL (drop_noneA (repVs_nil r)) fun h' he => D.h0 rfl h' fun c o hc e => he c o (nhd (ntl hc)) e
  | cons v rest =>
   obtain ⟨x, r', e, hx, hr⟩ := repVs_cons r
   obtain ⟨e1, e2⟩ := drop_getA e
   refine wpAny_pyNext_enum_item he hit hL e1 ne fun h' heo hit' pr hsz hk => D.h1 _ _ rfl _ _ fun Q' E' k => ?_
   obtain ⟨es, cc, p, rfl⟩ := D.ht rfl
   refine wpAny_letOwnedTupleGo_enum heo fun h'' he'' hs'' => ?_
   have nz : s.heap.objs.size ≠ a := fun q => by have := Heap.lt_size he; rw [q] at this; exact absurd this (Nat.lt_irrefl _)
   have hit'' : h''.IsListIter it l (i + 1) := hit'.at fun o e => (hs''.2 _ (Ne.symm ne)).trans e
   obtain ⟨gp, S, R, le, LL⟩ := pair_step (fs := fs) (its := [a, it]) (s' := { s with heap := h'', toks := s.toks + 1 }) (v := .d (.int i)) (u := v) st I'.lone (all_cons ⟨_, he''⟩ (all_cons (hit''.elim fun o e => ⟨o, e.1⟩) all_nil)) (fun c o hc e => (hs''.2 c (nhd hc)).trans (hk c o (nhd hc) (nhd (ntl hc)) e)) ((hs''.2 _ nz).trans pr) ⟨_, rfl⟩ hx
   refine k gp _ S (.enum (LL a (.head _)) (LL it (.tail _ (.head _))) ne he'' hit'' (le.fz _ _ hl) hc hd' (by rw [e2]; exact RepVs.mono le _ _ hr)) R
 | @range a x left L it =>
  intro D I'
  cases e : left.toNat with
  | zero =>
   exact wpAny_pyNext_range_end D.ha it (by lia) fun h' he => D.h0 (by rw [e]; rfl) h' fun c o hc e => he c o (nhd hc) e
  | succ k' =>
   refine wpAny_pyNext_range_item it (by lia) fun h' it' hs => D.h1 _ _ (by rw [e]; rfl) _ _ fun Q' E' k => ?_
   refine letOwned_plain it' rfl (by decide) (k g _ (.sameBut st L.1 mem1 hs ⟨_, it'⟩) ?_ ⟨_, rfl⟩)
   have e3 : (left - 1).toNat = k' := by lia
   rw [<- e3]
   exact .range ⟨L.1.sameBut hs ⟨_, it'⟩, L.2⟩ it'
 | @down a k L it =>
  intro D I'
  cases k with
  | zero =>
   exact wpAny_pyNext_range_end D.ha it (Int.le_refl _) fun h' he => D.h0 rfl h' fun c o hc e => he c o (nhd hc) e
  | succ k =>
   have e1 : ((k + 1 : Nat) : Int) - 1 = (k : Int) := by lia
   refine wpAny_pyNext_range_item it (by lia) fun h' it' hs => D.h1 (.d (.int k)) (.items (downV k)) rfl _ _ fun Q' E' kk => ?_
   rw [e1] at it'
   refine letOwned_plain it' rfl (by decide) (kk g _ (.sameBut st L.1 mem1 hs ⟨_, it'⟩) (.down ⟨L.1.sameBut hs ⟨_, it'⟩, L.2⟩ it') ⟨_, by rw [e1]⟩)
 | @zip a TI TO i1 i2 vs Lz LTI LTO L1 L2 Z =>
  intro D I'
  cases Z with
  | @mk l1 l2 k1 k2 o1 o2 xs ys n1 n2 pa pb vs ws Z hz hTI hTO t1 t2 f1 c1 d1 f2 c2 d2 r1 r2 =>
  have hL1 : s.heap.IsList l1 xs := ⟨o1, st.fz _ _ f1, c1, n1, d1⟩
  have hL2 : s.heap.IsList l2 ys := ⟨o2, st.fz _ _ f2, c2, n2, d2⟩
  have fin : xs[k1]? = none ∨ ys[k2]? = none -> zipV vs ws = [] -> wpAny (model T.prog T.w) A (pyNext (.ref a)) Q E s := fun hend e =>
   wpAny_pyNext_zip_end D.ha Z hz hTI hTO t1 t2 hL1 hL2 hend fun h' hk => D.h0 (by rw [e]; rfl) h' fun c o hc e => hk c o (nhd hc) (nhd (ntl hc)) (nhd (ntl (ntl hc))) (nhd (ntl (ntl (ntl hc)))) e
  cases vs with
  | nil => exact fin (.inl (drop_noneA (repVs_nil r1))) rfl
  | cons v vs =>
   cases ws with
   | nil => exact fin (.inr (drop_noneA (repVs_nil r2))) rfl
   | cons u ws =>
    obtain ⟨x, r1', e1, hx, hr1⟩ := repVs_cons r1
    obtain ⟨y, r2', e2, hy, hr2⟩ := repVs_cons r2
    obtain ⟨p1, q1⟩ := drop_getA e1
    obtain ⟨p2, q2⟩ := drop_getA e2
    refine wpAny_pyNext_zip_item Z hz hTI hTO t1 t2 hL1 hL2 (x := x) (y := y) p1 p2 fun h' z' TO' t1' t2' pr hsz hk => D.h1 _ _ rfl _ _ fun Q' E' k => ?_
    obtain ⟨es, cc, p, rfl⟩ := D.ht rfl
    refine wpAny_letOwnedTupleGo_zip z' fun h'' z'' hs'' => ?_
    have nz : s.heap.objs.size ≠ a := fun q => by have := Heap.lt_size hz; rw [q] at this; exact absurd this (Nat.lt_irrefl _)
    have kp : ∀ c o, c ≠ a -> c ≠ TO -> c ≠ i1 -> c ≠ i2 -> s.heap.get? c = some o -> h''.get? c = some o := fun c o q1 q2 q3 q4 e => (hs''.2 c q1).trans (hk c o q1 q2 q3 q4 e)
    have TO'' : IsPair h'' TO x y := (hs''.2 _ Z.TOz).trans TO'
    have TI'' : IsPair h'' TI (.ref i1) (.ref i2) := kp TI _ Z.TIz Z.TITO Z.TIi1 Z.TIi2 hTI
    have t1'' : h''.IsListIter i1 l1 (k1 + 1) := t1'.at fun o e => (hs''.2 _ Z.i1z).trans e
    have t2'' : h''.IsListIter i2 l2 (k2 + 1) := t2'.at fun o e => (hs''.2 _ Z.i2z).trans e
    obtain ⟨gp, S, R, le, LL⟩ := pair_step (fs := fs) (its := [a, TO, i1, i2, TI]) (s' := { s with heap := h'' }) (v := v) (u := u) st I'.lone (all_cons ⟨_, z''⟩ (all_cons ⟨_, TO''⟩ (all_cons (t1''.elim fun o e => ⟨o, e.1⟩) (all_cons (t2''.elim fun o e => ⟨o, e.1⟩) (all_cons ⟨_, TI''⟩ all_nil))))) (fun c o hc e => kp c o (nhd hc) (nhd (ntl hc)) (nhd (ntl (ntl hc))) (nhd (ntl (ntl (ntl hc)))) e) ((hs''.2 _ nz).trans pr) hx hy
    exact k gp _ S (.zip (LL a (.head _)) (LL TI (.tail _ (.tail _ (.tail _ (.tail _ (.head _)))))) (LL TO (.tail _ (.head _))) (LL i1 (.tail _ (.tail _ (.head _)))) (LL i2 (.tail _ (.tail _ (.tail _ (.head _)))))
     (.mk Z z'' TI'' TO'' t1'' t2'' (le.fz _ _ f1) c1 d1 (le.fz _ _ f2) c2 d2 (by rw [q1]; exact RepVs.mono le _ _ hr1) (by rw [q2]; exact RepVs.mono le _ _ hr2))) R
end
end Mine.Internal
namespace Mine.Internal
open PySem
set_option genCtorIdx true in
inductive GV where
 | fn (f : Nat)
 | bi (b : Bi)
 | ty (t : String)
structure Kx where
 vars : List Str
 names : List (Str × NameKind)
 wr : List Str
 gl : Str -> Option GV
 lam : Bool
noncomputable def Kx.kd (K : Kx) (n : Str) (k : NameKind) : Bool := decide (K.names.lookup n = some k)
noncomputable def Kx.isVar (K : Kx) (n : Str) : Bool := (K.kd n .local || (K.kd n .cell || K.kd n .free)) && !(n == ("__debug__" : Str)) && !(n == ("__classdict__" : Str))
noncomputable def Kx.isGl (K : Kx) (n : Str) : Bool := K.kd n .globalImplicit && !(n == ("__debug__" : Str))
noncomputable def Kx.canWr (K : Kx) (i : Nat) (n : Str) : Bool := decide (K.vars[i]? = some n) && K.wr.contains n && (K.kd n .local || K.kd n .cell)
noncomputable def Kx.isLoc (K : Kx) (n : Str) : Bool := K.kd n .local
theorem Kx.kd_eq {K : Kx} {n : Str} {k : NameKind} (h : K.kd n k = true) : K.names.lookup n = some k := of_decide_eq_true h
noncomputable def Kx.isAt (K : Kx) (i : Nat) (n : Str) : Bool := match K.vars[i]? with | some m => m == n | none => false
noncomputable def constIs (c : Const) (x : PyData) : Bool :=
 match c with
 | .none => (match x with | .none => true | _ => false)
 | .bool a => (match x with | .bool b => a == b | _ => false)
 | .int a => (match x with | .int b => a == b | _ => false)
 | .str a => (match x with | .str b => a == b && decide (a.cps.size <= 16777216) | _ => false)
 | _ => false
noncomputable def gvIs (v w : GV) : Bool :=
 match v with
 | .fn f => (match w with | .fn f' => f == f' | _ => false)
 | .bi f => (match w with | .bi f' => Nat.beq f.ctorIdx f'.ctorIdx | _ => false)
 | .ty f => (match w with | .ty f' => f == f' | _ => false)
noncomputable def glTo (K : Kx) (v : GV) (n : Str) : Bool := K.isGl n && (match K.gl n with | some w => gvIs w v | none => false)
noncomputable def methName : Meth -> String
 | .append => "append" | .join => "join" | .index => "index" | .insert => "insert" | .pop => "pop" | .extend => "extend"
noncomputable def notIdx (e : Expr) (k : Nat) : Bool := !(Nat.beq e.ctorIdx k)
noncomputable def notStar (e : Expr) : Bool := notIdx e 22
noncomputable def notSet (e : Expr) : Bool := notIdx e 7
noncomputable def isSuperCall : Expr -> Bool
 | .Call (.Name _ _) [] [] _ => true
 | _ => false
noncomputable def notComp (e : Expr) : Bool := notIdx e 8 && (notIdx e 9 && notIdx e 10)
noncomputable def notTup (e : Expr) : Bool := notIdx e 25
noncomputable def relNames (env : List (Str × NameKind)) (names : List (Str × NameKind)) : List (Str × NameKind) :=
 names.map fun (n, k) => if (k == .free && env.lookup n == some .cell) then (n, .cell) else (n, k)
noncomputable def nameOk (K : Kx) (ts : List Nat) (p : Str × NameKind) : Bool :=
 (decide (p.2 = .local) && (p.1 == (".0" : Str) || ts.any fun i => decide (K.vars[i]? = some p.1))) || ((decide (p.2 = .free) && (K.kd p.1 .cell || K.kd p.1 .free)) || decide (p.2 = .globalImplicit))
noncomputable def scopeOk (K : Kx) (ts : List Nat) (sc : Scope) : Bool :=
 decide (sc.kind = .function) && sc.names.all (nameOk K ts) &&
 sc.names.all (fun p => decide (sc.names.lookup p.1 = some p.2)) &&
 !K.vars.contains (".0" : Str) &&
 ts.all (fun i => match K.vars[i]? with | some m => decide (sc.names.lookup m = some .local) | none => false)
noncomputable def Kx.sub (K : Kx) (ts : List Nat) (sc : Scope) : Kx := { K with names := relNames K.names sc.names, wr := ts.filterMap (fun i => K.vars[i]?), lam := false }
noncomputable def lnameOk (K : Kx) (nm : Str) (p : Str × NameKind) : Bool :=
 (decide (p.2 = .local) && p.1 == nm) || ((decide (p.2 = .free) && (K.kd p.1 .cell || K.kd p.1 .free)) || decide (p.2 = .globalImplicit))
noncomputable def lamOk (K : Kx) (i : Nat) (nm : Str) (sc : Scope) : Bool :=
 K.lam && (K.isAt i nm && (decide (sc.kind = .function) && (!sc.isGenerator && (!sc.isCoroutine && (sc.names.all (lnameOk K nm) && (sc.names.all (fun p => decide (sc.names.lookup p.1 = some p.2)) && decide (sc.names.lookup nm = some .local)))))))
noncomputable def Kx.lsub (K : Kx) (nm : Str) (sc : Scope) : Kx := { K with names := sc.names, wr := [nm], lam := false }
noncomputable def lamArgs (nm : Str) (ap : Pos) : Arguments := ⟨[], [⟨nm, none, ap⟩], none, [], [], none, []⟩
noncomputable def headLine : List Expr -> Nat
 | e :: _ => e.pos.line
 | [] => 0
noncomputable def biGV (b : Bi) : GV := match b with | .str => .ty "str" | .list => .ty "list" | b => .bi b
inductive IsCst (x : PyData) : Expr -> Prop
 | mk {c : Const} {k : Nat} {p : Pos} (h : constIs c x = true) : IsCst x (.Constant c k p)
inductive IsNm (P : Str -> Prop) : Expr -> Prop
 | mk {n : Str} {p : Pos} (h : P n) : IsNm P (.Name n p)
inductive IsBin (op : Operator) (A B : Expr -> Prop) : Expr -> Prop
 | mk {l r : Expr} {p : Pos} (h1 : A l) (h2 : B r) : IsBin op A B (.BinOp l op r p)
inductive IsUn (op : UnaryOp) (A : Expr -> Prop) : Expr -> Prop
 | mk {x : Expr} {p : Pos} (h : A x) : IsUn op A (.UnaryOp op x p)
inductive IsBop (op : BoolOp) (A : List Expr -> Prop) : Expr -> Prop
 | mk {vs : List Expr} {p : Pos} (h : A vs) : IsBop op A (.BoolOp op vs p)
inductive IsCmp (op : CmpOp) (A B : Expr -> Prop) : Expr -> Prop
 | mk {l r : Expr} {p : Pos} (h1 : A l) (h2 : B r) (h3 : notSet r = true) : IsCmp op A B (.Compare l [op] [r] p)
inductive IsTup (A : List Expr -> Prop) : Expr -> Prop
 | mk {vs : List Expr} {k : Nat} {p : Pos} (h : A vs) : IsTup A (.Tuple vs k p)
inductive IsLst (A : List Expr -> Prop) : Expr -> Prop
 | mk {vs : List Expr} {p : Pos} (h : A vs) : IsLst A (.List vs p)
inductive IsDct : Expr -> Prop
 | mk {p : Pos} : IsDct (.Dict [] [] p)
inductive IsMax (P : Str -> Prop) (A : Expr -> Prop) (z : Int) : Expr -> Prop
 | mk {n : Str} {np : Pos} {x : Expr} {k : Nat} {cp kp p : Pos} (h1 : P n) (h2 : A x) (h3 : notStar x = true) : IsMax P A z (.Call (.Name n np) [x] [⟨some (Str.ofString "default"), .Constant (.int z) k cp, kp⟩] p)
inductive IsSort (P : Str -> Prop) (A : Expr -> Prop) (B : Str -> Scope -> Expr -> Prop) : Bool -> Expr -> Prop
 | one {n : Str} {np : Pos} {x : Expr} {nm : Str} {ap : Pos} {b : Expr} {sc : Scope} {lp kp p : Pos} (h1 : P n) (h2 : A x) (h3 : notStar x = true) (h4 : B nm sc b) : IsSort P A B false (.Call (.Name n np) [x] [⟨some (Str.ofString "key"), .Lambda (lamArgs nm ap) b sc lp, kp⟩] p)
 | two {n : Str} {np : Pos} {x : Expr} {nm : Str} {ap : Pos} {b : Expr} {sc : Scope} {lp kp : Pos} {k : Nat} {cp kp' p : Pos} (h1 : P n) (h2 : A x) (h3 : notStar x = true) (h4 : B nm sc b) : IsSort P A B true (.Call (.Name n np) [x] [⟨some (Str.ofString "key"), .Lambda (lamArgs nm ap) b sc lp, kp⟩, ⟨some (Str.ofString "reverse"), .Constant (.bool true) k cp, kp'⟩] p)
inductive IsSub (A B : Expr -> Prop) : Expr -> Prop
 | mk {v x : Expr} {p : Pos} (h1 : A v) (h2 : B x) : IsSub A B (.Subscript v x p)
inductive IsSlc (A : Expr -> Prop) (B C : Option Expr -> Prop) : Expr -> Prop
 | mk {v : Expr} {l u : Option Expr} {q p : Pos} (h1 : A v) (h2 : B l) (h3 : C u) : IsSlc A B C (.Subscript v (.Slice l u none q) p)
inductive IsCall (P : Str -> Prop) (A : List Expr -> Prop) : Expr -> Prop
 | mk {n : Str} {np : Pos} {vs : List Expr} {p : Pos} (h1 : P n) (h2 : A vs) (h3 : vs ≠ []) : IsCall P A (.Call (.Name n np) vs [] p)
inductive IsMeth (m : Meth) (A : Expr -> Prop) (B : List Expr -> Prop) : Expr -> Prop
 | mk {x : Expr} {ap : Pos} {vs : List Expr} {p : Pos} (h2 : A x) (h3 : B vs) (h5 : ap.endLine = p.line) (h6 : vs.length < 20) (h7 : isSuperCall x = false) : IsMeth m A B (.Call (.Attribute x (Str.ofString (methName m)) ap) vs [] p)
inductive IsComp (A : Expr -> Prop) (S : Scope -> Prop) (P X : Scope -> Expr -> Prop) (F : Scope -> List Expr -> Prop) : Expr -> Prop
 | mk {x t i : Expr} {cs : List Expr} {sc : Scope} {p : Pos} (h1 : A i) (h2 : notSet i = true) (h3 : S sc) (h4 : P sc t) (h5 : X sc x) (h6 : F sc cs) : IsComp A S P X F (.ListComp x [⟨t, i, cs, 0⟩] sc p)
inductive IsNil {α : Type} : List α -> Prop
 | mk : IsNil []
inductive IsCons (A : Expr -> Prop) (B : List Expr -> Prop) : List Expr -> Prop
 | mk {e : Expr} {l : List Expr} (h1 : A e) (h2 : notStar e = true) (h3 : B l) : IsCons A B (e :: l)
inductive IsNone : Option Expr -> Prop
 | mk : IsNone none
inductive IsSome (A : Expr -> Prop) : Option Expr -> Prop
 | mk {e : Expr} (h : A e) : IsSome A (some e)
inductive IsZip (P : Str -> Prop) (A B : Expr -> Prop) : Expr -> Prop
 | mk {n : Str} {np : Pos} {x y : Expr} {p : Pos} (h1 : P n) (h2 : A x) (h3 : B y) (h5 : notStar x = true) (h6 : notStar y = true) : IsZip P A B (.Call (.Name n np) [x, y] [] p)
inductive IsNs (K : Kx) : List Nat -> List Expr -> Prop
 | nil : IsNs K [] []
 | cons {i : Nat} {n : Str} {p : Pos} {r : List Nat} {l : List Expr} (h1 : K.canWr i n = true) (h2 : IsNs K r l) : IsNs K (i :: r) (.Name n p :: l)
inductive IsT (K : Kx) : List Nat -> Expr -> Prop
 | one {i : Nat} {n : Str} {p : Pos} (h : K.canWr i n = true) : IsT K [i] (.Name n p)
 | more {ts : List Nat} {es : List Expr} {k : Nat} {p : Pos} (h : IsNs K ts es) (hl : ts.length ≠ 1) : IsT K ts (.Tuple es k p)
noncomputable def cellAmong (K : Kx) (ts : List Expr) : Bool := ts.any fun e => match e with | .Name n _ => !K.isLoc n | _ => false
abbrev Kx.to (K : Kx) (v : GV) (n : Str) : Prop := K.isGl n = true ∧ K.gl n = some v
noncomputable def isZipIt (it : It) : Bool := match it with | .zip _ _ => true | .enum _ => true | _ => false
noncomputable def zipOk (ts : List Nat) (it : It) : Bool := if isZipIt it = true then decide (ts.length ≠ 1) else true
mutual
noncomputable def IsE : E -> Kx -> Expr -> Prop
 | .cst x, _ => IsCst x
 | .var i, K => IsNm fun n => K.isVar n = true ∧ K.vars[i]? = some n
 | .ty t, K => IsNm (K.to (.ty t))
 | .bin _ op a b, K => IsBin op (IsE a K) (IsE b K)
 | .neg a, K => IsUn .USub (IsE a K)
 | .not a, K => IsUn .Not (IsE a K)
 | .bop op es, K => IsBop op (IsEs es K)
 | .cmp op a b, K => IsCmp op (IsE a K) (IsE b K)
 | .tup es, K => IsTup (IsEs es K)
 | .lst _ es, K => IsLst (IsEs es K)
 | .dct _, _ => IsDct
 | .sub a i, K => IsSub (IsE a K) (IsE i K)
 | .slc _ a lo hi, K => IsSlc (IsE a K) (IsO lo K) (IsO hi K)
 | .bcall b _ es, K => IsCall (K.to (biGV b)) (IsEs es K)
 | .maxd a z, K => IsMax (K.to (.bi .max)) (IsE a K) z
 | .sortk _ rev a i key, K => IsSort (K.to (.bi .sorted)) (IsE a K) (fun nm sc b => lamOk K i nm sc = true ∧ IsE key (K.lsub nm sc) b) rev
 | .fcall _ f es, K => IsCall (K.to (.fn f)) (IsEs es K)
 | .meth m _ o es, K => IsMeth m (IsE o K) (IsEs es K)
 | .comp _ elt ts it ifs, K => IsComp (IsI it K) (fun sc => scopeOk K ts sc = true ∧ zipOk ts it = true) (fun sc => IsT (K.sub ts sc) ts) (fun sc => IsE elt (K.sub ts sc)) (fun sc => IsEs ifs (K.sub ts sc))
noncomputable def IsEs : List E -> Kx -> List Expr -> Prop
 | [], _ => IsNil
 | x :: r, K => IsCons (IsE x K) (IsEs r K)
noncomputable def IsO : Option E -> Kx -> Option Expr -> Prop
 | none, _ => IsNone
 | some x, K => IsSome (IsE x K)
noncomputable def IsI : It -> Kx -> Expr -> Prop
 | .of x, K => IsE x K
 | .range es, K => IsCall (K.to (.ty "range")) (IsEs es K)
 | .zip a b, K => IsZip (K.to (.ty "zip")) (IsE a K) (IsE b K)
 | .enum a, K => IsCall (K.to (.ty "enumerate")) (IsCons (IsE a K) IsNil)
end
noncomputable def swapC (K : Kx) (n : Str) (p : Pos) (v : Expr) : Bool :=
 match v with
 | .ListComp _ _ sc vp => decide (K.names.lookup n = some .local) && (decide (p.line = vp.line) && !(sc.names.any fun q => q.1 == n && (q.2 == .local || q.2 == .cell)))
 | _ => false
inductive IsAsg (P : Str -> Prop) (A : Expr -> Prop) (W : Str -> Pos -> Expr -> Bool) : Stmt -> Prop
 | mk {n : Str} {p : Pos} {v : Expr} {p' : Pos} (h1 : P n) (h2 : A v) (h3 : (notComp v || W n p v) = true) : IsAsg P A W (.Assign [.Name n p] v p')
inductive IsSwp (P A : List Expr -> Prop) : Stmt -> Prop
 | mk {ts : List Expr} {k : Nat} {p : Pos} {vs : List Expr} {k' : Nat} {p' pos : Pos} (h1 : P ts) (h2 : A vs) : IsSwp P A (.Assign [.Tuple ts k p] (.Tuple vs k' p') pos)
inductive IsSet (A B C : Expr -> Prop) : Stmt -> Prop
 | mk {o i : Expr} {p : Pos} {v : Expr} {p' : Pos} (h1 : A v) (h2 : B o) (h3 : C i) (h4 : notComp v = true) : IsSet A B C (.Assign [.Subscript o i p] v p')
inductive IsExp (A : Expr -> Prop) : Stmt -> Prop
 | mk {v : Expr} {p : Pos} (h1 : A v) (h2 : notComp v = true) : IsExp A (.Expr v p)
inductive IsIte (A : Expr -> Prop) (B C : List Stmt -> Prop) : Stmt -> Prop
 | mk {t : Expr} {x y : List Stmt} {p : Pos} (h1 : A t) (h2 : B x) (h3 : C y) : IsIte A B C (.If t x y p)
inductive IsFor (P A : Expr -> Prop) (B : List Stmt -> Prop) : Stmt -> Prop
 | mk {t i : Expr} {b : List Stmt} {p : Pos} (h1 : P t) (h2 : A i) (h3 : notSet i = true) (h4 : B b) : IsFor P A B (.For t i b [] p)
inductive IsWhile (A : Expr -> Prop) (B : List Stmt -> Prop) : Stmt -> Prop
 | mk {t : Expr} {b : List Stmt} {p : Pos} (h1 : A t) (h2 : B b) : IsWhile A B (.While t b [] p)
inductive IsRet (A : Expr -> Prop) : Stmt -> Prop
 | mk {v : Expr} {p : Pos} (h : A v) : IsRet A (.Return (some v) p)
inductive IsSCons (A : Stmt -> Prop) (B : List Stmt -> Prop) : List Stmt -> Prop
 | mk {x : Stmt} {t : List Stmt} (h1 : A x) (h2 : B t) : IsSCons A B (x :: t)
mutual
noncomputable def IsS : S -> Kx -> Stmt -> Prop
 | .asg x e, K => IsAsg (fun n => K.canWr x n = true) (IsE e K) (swapC K)
 | .swp xs es, K => IsSwp (fun ts => IsNs K xs ts ∧ (cellAmong K ts = true ∧ xs.length = 3)) (IsEs es K)
 | .set o i v, K => IsSet (IsE v K) (IsE o K) (IsE i K)
 | .exp e, K => IsExp (IsE e K)
 | .ite c a b, K => IsIte (IsE c K) (IsSs a K) (IsSs b K)
 | .for_ ts it body, K => IsFor (fun t => IsT K ts t ∧ zipOk ts it = true) (IsI it K) (IsSs body K)
 | .while_ c body, K => IsWhile (IsE c K) (IsSs body K)
 | .ret e, K => IsRet (IsE e K)
noncomputable def IsSs : List S -> Kx -> List Stmt -> Prop
 | [], _ => IsNil
 | s :: r, K => IsSCons (IsS s K) (IsSs r K)
end
noncomputable def noE : Expr := .Name ("" : Str) ⟨0, 0, 0, 0⟩
noncomputable def noS : Stmt := .Pass ⟨0, 0, 0, 0⟩
noncomputable def kids (x : Expr) : List Expr :=
 match x with
 | .BinOp l _ r _ => [l, r]
 | .UnaryOp _ y _ => [y]
 | .BoolOp _ vs _ => vs
 | .Compare l _ rs _ => l :: rs
 | .Tuple vs _ _ => vs
 | .List vs _ => vs
 | .Subscript v y _ => [v, y]
 | .Call f vs _ _ => f :: vs
 | .Attribute y _ _ => [y]
 | .ListComp y gs _ _ => (match gs with | [g] => y :: g.target :: g.iter :: g.ifs | _ => [])
 | _ => []
noncomputable def kE (x : Expr) (i : Nat) : Expr := (kids x)[i]?.getD noE
noncomputable def nmE (x : Expr) : Str := match x with | .Name n _ => n | _ => ("" : Str)
noncomputable def numE (x : Expr) : Nat := match x with | .Constant _ k _ => k | .Tuple _ k _ => k | _ => 0
noncomputable def cstE (x : Expr) : Const := match x with | .Constant c _ _ => c | _ => .none
noncomputable def sliE (x : Expr) : Option Expr × Option Expr := match x with | .Slice l u _ _ => (l, u) | _ => (none, none)
noncomputable def kwE (x : Expr) (i : Nat) : Keyword := match x with | .Call _ _ ks _ => ks[i]?.getD ⟨none, noE, noE.pos⟩ | _ => ⟨none, noE, noE.pos⟩
noncomputable def lamE (x : Expr) : Arguments × Expr × Scope := match x with | .Lambda as b sc _ => (as, b, sc) | _ => (⟨[], [], none, [], [], none, []⟩, noE, default)
noncomputable def argE (as : Arguments) : Arg := as.args[0]?.getD ⟨("" : Str), none, noE.pos⟩
noncomputable def cstI (x : Expr) : Int := match cstE x with | .int i => i | _ => 0
noncomputable def scE (x : Expr) : Scope := match x with | .ListComp _ _ sc _ => sc | _ => default
noncomputable def mkNm (x : Expr) : Expr := .Name (nmE x) x.pos
noncomputable def emNs (x : Expr) : List Nat -> Nat -> List Expr
 | [], _ => []
 | _ :: r, k => mkNm (kE x k) :: emNs x r (k + 1)
noncomputable def emT (ts : List Nat) (x : Expr) : Expr :=
 match ts with
 | [_] => mkNm x
 | ts => .Tuple (emNs x ts 0) (numE x) x.pos
mutual
noncomputable def emE : E -> Expr -> Expr
 | .cst _, x => .Constant (cstE x) (numE x) x.pos
 | .var _, x => mkNm x
 | .ty _, x => mkNm x
 | .bin _ op a b, x => .BinOp (emE a (kE x 0)) op (emE b (kE x 1)) x.pos
 | .neg a, x => .UnaryOp .USub (emE a (kE x 0)) x.pos
 | .not a, x => .UnaryOp .Not (emE a (kE x 0)) x.pos
 | .bop op es, x => .BoolOp op (emEs es x 0) x.pos
 | .cmp op a b, x => .Compare (emE a (kE x 0)) [op] [emE b (kE x 1)] x.pos
 | .tup es, x => .Tuple (emEs es x 0) (numE x) x.pos
 | .lst _ es, x => .List (emEs es x 0) x.pos
 | .dct _, x => .Dict [] [] x.pos
 | .sub a i, x => .Subscript (emE a (kE x 0)) (emE i (kE x 1)) x.pos
 | .slc _ a lo hi, x => .Subscript (emE a (kE x 0)) (.Slice (emO lo (sliE (kE x 1)).1) (emO hi (sliE (kE x 1)).2) none (kE x 1).pos) x.pos
 | .bcall _ _ es, x => .Call (mkNm (kE x 0)) (emEs es x 1) [] x.pos
 | .fcall _ _ es, x => .Call (mkNm (kE x 0)) (emEs es x 1) [] x.pos
 | .maxd a z, x => .Call (mkNm (kE x 0)) [emE a (kE x 1)] [⟨some (Str.ofString "default"), .Constant (.int z) (numE (kwE x 0).value) (kwE x 0).value.pos, (kwE x 0).pos⟩] x.pos
 | .sortk _ rev a _ key, x => .Call (mkNm (kE x 0)) [emE a (kE x 1)]
  (⟨some (Str.ofString "key"), .Lambda (lamArgs (argE (lamE (kwE x 0).value).1).arg (argE (lamE (kwE x 0).value).1).pos) (emE key (lamE (kwE x 0).value).2.1) (lamE (kwE x 0).value).2.2 (kwE x 0).value.pos, (kwE x 0).pos⟩ ::
   (match rev with | true => [⟨some (Str.ofString "reverse"), .Constant (.bool true) (numE (kwE x 1).value) (kwE x 1).value.pos, (kwE x 1).pos⟩] | false => [])) x.pos
 | .meth m _ o es, x => .Call (.Attribute (emE o (kE (kE x 0) 0)) (Str.ofString (methName m)) (kE x 0).pos) (emEs es x 1) [] x.pos
 | .comp _ elt ts it ifs, x => .ListComp (emE elt (kE x 0)) [⟨emT ts (kE x 1), emI it (kE x 2), emEs ifs x 3, 0⟩] (scE x) x.pos
noncomputable def emEs : List E -> Expr -> Nat -> List Expr
 | [], _, _ => []
 | e :: r, x, k => emE e (kE x k) :: emEs r x (k + 1)
noncomputable def emO : Option E -> Option Expr -> Option Expr
 | none, _ => none
 | some e, o => some (emE e (o.getD noE))
noncomputable def emI : It -> Expr -> Expr
 | .of e, x => emE e x
 | .range es, x => .Call (mkNm (kE x 0)) (emEs es x 1) [] x.pos
 | .zip a b, x => .Call (mkNm (kE x 0)) [emE a (kE x 1), emE b (kE x 2)] [] x.pos
 | .enum a, x => .Call (mkNm (kE x 0)) [emE a (kE x 1)] [] x.pos
end
noncomputable def okNs (K : Kx) (x : Expr) : List Nat -> Nat -> Bool
 | [], _ => true
 | i :: r, k => K.canWr i (nmE (kE x k)) && okNs K x r (k + 1)
noncomputable def okT (K : Kx) (ts : List Nat) (x : Expr) : Bool :=
 match ts with
 | [i] => K.canWr i (nmE x)
 | ts => okNs K x ts 0
mutual
noncomputable def okE : E -> Kx -> Expr -> Bool
 | .cst d, _, x => constIs (cstE x) d
 | .var i, K, x => K.isVar (nmE x) && K.isAt i (nmE x)
 | .ty t, K, x => glTo K (.ty t) (nmE x)
 | .bin _ _ a b, K, x => okE a K (kE x 0) && okE b K (kE x 1)
 | .neg a, K, x => okE a K (kE x 0)
 | .not a, K, x => okE a K (kE x 0)
 | .bop _ es, K, x => okEs es K x 0
 | .cmp _ a b, K, x => okE a K (kE x 0) && okE b K (kE x 1)
 | .tup es, K, x => okEs es K x 0
 | .lst _ es, K, x => okEs es K x 0
 | .dct _, _, _ => true
 | .sub a i, K, x => okE a K (kE x 0) && okE i K (kE x 1)
 | .slc _ a lo hi, K, x => okE a K (kE x 0) && (okO lo K (sliE (kE x 1)).1 && okO hi K (sliE (kE x 1)).2)
 | .bcall b _ es, K, x => glTo K (biGV b) (nmE (kE x 0)) && (okEs es K x 1 && !es.isEmpty)
 | .maxd a _, K, x => glTo K (.bi .max) (nmE (kE x 0)) && okE a K (kE x 1)
 | .sortk _ _ a i key, K, x => glTo K (.bi .sorted) (nmE (kE x 0)) && (okE a K (kE x 1) && (lamOk K i (argE (lamE (kwE x 0).value).1).arg (lamE (kwE x 0).value).2.2 && okE key (K.lsub (argE (lamE (kwE x 0).value).1).arg (lamE (kwE x 0).value).2.2) (lamE (kwE x 0).value).2.1))
 | .fcall _ f es, K, x => glTo K (.fn f) (nmE (kE x 0)) && (okEs es K x 1 && !es.isEmpty)
 | .meth _ _ o es, K, x => okE o K (kE (kE x 0) 0) && (okEs es K x 1 && ((decide ((kE x 0).pos.endLine = x.pos.line) && (decide (es.length < 20) && !isSuperCall (emE o (kE (kE x 0) 0))))))
 | .comp _ elt ts it ifs, K, x => okI it K (kE x 2) && (scopeOk K ts (scE x) && (zipOk ts it && (okT (K.sub ts (scE x)) ts (kE x 1) && (okE elt (K.sub ts (scE x)) (kE x 0) && okEs ifs (K.sub ts (scE x)) x 3))))
noncomputable def okEs : List E -> Kx -> Expr -> Nat -> Bool
 | [], _, _, _ => true
 | e :: r, K, x, k => okE e K (kE x k) && okEs r K x (k + 1)
noncomputable def okO : Option E -> Kx -> Option Expr -> Bool
 | none, _, _ => true
 | some e, K, o => okE e K (o.getD noE)
noncomputable def okI : It -> Kx -> Expr -> Bool
 | .of e, K, x => okE e K x
 | .range es, K, x => glTo K (.ty "range") (nmE (kE x 0)) && (okEs es K x 1 && !es.isEmpty)
 | .zip a b, K, x => glTo K (.ty "zip") (nmE (kE x 0)) && (okE a K (kE x 1) && okE b K (kE x 2))
 | .enum a, K, x => glTo K (.ty "enumerate") (nmE (kE x 0)) && okE a K (kE x 1)
end
noncomputable def stE (st : Stmt) : List Expr :=
 match st with
 | .Assign ts v _ => v :: ts
 | .Expr v _ => [v]
 | .If t _ _ _ => [t]
 | .While t _ _ _ => [t]
 | .For t i _ _ _ => [t, i]
 | .Return v _ => (match v with | some v => [v] | none => [])
 | _ => []
noncomputable def stB (st : Stmt) : List Stmt × List Stmt :=
 match st with
 | .If _ x y _ => (x, y)
 | .For _ _ b _ _ => (b, [])
 | .While _ b _ _ => (b, [])
 | _ => ([], [])
noncomputable def sE (st : Stmt) (i : Nat) : Expr := (stE st)[i]?.getD noE
mutual
noncomputable def emS : S -> Stmt -> Stmt
 | .asg _ e, st => .Assign [mkNm (sE st 1)] (emE e (sE st 0)) st.pos
 | .swp xs es, st => .Assign [.Tuple (emNs (sE st 1) xs 0) (numE (sE st 1)) (sE st 1).pos] (.Tuple (emEs es (sE st 0) 0) (numE (sE st 0)) (sE st 0).pos) st.pos
 | .set o i v, st => .Assign [.Subscript (emE o (kE (sE st 1) 0)) (emE i (kE (sE st 1) 1)) (sE st 1).pos] (emE v (sE st 0)) st.pos
 | .exp e, st => .Expr (emE e (sE st 0)) st.pos
 | .ite c a b, st => .If (emE c (sE st 0)) (emSs a (stB st).1) (emSs b (stB st).2) st.pos
 | .for_ ts it body, st => .For (emT ts (sE st 0)) (emI it (sE st 1)) (emSs body (stB st).1) [] st.pos
 | .while_ c body, st => .While (emE c (sE st 0)) (emSs body (stB st).1) [] st.pos
 | .ret e, st => .Return (some (emE e (sE st 0))) st.pos
noncomputable def emSs : List S -> List Stmt -> List Stmt
 | [], _ => []
 | s :: r, l => emS s (l.headD noS) :: emSs r l.tail
end
mutual
noncomputable def okS : S -> Kx -> Stmt -> Bool
 | .asg x e, K, st => K.canWr x (nmE (sE st 1)) && (okE e K (sE st 0) && (notComp (emE e (sE st 0)) || swapC K (nmE (sE st 1)) (sE st 1).pos (emE e (sE st 0))))
 | .swp xs es, K, st => okNs K (sE st 1) xs 0 && (cellAmong K (emNs (sE st 1) xs 0) && (decide (xs.length = 3) && okEs es K (sE st 0) 0))
 | .set o i v, K, st => okE v K (sE st 0) && (okE o K (kE (sE st 1) 0) && (okE i K (kE (sE st 1) 1) && notComp (emE v (sE st 0))))
 | .exp e, K, st => okE e K (sE st 0) && notComp (emE e (sE st 0))
 | .ite c a b, K, st => okE c K (sE st 0) && (okSs a K (stB st).1 && okSs b K (stB st).2)
 | .for_ ts it body, K, st => okT K ts (sE st 0) && (zipOk ts it && (okI it K (sE st 1) && okSs body K (stB st).1))
 | .while_ c body, K, st => okE c K (sE st 0) && okSs body K (stB st).1
 | .ret e, K, st => okE e K (sE st 0)
noncomputable def okSs : List S -> Kx -> List Stmt -> Bool
 | [], _, _ => true
 | s :: r, K, l => okS s K (l.headD noS) && okSs r K l.tail
end
theorem and1 {a b : Bool} (h : (a && b) = true) : a = true := (Bool.and_eq_true_iff.mp h).1
theorem and2 {a b : Bool} (h : (a && b) = true) : b = true := (Bool.and_eq_true_iff.mp h).2
theorem not1 {a : Bool} (h : (!a) = true) : a = false := by cases a; rfl; exact ff_ h
theorem biIdx {f f' : Bi} (h : Nat.beq f.ctorIdx f'.ctorIdx = true) : f = f' := by
 have k : ∀ b : Bi, [Bi.len, .sorted, .min, .isinstance, .str, .all, .list, .max][b.ctorIdx]? = some b := fun b => by cases b <;> rfl
 exact Option.some.inj ((k f).symm.trans ((congrArg _ (Nat.eq_of_beq_eq_true h)).trans (k f')))
theorem gvIs_eq {v w : GV} (h : gvIs v w = true) : v = w := by
 induction v with
 | fn f => induction w with
  | fn f' => rw [beq_iff_eq.mp (show (f == f') = true from h)]
  | _ => exact (Bool.false_ne_true h).elim
 | bi f => induction w with
  | bi f' => rw [biIdx (show Nat.beq f.ctorIdx f'.ctorIdx = true from h)]
  | _ => exact (Bool.false_ne_true h).elim
 | ty f => induction w with
  | ty f' => rw [beq_iff_eq.mp (show (f == f') = true from h)]
  | _ => exact (Bool.false_ne_true h).elim
theorem glTo_ok {K : Kx} {v : GV} {n : Str} (h : glTo K v n = true) : K.to v n := by
 refine ⟨and1 h, ?_⟩
 have h2 := and2 h
 induction e : K.gl n with
 | none => rw [e] at h2; exact (Bool.false_ne_true h2).elim
 | some w => rw [e] at h2; rw [gvIs_eq h2]
theorem isAt_ok {K : Kx} {i : Nat} {n : Str} (h : K.isAt i n = true) : K.vars[i]? = some n := by
 unfold Kx.isAt at h
 induction e : K.vars[i]? with
 | none => rw [e] at h; exact (Bool.false_ne_true h).elim
 | some m => rw [e] at h; rw [beq_iff_eq.mp h]
theorem em_star (e : E) (x : Expr) : notStar (emE e x) = true := by cases e <;> rfl
theorem em_set (e : E) (x : Expr) : notSet (emE e x) = true := by cases e <;> rfl
theorem emI_set (it : It) (x : Expr) : notSet (emI it x) = true := by
 cases it with
 | of e => exact em_set e x
 | _ => rfl
theorem em_ne {es : List E} (h : (!es.isEmpty) = true) (x : Expr) (k : Nat) : emEs es x k ≠ [] := by
 induction es with
 | nil => exact ff_ h
 | cons e r => exact List.cons_ne_nil _ _
theorem em_len : ∀ (es : List E) (x : Expr) (k : Nat), (emEs es x k).length = es.length
 | [], _, _ => rfl
 | _ :: r, x, k => congrArg (· + 1) (em_len r x (k + 1))
theorem isNs_of {K : Kx} {x : Expr} : ∀ {ts : List Nat} {k : Nat}, okNs K x ts k = true -> IsNs K ts (emNs x ts k)
 | [], _, _ => .nil
 | _ :: _, _, h => .cons (and1 h) (isNs_of (and2 h))
theorem emNs_len (x : Expr) : ∀ (ts : List Nat) (k : Nat), (emNs x ts k).length = ts.length
 | [], _ => rfl
 | _ :: r, k => congrArg (· + 1) (emNs_len x r (k + 1))
theorem isT_of {K : Kx} {ts : List Nat} {x : Expr} (h : okT K ts x = true) : IsT K ts (emT ts x) := by
 induction ts with
 | nil => exact .more (isNs_of h) (by decide)
 | cons i r => induction r with
  | nil => exact .one h
  | cons j r => exact .more (isNs_of (ts := i :: j :: r) h) (by simp)
mutual
theorem isE_of : ∀ (e : E) {K : Kx} {x : Expr}, okE e K x = true -> IsE e K (emE e x)
 | .cst _, _, _, h => .mk h
 | .var _, _, _, h => .mk ⟨and1 h, isAt_ok (and2 h)⟩
 | .ty _, _, _, h => .mk (glTo_ok h)
 | .bin _ _ a b, _, _, h => .mk (isE_of a (and1 h)) (isE_of b (and2 h))
 | .neg a, _, _, h => .mk (isE_of a h)
 | .not a, _, _, h => .mk (isE_of a h)
 | .bop _ es, _, _, h => .mk (isEs_of es h)
 | .cmp _ a b, _, _, h => .mk (isE_of a (and1 h)) (isE_of b (and2 h)) (em_set b _)
 | .tup es, _, _, h => .mk (isEs_of es h)
 | .lst _ es, _, _, h => .mk (isEs_of es h)
 | .dct _, _, _, _ => .mk
 | .sub a i, _, _, h => .mk (isE_of a (and1 h)) (isE_of i (and2 h))
 | .slc _ a lo hi, _, _, h => .mk (isE_of a (and1 h)) (isO_of lo (and1 (and2 h))) (isO_of hi (and2 (and2 h)))
 | .bcall _ _ es, _, _, h => .mk (glTo_ok (and1 h)) (isEs_of es (and1 (and2 h))) (em_ne (and2 (and2 h)) _ _)
 | .maxd a _, _, _, h => .mk (glTo_ok (and1 h)) (isE_of a (and2 h)) (em_star a _)
 | .sortk _ rev a i key, _, _, h => by
  cases rev with
  | true => exact .two (glTo_ok (and1 h)) (isE_of a (and1 (and2 h))) (em_star a _) ⟨and1 (and2 (and2 h)), isE_of key (and2 (and2 (and2 h)))⟩
  | false => exact .one (glTo_ok (and1 h)) (isE_of a (and1 (and2 h))) (em_star a _) ⟨and1 (and2 (and2 h)), isE_of key (and2 (and2 (and2 h)))⟩
 | .fcall _ _ es, _, _, h => .mk (glTo_ok (and1 h)) (isEs_of es (and1 (and2 h))) (em_ne (and2 (and2 h)) _ _)
 | .meth _ _ o es, _, _, h => .mk (isE_of o (and1 h)) (isEs_of es (and1 (and2 h))) (of_decide_eq_true (and1 (and2 (and2 h)))) (by rw [em_len]; exact of_decide_eq_true (and1 (and2 (and2 (and2 h))))) (not1 (and2 (and2 (and2 (and2 h)))))
 | .comp _ elt ts it ifs, _, _, h => .mk (isI_of it (and1 h)) (emI_set it _) ⟨and1 (and2 h), and1 (and2 (and2 h))⟩ (isT_of (and1 (and2 (and2 (and2 h))))) (isE_of elt (and1 (and2 (and2 (and2 (and2 h)))))) (isEs_of ifs (and2 (and2 (and2 (and2 (and2 h))))))
theorem isEs_of : ∀ (es : List E) {K : Kx} {x : Expr} {k : Nat}, okEs es K x k = true -> IsEs es K (emEs es x k)
 | [], _, _, _, _ => .mk
 | e :: r, _, _, _, h => .mk (isE_of e (and1 h)) (em_star e _) (isEs_of r (and2 h))
theorem isO_of : ∀ (o : Option E) {K : Kx} {x : Option Expr}, okO o K x = true -> IsO o K (emO o x)
 | none, _, _, _ => .mk
 | some e, _, _, h => .mk (isE_of e h)
theorem isI_of : ∀ (it : It) {K : Kx} {x : Expr}, okI it K x = true -> IsI it K (emI it x)
 | .of e, _, _, h => isE_of e h
 | .range es, _, _, h => .mk (glTo_ok (and1 h)) (isEs_of es (and1 (and2 h))) (em_ne (and2 (and2 h)) _ _)
 | .zip a b, _, _, h => .mk (glTo_ok (and1 h)) (isE_of a (and1 (and2 h))) (isE_of b (and2 (and2 h))) (em_star a _) (em_star b _)
 | .enum a, _, _, h => .mk (glTo_ok (and1 h)) (.mk (isE_of a (and2 h)) (em_star a _) .mk) (List.cons_ne_nil _ _)
end
theorem emSs_ne {l : List S} (h : (!l.isEmpty) = true) (x : List Stmt) : emSs l x ≠ [] := by
 induction l with
 | nil => exact ff_ h
 | cons e r => exact List.cons_ne_nil _ _
mutual
theorem isS_of : ∀ (s : S) {K : Kx} {x : Stmt}, okS s K x = true -> IsS s K (emS s x)
 | .asg _ e, _, _, h => .mk (and1 h) (isE_of e (and1 (and2 h))) (and2 (and2 h))
 | .swp xs es, _, _, h => .mk ⟨isNs_of (and1 h), and1 (and2 h), of_decide_eq_true (and1 (and2 (and2 h)))⟩ (isEs_of es (and2 (and2 (and2 h))))
 | .set o i v, _, _, h => .mk (isE_of v (and1 h)) (isE_of o (and1 (and2 h))) (isE_of i (and1 (and2 (and2 h)))) (and2 (and2 (and2 h)))
 | .exp e, _, _, h => .mk (isE_of e (and1 h)) (and2 h)
 | .ite c a b, _, _, h => .mk (isE_of c (and1 h)) (isSs_of a (and1 (and2 h))) (isSs_of b (and2 (and2 h)))
 | .for_ ts it body, _, _, h => .mk ⟨isT_of (and1 h), and1 (and2 h)⟩ (isI_of it (and1 (and2 (and2 h)))) (emI_set it _) (isSs_of body (and2 (and2 (and2 h))))
 | .while_ c body, _, _, h => .mk (isE_of c (and1 h)) (isSs_of body (and2 h))
 | .ret e, _, _, h => .mk (isE_of e h)
theorem isSs_of : ∀ (l : List S) {K : Kx} {x : List Stmt}, okSs l K x = true -> IsSs l K (emSs l x)
 | [], _, _, _ => .mk
 | s :: r, _, _, h => .mk (isS_of s (and1 h)) (isSs_of r (and2 h))
end
end Mine.Internal
namespace Mine.Internal
open PySem PySem.Calls
structure Ready (T : Top) (gl : Str -> Option GV) : Prop where
 ok : TopOk T
 fnob : ∀ f a, T.fn f = some a -> ∃ o fd, T.h0.get? a = some o ∧ o.data = .func fd
 ns : ∃ mg mb, T.h0.Ns mainGlobals mg ∧ T.h0.Ns builtinsNs mb ∧ (∀ n v, gl n = some v -> (match v with
  | .fn f => ∃ a, T.fn f = some a ∧ mg n = some (.ref a)
  | .bi b => mg n = none ∧ mb n = some (biVal b)
  | .ty t => mg n = none ∧ mb n = some (.type t))) ∧
  ∃ bm ob, mg "__builtins__" = some (.ref bm) ∧ bm ≠ builtinsNs ∧ T.h0.get? bm = some ob ∧ ob.cls = .type "module" ∧ ob.dict = some builtinsNs ∧ ob.data = .plain
noncomputable def CallOk (T : Top) (cf : CF) (n : Nat) : Prop :=
 ∀ {fe : List Env} {A : Around} {g : G} {σ : Store} {s : Shared} {m : Mode} {f : Nat} {a : Addr} {vs : List V} {xs : List Value}, T.fn f = some a -> St T g σ s.heap -> FrOk g s.heap fe -> fe ≠ [] ->
  AOk fe n A -> RepVs T g vs xs -> Sim T (frsOf fe) A g s (call (.ref a) xs) (RepV T) (cf m f vs σ)
structure Cx (T : Top) (K : Kx) (C : Cfg) (fe : List Env) (env : Env) (A : Around) (n : Nat) : Prop where
 rd : Ready T K.gl
 names : env.scope.names = K.names
 ha : AOk fe n A
 cf : CallOk T C.cf n
 lamc : K.lam = true -> 1 <= n ∧ env.qual ++ ("<lambda>" : Str) = T.lq ∧ ∃ c, env.code = .ref c ∧ W.CodeHd T.h0 c T.tab
noncomputable def SE (e : E) : Prop := ∀ {T : Top} {K : Kx} {C : Cfg} {fe : List Env} {own : List Addr} {env : Env} {A : Around} {n : Nat} {ρ : Vars} {g : G} {σ : Store} {s : Shared} (ex : Expr),
 IsE e K ex -> Cx T K C fe env A n -> Inv T fe own K.wr env K.vars ρ g σ s.heap -> Sim T (frsOf fe) A g s (eval ex env) (RepV T) (evalE C e ρ σ)
noncomputable def toB (v : V) (σ : Store) : Res Bool := match truth σ v with | some b => .ok b σ | none => .bad
noncomputable def ST (e : E) : Prop := ∀ {T : Top} {K : Kx} {C : Cfg} {fe : List Env} {own : List Addr} {env : Env} {A : Around} {n : Nat} {ρ : Vars} {g : G} {σ : Store} {s : Shared} (ex : Expr),
 IsE e K ex -> Cx T K C fe env A n -> Inv T fe own K.wr env K.vars ρ g σ s.heap -> Sim T (frsOf fe) A g s (isTrue ex env (eval ex env)) IsB ((evalE C e ρ σ).bind toB)
noncomputable def SEs (es : List E) : Prop := ∀ {T : Top} {K : Kx} {C : Cfg} {fe : List Env} {own : List Addr} {env : Env} {A : Around} {n : Nat} {ρ : Vars} {g : G} {σ : Store} {s : Shared} (xs : List Expr) (pos : Pos),
 IsEs es K xs -> Cx T K C fe env A n -> Inv T fe own K.wr env K.vars ρ g σ s.heap -> Sim T (frsOf fe) A g s (spliced (backTo pos (starEach xs env))) (RepVs T) (evalEs C es ρ σ)
section
variable {T : Top} {K : Kx} {C : Cfg} {fe : List Env} {own : List Addr} {env : Env} {A : Around} {n : Nat} {ρ : Vars} {g g' : G} {σ σ' : Store} {s s' : Shared} {fs : List Addr}
theorem Inv.ne (I : Inv T fe own K.wr env K.vars ρ g σ s.heap) : fe ≠ [] := by obtain ⟨e, r, h, _⟩ := I.top; rw [h]; simp
theorem kindOf_names (h : env.scope.names = K.names) (n : Str) : env.kindOf n = K.names.lookup n := by unfold Env.kindOf; rw [h]
theorem isVar_kind (h : env.scope.names = K.names) {n : Str} (hv : K.isVar n = true) :
 (env.kindOf n = some .local ∨ env.kindOf n = some .cell ∨ env.kindOf n = some .free) ∧ (n == ("__debug__" : Str)) = false ∧ (n == ("__classdict__" : Str)) = false := by
 rw [kindOf_names h]
 unfold Kx.isVar at hv
 simp only [Bool.and_eq_true, Bool.not_eq_true', Bool.or_eq_true] at hv
 obtain ⟨⟨h1, h2⟩, h3⟩ := hv
 exact ⟨h1.imp Kx.kd_eq (Or.imp Kx.kd_eq Kx.kd_eq), h2, h3⟩
theorem isGl_kind (h : env.scope.names = K.names) {n : Str} (hv : K.isGl n = true) : env.kindOf n = some .globalImplicit ∧ (n == ("__debug__" : Str)) = false := by
 rw [kindOf_names h]
 unfold Kx.isGl at hv
 simp only [Bool.and_eq_true, Bool.not_eq_true'] at hv
 obtain ⟨h1, h2⟩ := hv
 exact ⟨Kx.kd_eq h1, h2⟩
theorem load_gl {p : Pos} {nm : Str} {v : GV} {Q : Value -> Shared -> Prop} {E : Value -> Shared -> Prop} (cx : Cx T K C fe env A n) (I : Inv T fe own K.wr env K.vars ρ g σ s.heap) (hn : K.isGl nm = true) (hv : K.gl nm = some v)
 (h : ∀ x, (match v with | .fn f => ∃ a, T.fn f = some a ∧ x = .ref a | .bi b => x = biVal b | .ty t => x = .type t) -> Q x s) :
 wpAny (model T.prog T.w) A (eval (.Name nm p) env) Q E s := by
 obtain ⟨mg, mb, hg, hb, ht, _⟩ := cx.rd.ns
 obtain ⟨hk, hd⟩ := isGl_kind cx.names hn
 have kp := I.st.keepsBase
 have hg' : s.heap.Ns env.globals mg := by rw [I.blk.glob]; exact hg.keeps kp
 have hb' : s.heap.Ns env.builtins mb := by rw [I.blk.blt]; exact hb.keeps kp
 refine Name_function_global I.blk.kind hk ?_ hd
 have t := ht nm v hv
 induction v with
 | fn f => obtain ⟨a, h1, h2⟩ := t; exact loadGlobal_global hg' h2 (h _ ⟨a, h1, rfl⟩)
 | bi b => exact loadGlobal_builtin hg' t.1 hb' t.2 (h _ rfl)
 | ty q => exact loadGlobal_builtin hg' t.1 hb' t.2 (h _ rfl)
theorem se_cst (x : PyData) : SE (.cst x) := by
 intro T K C fe own env A n ρ g σ s ex hc cx I
 induction hc with
 | @mk c k p hc =>
  rw [eA_1]
  have hc : constIs c x = true := hc
  induction c with
  | none => cases x with
   | none => exact Sim.ofTok I.st fun Q h => wpAny_Constant_none (h _ s.toks rfl)
   | _ => exact (Bool.false_ne_true hc).elim
  | bool a => cases x with
   | bool b => rw [<- beq_iff_eq.mp (show (a == b) = true from hc)]; exact Sim.ofTok I.st fun Q h => wpAny_Constant_bool (h _ s.toks rfl)
   | _ => exact (Bool.false_ne_true hc).elim
  | int a => cases x with
   | int b => rw [<- beq_iff_eq.mp (show (a == b) = true from hc)]; exact Sim.ofTok I.st fun Q h => wpAny_Constant_int (h _ _ ⟨_, rfl⟩)
   | _ => exact (Bool.false_ne_true hc).elim
  | str a => cases x with
   | str b =>
    have hc := Bool.and_eq_true_iff.mp (show (a == b && decide (a.cps.size <= 16777216)) = true from hc)
    rw [<- beq_iff_eq.mp hc.1]
    exact Sim.ofTok I.st fun Q h => wpAny_Constant_str (h _ _ ⟨_, rfl, of_decide_eq_true hc.2⟩)
   | _ => exact (Bool.false_ne_true hc).elim
  | _ => exact (Bool.false_ne_true hc).elim
set_option tactic.hygienic true in
theorem se_var (i : Nat) : SE (.var i) := by
 intro T K C fe own env A n ρ g σ s ex hc cx I
 induction hc with
 | @mk nm p hc =>
  obtain ⟨hk, hd1, hd2⟩ := isVar_kind cx.names hc.1
  rw [eA_5]
  split
  ·rename_i v hv
   exact Sim.of (load_name I hc.2 hk hv hd1 hd2 fun x r => ⟨g, .refl I.st, r⟩)
  ·exact Sim.bad
theorem se_ty (t : String) : SE (.ty t) := by
 intro T K C fe own env A n ρ g σ s ex hc cx I
 induction hc with
 | @mk nm p hc => exact Sim.of (load_gl cx I hc.1 hc.2 fun x r => ⟨g, .refl I.st, r⟩)
theorem se_bin (fz : Bool) (op : Operator) {a b : E} (ha : SE a) (hb : SE b) : SE (.bin fz op a b) := by
 intro T K C fe own env A n ρ g σ s ex hc cx I
 induction hc with
 | @mk l r p h1 h2 =>
  rw [arm_eval_BinOp]
  rw [eA_6]
  refine Sim.bind (ha _ h1 cx I) fun x v σ₁ g₁ s₁ _ st₁ r₁ => Sim.bind (Sim.holding (hb _ h2 cx (I.step st₁))) fun y w σ₂ g₂ s₂ _ st₂ r₂ => Sim.standAt (Sim.operate ?_)
  exact sim_binop cx.rd.ok fz op st₂.st (I.step st₁ |>.step st₂).fr cx.ha I.ne (RepV.mono st₂.le _ _ r₁) r₂
theorem okb {α β : Type} {a : α} {σ : Store} {f : α -> Store -> Res β} : (Res.ok a σ).bind f = f a σ := rfl
theorem notT {C : Cfg} {a : E} {ρ : Vars} {σ : Store} : (evalE C (.not a) ρ σ).bind toB = ((evalE C a ρ σ).bind toB).bind fun b σ => .ok (!b) σ := by
 rw [eA_8]
 cases evalE C a ρ σ with
 | ok v σ => dsimp only [Res.bind, toB]; cases truth σ v <;> rfl
 | bad => rfl
theorem se_not {a : E} (ha : ST a) (ha' : SE a) : SE (.not a) ∧ ST (.not a) := by
 constructor
 ·intro T K C fe own env A n ρ g σ s ex hc cx I
  induction hc with
  | @mk x p hc =>
   rw [arm_eval_UnaryOp]
   rw [eA_8]
   refine Sim.bind (ha' _ hc cx I) fun x v σ₁ g₁ s₁ _ st₁ r₁ => Sim.standAt (Sim.holding ?_)
   have t := sim_truth (fs := frsOf fe) (A := A) st₁.st r₁
   unfold unaryOp
   refine Sim.holding ?_
   show Sim T (frsOf fe) A g₁ s₁ (truthy x >>= fun b => pure (.bool (!b))) (RepV T) _
   induction e : truth σ₁ v with
   | none => exact Sim.bad
   | some b =>
    rw [e] at t
    exact Sim.bind (r := .ok b σ₁) (f := fun (b : Bool) (σ : Store) => (Res.ok (V.d (.bool (!b))) σ : Res V)) t fun y b' σ₂ g₂ s₂ _ st₂ r₂ => Sim.pure st₂.st (congrArg (fun b => Value.bool (!b)) (show y = b' from r₂))
 ·intro T K C fe own env A n ρ g σ s ex hc cx I
  induction hc with
  | @mk x p hc =>
   rw [arm_isTrue_UnaryOp, notT]
   exact Sim.bind (ha _ hc cx I) fun y b' σ₂ g₂ s₂ _ st₂ r₂ => Sim.pure st₂.st (congrArg (!·) (show y = b' from r₂))
theorem st_plain {e : E} (h : SE e) (hp : ∀ {K : Kx} {ex : Expr}, IsE e K ex -> ∀ env w, isTrue ex env w = (w >>= fun v => standAt ex.pos >>= fun _ => holding [v] (truthy v))) : ST e := by
 intro T K C fe own env A n ρ g σ s ex hc cx I
 rw [hp hc]
 exact Sim.bind (h _ hc cx I) fun x v σ₁ g₁ s₁ _ st₁ r₁ => Sim.standAt (Sim.holding (sim_truth st₁.st r₁))
end
end Mine.Internal
namespace Mine.Internal
open PySem PySem.Calls
theorem Res.bind_assoc {α β γ : Type} (r : Res α) (f : α -> Store -> Res β) (k : β -> Store -> Res γ) : (r.bind f).bind k = r.bind fun a σ => (f a σ).bind k := by cases r <;> rfl
section
variable {T : Top} {K : Kx} {C : Cfg} {fe : List Env} {own : List Addr} {env : Env} {A : Around} {n : Nat} {ρ : Vars} {g g' : G} {σ σ' : Store} {s s' : Shared} {fs : List Addr}
theorem se_neg {a : E} (ha : SE a) : SE (.neg a) := by
 intro T K C fe own env A n ρ g σ s ex hc cx I
 induction hc with
 | @mk x p hc =>
  rw [arm_eval_UnaryOp]
  rw [eA_7]
  refine Sim.bind (ha _ hc cx I) fun x v σ₁ g₁ s₁ _ st₁ r₁ => Sim.standAt (Sim.holding ?_)
  cases v with
  | d y => cases y with
   | int i =>
    obtain ⟨t, rfl⟩ := r₁
    exact Sim.ofTok st₁.st fun Q h => P.neg_int (h _ _ ⟨_, rfl⟩)
   | _ => exact Sim.bad
  | _ => exact Sim.bad
theorem cmp_tail (ok : TopOk T) (op : CmpOp) {v w : V} {x y : Value} {pos : Pos} (ha : AOk fe n A) (st : St T g σ s.heap) (r1 : RepV T g v x) (r2 : RepV T g w y) :
 Sim T fs A g s (standAt pos >>= fun _ => operate [x, y] (compareOp op x y)) (RepV T) (match cmpop op v w σ with | some b => .ok (.d (.bool b)) σ | none => .bad) := by
 have h := sim_cmpop (fs := fs) ok op ha st r1 r2
 refine Sim.standAt (Sim.operate ?_)
 induction e : cmpop op v w σ with
 | none => exact Sim.bad
 | some b => rw [e] at h; exact h
theorem truth_bool (σ : Store) (b : Bool) : truth σ (.d (.bool b)) = some b := rfl
theorem cmp_truth (ok : TopOk T) (op : CmpOp) {v w : V} {x y : Value} {pos : Pos} (ha : AOk fe n A) (st : St T g σ s.heap) (r1 : RepV T g v x) (r2 : RepV T g w y) :
 Sim T fs A g s (standAt pos >>= fun _ => operate [x, y] (compareOp op x y) >>= fun c => holding [c] (truthy c)) IsB (match cmpop op v w σ with | some b => .ok b σ | none => .bad) := by
 have h := sim_cmpop (fs := fs) ok op ha st r1 r2
 refine Sim.standAt ?_
 induction e : cmpop op v w σ with
 | none => exact Sim.bad
 | some b =>
  rw [e] at h
  exact Sim.bind (r := .ok (.d (.bool b)) σ) (f := fun v σ => toB v σ) (Sim.operate h) fun c u σ₁ g₁ s₁ e₁ st₁ r₁ => Sim.holding (sim_truth st₁.st r₁)
theorem not_marks {op : CmpOp} {r : Expr} (h : notSet r = true) (t : Sem Value) : markedBehindIn op r t = t := by
 unfold markedBehindIn
 have : behindInMarks op r = false := by
  cases r <;> first | rfl | exact (Bool.false_ne_true h).elim
 rw [this]
theorem se_cmp (op : CmpOp) {a b : E} (ha : SE a) (hb : SE b) : SE (.cmp op a b) ∧ ST (.cmp op a b) := by
 constructor
 ·intro T K C fe own env A n ρ g σ s ex hc cx I
  induction hc with
  | @mk l r p h1 h2 h3 =>
   rw [arm_eval_Compare]
   rw [eA_10]
   refine Sim.bind (ha _ h1 cx I) fun x v σ₁ g₁ s₁ _ st₁ r₁ => ?_
   show Sim T (frsOf fe) A g₁ s₁ (holding [x] (markedBehindIn op r (eval r env)) >>= _) (RepV T) _
   rw [not_marks h3]
   exact Sim.bind (Sim.holding (hb _ h2 cx (I.step st₁))) fun y w σ₂ g₂ s₂ _ st₂ r₂ => cmp_tail cx.rd.ok op cx.ha st₂.st (RepV.mono st₂.le _ _ r₁) r₂
 ·intro T K C fe own env A n ρ g σ s ex hc cx I
  induction hc with
  | @mk l r p h1 h2 h3 =>
   rw [arm_isTrue_Compare]
   rw [eA_10]
   rw [Res.bind_assoc]
   refine Sim.bind (ha _ h1 cx I) fun x v σ₁ g₁ s₁ _ st₁ r₁ => ?_
   show Sim T (frsOf fe) A g₁ s₁ (holding [x] (markedBehindIn op r (eval r env)) >>= _) IsB _
   rw [not_marks h3, Res.bind_assoc]
   refine Sim.bind (Sim.holding (hb _ h2 cx (I.step st₁))) fun y w σ₂ g₂ s₂ _ st₂ r₂ => ?_
   have h := cmp_truth (pos := p) (fs := frsOf fe) cx.rd.ok op cx.ha st₂.st (RepV.mono st₂.le _ _ r₁) r₂
   induction e : cmpop op v w σ₂ with
   | none => exact Sim.bad
   | some b => rw [e] at h; exact h
theorem ses_nil : SEs [] := by
 intro T K C fe own env A n ρ g σ s xs pos hc cx I
 cases hc
 (first | rw [eB_1] | rw [eB_2])
 exact Sim.of (spliced_nil ⟨g, .refl I.st, trivial⟩)
theorem starEach_cons {e : Expr} {r : List Expr} (h : notStar e = true) (env : Env) : starEach (e :: r) env = (false, eval e env) :: starEach r env := by
 cases e <;> first | rfl | exact ff_ h
theorem ses_cons {e : E} {es : List E} (h1 : SE e) (h2 : SEs es) : SEs (e :: es) := by
 intro T K C fe own env A n ρ g σ s xs pos hc cx I
 induction hc with
 | @mk x l c1 c2 c3 =>
  rw [starEach_cons c2]
  (first | rw [eB_1] | rw [eB_2])
  show Sim T (frsOf fe) A g s (spliced ((false, eval x env) :: backTo pos (starEach l env))) (RepVs T) _
  intro hr
  refine spliced_cons (wpAny_mono (h1 _ c1 cx I (bind_ne hr)) (fun v s₁ hz_ => ?_) fun _ _ h => h)
  obtain ⟨b, σ₁, g₁, e₁, st₁, r₁⟩ := hz_
  rw [e₁] at hr ⊢
  refine wpAny_mono (h2 _ pos c3 cx (I.step st₁) (bind_ne (r := evalEs C es ρ σ₁) hr)) (fun vs s₂ hz_ => ?_) fun _ _ h => h
  obtain ⟨bs, σ₂, g₂, e₂, st₂, r₂⟩ := hz_
  exact ⟨b :: bs, σ₂, g₂, by show ((evalEs C es ρ σ₁).bind _) = _; rw [e₂]; rfl, st₁.trans st₂, RepV.mono st₂.le _ _ r₁, r₂⟩
end
end Mine.Internal
namespace Mine.Internal
open PySem PySem.Calls
noncomputable def SAll : List E -> Prop
 | [] => True
 | e :: r => (SE e ∧ ST e) ∧ SAll r
theorem SAll.ses : ∀ {es : List E}, SAll es -> SEs es
 | [], _ => ses_nil
 | _ :: _, h => ses_cons h.1.1 (SAll.ses h.2)
theorem mkList_ne {fz : Bool} {vs : List V} {σ : Store} (h : mkList fz vs σ ≠ .bad) : vs.length <= line := by
 refine Decidable.by_contra fun q => h ?_
 exact if_neg q
section
variable {T : Top} {K : Kx} {C : Cfg} {fe : List Env} {own : List Addr} {env : Env} {A : Around} {n : Nat} {ρ : Vars} {g g' : G} {σ σ' : Store} {s s' : Shared} {fs : List Addr}
theorem newList_sim {fz : Bool} {vs : List V} {xs : List Value} (st : St T g σ s.heap) (r : RepVs T g vs xs) : Sim T fs A g s (newList xs) (RepV T) (mkList fz vs σ) := by
 intro hr
 have hl := mkList_ne hr
 refine wpAny_newList ?_ (by rw [<- r.length, <- line_eq]; exact hl)
 obtain ⟨v, σ', g', e, stp, rp⟩ := made_list (fs := fs) (s' := { s with heap := s.heap.push { cls := .type "list", data := .seq xs.toArray } }) st (fun b x e => Heap.get?_push_of_some _ e) (Heap.get?_push_size _ rfl) (atSize _) (by simpa using r) hr
 exact ⟨v, σ', g', e, stp, rp⟩
theorem newTuple_sim {vs : List V} {xs : List Value} (st : St T g σ s.heap) (r : RepVs T g vs xs) : Sim T fs A g s (newTuple xs) (RepV T) (if vs.length <= line then .ok (mkTup vs) σ else .bad) := by
 split
 ·rename_i hl
  refine Sim.of (wpAny_newTuple ?_ (by rw [<- r.length, <- line_eq]; exact hl))
  obtain ⟨g', stp, rp⟩ := made_tuple (fs := fs) (s' := { s with heap := s.heap.push { cls := .type "tuple", data := .seq xs.toArray } }) st (fun b x e => Heap.get?_push_of_some _ e) (Heap.get?_push_size _ rfl) rfl rfl (atSize _) (by simpa using r) hl
  exact ⟨g', stp, rp⟩
 ·exact Sim.bad
theorem se_tup {es : List E} (h : SEs es) : SE (.tup es) := by
 intro T K C fe own env A n ρ g σ s ex hc cx I
 induction hc with
 | @mk vs k p hc =>
  rw [arm_eval_Tuple]
  rw [eA_12]
  exact Sim.standAt (Sim.bind (h _ _ hc cx I) fun xs vs σ₁ g₁ s₁ _ st₁ r₁ => newTuple_sim st₁.st r₁)
theorem se_lst (fz : Bool) {es : List E} (h : SEs es) : SE (.lst fz es) := by
 intro T K C fe own env A n ρ g σ s ex hc cx I
 induction hc with
 | @mk vs p hc =>
  rw [arm_eval_List]
  rw [eA_13]
  exact Sim.standAt (Sim.bind (h _ _ hc cx I) fun xs vs σ₁ g₁ s₁ _ st₁ r₁ => newList_sim st₁.st r₁)
theorem item_type {a : V} {x : Value} (st : St T g σ s.heap) (ra : RepV T g a x) (h : (∃ y, a = .d (.str y)) ∨ (∃ vs, seqOf σ a = some vs) ∨ ∃ o, dictOf σ a = some o) :
 ∃ Ty id, s.TypeIs x Ty ∧ typeLookup (.type Ty) "__getitem__" = pure (some (.builtin id)) := by
 rcases h with ⟨y, rfl⟩ | ⟨vs, e⟩ | ⟨o, e⟩
 ·obtain ⟨t, rfl, _⟩ := ra
  exact ⟨"str", _, typeIs_str _ _ _, F.slot_str_getitem.lookup⟩
 ·obtain ⟨l, o, xs, m, rfl, ho, hc, hd, hr, hl⟩ := seqOf_rep st ra e
  rcases hc with hc | hc
  ·exact ⟨"list", _, ⟨o, ho, hc⟩, slot_list_getitem.lookup⟩
  ·exact ⟨"tuple", _, ⟨o, ho, hc⟩, F.slot_tuple_getitem.lookup⟩
 ·obtain ⟨k, rfl, hσ, hk⟩ := dictOf_some e
  obtain ⟨l, hl, rfl⟩ := ra
  rcases hk with ⟨kvs, rfl⟩ | ⟨kvs, rfl⟩
  ·obtain ⟨ob, hob, es, ep, ws, ho, _⟩ := st.ob k l _ hl hσ
   exact ⟨"dict", _, ⟨ob, hob, ho.1⟩, slot_dict_getitem.lookup⟩
  ·obtain ⟨ob, hob, es, ep, ws, ho, _⟩ := st.ob k l _ hl hσ
   exact ⟨"dict", _, ⟨ob, hob, ho.1⟩, slot_dict_getitem.lookup⟩
theorem subscr_type {a i : V} (h : subscr a i σ ≠ none) : (∃ y, a = .d (.str y)) ∨ (∃ vs, seqOf σ a = some vs) ∨ ∃ o, dictOf σ a = some o := by
 refine Classical.byContradiction fun q => h ?_
 have hs : seqOf σ a = none := by
  induction e : seqOf σ a with
  | none => rfl
  | some vs => exact absurd (.inr (.inl ⟨vs, e⟩)) q
 have hd : dictOf σ a = none := by
  induction e : dictOf σ a with
  | none => rfl
  | some vs => exact absurd (.inr (.inr ⟨vs, e⟩)) q
 unfold subscr
 rw [hd]
 show subscrI a i σ = none
 unfold subscrI
 induction isIntV i with
 | none => rfl
 | some k =>
  have e : subscrAt a k σ = none := by
   unfold subscrAt
   induction e : isStrV a with
   | some y => exact absurd (.inl ⟨y, isStrV_eq e⟩) q
   | none =>
    show (match seqOf σ a with | some vs => (match seqIndex? k vs.length with | some j => vs[j]? | none => none) | none => none) = none
    rw [hs]
  show (if small k = true then subscrAt a k σ else none) = none
  rw [e]
  cases small k <;> rfl
theorem lstOf_seqOf {v : V} {vs : List V} (h : lstOf σ v = some vs) : seqOf σ v = some vs := by
 cases v with
 | d x => cases x with
  | list xs => exact h
  | _ => exact none_ne h
 | ref k => exact h
 | _ => exact none_ne h
theorem sub_tail {value slice : Expr} {x i : Value} {Ty id : String} {Q : Value -> Shared -> Prop} {E : Value -> Shared -> Prop} (hT : s.TypeIs x Ty) (hl : typeLookup (.type Ty) "__getitem__" = pure (some (.builtin id)))
 (h : wpAny (model T.prog T.w) A (getItem x i) Q E s) : wpAny (model T.prog T.w) A (getitemInPython x >>= fun p => subscripted slice p x i >>= fun r => letTemporaryGo value x r >>= fun _ => pure r) Q E s := by
 rw [getitemInPython_of_ne hT.not_modules]
 refine wpAny_bind (wpAny_bind (wpAny_specialOf hT hl ?_))
 have fin : ∀ ws, wpAny (model T.prog T.w) A (operate ws (getItem x i)) (fun r s₃ => wpAny (model T.prog T.w) A (letTemporaryGo value x r >>= fun _ => pure r) Q E s₃) E s := fun ws =>
  wpAny_operating (wpAny_mono h (fun r s₃ h₃ => wpAny_bind (wpAny_letTemporaryGo (wpAny_pure h₃))) fun _ _ y => y)
 have hs : ∃ ws, subscripted slice false x i = operate ws (getItem x i) := by
  cases slice with
  | Slice _ _ c _ => cases c <;> exact ⟨_, rfl⟩
  | _ => exact ⟨_, rfl⟩
 obtain ⟨ws, hs⟩ := hs
 refine wpAny_pure (wpAny_bind ?_)
 rw [hs]
 exact fin ws
theorem se_sub {a i : E} (ha : SE a) (hi : SE i) : SE (.sub a i) := by
 intro T K C fe own env A n ρ g σ s ex hc cx I
 induction hc with
 | @mk v x p h1 h2 =>
  rw [arm_eval_Subscript]
  rw [eA_15]
  refine Sim.bind (ha _ h1 cx I) fun x v σ₁ g₁ s₁ _ st₁ r₁ => Sim.bind (Sim.holding (hi _ h2 cx (I.step st₁))) fun y w σ₂ g₂ s₂ _ st₂ r₂ => Sim.standAt ?_
  have t := sim_getItem (fs := frsOf fe) (A := A) cx.ha st₂.st (RepV.mono st₂.le _ _ r₁) r₂
  induction e : subscr v w σ₂ with
  | none => exact Sim.bad
  | some u =>
   rw [e] at t
   obtain ⟨Ty, id, hT, hl⟩ := item_type st₂.st (RepV.mono st₂.le _ _ r₁) (subscr_type (by rw [e]; simp))
   exact fun hr => sub_tail hT hl (t hr)
noncomputable def SO (o : Option E) : Prop := ∀ {T : Top} {K : Kx} {C : Cfg} {fe : List Env} {own : List Addr} {env : Env} {A : Around} {n : Nat} {ρ : Vars} {g : G} {σ : Store} {s : Shared} (x : Option Expr),
 IsO o K x -> Cx T K C fe env A n -> Inv T fe own K.wr env K.vars ρ g σ s.heap -> Sim T (frsOf fe) A g s (valueOrNone (evalOpt x env)) (RepO' T) (evalO C o ρ σ)
theorem so_none : SO none := by
 intro T K C fe own env A n ρ g σ s x hc cx I
 cases hc
 (first | rw [eO_1] | rw [eO_2])
 exact Sim.pure I.st rfl
theorem so_some {e : E} (h : SE e) : SO (some e) := by
 intro T K C fe own env A n ρ g σ s x hc cx I
 induction hc with
 | @mk e' hc =>
  (first | rw [eO_1] | rw [eO_2])
  show Sim T (frsOf fe) A g s (eval _ env) (RepO' T) _
  intro hr
  refine wpAny_mono (h _ hc cx I (bind_ne hr)) (fun v s₁ hz_ => by obtain ⟨b, σ₁, g₁, e₁, st₁, r₁⟩ := hz_; exact ⟨some b, σ₁, g₁, by rw [e₁]; rfl, st₁, r₁⟩) fun _ _ h => h
theorem RepO'.mono {o : Option V} {x : Value} (le : G.le g g') (h : RepO' T g o x) : RepO' T g' o x := by
 induction o with
 | none => exact h
 | some v => exact RepV.mono le _ _ h
theorem isTupV_eq {v : V} {y : List PyData} (h : isTupV v = some y) : v = .d (.tuple y) := by
 cases v with
 | d x => cases x with
  | tuple z => rw [Option.some.inj (show some z = some y from h)]
  | _ => exact none_ne h
 | _ => exact none_ne h
theorem slice_type {fz : Bool} {a : V} {lo hi : Option V} (h : slice fz a lo hi σ ≠ .bad) : (∃ y, a = .d (.str y)) ∨ (∃ vs, seqOf σ a = some vs) ∨ ∃ o, dictOf σ a = some o := by
 unfold slice at h
 induction e1 : endOf lo with
 | none => rw [e1] at h; exact absurd rfl h
 | some l => induction e2 : endOf hi with
 | none => rw [e1, e2] at h; exact absurd rfl h
 | some u =>
 rw [e1, e2] at h
 have h : sliceAt fz a l u σ ≠ .bad := h
 unfold sliceAt at h
 induction es : isStrV a with
 | some y => exact .inl ⟨y, isStrV_eq es⟩
 | none => induction et : isTupV a with
 | some xs => exact .inr (.inl ⟨xs.map .d, by rw [isTupV_eq et]; rfl⟩)
 | none => induction e3 : lstOf σ a with
 | none => rw [es, et, e3] at h; exact absurd rfl h
 | some vs => exact .inr (.inl ⟨vs, lstOf_seqOf e3⟩)
theorem se_slc (fz : Bool) {a : E} {lo hi : Option E} (ha : SE a) (hl : SO lo) (hh : SO hi) : SE (.slc fz a lo hi) := by
 intro T K C fe own env A n ρ g σ s ex hc cx I
 induction hc with
 | @mk v l u p p' h1 h2 h3 =>
  rw [arm_eval_Subscript, arm_eval_Slice]
  rw [eA_16]
  refine Sim.bind (ha _ h1 cx I) fun x v' σ₁ g₁ s₁ _ st₁ r₁ => ?_
  intro hr
  refine wpAny_bind (wpAny_holding (wpAny_bind ?_))
  have I₁ := I.step st₁
  refine wpAny_mono (hl _ h2 cx I₁ (bind_ne hr)) (fun lv s₂ hz_ => ?_) fun _ _ h => h
  obtain ⟨b₂, σ₂, g₂, e₂, st₂, r₂⟩ := hz_
  have I₂ := I₁.step st₂
  rw [e₂] at hr ⊢
  refine wpAny_bind (wpAny_holding (wpAny_mono (hh _ h3 cx I₂ (bind_ne (r := evalO C hi ρ σ₂) hr)) (fun uv s₃ hz_ => ?_) fun _ _ h => h))
  obtain ⟨b₃, σ₃, g₃, e₃, st₃, r₃⟩ := hz_
  have hr3 : slice fz v' b₂ b₃ σ₃ ≠ .bad := fun q => hr (by show ((evalO C hi ρ σ₂).bind _) = _; rw [e₃]; exact q)
  have e4 : (Res.ok b₂ σ₂).bind (fun l σ => (evalO C hi ρ σ).bind fun h σ => slice fz v' l h σ) = slice fz v' b₂ b₃ σ₃ := by show ((evalO C hi ρ σ₂).bind _) = _; rw [e₃]; rfl
  rw [e4]
  refine wpAny_bind (wpAny_holding (wpAny_pure ?_))
  refine wpAny_newObj_type ?_
  refine wpAny_bind (wpAny_standAt ?_)
  have st₄ : Step T g₃.mu (frsOf fe) g₃ s₃ g₃ σ₃ { s₃ with heap := s₃.heap.push { cls := .type "slice", data := .fields #[lv, uv, .none] } } := .grow st₃.st fun b o e => Heap.get?_push_of_some _ e
  have rx := RepV.mono st₃.le _ _ (RepV.mono st₂.le _ _ r₁)
  obtain ⟨Ty, id, hT, hlk⟩ := item_type (s := { s₃ with heap := s₃.heap.push { cls := .type "slice", data := .fields #[lv, uv, .none] } }) st₄.st rx (slice_type hr3)
  refine sub_tail hT hlk ?_
  refine wpAny_mono (sim_slice (fs := frsOf fe) (A := A) st₄.st rx (r₂.mono st₃.le) r₃ (Heap.IsSliceOf.new s₃.heap lv uv .none) hr3) (fun q s' hz_ => by obtain ⟨b, σ', g', e', st', rp'⟩ := hz_; exact ⟨b, σ', g', e', st₂.trans (st₃.trans (st₄.trans st')), rp'⟩) fun _ _ h => h
noncomputable def SBv (op : BoolOp) (pos : Pos) (es : List E) : Prop := ∀ {T : Top} {K : Kx} {C : Cfg} {fe : List Env} {own : List Addr} {env : Env} {A : Around} {n : Nat} {ρ : Vars} {g : G} {σ : Store} {s : Shared} (xs : List Expr),
 IsEs es K xs -> Cx T K C fe env A n -> Inv T fe own K.wr env K.vars ρ g σ s.heap -> Sim T (frsOf fe) A g s (boolOp pos op (evalEach xs env)) (RepV T) (evalB C op es ρ σ)
noncomputable def SBt (op : BoolOp) (es : List E) : Prop := ∀ {T : Top} {K : Kx} {C : Cfg} {fe : List Env} {own : List Addr} {env : Env} {A : Around} {n : Nat} {ρ : Vars} {g : G} {σ : Store} {s : Shared} (xs : List Expr),
 IsEs es K xs -> Cx T K C fe env A n -> Inv T fe own K.wr env K.vars ρ g σ s.heap -> Sim T (frsOf fe) A g s (allTrue op xs env) IsB ((evalB C op es ρ σ).bind toB)
set_option backward.match.sparseCases true in
theorem boolOp_cons (pos : Pos) (op : BoolOp) (x y : Sem Value) (r : List (Sem Value)) : boolOp pos op (x :: y :: r) = (x >>= fun v => standAt pos >>= fun _ => holding [v] (truthy v) >>= fun t => match op, t with
 | .And, false => pure v | .Or, true => pure v | _, _ => boolOp pos op (y :: r)) := by
 rw [boolOp]
 ·rfl
 ·intro q; exact cons_ne q
theorem evalB_sim (op : BoolOp) (pos : Pos) : ∀ {es : List E}, SAll es -> SBv op pos es := by
 intro es
 induction es with
 | nil =>
  intro _ T K C fe own env A n ρ g σ s xs hc cx I
  (first | rw [eC_1] | rw [eC_2] | rw [eC_3]); exact Sim.bad
 | cons e r ih =>
  intro h
  induction r with
  | nil =>
   intro T K C fe own env A n ρ g σ s xs hc cx I
   induction hc with
   | @mk x l c1 c2 c3 =>
    cases c3
    (first | rw [eC_1] | rw [eC_2] | rw [eC_3])
    exact h.1.1 _ c1 cx I
  | cons e' r =>
   intro T K C fe own env A n ρ g σ s xs hc cx I
   induction hc with
   | @mk x l c1 c2 c3 =>
    induction c3 with
    | @mk y l' d1 d2 d3 =>
     (first | rw [eC_1] | rw [eC_2] | rw [eC_3])
     show Sim T (frsOf fe) A g s (boolOp pos op (eval x env :: eval y env :: evalEach l' env)) (RepV T) _
     rw [boolOp_cons]
     refine Sim.bind (h.1.1 _ c1 cx I) fun xv v σ₁ g₁ s₁ _ st₁ r₁ => Sim.standAt ?_
     have t := sim_truth (fs := frsOf fe) (A := A) st₁.st r₁
     induction e : truth σ₁ v with
     | none => exact Sim.bad
     | some b =>
      rw [e] at t
      intro hr
      refine wpAny_bind (wpAny_holding (wpAny_mono (t (by simp)) (fun b' s₂ hz_ => ?_) fun _ _ h => h))
      obtain ⟨bb, σ₂, g₂, e₂, st₂, r₂⟩ := hz_
      obtain ⟨rfl, rfl⟩ := ok_inj e₂
      have r₂ : b' = b := r₂
      subst r₂
      have go := ih h.2 (y :: l') (IsCons.mk d1 d2 d3) cx ((I.step st₁).step st₂)
      cases op <;> cases b'
      ·exact wpAny_pure ⟨_, _, g₂, rfl, st₂, RepV.mono st₂.le _ _ r₁⟩
      ·exact wpAny_mono (go hr) (fun _ _ h => h.after st₂) fun _ _ h => h
      ·exact wpAny_mono (go hr) (fun _ _ h => h.after st₂) fun _ _ h => h
      ·exact wpAny_pure ⟨_, _, g₂, rfl, st₂, RepV.mono st₂.le _ _ r₁⟩
theorem allB {C : Cfg} {op : BoolOp} {e e' : E} {r : List E} {ρ : Vars} {σ : Store} : (evalB C op (e :: e' :: r) ρ σ).bind toB = ((evalE C e ρ σ).bind toB).bind fun b σ => match op, b with | .And, false => .ok false σ | .Or, true => .ok true σ | _, _ => (evalB C op (e' :: r) ρ σ).bind toB := by
 rw [eC_3]
 cases evalE C e ρ σ with
 | bad => rfl
 | ok v σ' =>
  have k : toB v σ' = (match truth σ' v with | some b => .ok b σ' | none => .bad) := rfl
  show Res.bind (match truth σ' v, op with | some false, .And => .ok v σ' | some true, .Or => .ok v σ' | some _, _ => evalB C op (e' :: r) ρ σ' | none, _ => .bad) toB = Res.bind (toB v σ') _
  induction h : truth σ' v with
  | none => rw [h] at k; rw [k]; rfl
  | some b =>
   rw [h] at k; rw [k]
   cases op <;> cases b
   ·exact k
   ·rfl
   ·rfl
   ·exact k
theorem allTrue_sim (op : BoolOp) : ∀ {es : List E}, SAll es -> SBt op es := by
 intro es
 induction es with
 | nil =>
  intro _ T K C fe own env A n ρ g σ s xs hc cx I
  (first | rw [eC_1] | rw [eC_2] | rw [eC_3]); exact Sim.bad
 | cons e r ih =>
  intro h
  induction r with
  | nil =>
   intro T K C fe own env A n ρ g σ s xs hc cx I
   induction hc with
   | @mk x l c1 c2 c3 =>
    cases c3
    (first | rw [eC_1] | rw [eC_2] | rw [eC_3])
    rw [arm_allTrue_cons]
    have t := h.1.2 _ c1 cx I
    intro hr
    refine wpAny_bind (wpAny_mono (t hr) (fun b s₁ hz_ => ?_) fun _ _ y => y)
    obtain ⟨b', σ₁, g₁, e₁, st₁, r₁⟩ := hz_
    have r₁ : b = b' := r₁
    subst r₁
    cases op <;> cases b <;> exact wpAny_pure ⟨_, σ₁, g₁, e₁, st₁, rfl⟩
  | cons e' r =>
   intro T K C fe own env A n ρ g σ s xs hc cx I
   induction hc with
   | @mk x l c1 c2 c3 =>
    rw [arm_allTrue_cons, allB]
    refine Sim.bind (h.1.2 _ c1 cx I) fun y b' σ₁ g₁ s₁ _ st₁ r₁ => ?_
    obtain rfl : y = b' := r₁
    have go := ih h.2 l c3 cx (I.step st₁)
    cases op <;> cases y
    ·exact Sim.pure st₁.st rfl
    ·exact go
    ·exact go
    ·exact Sim.pure st₁.st rfl
theorem se_bop (op : BoolOp) {es : List E} (h : SAll es) : SE (.bop op es) ∧ ST (.bop op es) := by
 constructor
 ·intro T K C fe own env A n ρ g σ s ex hc cx I
  induction hc with
  | @mk vs p h1 =>
   rw [arm_eval_BoolOp]
   rw [eA_9]
   exact evalB_sim _ _ h _ h1 cx I
 ·intro T K C fe own env A n ρ g σ s ex hc cx I
  induction hc with
  | @mk vs p h1 =>
   rw [arm_isTrue_BoolOp]
   rw [eA_9]
   exact allTrue_sim _ h _ h1 cx I
end
end Mine.Internal
namespace Mine.Internal
open PySem PySem.Calls PySem.SeqAt
section
variable {T : Top} {fs : List Addr} {A : Around} {g : G} {σ : Store} {s : Shared} {k : Nat} {a : Addr} {ws : List V}
theorem RepVs.takeN : ∀ (n : Nat) {ws : List V} {xs : List Value}, RepVs T g ws xs -> RepVs T g (ws.take n) (xs.take n)
 | 0, _, _, _ => trivial
 | _ + 1, [], [], _ => trivial
 | n + 1, _ :: _, _ :: _, h => ⟨h.1, RepVs.takeN n h.2⟩
 | _ + 1, [], _ :: _, h => h.elim
 | _ + 1, _ :: _, [], h => h.elim
theorem RepVs.dropN : ∀ (n : Nat) {ws : List V} {xs : List Value}, RepVs T g ws xs -> RepVs T g (ws.drop n) (xs.drop n)
 | 0, _, _, h => h
 | _ + 1, [], [], _ => trivial
 | n + 1, _ :: _, _ :: _, h => RepVs.dropN n h.2
 | _ + 1, [], _ :: _, h => h.elim
 | _ + 1, _ :: _, [], h => h.elim
theorem RepVs.eraseN : ∀ (n : Nat) {ws : List V} {xs : List Value}, RepVs T g ws xs -> RepVs T g (ws.eraseIdx n) (xs.eraseIdx n)
 | _, [], [], _ => trivial
 | 0, _ :: _, _ :: _, h => h.2
 | n + 1, _ :: _, _ :: _, h => ⟨h.1, RepVs.eraseN n h.2⟩
 | _, [], _ :: _, h => h.elim
 | _, _ :: _, [], h => h.elim
theorem insert_sim {i : Int} {v : V} {x : Value} {t : Tok} (st : St T g σ s.heap) (hk : g.mu[k + 1]? = some a) (hσ : σ[k]? = some (.list ws)) (h0 : 0 <= i) (hi : i <= ws.length) (hl : ws.length < line) (rv : RepV T g v x) :
 Sim T fs A g s (call (.builtin "list.insert") [.ref a, .int i t, x]) (RepV T) (.ok (.d .none) (σ.set k (.list (ws.take i.toNat ++ v :: ws.drop i.toNat)))) := by
 obtain ⟨o, ho, ys, m', q, hr, _⟩ := st.ob k a _ hk hσ
 subst q
 have hsz : ys.size = ws.length := by have := hr.length; simp at this; omega
 have hfit : ¬ (!Builtin.List.listFitsIndex i) = true := by
  unfold line at hl
  simp [Builtin.List.listFitsIndex]; omega
 refine Sim.of (call_meets F.slot_list_insert ⟨_, ho, rfl⟩ F.entry_list_insert (F.args_list_insert_3 _ _ _) (AutoSeq1.list_insert_list_int_val_1 a ys m' i t x hfit (by rw [hsz, <- line_eq]; exact Nat.le_of_lt hl)) ⟨ho, ?_⟩)
 refine ⟨g, .turn (s' := { s with heap := _, toks := s.toks }) st hk (Heap.SameBut.update ..) (Heap.get?_update_self _ ho rfl) ⟨_, _, rfl, ?_, ?_⟩, rfl⟩
 ·have e : (if i < 0 then (i + (ys.size : Int)).toNat else min i.toNat ys.size) = i.toNat := by
   rw [if_neg (by omega)]; omega
  show RepVs T g _ ((ys.extract 0 (if i < 0 then (i + (ys.size : Int)).toNat else min i.toNat ys.size)).push x ++ ys.extract (if i < 0 then (i + (ys.size : Int)).toNat else min i.toNat ys.size)).toList
  rw [e]
  have e2 : ((ys.extract 0 i.toNat).push x ++ ys.extract i.toNat).toList = ys.toList.take i.toNat ++ x :: ys.toList.drop i.toNat := by simp; exact List.take_of_length_le (by simp)
  rw [e2]
  exact RepVs.append (RepVs.takeN _ hr) ⟨rv, RepVs.dropN _ hr⟩
 ·simp; omega
theorem pop_sim {v : V} (st : St T g σ s.heap) (hk : g.mu[k + 1]? = some a) (hσ : σ[k]? = some (.list ws)) (hv : ws[ws.length - 1]? = some v) (hl : ws.length <= line) :
 Sim T fs A g s (call (.builtin "list.pop") [.ref a]) (RepV T) (.ok v (σ.set k (.list (ws.eraseIdx (ws.length - 1))))) := by
 obtain ⟨o, ho, ys, m', q, hr, _⟩ := st.ob k a _ hk hσ
 subst q
 have hsz : ys.size = ws.length := by have := hr.length; simp at this; omega
 obtain ⟨x, hx, rx⟩ := hr.get hv
 refine Sim.of (call_meets F.slot_list_pop ⟨_, ho, rfl⟩ F.entry_list_pop (F.args_list_pop_1 _) (MeetsSeq.list_pop_last a ys m' x (by rw [hsz]; simpa using hx) (by rw [hsz, <- line_eq]; exact hl)) ⟨ho, ?_⟩)
 refine ⟨g, .turn (s' := { s with heap := _ }) st hk (Heap.SameBut.update ..) (Heap.get?_update_self _ ho rfl) ⟨_, _, rfl, ?_, ?_⟩, rx⟩
 ·show RepVs T g _ (ys.eraseIdxIfInBounds (ys.size - 1)).toList
  rw [hsz]
  have e2 : (ys.eraseIdxIfInBounds (ws.length - 1)).toList = ys.toList.eraseIdx (ws.length - 1) := by simp
  rw [e2]
  exact RepVs.eraseN _ hr
 ·rw [List.length_eraseIdx]; split <;> omega
theorem popAt_sim {i : Int} {t : Tok} {v : V} (st : St T g σ s.heap) (hk : g.mu[k + 1]? = some a) (hσ : σ[k]? = some (.list ws)) (h0 : 0 <= i) (hv : ws[i.toNat]? = some v) (hl : ws.length <= line) :
 Sim T fs A g s (call (.builtin "list.pop") [.ref a, .int i t]) (RepV T) (.ok v (σ.set k (.list (ws.eraseIdx i.toNat)))) := by
 obtain ⟨o, ho, ys, m', q, hr, _⟩ := st.ob k a _ hk hσ
 subst q
 have hsz : ys.size = ws.length := by have := hr.length; simp at this; omega
 obtain ⟨x, hx, rx⟩ := hr.get hv
 have hlt : i.toNat < ws.length := (List.getElem?_eq_some_iff.mp hv).1
 have hfit : Builtin.List.listFitsIndex i = true := by
  unfold line at hl
  simp [Builtin.List.listFitsIndex]; omega
 have hix : seqIndex? i ys.size = some i.toNat := by
  unfold seqIndex?
  rw [hsz]
  simp; omega
 refine Sim.of (call_meets F.slot_list_pop ⟨_, ho, rfl⟩ F.entry_list_pop (F.args_list_pop_2 _ _) (MeetsSeq.list_pop_at a ys m' i t i.toNat x hfit hix (by simpa using hx) (by rw [hsz, <- line_eq]; exact hl)) ⟨ho, ?_⟩)
 refine ⟨g, .turn (s' := { s with heap := _ }) st hk (Heap.SameBut.update ..) (Heap.get?_update_self _ ho rfl) ⟨_, _, rfl, ?_, ?_⟩, rx⟩
 ·show RepVs T g _ (ys.eraseIdxIfInBounds i.toNat).toList
  have e2 : (ys.eraseIdxIfInBounds i.toNat).toList = ys.toList.eraseIdx i.toNat := by simp
  rw [e2]
  exact RepVs.eraseN _ hr
 ·rw [List.length_eraseIdx]; split <;> omega
theorem extend_any (l : Addr) (items : Array Value) (n : Nat) (b : Addr) (items2 : Array Value) (n2 : Nat) (dd : Option Addr) (sl : Array (Option Value)) (hs0 : ¬(!items.isEmpty && Builtin.List.listTooLong (items.size + items2.size)) = true) (hs1 : items.size <= sizeLine) (hs2 : (items ++ items2).size <= sizeLine + 1) :
 Meets (Builtin.«list.extend» ⟨[.ref l, .ref b], []⟩) (fun _ R s => s.heap.get? l = some { cls := .type "list", dict := none, data := .seq items n, slots := #[] } ∧ s.heap.get? b = some { cls := .type "list", dict := dd, data := .seq items2 n2, slots := sl } ∧ R (.ok (.ret Value.none)) { s with heap := s.heap.update l (Obj.mapSeq fun x => x ++ items2), toks := s.toks }) :=
 .of_wp fun prog w A R s h => by
  obtain ⟨hp, g, d, tk, os⟩ := s
  obtain ⟨hl, hb, h⟩ := h
  have f1 := AutoSeq1.sub_list_list
  wp_walk using (wpAny_updateSeq hl rfl (hz := hs1) (_hz' := hs2)), AutoSeq1.wpAny_loadPart' hl, AutoSeq1.wpAny_loadPart' hb
  exact ⟨_, rfl, h⟩
theorem extend_sim {us : List V} {x : PyData} {y : Value} (st : St T g σ s.heap) (hk : g.mu[k + 1]? = some a) (hσ : σ[k]? = some (.list ws)) (e : lstOf σ (.d x) = some us) (ry : RepV T g (.d x) y) (hl : ws.length + us.length <= line) :
 Sim T fs A g s (call (.builtin "list.extend") [.ref a, y]) (RepV T) (.ok (.d .none) (σ.set k (.list (ws ++ us)))) := by
 obtain ⟨o, ho, ys, m', q, hr, _⟩ := st.ob k a _ hk hσ
 subst q
 obtain ⟨b, zs, rfl, ⟨⟨c2, d2, dt2, s2⟩, ho2, hc2, n2, hd2⟩, hr2, hz2⟩ := lstOf_rep st ry e
 simp only at hc2 hd2
 subst hc2 hd2
 have hsz : ys.size = ws.length := by have := hr.length; simp at this; omega
 have hsz2 : zs.size = us.length := by have := hr2.length; simp at this; omega
 have hz : (ys ++ zs).size <= sizeLine := by rw [Array.size_append, hsz, hsz2, <- line_eq]; exact hl
 refine Sim.of (call_meets F.slot_list_extend ⟨_, ho, rfl⟩ F.entry_list_extend (F.args_list_extend_2 _ _) (extend_any a ys m' b zs n2 d2 s2 ?_ (by rw [hsz, <- line_eq]; omega) (Nat.le_succ_of_le hz)) ⟨ho, ho2, ?_⟩)
 ·have : Builtin.List.listTooLong (ys.size + zs.size) = false := by
   rw [Array.size_append] at hz
   exact decide_eq_false (Nat.not_lt.mpr hz)
  rw [this]; simp
 ·refine ⟨g, .turn (s' := { s with heap := _, toks := s.toks }) st hk (Heap.SameBut.update ..) (Heap.get?_update_self _ ho rfl) ⟨_, _, rfl, ?_, ?_⟩, rfl⟩
  ·show RepVs T g _ (ys ++ zs).toList
   rw [Array.toList_append]
   exact RepVs.append hr hr2
  ·rw [List.length_append]; exact hl
theorem idx_ok {h : Heap} {d : PyData} : ∀ (ds : List PyData) (xs : List Value) (j : Nat), RepDs h.get? ds xs -> idxD d ds = some j ->
 ∃ (hj : j < xs.length), eqTo h d xs[j] = true ∧ ∀ (m : Nat) (hm : m < xs.length), m < j -> eqTo h d xs[m] = false
 | [], [], j, _, h => none_ne h
 | z :: ds, x :: xs, j, hr, e0 => by
  have e0 : (match eqN eqDepth z d with | some b => (match b with | true => some 0 | false => (match idxD d ds with | some j => some (j + 1) | none => none)) | none => none) = some j := e0
  induction e : eqN eqDepth z d with
  | none => rw [e] at e0; exact none_ne e0
  | some b =>
   rw [e] at e0
   have h0 := eqTo_of hr.1 e
   induction b with
   | true =>
    obtain rfl : 0 = j := Option.some.inj e0
    exact ⟨Nat.succ_pos _, h0, fun m _ hm => absurd hm (Nat.not_lt_zero m)⟩
   | false =>
    have e0 : (match idxD d ds with | some j => some (j + 1) | none => none) = some j := e0
    induction e2 : idxD d ds with
    | none => rw [e2] at e0; exact none_ne e0
    | some j' =>
     rw [e2] at e0
     obtain rfl : j' + 1 = j := Option.some.inj e0
     obtain ⟨h1, h2, h3⟩ := idx_ok ds xs j' hr.2 e2
     refine ⟨Nat.succ_lt_succ h1, h2, fun m hm hj => ?_⟩
     cases m with
     | zero => exact h0
     | succ m => exact h3 m (Nat.lt_of_succ_lt_succ hm) (Nat.lt_of_succ_lt_succ hj)
 | [], _ :: _, _, h, _ => h.elim
 | _ :: _, [], _, h, _ => h.elim
theorem index_sim {x : PyData} {y : Value} {ds : List PyData} {j : Nat} {b : Bool} {fe : List Env} {n : Nat} (ha : AOk fe n A) (st : St T g σ s.heap) (hk : g.mu[k + 1]? = some a) (hσ : σ[k]? = some (.list ws)) (ry : RepV T g (.d x) y) (e1 : allD ws = some ds) (e3 : inD x ds = some b) (e2 : idxD x ds = some j) :
 Sim T fs A g s (call (.builtin "list.index") [.ref a, y]) (RepV T) (.ok (.d (.int j)) σ) := by
 obtain ⟨o, ho, ys, m', q, hr, hl⟩ := st.ob k a _ hk hσ
 subst q
 have hds : RepDs s.heap.get? ds ys.toList := RepDs.mono (fun a o e => st.fz a o e) _ _ (RepDs.ofV hr e1)
 obtain ⟨h4, _⟩ := inD_ok (A := A.in1) (eqDepth_room ha).2 (RepD.mono (fun a o e => st.fz a o e) _ _ ry) ds ys.toList b hds e3
 obtain ⟨h1, h2, h3⟩ := idx_ok ds ys.toList j hds e2
 have hsz : ys.size = ws.length := by have := hr.length; simp at this; omega
 have h1' : j < ys.size := by simpa using h1
 refine Sim.ofTok st fun Q h => call_meets F.slot_list_index ⟨_, ho, rfl⟩ F.entry_list_index (F.args_list_index_2 _ _) (list_indexAt a ys m' none #[] y (eqTo s.heap x) j h1' (by unfold line at hl; omega) ?_ ?_) ⟨ho, fun z hz => h4 z (Array.mem_toList_iff.mpr hz), h _ _ ⟨_, rfl⟩⟩
 ·simpa using h2
 ·intro m hm hmj
  have := h3 m (by rw [Array.length_toList]; exact hm) hmj
  rwa [Array.getElem_toList] at this
end
end Mine.Internal
namespace Mine.Internal
open PySem PySem.Calls
section
variable {T : Top} {K : Kx} {C : Cfg} {fe : List Env} {own : List Addr} {env : Env} {A : Around} {n : Nat} {ρ : Vars} {g g' : G} {σ σ' : Store} {s s' : Shared} {fs : List Addr}
theorem args_plain : ∀ {es : List E} {K : Kx} {xs : List Expr} (pos : Pos) (env : Env), IsEs es K xs -> (backTo pos (starEach xs env)).any (·.1) = false := by
 intro es
 induction es with
 | nil => intro K xs pos env h; cases h; rfl
 | cons e es ih =>
  intro K xs pos env h
  induction h with
  | @mk x l h1 h2 h3 =>
   rw [starEach_cons h2]
   exact ih pos env h3
theorem args_all {es : List E} {K : Kx} {xs : List Expr} (pos : Pos) (env : Env) (h : IsEs es K xs) : (backTo pos (starEach xs env)).all (fun x => !x.1) = true := by
 have := args_plain pos env h
 rw [List.any_eq_false] at this
 rw [List.all_eq_true]
 intro x hx
 simpa using this x hx
theorem args_none {pos : Pos} {f : Value} {Q : Args -> Shared -> Prop} {E : Value -> Shared -> Prop} (h : wpAny (model T.prog T.w) A (spliced (backTo pos (starEach [] env))) (fun vs s' => Q ⟨vs, []⟩ s') E s) : wpAny (model T.prog T.w) A (evalArgs f true (backTo pos (starEach [] env)) []) Q E s := by
 have e1 : spliced (backTo pos (starEach [] env)) = pure [] := rfl
 have e2 : evalArgs f true (backTo pos (starEach [] env)) [] = pure ⟨[], []⟩ := by first | rfl | (unfold evalArgs; rfl)
 rw [e1] at h
 rw [e2]
 exact fun Γ p hΓ => h Γ p hΓ
theorem call_args {es : List E} {K : Kx} {xs : List Expr} {pos : Pos} {f : Value} {Q : Args -> Shared -> Prop} {E : Value -> Shared -> Prop} (hc : IsEs es K xs)
 (h : wpAny (model T.prog T.w) A (spliced (backTo pos (starEach xs env))) (fun vs s' => Q ⟨vs, []⟩ s') E s) : wpAny (model T.prog T.w) A (evalArgs f true (backTo pos (starEach xs env)) []) Q E s := by
 induction es with
 | nil => cases hc; exact args_none h
 | cons e es =>
  induction hc with
  | @mk x l h1 h2 h3 =>
   rw [starEach_cons h2] at h ⊢
   exact evalArgs_plain h
theorem callWith_bi {b : Bi} {pos : Pos} {args : List (Bool × Sem Value)} {Q : Value -> Shared -> Prop} {E : Value -> Shared -> Prop} (hp : args.any (·.1) = false)
 (h : wpAny (model T.prog T.w) A (evalArgs (biVal b) true args []) (fun a s₁ => wpAny (model T.prog T.w) A (call (biVal b) a.pos a.kw) Q E s₁) E s) :
 wpAny (model T.prog T.w) A (callWith pos (biVal b) [] args []) Q E s := by
 have hb : (∃ id, biVal b = .builtin id) ∨ ∃ t, biVal b = .type t := by cases b <;> first | exact .inl ⟨_, rfl⟩ | exact .inr ⟨_, rfl⟩
 generalize biVal b = v at hb h
 rcases hb with ⟨id, rfl⟩ | ⟨t, rfl⟩
 ·exact callWith_builtin hp h
 ·exact PyProof.Rows.callWith_type hp h
theorem se_bcall (b : Bi) (fz : Bool) {es : List E} (h : SEs es) : SE (.bcall b fz es) := by
 intro T K C fe own env A n ρ g σ s ex hc cx I
 induction hc with
 | @mk nm p vs pos h1 h2 h3 =>
  obtain ⟨h1, e⟩ := h1
  ·skip
   rw [eA_17]
   intro hr
   refine PyProof.Rows.Call_Name rfl (load_gl cx I h1 e fun x hx => ?_)
   have hx : x = biVal b := by cases b <;> exact hx
   subst hx
   refine callWith_bi (args_plain _ _ h2) (call_args h2 ?_)
   exact (h _ pos h2 cx I).use (k := fun xs => call (biVal b) xs) (fun xs ws σ₁ g₁ s₁ _ st₁ r₁ => sim_bcall b fz cx.ha st₁.st r₁) hr
theorem se_fcall (m : Mode) (f : Nat) {es : List E} (h : SEs es) : SE (.fcall m f es) := by
 intro T K C fe own env A n ρ g σ s ex hc cx I
 induction hc with
 | @mk nm p vs pos h1 h2 h3 =>
  obtain ⟨h1, e⟩ := h1
  ·skip
   rw [eA_18]
   intro hr
   refine PyProof.Rows.Call_Name rfl (load_gl cx I h1 e fun x hx => ?_)
   obtain ⟨a, ha, hx⟩ := hx
   subst hx
   obtain ⟨o, fd, ho, hd⟩ := cx.rd.fnob f a ha
   refine callWith_function (o := o) (fd := fd) (call_args h2 ?_)
   refine wpAny_mono (h _ pos h2 cx I (bind_ne hr)) (fun xs s₁ hz_ => ?_) fun _ _ h => h
   obtain ⟨ws, σ₁, g₁, e₁, st₁, r₁⟩ := hz_
   rw [e₁] at hr ⊢
   have I₁ := I.step st₁
   refine ⟨⟨I₁.st.keepsBase _ _ ho, hd⟩, ?_⟩
   have t := cx.cf (m := m) ha I₁.st I₁.fr I.ne cx.ha r₁ hr
   exact wpAny_mono t (fun _ _ h => h.after st₁) fun _ _ h => h
noncomputable def methId : Meth -> String
 | .append => "list.append"
 | .join => "str.join"
 | .index => "list.index"
 | .insert => "list.insert"
 | .pop => "list.pop"
 | .extend => "list.extend"
theorem append_sim {k : Nat} {u : V} {a : Addr} {y : Value} (st : St T g σ s.heap) (hk : g.mu[k + 1]? = some a) (ry : RepV T g u y) : Sim T fs A g s (call (.builtin "list.append") [.ref a, y]) (RepV T) (appendTo k u σ σ[k]?) := by
 induction e : σ[k]? with
 | none => exact Sim.bad
 | some ob => induction ob with
 | dictS _ => exact Sim.bad
 | dictP _ => exact Sim.bad
 | list ws =>
 obtain ⟨o, ho, ys, m', q, hr, hl⟩ := st.ob k a _ hk e
 subst q
 show Sim T fs A g s _ _ (if ws.length < line then _ else _)
 split
 ·rename_i hlt
  have hsz : ys.size = ws.length := by have := hr.length; simp at this; lia
  refine Sim.of (wpAny_list_append_plain ⟨m', ho⟩ (fun h' hp hs => ?_) (by rw [hsz, <- line_eq]; exact hl))
  obtain ⟨m'', ho'⟩ := hp
  refine ⟨g, .turn st hk hs ho' ⟨_, m'', rfl, ?_, by simp; (exact Nat.le_trans ‹_› (by decide))⟩, rfl⟩
  rw [Array.toList_push]
  exact RepVs.append hr ⟨ry, trivial⟩
 ·exact Sim.bad
theorem join_sim {z : Str} {t : Tok} {u : V} {y : Value} (st : St T g σ s.heap) (ry : RepV T g u y) : Sim T fs A g s (call (.builtin "str.join") [.str z t, y]) (RepV T) (joinBy z u σ) := by
 unfold joinBy
 induction e : lstOf σ u with
 | none => exact Sim.bad
 | some ws =>
 obtain ⟨a, ys, rfl, ha1, ha2, hsz⟩ := lstOf_rep st ry e
 show Sim T fs A g s _ _ (match strsV ws with | some ss => _ | none => _)
 induction e2 : strsV ws with
 | none => exact Sim.bad
 | some ss =>
 obtain ⟨h1, h2, h3⟩ := strsV_rep ha2 e2
 show Sim T fs A g s _ _ (if JoinOk z ss then _ else _)
 split
 ·rename_i hj
  obtain ⟨l, hl1, hl2⟩ : ∃ l : List (Str × Tok), strValues l = ys.toList ∧ l.map (·.1) = ss := by
   clear ha1 ha2 h2 h3 e e2 hsz hj
   generalize ys.toList = zs at h1
   induction h1 with
   | nil => exact ⟨[], rfl, rfl⟩
   | cons y t _ ih => obtain ⟨l, q1, q2⟩ := ih; exact ⟨(y, t) :: l, by rw [<- q1]; rfl, by rw [<- q2]; rfl⟩
  refine Sim.ofTok st fun Q h => SC.join (l := l) (texts := ss) (by rw [hl1]; simpa using ha1) hl2 hj fun t' k => h _ k ⟨t', rfl, by rw [line_eq]; exact joinOk_length hj⟩
 ·exact Sim.bad
theorem onLst_sim {m : Sem Value} {v : V} {x : Value} {f : Nat -> List V -> Res V} (r : RepV T g v x) (h : ∀ k a ws, x = .ref a -> g.mu[k + 1]? = some a -> σ[k]? = some (.list ws) -> Sim T fs A g s m (RepV T) (f k ws)) : Sim T fs A g s m (RepV T) (onLst v σ f) := by
 cases v with
 | ref k =>
  obtain ⟨a, hk, rfl⟩ := r
  show Sim T fs A g s _ _ (match σ[k]? with | some ob => (match ob with | .list ws => f k ws | _ => .bad) | none => .bad)
  induction e : σ[k]? with
  | none => exact Sim.bad
  | some ob => induction ob with
   | list ws => exact h k a ws rfl hk e
   | _ => exact Sim.bad
 | _ => exact Sim.bad
theorem lst_len {k : Nat} {a : Addr} {ws : List V} (st : St T g σ s.heap) (hk : g.mu[k + 1]? = some a) (hσ : σ[k]? = some (.list ws)) : ws.length <= line := by
 obtain ⟨o, ho, ys, m', q, hr, hl⟩ := st.ob k a _ hk hσ
 exact hl
theorem isDV_eq {v : V} {x : PyData} (h : isDV v = some x) : v = .d x := by
 cases v with
 | d y => rw [Option.some.inj (show some y = some x from h)]
 | _ => exact none_ne h
theorem meth0_sim (m : Meth) (fz : Bool) {v : V} {x : Value} (st : St T g σ s.heap) (r : RepV T g v x) :
 Sim T fs A g s (call (.builtin (methId m)) [x]) (RepV T) (onLst v σ fun k ws => lstM0 m k ws σ) := by
 refine onLst_sim r fun k a ws hx hk hσ => ?_
 subst hx
 induction m with
 | pop =>
  show Sim T fs A g s _ _ (match ws[ws.length - 1]? with | some v => if ws.length <= line then .ok v (σ.set k (.list (ws.eraseIdx (ws.length - 1)))) else .bad | none => .bad)
  induction e : ws[ws.length - 1]? with
  | none => exact Sim.bad
  | some u =>
   show Sim T fs A g s _ _ (if ws.length <= line then _ else _)
   rw [if_pos (lst_len st hk hσ)]
   exact pop_sim st hk hσ e (lst_len st hk hσ)
 | _ => exact Sim.bad
theorem meth1_sim (m : Meth) (fz : Bool) {v u : V} {x y : Value} (ha : AOk fe n A) (st : St T g σ s.heap) (r : RepV T g v x) (ry : RepV T g u y) :
 Sim T fs A g s (call (.builtin (methId m)) [x, y]) (RepV T) (methcall1 m fz v u σ) := by
 have lst : ∀ {m : Meth}, Sim T fs A g s (call (.builtin (methId m)) [x, y]) (RepV T) (onLst v σ fun k ws => lstM1 m k u ws σ) := by
  intro m
  refine onLst_sim r fun k a ws hx hk hσ => ?_
  subst hx
  induction m with
  | index =>
   show Sim T fs A g s _ _ (idxIn u ws σ)
   unfold idxIn
   induction e1 : isDV u with
   | none => exact Sim.bad
   | some d =>
    have := isDV_eq e1
    subst this
    show Sim T fs A g s _ _ (match allD ws with | some xs => (match inD d xs with | some _ => (match idxD d xs with | some j => .ok (V.d (.int j)) σ | none => .bad) | none => .bad) | none => .bad)
    induction e2 : allD ws with
    | none => exact Sim.bad
    | some xs =>
     show Sim T fs A g s _ _ (match inD d xs with | some _ => (match idxD d xs with | some j => .ok (V.d (.int j)) σ | none => .bad) | none => .bad)
     induction e3 : inD d xs with
     | none => exact Sim.bad
     | some b =>
      show Sim T fs A g s _ _ (match idxD d xs with | some j => .ok (V.d (.int j)) σ | none => .bad)
      induction e4 : idxD d xs with
      | none => exact Sim.bad
      | some j => exact index_sim ha st hk hσ ry e2 e3 e4
  | pop =>
   show Sim T fs A g s _ _ (match isIntV u with | some j => if 0 <= j then popOf k j.toNat ws σ else .bad | none => .bad)
   induction e1 : isIntV u with
   | none => exact Sim.bad
   | some j =>
    obtain ⟨t, rfl⟩ := isIntV_rep ry e1
    show Sim T fs A g s _ _ (if 0 <= j then popOf k j.toNat ws σ else .bad)
    by_cases h0 : 0 <= j
    ·rw [if_pos h0]
     show Sim T fs A g s _ _ (match ws[j.toNat]? with | some v => if ws.length <= line then .ok v (σ.set k (.list (ws.eraseIdx j.toNat))) else .bad | none => .bad)
     induction e : ws[j.toNat]? with
     | none => exact Sim.bad
     | some w =>
      show Sim T fs A g s _ _ (if ws.length <= line then _ else _)
      rw [if_pos (lst_len st hk hσ)]
      exact popAt_sim st hk hσ h0 e (lst_len st hk hσ)
    ·rw [if_neg h0]; exact Sim.bad
  | extend =>
   show Sim T fs A g s _ _ (match isDV u with | some x => (match lstOf σ (.d x) with | some us => if ws.length + us.length <= line then .ok (V.d .none) (σ.set k (.list (ws ++ us))) else .bad | none => .bad) | none => .bad)
   induction e1 : isDV u with
   | none => exact Sim.bad
   | some d =>
    have := isDV_eq e1
    subst this
    show Sim T fs A g s _ _ (match lstOf σ (.d d) with | some us => if ws.length + us.length <= line then .ok (V.d .none) (σ.set k (.list (ws ++ us))) else .bad | none => .bad)
    induction e2 : lstOf σ (.d d) with
    | none => exact Sim.bad
    | some us =>
     show Sim T fs A g s _ _ (if ws.length + us.length <= line then .ok (V.d .none) (σ.set k (.list (ws ++ us))) else .bad)
     by_cases hl : ws.length + us.length <= line
     ·rw [if_pos hl]; exact extend_sim st hk hσ e2 ry hl
     ·rw [if_neg hl]; exact Sim.bad
  | _ => exact Sim.bad
 induction m with
 | append => cases v with
  | ref k => obtain ⟨a, hk, rfl⟩ := r; exact append_sim st hk ry
  | _ => exact Sim.bad
 | join =>
  show Sim T fs A g s _ _ (match isStrV v with | some x => joinBy x u σ | none => .bad)
  induction ez : isStrV v with
  | none => exact Sim.bad
  | some z =>
  obtain ⟨t, rfl, hz⟩ := isStrV_rep r ez
  exact join_sim st ry
 | _ => exact lst
theorem meth2_sim (m : Meth) (fz : Bool) {v u w : V} {x y z : Value} (st : St T g σ s.heap) (r : RepV T g v x) (ry : RepV T g u y) (rz : RepV T g w z) :
 Sim T fs A g s (call (.builtin (methId m)) [x, y, z]) (RepV T) (onLst v σ fun k ws => lstM2 m k u w ws σ) := by
 refine onLst_sim r fun k a ws hx hk hσ => ?_
 subst hx
 induction m with
 | insert =>
  show Sim T fs A g s _ _ (match isIntV u with | some j => if 0 <= j ∧ j <= ws.length ∧ ws.length < line then .ok (V.d .none) (σ.set k (.list (ws.take j.toNat ++ w :: ws.drop j.toNat))) else .bad | none => .bad)
  induction e1 : isIntV u with
  | none => exact Sim.bad
  | some j =>
   obtain ⟨t, rfl⟩ := isIntV_rep ry e1
   show Sim T fs A g s _ _ (if 0 <= j ∧ j <= ws.length ∧ ws.length < line then _ else _)
   by_cases h : 0 <= j ∧ j <= ws.length ∧ ws.length < line
   ·rw [if_pos h]; exact insert_sim st hk hσ h.1 h.2.1 h.2.2 rz
   ·rw [if_neg h]; exact Sim.bad
 | _ => exact Sim.bad
theorem meth_sim (m : Meth) (fz : Bool) {v : V} {x : Value} {vs : List V} {xs : List Value} (ha : AOk fe n A) (st : St T g σ s.heap) (r : RepV T g v x) (rs : RepVs T g vs xs) :
 Sim T fs A g s (call (.builtin (methId m)) (x :: xs)) (RepV T) (methcall m fz v vs σ) := by
 rcases vs with _ | ⟨u, _ | ⟨u', _ | ⟨u'', us⟩⟩⟩
 ·rcases xs with _ | ⟨y, xs⟩
  ·exact meth0_sim m fz st r
  ·exact rs.elim
 ·obtain ⟨y, rfl, ry⟩ := one_of rs
  exact meth1_sim m fz ha st r ry
 ·obtain ⟨y, z, rfl, ry, rz⟩ := two_of rs
  exact meth2_sim m fz st r ry rz
 ·exact Sim.bad
theorem onList {v : V} {x : Value} {pos : Pos} {args : List (Bool × Sem Value)} {Q : Value -> Shared -> Prop} {E : Value -> Shared -> Prop} {name : Str} {id : String} (st : St T g σ s.heap) (r : RepV T g v x) (hp : methPre .append v σ = true)
 (slot : Slot "list" name id) (ty : typeOf (.builtin id) = pure (.type "method_descriptor")) (go : wpAny (model T.prog T.w) A (callWith pos (.builtin id) [x] args []) Q E s) : MethodOnS T.prog T.w A E name x pos args Q s := by
 cases v with
 | ref k =>
  obtain ⟨a, hk, rfl⟩ := r
  obtain ⟨ws, e⟩ := isListO_ok hp
  obtain ⟨ob, hob, ys, m', q, hr', hl⟩ := st.ob k a _ hk e
  subst q
  exact ⟨"list", id, F.plainAttrs_list, slot, ty, ⟨_, hob, rfl⟩, fun b q => by cases q; exact ⟨_, hob, rfl⟩, go⟩
 | _ => exact (Bool.false_ne_true hp).elim
theorem onStr {v : V} {x : Value} {pos : Pos} {args : List (Bool × Sem Value)} {Q : Value -> Shared -> Prop} {E : Value -> Shared -> Prop} {name : Str} {id : String} (r : RepV T g v x) (hp : methPre .join v σ = true)
 (slot : Slot "str" name id) (ty : typeOf (.builtin id) = pure (.type "method_descriptor")) (go : wpAny (model T.prog T.w) A (callWith pos (.builtin id) [x] args []) Q E s) : MethodOnS T.prog T.w A E name x pos args Q s := by
 have hp : (match isStrV v with | some _ => true | none => false) = true := hp
 induction ez : isStrV v with
 | none => rw [ez] at hp; exact (Bool.false_ne_true hp).elim
 | some z =>
 obtain ⟨t, rfl, hz⟩ := isStrV_rep r ez
 exact ⟨"str", id, F.plainAttrs_str, slot, ty, typeIs_str _ _ _, (fun _ e => nomatch e), go⟩
theorem base_plain {x : Expr} (h : isSuperCall x = false) (nm : Str) (env : Env) (w : Sem Value) : attributeBase x nm env w = w := by
 cases x with
 | Call f as ks p => cases f with
  | Name i q => cases as with
   | nil => cases ks with
    | nil => exact (Bool.false_ne_true h.symm).elim
    | cons _ _ => rfl
   | cons _ _ => rfl
  | _ => rfl
 | _ => rfl
theorem se_meth (m : Meth) (fz : Bool) {o : E} {es : List E} (ho : SE o) (h : SEs es) : SE (.meth m fz o es) := by
 intro T K C fe own env A n ρ g σ s ex hc cx I
 induction hc with
 | @mk x ap vs pos h2 h3 h5 h6 h7 =>
  rw [eA_19]
  intro hr
  refine wpAny_Call_method_lateS (base_plain h7 _ _ _) ?_ (by exact decide_eq_true h5) ?_
  ·rw [args_all pos env h3]
   exact (Bool.and_eq_true _ _).mpr ⟨rfl, decide_eq_true (show vs.length + 0 + 0 < 30 by (exact Nat.le_trans ‹_› (by decide)))⟩
  ·refine wpAny_mono (ho _ h2 cx I (bind_ne hr)) (fun ov s₁ hz_ => ?_) fun _ _ h => h
   obtain ⟨v, σ₁, g₁, e₁, st₁, r₁⟩ := hz_
   rw [e₁] at hr ⊢
   have I₁ := I.step st₁
   have hp : methPre m v σ₁ = true := by
    induction q : methPre m v σ₁ with
    | true => rfl
    | false => exact absurd (by show (if methPre m v σ₁ then _ else Res.bad) = Res.bad; rw [q]; rfl) hr
   have e5 : (Res.ok v σ₁).bind (fun x σ => if methPre m x σ = true then (evalEs C es ρ σ).bind fun vs σ => methcall m fz x vs σ else Res.bad) = (evalEs C es ρ σ₁).bind fun vs σ => methcall m fz v vs σ := by
    show (if methPre m v σ₁ then _ else Res.bad) = _; rw [hp]; rfl
   rw [e5] at hr ⊢
   have go : wpAny (model T.prog T.w) A (callWith pos (.builtin (methId m)) [ov] (backTo pos (starEach vs env)) []) (fun x s' => OkR T (frsOf fe) g s (RepV T) (((evalEs C es ρ σ₁).bind fun vs σ => methcall m fz v vs σ)) x s')
    (fun _ _ => False) s₁ := by
    refine callWith_builtin (args_plain _ _ h3) (call_args h3 ?_)
    refine wpAny_mono ((h _ pos h3 cx I₁).use (k := fun xs => call (.builtin (methId m)) (ov :: xs)) (fun xs ws σ₂ g₂ s₂ _ st₂ r₂ => meth_sim m fz cx.ha st₂.st (RepV.mono st₂.le _ _ r₁) r₂) hr)
     (fun xs s₂ hx => wpAny_mono hx (fun _ _ h => h.after st₁) fun _ _ h => h) fun _ _ h => h
   induction m with
   | append => exact onList st₁.st r₁ hp slot_list_append type_list_append go
   | join => exact onStr (σ := σ₁) r₁ hp F.slot_str_join F.type_str_join go
   | index => exact onList st₁.st r₁ hp F.slot_list_index F.type_list_index go
   | insert => exact onList st₁.st r₁ hp F.slot_list_insert F.type_list_insert go
   | pop => exact onList st₁.st r₁ hp F.slot_list_pop F.type_list_pop go
   | extend => exact onList st₁.st r₁ hp F.slot_list_extend F.type_list_extend go
end
end Mine.Internal
namespace Mine.Internal
open PySem PySem.Calls
inductive ItR (T : Top) (C : Cfg) (fe : List Env) (av : List Addr) (g : G) (s : Shared) (it : It) (r : Res Src) (v : Value) (s₂ : Shared) : Prop
 | mk (vs : Src) (σ' : Store) (g' : G) (b : Bool) (its : List Addr) (a : Addr) (h1 : r = .ok vs σ') (h2 : Step T g.mu (frsOf fe) g s g' σ' s₂) (h3 : v = .ref a) (h4 : ItOk T av g' s₂.heap b its a vs) (h5 : ∀ c, c ∈ its -> s.heap.get? c = none) (h6 : b = true -> isZipIt it = true) : ItR T C fe av g s it r v s₂
noncomputable def SI (it : It) : Prop := ∀ {T : Top} {K : Kx} {C : Cfg} {fe : List Env} {own : List Addr} {env : Env} {A : Around} {n : Nat} {ρ : Vars} {g : G} {σ : Store} {s : Shared} (ex : Expr) (av : List Addr),
 IsI it K ex -> Cx T K C fe env A n -> Inv T fe own K.wr env K.vars ρ g σ s.heap -> (∀ c, c ∈ av -> ∃ o, s.heap.get? c = some o) -> evalIt C it ρ σ ≠ .bad ->
 wpAny (model T.prog T.w) A (eval ex env) (fun x s₁ => wpAny (model T.prog T.w) A (pyIter x) (fun v s₂ => ItR T C fe av g s it (evalIt C it ρ σ) v s₂) (fun _ _ => False) s₁) (fun _ _ => False) s
section
variable {T : Top} {K : Kx} {C : Cfg} {fe : List Env} {own av fs : List Addr} {env : Env} {A : Around} {n : Nat} {ρ : Vars} {g g' : G} {σ σ' : Store} {s s' : Shared} {Er : Value -> Shared -> Prop}
theorem Lone.new (st : St T g σ s.heap) (hav : ∀ c, c ∈ av -> ∃ o, s.heap.get? c = some o) {a : Addr} {o : Obj} (ha : s.heap.get? a = none) (h' : s'.heap.get? a = some o) : Lone av g s'.heap a := by
 refine ⟨⟨st.fz_none ha, st.mu_none ha, o, h'⟩, fun q => ?_⟩
 obtain ⟨o, e⟩ := hav a q
 exact none_ne (ha.symm.trans e)
theorem list_drop_zero {α : Type} (xs : List α) : xs.drop 0 = xs := rfl
theorem src_of {v : V} {x : Value} {vs : Src} (st : St T g σ s.heap) (hav : ∀ c, c ∈ av -> ∃ o, s.heap.get? c = some o) (r : RepV T g v x) (e : itemsOf σ v = some vs) {Q : Value -> Shared -> Prop}
 (h : ∀ a s₂ its, Step T g.mu fs g s g σ s₂ -> ItOk T av g s₂.heap false its a vs -> (∀ c, c ∈ its -> s.heap.get? c = none) -> Q (.ref a) s₂) : wpAny (model T.prog T.w) A (pyIter x) Q Er s := by
 have hsz := atSize s.heap
 have new1 : ∀ c, c ∈ [s.heap.objs.size] -> s.heap.get? c = none := fun c hc => by rw [List.mem_singleton.mp hc]; exact hsz
 cases v with
 | d y => cases y with
  | list ys =>
   rw [<- Option.some.inj (show some (Src.items (ys.map V.d)) = some vs from e)] at h
   obtain ⟨l, o, xs, m, rfl, hf, hc, hd', hr, hl⟩ := r
   exact wpAny_pyIter_list ⟨o, st.fz _ _ hf, hc, m, hd'⟩ (h _ _ [s.heap.objs.size] (.grow st fun b o e => Heap.get?_push_of_some _ e) (.list (Lone.new st hav hsz (Heap.get?_push_size _ rfl)) ⟨_, Heap.get?_push_size _ rfl, rfl, rfl⟩ hf hc hd' (RepVs.ofD hr)) new1)
  | tuple ys =>
   rw [<- Option.some.inj (show some (Src.items (ys.map V.d)) = some vs from e)] at h
   obtain ⟨l, o, xs, m, rfl, hf, hc, hd', hr, hl⟩ := r
   exact wpAny_pyIter_tuple ⟨o, st.fz _ _ hf, hc, m, hd'⟩ (h _ _ [s.heap.objs.size] (.grow st fun b o e => Heap.get?_push_of_some _ e) (.tuple (Lone.new st hav hsz (Heap.get?_push_size _ rfl)) ⟨_, Heap.get?_push_size _ rfl, rfl, rfl⟩ hf hc hd' (RepVs.ofD hr)) new1)
  | _ => exact none_ne e
 | ref k =>
  obtain ⟨hb, rfl⟩ := if_some e
  obtain ⟨ws, ew⟩ := isListO_ok hb
  obtain ⟨l, hk, rfl⟩ := r
  obtain ⟨o, ho, xs, m, q, hr, hl⟩ := st.ob k l _ hk ew
  subst q
  exact wpAny_pyIter_list ⟨_, ho, rfl, m, rfl⟩ (h _ _ [s.heap.objs.size] (.grow st fun b o e => Heap.get?_push_of_some _ e) (.lref (Lone.new st hav hsz (Heap.get?_push_size _ rfl)) ⟨_, Heap.get?_push_size _ rfl, rfl, rfl⟩ hk) new1)
 | _ => exact none_ne e
theorem av_step {X : List Addr} (st : Step T X fs g s g' σ' s') (hav : ∀ c, c ∈ av -> ∃ o, s.heap.get? c = some o) : ∀ c, c ∈ av -> ∃ o, s'.heap.get? c = some o :=
 fun c hc => by obtain ⟨o, e⟩ := hav c hc; exact st.kept.alive c o e
theorem si_of {e : E} (h : SE e) : SI (.of e) := by
 intro T K C fe own env A n ρ g σ s ex av hc cx I hav hr
 have hc : IsE e K ex := hc
 (first | rw [eI_1] at hr ⊢ | rw [eI_2] at hr ⊢ | rw [eI_3] at hr ⊢ | rw [eI_4] at hr ⊢)
 refine wpAny_mono (h _ hc cx I (bind_ne hr)) (fun x s₁ hz_ => ?_) fun _ _ h => h
 obtain ⟨v, σ₁, g₁, e₁, st₁, r₁⟩ := hz_
 rw [e₁] at hr ⊢
 induction ei : itemsOf σ₁ v with
 | none => exact absurd (by simp only [okb, ei]) hr
 | some xs =>
  refine src_of (fs := frsOf fe) st₁.st (av_step st₁ hav) r₁ ei fun a s₂ its st₂ it new => ?_
  exact ⟨xs, σ₁, g₁, false, its, a, by simp only [okb, ei], st₁.trans st₂, rfl, it, fun c hc => st₁.kept.dead (new c hc), fun q => by exact ff_ q⟩
theorem rangeSmall {n : Int} (h : n <= 1000000 ∧ -1000000 <= n) : Builtin.Range.small 0 n 1 = true ∧ (Builtin.Range.rangeSize 0 n 1).toNat = n.toNat := by
 rw [rangeSize_one]
 unfold Builtin.Range.small Builtin.Range.rangeFitsLong
 rw [rangeSize_one]
 constructor
 ·simp only [Bool.and_eq_true, Bool.or_eq_true, decide_eq_true_eq, beq_iff_eq]
  split <;> simp <;> lia
 ·split <;> lia
theorem rangeDown {a : Int} (h1 : a <= 1000000) (h2 : -1 <= a) : Builtin.Range.small a (-1) (-1) = true ∧ Builtin.Range.rangeSize a (-1) (-1) = a + 1 := by
 have e : Builtin.Range.rangeSize a (-1) (-1) = a + 1 := by
  unfold Builtin.Range.rangeSize
  rw [if_neg (by decide)]
  split
  ·rw [show (- -1 : Int) = 1 from rfl, Int.ediv_one]; lia
  ·lia
 refine ⟨?_, e⟩
 unfold Builtin.Range.small Builtin.Range.rangeFitsLong
 rw [e]
 simp only [Bool.and_eq_true, Bool.or_eq_true, decide_eq_true_eq, beq_iff_eq]
 lia
theorem range_call {ws : List V} {xs : List Value} {ys : List V} {Q : Value -> Shared -> Prop} (st : St T g σ s.heap) (hav : ∀ c, c ∈ av -> ∃ o, s.heap.get? c = some o) (r : RepVs T g ws xs) (e : rangeOf ws = some ys)
 (h : ∀ a s₂, Step T g.mu fs g s g σ s₂ -> ItOk T av g s₂.heap false [a] a (.items ys) -> s.heap.get? a = none -> Q (.ref a) s₂) :
 wpAny (model T.prog T.w) A (call (.type "range") xs []) (fun x s₁ => wpAny (model T.prog T.w) A (pyIter x) Q Er s₁) Er s := by
 rcases ws with _ | ⟨w, _ | ⟨w', _ | ⟨w'', _ | ⟨w3, ws⟩⟩⟩⟩
 ·exact none_ne e
 ·have e : (match isIntV w with | some n => if n <= 1000000 ∧ -1000000 <= n then some (rangeV 0 n.toNat) else none | none => none) = some ys := e
  induction ek : isIntV w with
  | none => rw [ek] at e; exact none_ne e
  | some k =>
   rw [ek] at e
   obtain ⟨hk, rfl⟩ := if_some e
   obtain ⟨hs, hz⟩ := rangeSmall hk
   obtain ⟨x, rfl, rx⟩ := one_of r
   obtain ⟨t, rfl⟩ := isIntV_rep rx ek
   refine call_range_1 ?_
   refine wpAny_pyIter_range (Heap.get?_push_size _ rfl) hs ?_
   generalize hs2 : ({ s with heap := s.heap.push { cls := .type "range", data := .fields #[.int 0 s.toks, .int k t, .int 1 (s.toks + 1)] }, toks := s.toks + 1 + 1 } : Shared) = s₂
   have st2 : Step T g.mu fs g s g σ s₂ := by rw [<- hs2]; exact .grow st fun b o e => Heap.get?_push_of_some _ e
   refine h _ _ (st2.trans (.grow st2.st fun b o e => Heap.get?_push_of_some _ e)) ?_ (st2.kept.dead (atSize _))
   rw [<- hz]
   exact .range (Lone.new st2.st (av_step st2 hav) (atSize _) (Heap.get?_push_size _ rfl)) (Heap.get?_push_size _ rfl)
 ·exact none_ne e
 ·have e : (match isIntV w with | some a => (match isIntV w' with | some b => (match isIntV w'' with | some c => if a <= 1000000 ∧ -1 <= a ∧ b = -1 ∧ c = -1 then some (downV (a + 1).toNat) else none | none => none) | none => none) | none => none) = some ys := e
  induction e1 : isIntV w with
  | none => rw [e1] at e; exact none_ne e
  | some a => induction e2 : isIntV w' with
  | none => rw [e1, e2] at e; exact none_ne e
  | some b => induction e3 : isIntV w'' with
  | none => rw [e1, e2, e3] at e; exact none_ne e
  | some c =>
   rw [e1, e2, e3] at e
   obtain ⟨⟨h1, h2, rfl, rfl⟩, rfl⟩ := if_some e
   obtain ⟨hs, hz⟩ := rangeDown h1 h2
   rcases xs with _ | ⟨x, xs⟩
   ·exact r.elim
   obtain ⟨y, z, rfl, ry, rz⟩ := two_of r.2
   obtain ⟨t, rfl⟩ := isIntV_rep r.1 e1
   obtain ⟨u, rfl⟩ := isIntV_rep ry e2
   obtain ⟨v, rfl⟩ := isIntV_rep rz e3
   refine PySem.call_range_3 (by decide) ?_ (Or.inl (PyProof.noPylong_small (by lia)))
   refine wpAny_pyIter_range (Heap.get?_push_size _ rfl) hs ?_
   generalize hs2 : ({ s with heap := s.heap.push { cls := .type "range", data := .fields #[.int a t, .int (-1) u, .int (-1) v] }, toks := s.toks } : Shared) = s₂
   have st2 : Step T g.mu fs g s g σ s₂ := by rw [<- hs2]; exact .grow st fun b o e => Heap.get?_push_of_some _ e
   refine h _ _ (st2.trans (.grow st2.st fun b o e => Heap.get?_push_of_some _ e)) ?_ (st2.kept.dead (atSize _))
   rw [hz]
   have e5 : ((a + 1).toNat : Int) = a + 1 := by lia
   have e6 : a = ((a + 1).toNat : Int) - 1 := by lia
   refine .down (Lone.new st2.st (av_step st2 hav) (atSize _) (Heap.get?_push_size _ rfl)) ?_
   rw [<- e6, e5]
   exact Heap.get?_push_size _ rfl
 ·exact none_ne e
theorem si_range {es : List E} (h : SEs es) : SI (.range es) := by
 intro T K C fe own env A n ρ g σ s ex av hc cx I hav hr
 induction hc with
 | @mk nm p vs pos h1 h2 h3 =>
  obtain ⟨h1, e⟩ := h1
  rw [eI_1] at hr ⊢
  refine PyProof.Rows.Call_Name rfl (load_gl cx I h1 e fun x hx => ?_)
  have hx : x = .type "range" := hx
  subst hx
  refine PyProof.Rows.callWith_type (args_plain _ _ h2) (call_args h2 ?_)
  refine wpAny_mono (h _ pos h2 cx I (bind_ne hr)) (fun xs s₁ hz_ => ?_) fun _ _ h => h
  obtain ⟨ws, σ₁, g₁, e₁, st₁, r₁⟩ := hz_
  rw [e₁] at hr ⊢
  induction ei : rangeOf ws with
  | none => exact absurd (by simp only [okb, ei]) hr
  | some ys =>
   refine range_call (fs := frsOf fe) st₁.st (av_step st₁ hav) r₁ ei fun a s₂ st₂ it hn => ?_
   exact ⟨.items ys, σ₁, g₁, false, [a], a, by simp only [okb, ei], st₁.trans st₂, rfl, it, fun c hc => by rw [List.mem_singleton.mp hc]; exact st₁.kept.dead hn, fun q => by exact ff_ q⟩
theorem dlist_rep {v : V} {x : Value} {vs : List V} (r : RepV T g v x) (e : dlist v = some vs) :
 ∃ l o xs n, x = .ref l ∧ g.fz l = some o ∧ o.cls = .type "list" ∧ o.data = .seq xs n ∧ RepVs T g vs xs.toList := by
 cases v with
 | d y => cases y with
  | list ds =>
   obtain rfl : ds.map .d = vs := Option.some.inj e
   obtain ⟨l, o, xs, m, rfl, hf, hc, hd', hr, hl⟩ := r
   exact ⟨l, o, xs, m, rfl, hf, hc, hd', RepVs.ofD hr⟩
  | _ => exact none_ne e
 | _ => exact none_ne e
theorem si_zip {a b : E} (ha : SE a) (hb : SE b) : SI (.zip a b) := by
 intro T K C fe own env A n ρ g σ s ex av hc cx I hav hr
 induction hc with
 | @mk nm p ex1 ex2 pos h1 h2 h3 h5 h6 =>
  obtain ⟨h1, e⟩ := h1
  ·skip
   (first | rw [eI_1] at hr ⊢ | rw [eI_2] at hr ⊢ | rw [eI_3] at hr ⊢ | rw [eI_4] at hr ⊢)
   refine PyProof.Rows.Call_Name (trees := [(false, eval ex1 env), (false, eval ex2 env)]) (by rw [starEach_cons h5, starEach_cons h6]; rfl) (load_gl cx I h1 e fun x hx => ?_)
   have hx : x = .type "zip" := hx
   subst hx
   refine PyProof.Rows.callWith_type rfl (evalArgs_plain (spliced_cons ?_))
   refine wpAny_mono (ha _ h2 cx I (bind_ne hr)) (fun x s₁ hz_ => ?_) fun _ _ h => h
   obtain ⟨v, σ₁, g₁, e₁, st₁, r₁⟩ := hz_
   rw [e₁] at hr ⊢
   refine spliced_cons ?_
   refine wpAny_mono (hb _ h3 cx (I.step st₁) (bind_ne (r := evalE C b ρ σ₁) hr)) (fun y s₂ hz_ => ?_) fun _ _ h => h
   obtain ⟨u, σ₂, g₂, e₂, st₂, r₂⟩ := hz_
   simp only [okb, e₂] at hr ⊢
   induction d1 : dlist v with
   | none => rw [d1] at hr; exact absurd rfl hr
   | some vs =>
    induction d2 : dlist u with
    | none => rw [d1, d2] at hr; exact absurd rfl hr
    | some ws =>
     obtain ⟨l1, o1, xs, n1, rfl, f1, c1, k1, q1⟩ := dlist_rep (RepV.mono st₂.le _ _ r₁) d1
     obtain ⟨l2, o2, ys, n2, rfl, f2, c2, k2, q2⟩ := dlist_rep r₂ d2
     refine spliced_nil ?_
     show wpAny _ _ (call (.type "zip") [.ref l1, .ref l2] []) _ _ _
     refine call_zip_2 ⟨o1, st₂.st.fz _ _ f1, c1, n1, k1⟩ ⟨o2, st₂.st.fz _ _ f2, c2, n2, k2⟩ fun h' hz hTI hTO t1 t2 hsz hk => ?_
     refine wpAny_pyIter_zip hz ?_
     have gone : ∀ j, s₂.heap.get? (s₂.heap.objs.size + j) = none := fun j => Heap.get?_none_of_le (Nat.le_add_right _ _)
     have st3 : Step T g₂.mu (frsOf fe) g₂ s₂ g₂ σ₂ { s₂ with heap := h' } := .grow st₂.st hk
     have hav' := av_step st₂ (av_step st₁ hav)
     have lo : ∀ j o, h'.get? (s₂.heap.objs.size + j) = some o -> Lone av g₂ h' (s₂.heap.objs.size + j) := fun j o e => Lone.new (s' := { s₂ with heap := h' }) st₂.st hav' (gone j) e
     have ne : ∀ l o, g₂.fz l = some o -> ∀ j, l ≠ s₂.heap.objs.size + j := fun l o e j q => by have := st₂.st.fz _ _ e; rw [q, gone j] at this; exact none_ne this
     have D : ZipApart (s₂.heap.objs.size + 4) (s₂.heap.objs.size + 2) (s₂.heap.objs.size + 3) (s₂.heap.objs.size) (s₂.heap.objs.size + 1) l1 l2 := by
      constructor <;> first
       | exact ne _ _ f1 4 | exact ne _ _ f1 3 | exact ne _ _ f1 0 | exact ne _ _ f1 1
       | exact ne _ _ f2 4 | exact ne _ _ f2 3 | exact ne _ _ f2 0 | exact ne _ _ f2 1
       | (show (_ : Nat) ≠ _; lia)
     have a1 := id t1
     have a2 := id t2
     obtain ⟨oi1, hi1, _⟩ := a1
     obtain ⟨oi2, hi2, _⟩ := a2
     refine ⟨.items (zipV vs ws), σ₂, g₂, true, [s₂.heap.objs.size + 4, s₂.heap.objs.size + 3, s₂.heap.objs.size, s₂.heap.objs.size + 1, s₂.heap.objs.size + 2], s₂.heap.objs.size + 4, rfl, st₁.trans (st₂.trans st3), rfl, ?_, fun c hc => ?_, fun _ => rfl⟩
     ·exact .zip (lo 4 _ hz) (lo 2 _ hTI) (lo 3 _ hTO) (lo 0 _ hi1) (lo 1 _ hi2) (.mk D hz hTI hTO t1 t2 f1 c1 k1 f2 c2 k2 q1 q2)
     ·refine st₁.kept.dead (st₂.kept.dead ?_)
      simp only [List.mem_cons, List.not_mem_nil, or_false] at hc
      rcases hc with rfl | rfl | rfl | rfl | rfl
      ·exact gone 4
      ·exact gone 3
      ·exact gone 0
      ·exact gone 1
      ·exact gone 2
theorem si_enum {a : E} (ha : SE a) : SI (.enum a) := by
 intro T K C fe own env A n ρ g σ s ex av hc cx I hav hr
 induction hc with
 | @mk nm p xs pos h1 h2 h3 => induction h2 with
 | @mk ex1 l c1 c2 c3 =>
  cases c3
  obtain ⟨h1, e⟩ := h1
  rw [eI_3] at hr ⊢
  refine PyProof.Rows.Call_Name (trees := [(false, eval ex1 env)]) (by rw [starEach_cons c2]; rfl) (load_gl cx I h1 e fun x hx => ?_)
  have hx : x = .type "enumerate" := hx
  subst hx
  refine PyProof.Rows.callWith_type rfl (evalArgs_plain (spliced_cons ?_))
  refine wpAny_mono (ha _ c1 cx I (bind_ne hr)) (fun x s₁ hz_ => ?_) fun _ _ h => h
  obtain ⟨v, σ₁, g₁, e₁, st₁, r₁⟩ := hz_
  rw [e₁] at hr ⊢
  induction d1 : dlist v with
  | none => exact absurd (by show (match dlist v with | some xs => (.ok (.items (enumV 0 xs)) σ₁ : Res Src) | none => .bad) = _; rw [d1]) hr
  | some vs =>
   obtain ⟨l1, o1, xs, n1, rfl, f1, c1, k1, q1⟩ := dlist_rep r₁ d1
   refine spliced_nil ?_
   show wpAny _ _ (call (.type "enumerate") [.ref l1] []) _ _ _
   refine call_enumerate_list ⟨o1, st₁.st.fz _ _ f1, c1, n1, k1⟩ fun h' he hit hsz hk => ?_
   refine wpAny_pyIter_enum he ?_
   have gone : ∀ j, s₁.heap.get? (s₁.heap.objs.size + j) = none := fun j => Heap.get?_none_of_le (Nat.le_add_right _ _)
   have st3 : Step T g₁.mu (frsOf fe) g₁ s₁ g₁ σ₁ { s₁ with heap := h' } := .grow st₁.st hk
   have hav' := av_step st₁ hav
   have a1 := id hit
   obtain ⟨oi, hi, _⟩ := a1
   refine ⟨.items (enumV 0 vs), σ₁, g₁, true, [s₁.heap.objs.size + 1, s₁.heap.objs.size], s₁.heap.objs.size + 1, by show (match dlist v with | some xs => (.ok (.items (enumV 0 xs)) σ₁ : Res Src) | none => .bad) = _; rw [d1], st₁.trans st3, rfl, ?_, fun c hc => ?_, fun _ => rfl⟩
   ·exact .enum (Lone.new (s' := { s₁ with heap := h' }) st₁.st hav' (gone 1) he) (Lone.new (s' := { s₁ with heap := h' }) st₁.st hav' (gone 0) hi) (Nat.ne_of_gt (Nat.lt_succ_self _)) he hit f1 c1 k1 q1
   ·refine st₁.kept.dead ?_
    rcases List.mem_cons.mp hc with rfl | hc
    ·exact gone 1
    ·rw [List.mem_singleton.mp hc]; exact gone 0
theorem pyIter_self {b : Bool} {its : List Addr} {a : Addr} {vs : Src} {Q : Value -> Shared -> Prop} (I : ItOk T av g s.heap b its a vs) (h : Q (.ref a) s) : wpAny (model T.prog T.w) A (pyIter (.ref a)) Q Er s := by
 induction I with
 | list _ it => exact wpAny_pyIter_listiter it h
 | tuple _ it => exact wpAny_pyIter_tupleiter it h
 | lref _ it => exact wpAny_pyIter_listiter it h
 | enum _ _ _ he => exact wpAny_pyIter_enum he h
 | range _ it => exact wpAny_pyIter_rangeiter it h
 | down _ it => exact wpAny_pyIter_rangeiter it h
 | zip _ _ _ _ _ z =>
  induction z with
  | mk _ hz => exact wpAny_pyIter_zip hz h
end
end Mine.Internal
namespace Mine.Internal
open PySem PySem.Calls
section
variable {T : Top} {K : Kx} {C : Cfg} {fe : List Env} {own av fs X : List Addr} {wr : List Str} {env : Env} {A : Around} {n : Nat} {ρ ρ' : Vars} {g g' : G} {σ σ' : Store} {s s' : Shared} {Er : Value -> Shared -> Prop}
theorem canWr_ok (h : env.scope.names = K.names) {i : Nat} {nm : Str} (hc : K.canWr i nm = true) : K.vars[i]? = some nm ∧ nm ∈ K.wr ∧ (env.kindOf nm = some .local ∨ env.kindOf nm = some .cell) := by
 unfold Kx.canWr at hc
 simp only [Bool.and_eq_true, Bool.or_eq_true] at hc
 obtain ⟨⟨h1, h2⟩, h3⟩ := hc
 refine ⟨of_decide_eq_true h1, List.contains_iff_mem.mp h2, ?_⟩
 rw [kindOf_names h]
 exact h3.imp Kx.kd_eq Kx.kd_eq
theorem assign_name {i : Nat} {nm : Str} {p : Pos} {v : V} {x : Value} {Q : Unit -> Shared -> Prop} (I : Inv T fe own K.wr env K.vars ρ g σ s.heap) (hn : env.scope.names = K.names) (hc : K.canWr i nm = true) (r : RepV T g v x)
 (h : ∀ s', Step T (g.mu ++ own) fs g s g σ s' -> Inv T fe own K.wr env K.vars (ρ.set i (some v)) g σ s'.heap -> Q () s') : wpAny (model T.prog T.w) A (assign (.Name nm p) env x) Q Er s := by
 obtain ⟨h1, h2, h3⟩ := canWr_ok hn hc
 rw [arm_assign_Name]
 exact wpAny_bind (wpAny_standAt (wpAny_bindName (store_name I h1 h2 h3 r h)))
theorem assign_names (hn : env.scope.names = K.names) {ts : List Nat} {es : List Expr} (hc : IsNs K ts es) : ∀ (vs : List V) (xs : List Value) (ρ : Vars) (s : Shared) (Q : Unit -> Shared -> Prop), Inv T fe own K.wr env K.vars ρ g σ s.heap ->
 RepVs T g vs xs -> vs.length = ts.length -> (∀ s', Step T (g.mu ++ own) fs g s g σ s' -> Inv T fe own K.wr env K.vars (setTs ρ ts vs) g σ s'.heap -> Q () s') ->
 wpAny (model T.prog T.w) A (assignInOrder ((assignEach es env).map (·.2)) xs) Q Er s := by
 induction hc with
 | nil =>
  intro vs xs ρ s Q I r hl h
  induction vs with
  | cons _ _ => exact nat_ne hl rfl
  | nil => induction xs with
   | cons _ _ => exact r.elim
   | nil => exact wpAny_pure (h s (.refl I.st) I)
 | @cons i nm p ts l h1 h2 ih =>
  intro vs xs ρ s Q I r hl h
  induction vs with
  | nil => exact nat_ne hl rfl
  | cons v vs => induction xs with
   | nil => exact r.elim
   | cons x xs =>
    show wpAny _ _ (holding xs (assign (.Name nm p) env x) >>= fun _ => assignInOrder ((assignEach l env).map (·.2)) xs) _ _ _
    refine wpAny_bind (wpAny_holding (assign_name (fs := fs) I hn h1 r.1 fun s₁ st₁ I₁ => ?_))
    exact ih vs xs _ s₁ Q I₁ r.2 (Nat.succ.inj hl) fun s' st' I' => h s' (st₁.transO st') I'
theorem chkNs_len {ts : List Nat} {es : List Expr} (hc : IsNs K ts es) : (assignEach es env).length = ts.length ∧ (assignEach es env).findIdx? (·.1) = none := by
 induction hc with
 | nil => exact ⟨rfl, rfl⟩
 | @cons i nm p ts l h1 h2 ih =>
  refine ⟨congrArg (· + 1) ih.1, ?_⟩
  show ((false, assign (.Name nm p) env) :: assignEach l env).findIdx? (·.1) = none
  rw [List.findIdx?_cons, ih.2]; rfl
theorem tupOf_rep {v : V} {x : Value} {vs : List V} (st : St T g σ s.heap) (r : RepV T g v x) (e : tupOf v = some vs) : ∃ t xs, x = .ref t ∧ s.heap.IsTuple t xs ∧ RepVs T g vs xs.toList := by
 cases v with
 | d y => cases y with
  | tuple ds =>
   obtain rfl : ds.map .d = vs := Option.some.inj e
   obtain ⟨a, o, xs, m, rfl, hf, hc, hd, hr, hl⟩ := r
   exact ⟨a, xs, rfl, ⟨o, st.fz _ _ hf, hc, m, hd⟩, RepVs.ofD hr⟩
  | _ => exact none_ne e
 | tup ws =>
  obtain rfl : ws = vs := Option.some.inj e
  obtain ⟨a, o, xs, m, rfl, hf, hc, hd, hr, hl⟩ := r
  exact ⟨a, xs, rfl, ⟨o, st.fz _ _ hf, hc, m, hd⟩, hr⟩
 | _ => exact none_ne e
inductive BindsTs (ρ : Vars) (v : V) : List Nat -> Vars -> Prop where
 | one (i : Nat) : BindsTs ρ v [i] (ρ.set i (some v))
 | more {ts : List Nat} {vs : List V} (e : tupOf v = some vs) (hl : vs.length = ts.length) : BindsTs ρ v ts (setTs ρ ts vs)
theorem bindTs_more {ts : List Nat} {v : V} (h : (match tupOf v with | some vs => if vs.length = ts.length then some (setTs ρ ts vs) else none | none => none) = some ρ') : BindsTs ρ v ts ρ' := by
 induction e : tupOf v with
 | none => rw [e] at h; exact none_ne h
 | some vs =>
  rw [e] at h
  obtain ⟨hl, h⟩ := if_some h
  exact h ▸ .more e hl
theorem bindTs_is {ts : List Nat} {v : V} (h : bindTs ρ ts v = some ρ') : BindsTs ρ v ts ρ' := by
 rcases ts with _ | ⟨i, _ | ⟨j, r⟩⟩
 ·exact bindTs_more h
 ·exact Option.some.inj (show some (ρ.set i (some v)) = some ρ' from h) ▸ .one i
 ·exact bindTs_more h
theorem Step.ext_size (st : St T g σ s.heap) (h : Heap.ExtBut s.heap.objs.size s.heap s'.heap) (hg : s'.gens = s.gens := by rfl) (ho : s'.os = s.os := by rfl) : Step T X fs g s g σ s' :=
 .grow st (fun b o e => h b o (fun q => by rw [q, atSize] at e; exact none_ne e) e) hg ho
theorem assign_ts {ts : List Nat} {t : Expr} {v : V} {x : Value} {Q : Unit -> Shared -> Prop} (I : Inv T fe own K.wr env K.vars ρ g σ s.heap) (hn : env.scope.names = K.names) (hh : A.handled = none)
 (hc : IsT K ts t) (r : RepV T g v x) (hb : bindTs ρ ts v = some ρ')
 (h : ∀ s', Step T (g.mu ++ own) (frsOf fe) g s g σ s' -> Inv T fe own K.wr env K.vars ρ' g σ s'.heap -> Q () s') : wpAny (model T.prog T.w) A (assign t env x) Q Er s := by
 induction hc with
 | one hc =>
  cases Option.some.inj hb
  exact assign_name I hn hc r h
 | @more _ es k p hc hl1 =>
  rcases bindTs_is hb with i | ⟨e, hl⟩
  ·exact absurd rfl hl1
  ·obtain ⟨a, xs, rfl, ht, hr⟩ := tupOf_rep I.st r e
   obtain ⟨l1, l2⟩ := chkNs_len (env := env) hc
   refine wpAny_assign_Tuple hh ht (by rw [l1, <- hl, hr.length]; rfl) l2 fun h' he => ?_
   have st1 : Step T g.mu (frsOf fe) g s g σ { s with heap := h' } := .ext_size I.st he
   exact assign_names hn hc _ xs.toList ρ _ Q (I.step st1) hr hl fun s' st' I' => h s' (st1.toO.transO st') I'
theorem zip_tup {it : It} {ts : List Nat} {t : Expr} {b : Bool} (h1 : IsT K ts t) (h7 : zipOk ts it = true) (hz : b = true -> isZipIt it = true) (hb : b = true) : ∃ es c p, t = .Tuple es c p := by
 induction h1 with
 | more _ _ => exact ⟨_, _, _, rfl⟩
 | one _ =>
  unfold zipOk at h7
  rw [if_pos (hz hb)] at h7
  exact (Bool.false_ne_true h7).elim
noncomputable def cellsAv (env : Env) : List Addr := env.scope.names.filterMap fun p => match env.kindOf p.1 with | some .cell => env.cells.lookup p.1 | some .free => env.cells.lookup p.1 | _ => none
noncomputable def avOf (fe : List Env) (own : List Addr) (env : Env) : List Addr := frsOf fe ++ (own ++ cellsAv env)
theorem mem_cellsAv {nm : Str} {c : Addr} (hk : env.kindOf nm = some .cell ∨ env.kindOf nm = some .free) (hc : env.cells.lookup nm = some c) : c ∈ cellsAv env := by
 have hm : ∃ k, (nm, k) ∈ env.scope.names := by
  have : ∃ k, env.scope.names.lookup nm = some k := by rcases hk with h | h <;> exact ⟨_, h⟩
  obtain ⟨k, h⟩ := this
  exact ⟨k, mem_of_lookup h⟩
 obtain ⟨k, hm⟩ := hm
 refine List.mem_filterMap.mpr ⟨(nm, k), hm, ?_⟩
 rcases hk with h | h <;> simp [h, hc]
theorem of_cellsAv {c : Addr} (h : c ∈ cellsAv env) : ∃ nm, (env.kindOf nm = some .cell ∨ env.kindOf nm = some .free) ∧ env.cells.lookup nm = some c := by
 obtain ⟨p, _, hp⟩ := List.mem_filterMap.mp h
 split at hp
 ·rename_i e; exact ⟨p.1, .inl e, hp⟩
 ·rename_i e; exact ⟨p.1, .inr e, hp⟩
 ·exact none_ne hp
theorem FrOk.mem {h : Heap} : ∀ {l : List Env} {c : Addr}, FrOk g h l -> c ∈ frsOf l -> Apart g h c
 | e :: r, c, ⟨_, ⟨L, o, hf, ho, _, h1, h2⟩, hr⟩, hc => by
  unfold frsOf at hc
  rw [List.filterMap_cons_some hf] at hc
  rcases List.mem_cons.mp hc with rfl | hc
  ·exact ⟨h1, h2, o, ho⟩
  ·exact FrOk.mem hr hc
theorem Inv.avAp (I : Inv T fe own wr env K.vars ρ g σ s.heap) : ∀ c, c ∈ avOf fe own env -> Apart g s.heap c := by
 intro c hc
 rcases List.mem_append.mp hc with h | h
 ·exact I.fr.mem h
 ·rcases List.mem_append.mp h with h | h
  ·exact I.oap c h
  ·obtain ⟨nm, hk, hl⟩ := of_cellsAv h
   obtain ⟨c', v, h1, _, h3⟩ := I.blk.cell nm hk
   obtain rfl := Option.some.inj (hl.symm.trans h1); exact h3
theorem FrOk.keep {h h' : Heap} : ∀ {l : List Env}, (∀ c o, c ∈ frsOf l -> h.get? c = some o -> ∃ sl, h'.get? c = some { o with slots := sl }) -> (∀ c, c ∈ frsOf l -> Apart g' h' c) -> FrOk g h l -> FrOk g' h' l
 | [], _, _, _ => trivial
 | e :: r, kp, ap, ⟨k, ⟨L, o, hf, ho, hd, h1, h2⟩, hr⟩ => by
  have hm : L ∈ frsOf (e :: r) := by unfold frsOf; rw [List.filterMap_cons_some hf]; exact List.mem_cons_self ..
  obtain ⟨sl, e1⟩ := kp L o hm ho
  have a := ap L hm
  have sub : ∀ c, c ∈ frsOf r -> c ∈ frsOf (e :: r) := fun c hc => by unfold frsOf; rw [List.filterMap_cons_some hf]; exact List.mem_cons_of_mem _ hc
  exact ⟨k, ⟨L, _, hf, e1, hd, a.1, a.2.1⟩, FrOk.keep (fun c o hc => kp c o (sub c hc)) (fun c hc => ap c (sub c hc)) hr⟩
theorem Inv.keep {h' : Heap} (I : Inv T fe own wr env K.vars ρ g σ s.heap) (le : G.le g g') (st : St T g' σ' h') (ap : ∀ c, c ∈ avOf fe own env -> Apart g' h' c)
 (kp : ∀ c o, c ∈ avOf fe own env -> s.heap.get? c = some o -> ∃ sl, h'.get? c = some { o with slots := sl }) : Inv T fe own wr env K.vars ρ g' σ' h' := by
 have mo : ∀ c, c ∈ own -> c ∈ avOf fe own env := fun c h => List.mem_append.mpr (.inr (List.mem_append.mpr (.inl h)))
 have mc : ∀ c, c ∈ cellsAv env -> c ∈ avOf fe own env := fun c h => List.mem_append.mpr (.inr (List.mem_append.mpr (.inr h)))
 have mf : ∀ c, c ∈ frsOf fe -> c ∈ avOf fe own env := fun c h => List.mem_append.mpr (.inl h)
 refine ⟨st, I.fr.keep (fun c o hc => kp c o (mf c hc)) fun c hc => ap c (mf c hc), I.top, ⟨I.blk.kind, I.blk.glob, I.blk.blt, ap _ (mo _ I.oloc), ?_, fun nm hk => ?_, I.blk.cinj⟩, fun i nm v hi hv => ?_, I.nd, I.oloc, I.ocell, fun a ha => ap a (mo a ha)⟩
 ·obtain ⟨m, hm⟩ := I.blk.ns
  exact ⟨m, ns_slots hm fun o ho => kp _ o (mo _ I.oloc) ho⟩
 ·obtain ⟨c, v, h1, h2, h3⟩ := I.blk.cell nm hk
  have hc := mc c (mem_cellsAv hk h1)
  exact ⟨c, v, h1, cell_slots h2 fun o ho => kp _ o hc ho, ap c hc⟩
 ·obtain ⟨h1, h2⟩ := I.sees i nm v hi hv
  refine ⟨fun hk => ?_, fun hk => ?_⟩
  ·obtain ⟨m, y, hm, hy, hr⟩ := h1 hk
   exact ⟨m, y, ns_slots hm fun o ho => kp _ o (mo _ I.oloc) ho, hy, RepV.mono le _ _ hr⟩
  ·obtain ⟨c, y, hc, hy, hr⟩ := h2 hk
   exact ⟨c, y, hc, cell_slots hy fun o ho => kp _ o (mc c (mem_cellsAv hk hc)) ho, RepV.mono le _ _ hr⟩
theorem Inv.far (x : Step T X (frsOf fe) g s g' σ' s') (hX : ∀ a, a ∈ X -> a ∈ g.mu ∨ a ∉ avOf fe own env) (I : Inv T fe own wr env K.vars ρ g σ s.heap) : Inv T fe own wr env K.vars ρ g' σ' s'.heap := by
 refine I.keep x.le x.st (fun c hc => (I.avAp c hc).step x) fun c o hc ho => ?_
 have ha := I.avAp c hc
 have hn : c ∉ X := fun q => (hX c q).elim ha.2.1 fun h => h hc
 by_cases hf : c ∈ frsOf fe
 ·exact x.kept.slots c o ho hn hf
 ·exact ⟨o.slots, x.kept.same c o ho hn hf⟩
theorem Inv.less (I : Inv T fe own wr env K.vars ρ g σ s.heap) (h : ∀ (i : Nat) (v : V), ρ'[i]? = some (some v) -> ρ[i]? = some (some v)) : Inv T fe own wr env K.vars ρ' g σ s.heap :=
 ⟨I.st, I.fr, I.top, I.blk, fun i nm v hi hv => I.sees i nm v hi (h i v hv), I.nd, I.oloc, I.ocell, I.oap⟩
theorem ItOk.avoid {av' : List Addr} {b : Bool} {its : List Addr} {a : Addr} {vs : Src} {h : Heap} (I : ItOk T av g h b its a vs) (hn : ∀ c, c ∈ its -> c ∉ av') : ItOk T av' g h b its a vs := by
 induction I with
 | list h1 h2 h3 h4 h5 h6 => exact .list ⟨h1.1, hn _ (by exact .head _)⟩ h2 h3 h4 h5 h6
 | tuple h1 h2 h3 h4 h5 h6 => exact .tuple ⟨h1.1, hn _ (by exact .head _)⟩ h2 h3 h4 h5 h6
 | enum z1 z2 ne h1 h2 h3 h4 h5 h6 => exact .enum ⟨z1.1, hn _ (by exact .head _)⟩ ⟨z2.1, hn _ (by exact .tail _ (.head _))⟩ ne h1 h2 h3 h4 h5 h6
 | lref h1 h2 h3 => exact .lref ⟨h1.1, hn _ (by exact .head _)⟩ h2 h3
 | down h1 h2 => exact .down ⟨h1.1, hn _ (by exact .head _)⟩ h2
 | range h1 h2 => exact .range ⟨h1.1, hn _ (by exact .head _)⟩ h2
 | zip z1 z2 z3 z4 z5 h => exact .zip ⟨z1.1, hn _ (by exact .head _)⟩ ⟨z2.1, hn _ (by exact .tail _ (.tail _ (.tail _ (.tail _ (.head _)))))⟩ ⟨z3.1, hn _ (by exact .tail _ (.head _))⟩ ⟨z4.1, hn _ (by exact .tail _ (.tail _ (.head _)))⟩ ⟨z5.1, hn _ (by exact .tail _ (.tail _ (.tail _ (.head _))))⟩ h
theorem St.rest {h h' : Heap} {its : List Addr} (st : St T g σ h) (hl : ∀ c, c ∈ its -> g.fz c = none ∧ c ∉ g.mu) (hk : ∀ c o, c ∉ its -> h.get? c = some o -> h'.get? c = some o) : St T g σ h' := by
 refine ⟨fun c o e => hk c o (fun q => by exact none_ne ((Eq.symm ((hl c q).1)).trans e)) (st.fz c o e), st.len, st.nd, st.ap, fun k c o e1 e2 => ?_, st.base, st.tb.keep (.refl g) fun o e => hk _ _ (fun q => (hl _ q).2 st.tb.mem) e⟩
 obtain ⟨x, h1, h2⟩ := st.ob k c o e1 e2
 exact ⟨x, hk c x (fun q => (hl c q).2 (List.mem_of_getElem? e1)) h1, h2⟩
theorem Step.rest {its : List Addr} {h' : Heap} (x : Step T X fs g s g' σ' s') (hl : ∀ c, c ∈ its -> g'.fz c = none ∧ c ∉ g'.mu) (hn : ∀ c, c ∈ its -> s.heap.get? c = none) (hk : ∀ c o, c ∉ its -> s'.heap.get? c = some o -> h'.get? c = some o) :
 Step T X fs g s g' σ' { s' with heap := h' } := by
 have ni : ∀ c o, s.heap.get? c = some o -> c ∉ its := fun c o e q => by exact none_ne ((Eq.symm (hn c q)).trans e)
 refine ⟨x.le, x.st.rest hl hk, ⟨fun c o e => ?_, fun c o e nb nf => hk c o (ni c o e) (x.kept.same c o e nb nf), fun c o e nb hf => ?_⟩, x.new, x.gens, x.os⟩
 ·obtain ⟨o', e'⟩ := x.kept.alive c o e
  exact ⟨o', hk c o' (ni c o e) e'⟩
 ·obtain ⟨sl, e'⟩ := x.kept.slots c o e nb hf
  exact ⟨sl, hk c _ (ni c o e) e'⟩
theorem Inv.rest {its : List Addr} {h' : Heap} (I : Inv T fe own wr env K.vars ρ g σ s.heap) (hl : ∀ c, c ∈ its -> g.fz c = none ∧ c ∉ g.mu) (ha : ∀ c, c ∈ its -> c ∉ avOf fe own env) (hk : ∀ c o, c ∉ its -> s.heap.get? c = some o -> h'.get? c = some o) :
 Inv T fe own wr env K.vars ρ g σ h' := by
 have kp : ∀ c o, c ∈ avOf fe own env -> s.heap.get? c = some o -> h'.get? c = some o := fun c o hc e => hk c o (fun q => ha c q hc) e
 refine I.keep (.refl g) (I.st.rest hl hk) (fun c hc => ?_) fun c o hc e => ⟨o.slots, kp c o hc e⟩
 obtain ⟨h1, h2, o, h3⟩ := I.avAp c hc
 exact ⟨h1, h2, o, kp c o hc h3⟩
end
end Mine.Internal
namespace Mine.Internal
open PySem PySem.Calls
noncomputable def clOf (env : Env) : List (Str × NameKind) -> List (Str × Addr) -> List (Str × Addr)
 | [], acc => acc
 | (n, k) :: r, acc => clOf env r (if k == .free then (n, (env.cells.lookup n).getD 0) :: acc else acc)
theorem clOf_mem {env : Env} : ∀ {names : List (Str × NameKind)} {acc : List (Str × Addr)} {n : Str} {c : Addr}, (n, c) ∈ clOf env names acc -> (n, c) ∈ acc ∨ ((n, NameKind.free) ∈ names ∧ c = (env.cells.lookup n).getD 0)
 | [], acc, n, c, h => .inl h
 | (m, k) :: r, acc, n, c, h => by
  rcases clOf_mem (names := r) h with h | ⟨h1, h2⟩
  ·by_cases hk : (k == NameKind.free) = true
   ·rw [if_pos hk] at h
    have hk' : k = .free := by simpa using hk
    rcases List.mem_cons.mp h with h | h
    ·cases h; exact .inr ⟨by rw [hk']; exact List.mem_cons_self .., rfl⟩
    ·exact .inl h
   ·rw [if_neg hk] at h; exact .inl h
  ·exact .inr ⟨List.mem_cons_of_mem _ h1, h2⟩
theorem clOf_acc {env : Env} : ∀ {names : List (Str × NameKind)} {acc : List (Str × Addr)} {p : Str × Addr}, p ∈ acc -> p ∈ clOf env names acc
 | [], _, _, h => h
 | (m, k) :: r, acc, p, h => by
  refine clOf_acc (names := r) ?_
  split
  ·exact List.mem_cons_of_mem _ h
  ·exact h
theorem clOf_has {env : Env} : ∀ {names : List (Str × NameKind)} {acc : List (Str × Addr)} {n : Str}, (n, NameKind.free) ∈ names -> (n, (env.cells.lookup n).getD 0) ∈ clOf env names acc
 | (m, k) :: r, acc, n, h => by
  rcases List.mem_cons.mp h with h | h
  ·cases h
   show _ ∈ clOf env r (if (NameKind.free == NameKind.free) = true then _ else _)
   rw [if_pos (by decide)]
   exact clOf_acc (List.mem_cons_self ..)
  ·exact clOf_has (names := r) h
theorem closureFor_eq {env : Env} (scope : Scope) (h : ∀ n, (n, NameKind.free) ∈ scope.names -> ∃ c, env.cells.lookup n = some c) : closureFor scope env = pure (clOf env scope.names []) := by
 unfold closureFor
 have gen : ∀ (names : List (Str × NameKind)) (acc : List (Str × Addr)), (∀ n, (n, NameKind.free) ∈ names -> ∃ c, env.cells.lookup n = some c) ->
  (forIn names acc (fun x r => match x with
   | (name, kind) => if (kind == NameKind.free) = true then do
    let c <- cellOf env name
    pure (ForInStep.yield ((name, c) :: r))
    else pure (ForInStep.yield r)) : Sem (List (Str × Addr))) = pure (clOf env names acc) := by
  intro names
  induction names with
  | nil => intro acc _; rfl
  | cons p r ih =>
   intro acc hh
   obtain ⟨m, k⟩ := p
   rw [List.forIn_cons]
   by_cases hk : (k == NameKind.free) = true
   ·have hk' : k = .free := by simpa using hk
    subst hk'
    obtain ⟨c, hc⟩ := hh m (List.mem_cons_self ..)
    have e : cellOf env m = pure c := by unfold cellOf; rw [hc]
    simp only [hk, if_true, e, pure_bind]
    rw [ih _ fun n hn => hh n (List.mem_cons_of_mem _ hn)]
    unfold clOf
    simp only [hk, if_true, hc, Option.getD_some]
    cases r <;> rfl
   ·simp only [hk, if_false, pure_bind, Bool.false_eq_true]
    rw [ih _ fun n hn => hh n (List.mem_cons_of_mem _ hn)]
    conv => rhs; unfold clOf
    simp only [hk, if_false, Bool.false_eq_true]
 have := gen scope.names [] h
 simp only [bind_pure]
 exact this
end Mine.Internal
namespace Mine.Internal
open PySem PySem.Calls
structure ScOk (K : Kx) (ts : List Nat) (sc : Scope) : Prop where
 kind : sc.kind = .function
 loc : ∀ n, (n, NameKind.local) ∈ sc.names -> n = (".0" : Str) ∨ ∃ i, i ∈ ts ∧ K.vars[i]? = some n
 fre : ∀ n, (n, NameKind.free) ∈ sc.names -> K.names.lookup n = some .cell ∨ K.names.lookup n = some .free
 noc : ∀ p, p ∈ sc.names -> p.2 ≠ .cell
 uni : ∀ p, p ∈ sc.names -> sc.names.lookup p.1 = some p.2
 dot : (".0" : Str) ∉ K.vars
 tgt : ∀ i, i ∈ ts -> ∃ m, K.vars[i]? = some m ∧ sc.names.lookup m = some .local
theorem scopeOk_ok {K : Kx} {ts : List Nat} {sc : Scope} (h : scopeOk K ts sc = true) : ScOk K ts sc := by
 unfold scopeOk at h
 simp only [Bool.and_eq_true, List.all_eq_true] at h
 obtain ⟨⟨⟨⟨h1, h2⟩, h3⟩, h4⟩, h5⟩ := h
 have nm : ∀ p, p ∈ sc.names -> (p.2 = .local ∧ (p.1 = ".0" ∨ ∃ i, i ∈ ts ∧ K.vars[i]? = some p.1)) ∨ ((p.2 = .free ∧ (K.names.lookup p.1 = some .cell ∨ K.names.lookup p.1 = some .free)) ∨ p.2 = .globalImplicit) := fun p hp => by
  have := h2 p hp
  unfold nameOk at this
  simp only [Bool.or_eq_true, Bool.and_eq_true, decide_eq_true_eq, beq_iff_eq, List.any_eq_true] at this
  exact this.imp id (Or.imp (And.imp id (Or.imp Kx.kd_eq Kx.kd_eq)) id)
 refine ⟨of_decide_eq_true h1, fun n hn => ?_, fun n hn => ?_, fun p hp q => ?_, fun p hp => of_decide_eq_true (h3 p hp), ?_, fun i hi => ?_⟩
 ·rcases nm _ hn with h | h | h
  ·exact h.2
  ·exact nomatch (show NameKind.local = .free from h.1)
  ·exact nomatch (show NameKind.local = .globalImplicit from h)
 ·rcases nm _ hn with h | h | h
  ·exact nomatch (show NameKind.free = .local from h.1)
  ·exact h.2
  ·exact nomatch (show NameKind.free = .globalImplicit from h)
 ·rcases nm _ hp with h | h | h
  ·rw [q] at h; exact absurd h.1 (by decide)
  ·rw [q] at h; exact absurd h.1 (by decide)
  ·rw [q] at h; exact absurd h (by decide)
 ·simpa using h4
 ·have := h5 _ hi
  induction e : K.vars[i]? with
  | none => rw [e] at this; exact (Bool.false_ne_true this).elim
  | some m => rw [e] at this; exact ⟨m, rfl, of_decide_eq_true this⟩
theorem rel_lookup (E : List (Str × NameKind)) (n : Str) : ∀ names : List (Str × NameKind), (relNames E names).lookup n = (names.lookup n).map fun k => if (k == .free && E.lookup n == some .cell) then .cell else k
 | [] => rfl
 | (m, k) :: r => by
  have ih := rel_lookup E n r
  unfold relNames at ih ⊢
  rw [List.map_cons]
  by_cases hm : n = m
  ·subst hm
   by_cases hc : (k == .free && E.lookup n == some .cell) = true
   ·simp only [hc, if_true, List.lookup_cons, beq_self_eq_true, Option.map_some]
   ·simp only [hc, if_false, List.lookup_cons, beq_self_eq_true, Option.map_some, Bool.false_eq_true]
  ·have hb : (n == m) = false := by exact beq_false_of_ne hm
   by_cases hc : (k == .free && E.lookup m == some .cell) = true
   ·simp only [hc, if_true, List.lookup_cons, hb]; exact ih
   ·simp only [hc, if_false, List.lookup_cons, hb, Bool.false_eq_true]; exact ih
section
variable {T : Top} {K : Kx} {C : Cfg} {fe : List Env} {own av fs X : List Addr} {wr : List Str} {env : Env} {A : Around} {n : Nat} {ρ ρ' : Vars} {g g' : G} {σ σ' : Store} {s s' : Shared} {Er : Value -> Shared -> Prop}
theorem relabel_names {sc : Scope} (hk : env.scope.kind = .function) (hn : env.scope.names = K.names) : (relabel sc env).names = relNames K.names sc.names := by
 unfold relabel relNames
 apply List.map_congr_left
 rintro ⟨m, k⟩ _
 simp only [hk, kindOf_names hn]
 cases k <;> simp
theorem clearTs_get : ∀ {ts : List Nat} {ρ : Vars} {i : Nat} {v : V}, (clearTs ρ ts)[i]? = some (some v) -> i ∉ ts ∧ ρ[i]? = some (some v)
 | [], ρ, i, v, h => ⟨by exact List.not_mem_nil, h⟩
 | j :: ts, ρ, i, v, h => by
  have h' : (clearTs (ρ.set j none) ts)[i]? = some (some v) := h
  have q_z := clearTs_get h'
  have h1 := q_z.1
  have h2 := q_z.2
  rcases vars_get h2 with ⟨q, e⟩ | ⟨q, e⟩
  ·exact none_ne e
  ·exact ⟨by simp [q, h1], e⟩
theorem setTs_get : ∀ {ts : List Nat} {vs : List V} {ρ : Vars} {i : Nat}, i ∉ ts -> (setTs ρ ts vs)[i]? = ρ[i]?
 | [], vs, ρ, i, h => by cases vs <;> rfl
 | j :: ts, [], ρ, i, h => rfl
 | j :: ts, w :: vs, ρ, i, h => by
  show (setTs (ρ.set j (some w)) ts vs)[i]? = ρ[i]?
  have hj : j ≠ i := fun q => h (by exact q ▸ .head _)
  have hi : i ∉ ts := fun q => h (by exact .tail _ q)
  rw [setTs_get hi, List.getElem?_set_ne hj]
theorem bindTs_out {ts : List Nat} {v : V} {ρ ρ' : Vars} (h : bindTs ρ ts v = some ρ') {i : Nat} (hi : i ∉ ts) : ρ'[i]? = ρ[i]? := by
 rcases bindTs_is h with j | ⟨_, _⟩
 ·exact List.getElem?_set_ne fun (q : j = i) => hi (q ▸ List.mem_cons_self ..)
 ·exact setTs_get hi
theorem bindTs_get {ts : List Nat} {v : V} (h : bindTs ρ ts v = some ρ') {i : Nat} {u : V} (hi : i ∉ ts) (hu : ρ[i]? = some (some u)) : ρ'[i]? = some (some u) := (bindTs_out h hi).trans hu
theorem comp_inv {ts : List Nat} {sc : Scope} {Cc : Addr} {h' : Heap} (sk : ScOk K ts sc) (I : Inv T fe own K.wr env K.vars ρ g σ s.heap) (hn : env.scope.names = K.names)
 (hk : ∀ b o, s.heap.get? b = some o -> h'.get? b = some o) (hC : s.heap.get? Cc = none) (hns : h'.Ns Cc (fun _ => none)) :
 Inv T fe [Cc] (K.sub ts sc).wr (compEnvC sc (clOf env sc.names []) Cc env) (K.sub ts sc).vars (clearTs ρ ts) g σ h' := by
 have stp : Step T g.mu (frsOf fe) g s g σ { s with heap := h' } := .grow I.st hk
 have nm : (compEnvC sc (clOf env sc.names []) Cc env).scope.names = relNames K.names sc.names := relabel_names I.blk.kind hn
 have kd : ∀ x, (compEnvC sc (clOf env sc.names []) Cc env).kindOf x = (sc.names.lookup x).map fun k => if (k == .free && K.names.lookup x == some .cell) then .cell else k := fun x => by
  unfold Env.kindOf; rw [nm]; exact rel_lookup _ _ _
 have apC : Apart g h' Cc := by
  obtain ⟨o, _, _, e, _⟩ := hns
  exact ⟨I.st.fz_none hC, I.st.mu_none hC, o, e⟩
 -- what the comprehension sees as a cell is one of the block around
 have outer : ∀ x, (compEnvC sc (clOf env sc.names []) Cc env).kindOf x = some .cell ∨ (compEnvC sc (clOf env sc.names []) Cc env).kindOf x = some .free ->
  (env.kindOf x = some .cell ∨ env.kindOf x = some .free) ∧ (x, NameKind.free) ∈ sc.names := fun x hx => by
  rw [kd] at hx
  have hf : sc.names.lookup x = some .free := by
   induction e : sc.names.lookup x with
   | none => rw [e] at hx; rcases hx with h | h <;> exact none_ne h
   | some k =>
    have hm := mem_of_lookup e
    have hnc := sk.noc _ hm
    induction k with
    | free => rfl
    | cell => exact absurd rfl hnc
    | _ => rw [e] at hx; rcases hx with h | h <;> simp at h
  have hm := mem_of_lookup hf
  refine ⟨?_, hm⟩
  rw [kindOf_names hn]
  exact sk.fre x hm
 have look : ∀ x, (compEnvC sc (clOf env sc.names []) Cc env).kindOf x = some .cell ∨ (compEnvC sc (clOf env sc.names []) Cc env).kindOf x = some .free ->
  ∀ c, (compEnvC sc (clOf env sc.names []) Cc env).cells.lookup x = some c -> env.cells.lookup x = some c := fun x hx c hc => by
  have q_z := outer x hx
  have h1 := q_z.1
  have h2 := q_z.2
  obtain ⟨c', _, hl, _⟩ := I.blk.cell x h1
  have hm := mem_of_lookup (show (clOf env sc.names []).lookup x = some c from hc)
  rcases clOf_mem hm with h | ⟨_, h⟩
  ·simp at h
  ·rw [hl] at h; rw [hl, h]; rfl
 have look' : ∀ x c, (compEnvC sc (clOf env sc.names []) Cc env).cells.lookup x = some c -> (x, NameKind.free) ∈ sc.names ∧ env.cells.lookup x = some c := fun x c hc => by
  have hm := mem_of_lookup (show (clOf env sc.names []).lookup x = some c from hc)
  rcases clOf_mem hm with h | ⟨h1, h⟩
  ·simp at h
  ·have hk' : env.kindOf x = some .cell ∨ env.kindOf x = some .free := by rw [kindOf_names hn]; exact sk.fre x h1
   obtain ⟨c', _, hl, _⟩ := I.blk.cell x hk'
   rw [hl] at h
   exact ⟨h1, by rw [hl, h]; rfl⟩
 have has : ∀ x, (x, NameKind.free) ∈ sc.names -> ∃ c, (compEnvC sc (clOf env sc.names []) Cc env).cells.lookup x = some c := fun x hx => by
  have hm := clOf_has (env := env) (acc := []) hx
  induction e : (clOf env sc.names []).lookup x with
  | some c => exact ⟨c, e⟩
  | none =>
   exfalso
   have : ∀ l : List (Str × Addr), l.lookup x = none -> ∀ c, (x, c) ∉ l := by
    intro l
    induction l with
    | nil => intro _ c h; cases h
    | cons p r ih =>
     intro hl c hc
     rw [List.lookup_cons] at hl
     split at hl
     ·exact some_ne hl
     ·rename_i hne
      rcases List.mem_cons.mp hc with h | h
      ·rw [<- h] at hne; simp at hne
      ·exact ih hl c h
   exact this _ e _ hm
 have I' : Inv T fe own K.wr env K.vars ρ g σ h' := I.step stp
 refine ⟨I'.st, I'.fr, I.top, ⟨?_, I.blk.glob, I.blk.blt, apC, ⟨_, hns⟩, fun x hx => ?_, fun x y c hx hy => ?_⟩, fun i x v hi hv => ?_, I.nd, by exact .head _, fun x hx c hk' _ => ?_, fun a ha => ?_⟩
 ·show (relabel sc env).kind = .function
  exact sk.kind
 ·have q_z := outer x hx
  have h1 := q_z.1
  have h2 := q_z.2
  obtain ⟨c, hc⟩ := has x h2
  have hl := look x hx c hc
  obtain ⟨c', v, q1, q2, q3⟩ := I'.blk.cell x h1
  obtain rfl := Option.some.inj (hl.symm.trans q1)
  exact ⟨c, v, hc, q2, q3⟩
 ·exact I.blk.cinj x y c (look' x c hx).2 (look' y c hy).2
 ·have q_z := clearTs_get hv
  have hni := q_z.1
  have hv' := q_z.2
  refine ⟨fun hl => ?_, fun hl => ?_⟩
  ·exfalso
   rw [kd] at hl
   have hloc : (x, NameKind.local) ∈ sc.names := by
    induction e : sc.names.lookup x with
    | none => rw [e] at hl; exact none_ne hl
    | some k =>
     rw [e] at hl
     induction k with
     | «local» => exact mem_of_lookup e
     | free =>
      simp only [Option.map_some, Option.some.injEq] at hl
      split at hl <;> cases hl
     | _ => simp at hl
   rcases sk.loc x hloc with h | ⟨j, hj, hjv⟩
   ·subst h
    exact sk.dot (List.mem_of_getElem? hi)
   ·exact hni (nodup_inj I.nd hi hjv ▸ hj)
  ·have q_z := outer x hl
   have h1 := q_z.1
   have h2 := q_z.2
   obtain ⟨c, hc⟩ := has x h2
   have hcl := look x hl c hc
   obtain ⟨c', y, q1, q2, q3⟩ := (I'.sees i x v hi hv').2 h1
   obtain rfl := Option.some.inj (hcl.symm.trans q1)
   exact ⟨c, y, hc, q2, q3⟩
 ·exfalso
  obtain ⟨i, hi, hx'⟩ := List.mem_filterMap.mp (show x ∈ ts.filterMap fun i => K.vars[i]? from hx)
  obtain ⟨m, hm, hloc⟩ := sk.tgt i hi
  obtain rfl := Option.some.inj (hm.symm.trans hx')
  rw [kd, hloc] at hk'
  simp at hk'
 ·rw [List.mem_singleton.mp ha]; exact apC
end
end Mine.Internal
namespace Mine.Internal
open PySem PySem.Calls
noncomputable abbrev testsOf (ifs : List Expr) (env : Env) (b : Bool) : Sem Bool :=
 forIn ifs b fun c r => if r = true then do let ok <- isTrue c env (eval c env); pure (ForInStep.yield ok) else pure (ForInStep.yield r)
theorem compLoop_any {prog : Program} {w : World} {A : Around} {R : Result -> Shared -> Prop} {s : Shared} {elt target iter : Expr} {ifs : List Expr} {scope : Scope} {pos : Pos} {it acc : Value} {env : Env} (I : Nat -> Shared -> Prop)
 (turn : ∀ n s, I n s -> wpAny (model prog w) A (pyNext it) (fun r s₁ => match r with
  | none => R (.ok .next) s₁
  | some v => wpAny (model prog w) A (letOwnedTupleGo target it v) (fun _ s₁' => wpAny (model prog w) A (assign target env v) (fun _ s₂ =>
   wpAny (model prog w) A (testsOf ifs env true) (fun ok s₃ =>
    if ok = true then wpAny (model prog w) A (eval elt env) (fun x s₄ =>
     wpAny (model prog w) A (call (.builtin "list.append") [acc, x]) (fun _ s₅ => ∃ m, m < n ∧ I m s₅) (fun _ _ => False) s₄) (fun _ _ => False) s₃
    else ∃ m, m < n ∧ I m s₃) (fun _ _ => False) s₂) (fun _ _ => False) s₁') (fun _ _ => False) s₁) (fun _ _ => False) s)
 (n : Nat) (h : I n s) : codeAny (model prog w) A (.compLoop (.ListComp elt [⟨target, iter, ifs, 0⟩] scope pos) 0 it acc env) R s := by
 refine codeAny_loop rfl I (fun n s hI => ?_) n h
 show wpAny _ A ((compTurn (.ListComp elt [⟨target, iter, ifs, 0⟩] scope pos) 0 it acc env).onRaise (fun x => do noteFrame x env; theTreesLotGoes x)) _ _ s
 refine wpAny_noted ?_
 rw [compTurn_list]
 refine wpAny_bind (wpAny_standAt (wpAny_bind (wpAny_mono (turn n s hI) (fun r s₁ h₁ => ?_) fun _ _ h' => h'.elim)))
 induction r with
 | none => exact wpAny_pure h₁
 | some v =>
  refine wpAny_bind (wpAny_mono h₁ (fun _ s₁' h₁' => ?_) fun _ _ h' => h'.elim)
  refine wpAny_bind (wpAny_mono h₁' (fun _ s₂ h₂ => wpAny_bind (wpAny_mono h₂ (fun ok s₃ h₃ => ?_) fun _ _ h' => h'.elim)) fun _ _ h' => h'.elim)
  induction ok with
  | false => exact wpAny_pure ⟨rfl, h₃⟩
  | true =>
   exact wpAny_bind (wpAny_bind (wpAny_mono h₃ (fun x s₄ h₄ => wpAny_bind (wpAny_mono h₄ (fun _ s₅ h₅ => wpAny_pure (wpAny_pure ⟨rfl, h₅⟩)) fun _ _ h' => h'.elim)) fun _ _ h' => h'.elim))
theorem testsOf_false (env : Env) : ∀ ifs : List Expr, testsOf ifs env false = pure false
 | [] => rfl
 | c :: r => by
  show (forIn (c :: r) false _ : Sem Bool) = _
  rw [List.forIn_cons]
  simp only [Bool.false_eq_true, if_false, pure_bind]
  exact testsOf_false env r
section
variable {T : Top} {K : Kx} {C : Cfg} {fe : List Env} {own av fs X : List Addr} {wr : List Str} {env : Env} {A : Around} {n : Nat} {ρ ρ' : Vars} {g g' : G} {σ σ' : Store} {s s' : Shared} {Er : Value -> Shared -> Prop}
theorem ifsB {C : Cfg} {e : E} {r : List E} {ρ : Vars} {σ : Store} : evalIfs C (e :: r) ρ σ = ((evalE C e ρ σ).bind toB).bind fun q σ => cond q (evalIfs C r ρ σ) (.ok false σ) := by
 rw [eF_2]
 cases evalE C e ρ σ with
 | ok v σ' =>
  dsimp only [Res.bind, toB]
  cases truth σ' v with
  | none => rfl
  | some q => cases q <;> rfl
 | bad => rfl
theorem tests_sim : ∀ {ifs : List E}, SAll ifs -> ∀ (xs : List Expr) (g : G) (σ : Store) (s : Shared), IsEs ifs K xs -> Cx T K C fe env A n -> Inv T fe own K.wr env K.vars ρ g σ s.heap -> 
 Sim T (frsOf fe) A g s (testsOf xs env true) IsB (evalIfs C ifs ρ σ) := by
 intro ifs
 induction ifs with
 | nil =>
  intro _ xs g σ s hc cx I
  cases hc
  (first | rw [eF_1] | rw [eF_2])
  exact Sim.pure I.st rfl
 | cons e r ih =>
  intro h xs g σ s hc cx I
  induction hc with
  | @mk x l c1 c2 c3 =>
   rw [ifsB]
   intro hr
   show wpAny _ _ (forIn (x :: l) true _ : Sem Bool) _ _ _
   rw [List.forIn_cons]
   simp only [if_true]
   have t := h.1.2 _ c1 cx I
   refine wpAny_bind (wpAny_bind (wpAny_mono (t (bind_ne hr)) (fun b s₁ hz => wpAny_pure ?_) fun _ _ h => h))
   obtain ⟨b', σ₁, g₁, e₁, st₁, r₁⟩ := hz
   obtain rfl : b = b' := r₁
   rw [e₁] at hr ⊢
   induction b with
   | false =>
    show wpAny _ _ (testsOf l env false) _ _ _
    rw [testsOf_false]
    exact wpAny_pure ⟨false, σ₁, g₁, rfl, st₁, rfl⟩
   | true =>
    exact wpAny_mono (ih h.2 l g₁ σ₁ s₁ c3 cx (I.step st₁) hr) (fun _ _ h => h.after st₁) fun _ _ h => h
theorem made_own {fz : Bool} {D : Addr} {xs : Array Value} {m : Nat} {vs : List V} {h : Heap} (st : St T g σ h) (hD : Apart g h D) (ho : h.get? D = some { cls := .type "list", dict := none, data := .seq xs m, slots := #[] }) (hr : RepVs T g vs xs.toList)
 (hb : mkList fz vs σ ≠ .bad) : ∃ v σ' g', mkList fz vs σ = .ok v σ' ∧ St T g' σ' h ∧ G.le g g' ∧ RepV T g' v (.ref D) ∧ (∀ a, a ∈ g'.mu -> a ∈ g.mu ∨ a = D) ∧ (∀ a o, g'.fz a = some o -> g.fz a = some o ∨ a = D) := by
 unfold mkList at hb ⊢
 by_cases hl : vs.length <= line
 ·rw [if_pos hl] at hb ⊢
  induction fz with
  | true =>
   induction hd : allD vs with
   | none => rw [hd] at hb; exact absurd rfl hb
   | some ds =>
    have le : G.le g (g.put D { cls := .type "list", dict := none, data := .seq xs m, slots := #[] }) := .put hD.1
    refine ⟨_, σ, g.put D _, rfl, ⟨fun b x e => ?_, st.len, st.nd, fun b hb => ?_, fun k b x e1 e2 => ?_, fun b x e => le.fz b x (st.base b x e), st.tb.keep le fun _ e => e⟩, le, ⟨D, _, xs, m, rfl, G.put_self, rfl, rfl, RepDs.mono le.fz _ _ (RepDs.ofV hr hd), by rw [(RepDs.ofV hr hd).length, <- hr.length]; exact hl⟩, fun _ h => .inl h, fun a o e => ?_⟩
    ·by_cases q : b = D
     ·subst q
      have e' : (if b = b then some _ else g.fz b) = some x := e
      obtain rfl := Option.some.inj ((Eq.symm (if_pos rfl)).trans e'); exact ho
     ·have e' : (if b = D then _ else g.fz b) = some x := e
      rw [if_neg q] at e'
      exact st.fz b x e'
    ·show (if b = D then _ else g.fz b) = none
     rw [if_neg (fun (q : b = D) => hD.2.1 (q ▸ hb))]
     exact st.ap b hb
    ·obtain ⟨y, h1, h2⟩ := st.ob k b x e1 e2
     exact ⟨y, h1, RepO.mono le _ _ h2⟩
    ·by_cases q : a = D
     ·exact .inr q
     ·have e' : (if a = D then _ else g.fz a) = some o := e
      rw [if_neg q] at e'
      exact .inl e'
  | false =>
   refine ⟨_, _, g.add D, rfl, ⟨st.fz, by simp [G.add, st.len], ?_, fun b hb => ?_, fun k b y e1 e2 => ?_, st.base, st.tb.keep .add fun _ e => e⟩, .add, ⟨D, made_at st, rfl⟩, fun a ha => ?_, fun a o e => .inl e⟩
   ·show (g.mu ++ [D]).Nodup
    rw [List.nodup_append]
    exact ⟨st.nd, by simp, fun x hx y hy q => hD.2.1 (by simp only [List.mem_singleton] at hy; rw [<- hy, <- q]; exact hx)⟩
   ·rcases List.mem_append.mp (show b ∈ g.mu ++ [D] from hb) with q | q
    ·exact st.ap b q
    ·rw [List.mem_singleton.mp q]; exact hD.1
   ·have e1' : (g.mu ++ [D])[k + 1]? = some b := e1
    have hln := st.len
    by_cases hkl : k < σ.length
    ·rw [List.getElem?_append_left (by omega)] at e1'
     rw [List.getElem?_append_left hkl] at e2
     obtain ⟨z, h1, h2⟩ := st.ob k b y e1' e2
     exact ⟨z, h1, RepO.mono .add _ _ h2⟩
    ·have hk' : k = σ.length := by
      have := (List.getElem?_eq_some_iff.mp e1').1
      simp at this; omega
     subst hk'
     rw [<- hln, List.getElem?_append_right (Nat.le_refl _)] at e1'
     rw [List.getElem?_append_right (Nat.le_refl _)] at e2
     simp only [Nat.sub_self, List.getElem?_cons_zero, Option.some.injEq] at e1' e2
     subst e1' e2
     exact ⟨_, ho, xs, m, rfl, RepVs.mono .add _ _ hr, hl⟩
   ·rcases List.mem_append.mp (show a ∈ g.mu ++ [D] from ha) with q | q
    ·exact .inl q
    ·exact .inr (List.mem_singleton.mp q)
 ·rw [if_neg hl] at hb; exact absurd rfl hb
end
end Mine.Internal
namespace Mine.Internal
open PySem PySem.Calls
section
variable {T : Top} {K : Kx} {C : Cfg} {fe : List Env} {own av fs X : List Addr} {wr : List Str} {env : Env} {A : Around} {n : Nat} {ρ ρ' : Vars} {g g' : G} {σ σ' : Store} {s s' : Shared} {Er : Value -> Shared -> Prop}
structure CompAt (T : Top) (fe : List Env) (K' : Kx) (cenv : Env) (Cc D : Addr) (its : List Addr) (a : Addr) (b : Bool) (ρc : Vars) (f : V -> Store -> Res (Option V)) (whole : Res (List V)) (g₀ : G) (s₀ : Shared)
 (n : Nat) (vs : Src) (ys : List V) (xs : Array Value) (g : G) (σ : Store) (s : Shared) : Prop where
 eq : whole = (compS f n vs σ).bind fun zs σ' => .ok (ys ++ zs) σ'
 step : Step T g₀.mu (frsOf fe) g₀ s₀ g σ s
 inv : Inv T fe [Cc] K'.wr cenv K'.vars ρc g σ s.heap
 it : ItOk T (D :: avOf fe [Cc] cenv) g s.heap b its a vs
 list : s.heap.PlainList D xs
 rep : RepVs T g ys xs.toList
 ap : Apart g s.heap D
structure CompFin (T : Top) (fe : List Env) (K' : Kx) (cenv : Env) (Cc D : Addr) (its : List Addr) (ρc : Vars) (g₀ : G) (s₀ : Shared) (ys : List V) (xs : Array Value) (g : G) (σ : Store) (s : Shared) (h' : Heap) : Prop where
 step : Step T g₀.mu (frsOf fe) g₀ s₀ g σ s
 inv : Inv T fe [Cc] K'.wr cenv K'.vars ρc g σ s.heap
 lone : ∀ c, c ∈ its -> (g.fz c = none ∧ c ∉ g.mu) ∧ c ∉ D :: avOf fe [Cc] cenv
 list : s.heap.PlainList D xs
 rep : RepVs T g ys xs.toList
 ap : Apart g s.heap D
 hk : ∀ c o, c ∉ its -> s.heap.get? c = some o -> h'.get? c = some o
theorem comp_end {K' : Kx} {cenv : Env} {Cc D : Addr} {its : List Addr} {fz : Bool} {ρc : Vars} {g₀ g : G} {s₀ s : Shared} {σ : Store} {ys : List V} {xs : Array Value} {h' : Heap} {Q : Value -> Shared -> Prop} (F : CompFin T fe K' cenv Cc D its ρc g₀ s₀ ys xs g σ s h')
 (hw : mkList fz ys σ ≠ .bad) (hDn : s₀.heap.get? D = none) (hCn : s₀.heap.get? Cc = none) (hin : ∀ c, c ∈ its -> s₀.heap.get? c = none) (hDa : D ∉ avOf fe [Cc] cenv) (hloc : cenv.locals = Cc)
 (hQ : ∀ s', (OkR T (frsOf fe) g₀ s₀ (RepV T) (mkList fz ys σ) (.ref D) s') -> Q (.ref D) s') : compPost (model T.prog T.w) A Er none Q (.ref D) Cc (.ok .next) { s with heap := h' } := by
 have hCa : Cc ∈ avOf fe [Cc] cenv := List.mem_append.mpr (.inr (List.mem_append.mpr (.inl (List.mem_singleton.mpr rfl))))
 have hDC : D ≠ Cc := fun q => hDa (q ▸ hCa)
 obtain ⟨m, hm⟩ := F.inv.blk.ns
 rw [hloc] at hm
 have nC : ∀ c, c ∈ its -> c ≠ Cc := fun c hc q => (F.lone c hc).2 (List.mem_cons_of_mem _ (q ▸ hCa))
 have nD : ∀ c, c ∈ its -> c ≠ D := fun c hc q => (F.lone c hc).2 (by rw [q]; exact List.mem_cons_self ..)
 have hCi : Cc ∉ its := fun q => nC Cc q rfl
 have hDi : D ∉ its := fun q => nD D q rfl
 refine ⟨m, ?_, fun h'' hs'' => ?_⟩
 ·obtain ⟨o, es, ep, ho, r⟩ := hm
  exact ⟨o, es, ep, F.hk Cc o hCi ho, r⟩
 ·-- all but the loop's own things is as it was
  have kk : ∀ c o, c ∉ Cc :: its -> s.heap.get? c = some o -> h''.get? c = some o := fun c o hc e =>
   (hs''.2 c fun q => hc (by rw [q]; exact List.mem_cons_self ..)).trans (F.hk c o (fun q => hc (List.mem_cons_of_mem _ q)) e)
  have ll : ∀ c, c ∈ Cc :: its -> g.fz c = none ∧ c ∉ g.mu := fun c hc => by
   rcases List.mem_cons.mp hc with rfl | hc
   ·have := F.inv.oap c (List.mem_singleton.mpr rfl); exact ⟨this.1, this.2.1⟩
   ·exact (F.lone c hc).1
  have nn : ∀ c, c ∈ Cc :: its -> s₀.heap.get? c = none := fun c hc => by
   rcases List.mem_cons.mp hc with rfl | hc
   ·exact hCn
   ·exact hin c hc
  have stp := F.step.rest ll nn kk
  obtain ⟨mm, hDo⟩ := F.list
  have hDo' : h''.get? D = some _ := kk D _ (fun q => by rcases List.mem_cons.mp q with q | q; exact hDC q; exact hDi q) hDo
  obtain ⟨v, σ', g', e1, e2, e3, e4, e5, e6⟩ := made_own (fz := fz) stp.st ⟨F.ap.1, F.ap.2.1, _, hDo'⟩ hDo' F.rep hw
  refine hQ _ ⟨v, σ', g', e1, ⟨stp.le.trans e3, e2, stp.kept, ⟨fun c hc => ?_, fun c o hc => ?_⟩, stp.gens, stp.os⟩, e4⟩
  ·rcases e5 c hc with q | q
   ·exact stp.new.mu c q
   ·exact .inr (q ▸ hDn)
  ·rcases e6 c o hc with q | q
   ·exact stp.new.fz c o q
   ·exact .inr (.inl (q ▸ hDn))
theorem comp_turns {elt : E} {ifs : List E} {ts : List Nat} (he : SE elt) (hf : SAll ifs) {K' : Kx} {cenv : Env} {Cc D a : Addr} {its : List Addr} {b fz : Bool} {x t i : Expr} {cs : List Expr} {sc : Scope} {pos : Pos} {g₀ : G} {s₀ : Shared}
 {Q : Value -> Shared -> Prop} {whole : Res (List V)} (cx : Cx T K' C fe cenv A n)
 (h4 : IsT K' ts t) (h5 : IsE elt K' x) (h6 : IsEs ifs K' cs) (ht : b = true -> ∃ es c p, t = .Tuple es c p)
 (hw : compEnd fz whole ≠ .bad) (hDn : s₀.heap.get? D = none) (hCn : s₀.heap.get? Cc = none) (hin : ∀ c, c ∈ its -> s₀.heap.get? c = none) (hDa : D ∉ avOf fe [Cc] cenv)
 {use : Option (Value -> Sem Unit)} (hfin : ∀ ys xs g σ s h', whole = .ok ys σ -> CompFin T fe K' cenv Cc D its (clearTs ρ ts) g₀ s₀ ys xs g σ s h' -> compPost (model T.prog T.w) A Er use Q (.ref D) Cc (.ok .next) { s with heap := h' })
 {s : Shared} (h : ∃ nf vs ys xs g σ, CompAt T fe K' cenv Cc D its a b (clearTs ρ ts) (compStep ρ ts (fun ρ σ => evalIfs C ifs ρ σ) (fun ρ σ => evalE C elt ρ σ)) whole g₀ s₀ nf vs ys xs g σ s) (hloc : cenv.locals = Cc) :
 codeAny (model T.prog T.w) A (.compLoop (.ListComp x [⟨t, i, cs, 0⟩] sc pos) 0 (.ref a) (.ref D) cenv) (compPost (model T.prog T.w) A Er use Q (.ref D) Cc) s := by
 have hCa : Cc ∈ avOf fe [Cc] cenv := List.mem_append.mpr (.inr (List.mem_append.mpr (.inl (List.mem_singleton.mpr rfl))))
 have hDC : D ≠ Cc := fun q => hDa (q ▸ hCa)
 have hfa : ∀ c, c ∈ frsOf fe -> c ∈ avOf fe [Cc] cenv := fun c h => List.mem_append.mpr (.inl h)
 have hDf : D ∉ frsOf fe := fun q => hDa (hfa D q)
 have hwb : whole ≠ .bad := fun q => hw (by rw [q]; rfl)
 obtain ⟨n₁, vs₁, ys₁, xs₁, g₁, σ₁, h⟩ := h
 refine compLoop_any (I := fun k s => ∃ vs ys xs g σ, CompAt T fe K' cenv Cc D its a b (clearTs ρ ts) (compStep ρ ts (fun ρ σ => evalIfs C ifs ρ σ) (fun ρ σ => evalE C elt ρ σ)) whole g₀ s₀ k vs ys xs g σ s) ?_ n₁ ⟨vs₁, ys₁, xs₁, g₁, σ₁, h⟩
 rintro k s ⟨vs, ys, xs, g, σ, P⟩
 have itn : ∀ c, c ∈ its -> c ∉ D :: avOf fe [Cc] cenv := fun c hc => (P.it.lone c hc).2
 have itl : ∀ c, c ∈ its -> g.fz c = none ∧ c ∉ g.mu := fun c hc => ⟨(P.it.lone c hc).1.1, (P.it.lone c hc).1.2.1⟩
 induction k with
 | zero => exact absurd P.eq hwb
 | succ k =>
 generalize hF : compStep ρ ts (fun ρ σ => evalIfs C ifs ρ σ) (fun ρ σ => evalE C elt ρ σ) = F at P
 have eqk : whole = ((compOne (compS F k) F σ (vs.next σ)).bind fun zs σ' => .ok (ys ++ zs) σ') := P.eq
 refine draw (fs := frsOf fe) (target := t) P.inv.st P.it ⟨cx.ha.handled, ht, fun q => hwb (by rw [eqk, q]; rfl), fun e h' hk => ?_, fun v rest e xv s₁ lt => ?_⟩
 ·-- the end
  have eqw : whole = .ok ys σ := by rw [eqk, e]; show Res.ok (ys ++ []) σ = _; rw [List.append_nil]
  exact hfin ys xs g σ s h' eqw ⟨P.step, P.inv, fun c hc => ⟨itl c hc, itn c hc⟩, P.list, P.rep, P.ap, hk⟩
 ·-- one turn
  have eqs : whole = (match F v σ with
   | .ok x σ => ((compS F k rest σ).bind fun xs σ => .ok (ys ++ (match x with | some y => y :: xs | none => xs)) σ)
   | .bad => .bad) := by
   rw [eqk, e]
   unfold compOne
   dsimp only
   induction F v σ with
   | ok y σ' => dsimp only; cases compS F k rest σ' <;> rfl
   | bad => rfl
  refine lt _ _ fun g₂ s₂ st₂ it₂ r₂ => ?_
  have farX : ∀ c, c ∈ g.mu ++ its -> c ∈ g.mu ∨ c ∉ avOf fe [Cc] cenv := fun c hc => (List.mem_append.mp hc).imp id fun h q => itn c h (List.mem_cons_of_mem _ q)
  have I₂ := Inv.far st₂ farX P.inv
  have D₂ : Apart g₂ s₂.heap D := P.ap.step st₂
  have nDX : D ∉ g.mu ++ its := fun q => (List.mem_append.mp q).elim P.ap.2.1 fun h => itn D h (List.mem_cons_self ..)
  have L₂ : s₂.heap.PlainList D xs := by obtain ⟨m, ho⟩ := P.list; exact ⟨m, st₂.kept.same D _ ho nDX hDf⟩
  have S₂ : Step T g₀.mu (frsOf fe) g₀ s₀ g₂ σ s₂ := P.step.transW st₂ fun c hc => (List.mem_append.mp hc).elim (fun h => P.step.new.mu c h) fun h => .inr (hin c h)
  have R₂ : RepVs T g₂ ys xs.toList := RepVs.mono st₂.le _ _ P.rep
  induction eb : bindTs (clearTs ρ ts) ts v with
  | none => exact absurd (by rw [eqs, <- hF]; simp only [compStep, eb]) hwb
  | some ρ₃ =>
  refine assign_ts I₂ cx.names cx.ha.handled h4 r₂ eb fun s₃ st₃ I₃ => ?_
  have inX : ∀ c, c ∈ g₂.mu ++ [Cc] -> c ∈ g₂.mu ∨ c ∈ D :: avOf fe [Cc] cenv := fun c hc => (List.mem_append.mp hc).imp id fun h => by rw [List.mem_singleton.mp h]; exact List.mem_cons_of_mem _ hCa
  have fin' : ∀ c, c ∈ frsOf fe -> c ∈ D :: avOf fe [Cc] cenv := fun c h => List.mem_cons_of_mem _ (hfa c h)
  have it₃ := it₂.step st₃ inX fin'
  have D₃ : Apart g₂ s₃.heap D := D₂.step st₃
  have L₃ : s₃.heap.PlainList D xs := by obtain ⟨m, ho⟩ := L₂; exact ⟨m, st₃.kept.same D _ ho (fun q => (List.mem_append.mp q).elim D₂.2.1 fun h => hDC (List.mem_singleton.mp h)) hDf⟩
  have S₃ : Step T g₀.mu (frsOf fe) g₀ s₀ g₂ σ s₃ := S₂.transW st₃ fun c hc => (List.mem_append.mp hc).elim (fun h => S₂.new.mu c h) fun h => .inr (by rw [List.mem_singleton.mp h]; exact hCn)
  have hti : evalIfs C ifs ρ₃ σ ≠ .bad := fun q => hwb (by rw [eqs, <- hF]; simp only [compStep, eb, q, Res.bind])
  refine wpAny_mono (tests_sim hf cs g₂ σ s₃ h6 cx I₃ hti) (fun ok s₄ hz_ => ?_) fun _ _ h => h
  obtain ⟨b', σ₄, g₄, e₄, st₄, r₄⟩ := hz_
  have r₄ : ok = b' := r₄
  subst r₄
  have inM : ∀ (g : G) c, c ∈ g.mu -> c ∈ g.mu ∨ c ∈ D :: avOf fe [Cc] cenv := fun g c h => .inl h
  have I₄ := I₃.step st₄
  have it₄ := it₃.step st₄ (inM g₂) fin'
  have D₄ : Apart g₄ s₄.heap D := D₃.step st₄
  have L₄ : s₄.heap.PlainList D xs := by obtain ⟨m, ho⟩ := L₃; exact ⟨m, st₄.kept.same D _ ho D₃.2.1 hDf⟩
  have S₄ := S₃.transW st₄ fun c hc => S₃.new.mu c hc
  have R₄ : RepVs T g₄ ys xs.toList := RepVs.mono st₄.le _ _ R₂
  have less : ∀ (i : Nat) (v : V), (clearTs ρ ts)[i]? = some (some v) -> ρ₃[i]? = some (some v) := fun i u hu => bindTs_get eb (clearTs_get hu).1 hu
  induction ok with
  | false =>
   rw [if_neg Bool.false_ne_true]
   have eqf : whole = (compS F k rest σ₄).bind fun zs σ' => .ok (ys ++ zs) σ' := by
    rw [eqs, show F v σ = .ok none σ₄ from by rw [<- hF]; simp only [compStep, eb, e₄, Res.bind]]
   refine ⟨k, Nat.lt_succ_self k, rest, ys, xs, g₄, σ₄, eqf, S₄, I₄.less less, it₄, L₄, R₄, D₄⟩
  | true =>
   rw [if_pos rfl]
   have hel : evalE C elt ρ₃ σ₄ ≠ .bad := fun q => hwb (by rw [eqs, <- hF]; simp only [compStep, eb, e₄, Res.bind, q])
   refine wpAny_mono (he _ h5 cx I₄ hel) (fun y s₅ hz_ => ?_) fun _ _ h => h
   obtain ⟨u, σ₅, g₅, e₅, st₅, r₅⟩ := hz_
   have I₅ := I₄.step st₅
   have it₅ := it₄.step st₅ (inM g₄) fin'
   have D₅ : Apart g₅ s₅.heap D := D₄.step st₅
   have L₅ : s₅.heap.PlainList D xs := by obtain ⟨m, ho⟩ := L₄; exact ⟨m, st₅.kept.same D _ ho D₄.2.1 hDf⟩
   have S₅ := S₄.transW st₅ fun c hc => S₄.new.mu c hc
   have R₅ : RepVs T g₅ ys xs.toList := RepVs.mono st₅.le _ _ R₄
   have eqs' : whole = (compS F k rest σ₅).bind fun zs σ' => .ok ((ys ++ [u]) ++ zs) σ' := by
    rw [eqs]
    rw [show F v σ = .ok (some u) σ₅ from by rw [<- hF]; simp only [compStep, eb, e₄, e₅, Res.bind]]
    dsimp only
    cases compS F k rest σ₅ <;> simp [Res.bind]
   have hsz : xs.size <= sizeLine := by
    have hl := R₅.length
    rw [<- line_eq]
    induction eg : compS F k rest σ₅ with
    | ok zs σ' =>
     rw [eg] at eqs'
     rw [eqs'] at hw
     have := mkList_ne hw
     simp at this hl
     omega
    | bad => rw [eg] at eqs'; exact absurd eqs' hwb
   refine wpAny_list_append_plain L₅ (fun h' hp hs => ?_) hsz
   have al : ∃ o, h'.get? D = some o := by obtain ⟨m, ho⟩ := hp; exact ⟨_, ho⟩
   have st₆ : Step T (g₅.mu ++ [D]) (frsOf fe) g₅ s₅ g₅ σ₅ { s₅ with heap := h' } := .sameBut I₅.st D₅ (by exact List.mem_append_right _ (.head _)) hs al
   refine ⟨k, Nat.lt_succ_self k, rest, ys ++ [u], xs.push y, g₅, σ₅, eqs', S₅.transW st₆ fun c hc => (List.mem_append.mp hc).elim (fun h => S₅.new.mu c h) fun h => .inr (by rw [List.mem_singleton.mp h]; exact hDn), ?_, ?_, hp, ?_, D₅.step st₆⟩
   ·exact (Inv.far st₆ (fun c hc => (List.mem_append.mp hc).imp id fun h q => by rw [List.mem_singleton.mp h] at q; exact hDa q) I₅).less less
   ·exact it₅.step st₆ (fun c hc => (List.mem_append.mp hc).imp id fun h => by rw [List.mem_singleton.mp h]; exact List.mem_cons_self ..) fin'
   ·rw [Array.toList_push]; exact RepVs.append R₅ ⟨r₅, trivial⟩
theorem comp_run {fz : Bool} {elt : E} {ts : List Nat} {it : It} {ifs : List E} (hI : SI it) (he : SE elt) (hf : SAll ifs) {x t i : Expr} {cs : List Expr} {sc : Scope} {pos P : Pos} {use : Option (Value -> Sem Unit)} {Q : Value -> Shared -> Prop}
 (h1 : IsI it K i) (h2 : notSet i = true) (h3 : scopeOk K ts sc = true) (h7 : zipOk ts it = true) (h4 : IsT (K.sub ts sc) ts t) (h5 : IsE elt (K.sub ts sc) x) (h6 : IsEs ifs (K.sub ts sc) cs) (cx : Cx T K C fe env A n) (I : Inv T fe own K.wr env K.vars ρ g σ s.heap)
 (hr : ((evalIt C it ρ σ).bind fun vs σ => compEnd fz (compS (compStep ρ ts (fun ρ σ => evalIfs C ifs ρ σ) (fun ρ σ => evalE C elt ρ σ)) (vs.fuel σ) vs σ)) ≠ .bad)
 (hfin : ∀ Cc D its ys xs g' σ' s' h', (((evalIt C it ρ σ).bind fun vs σ => compEnd fz (compS (compStep ρ ts (fun ρ σ => evalIfs C ifs ρ σ) (fun ρ σ => evalE C elt ρ σ)) (vs.fuel σ) vs σ)) = mkList fz ys σ') -> (∀ c, c ∈ its -> s.heap.get? c = none) -> s.heap.get? D = none -> s.heap.get? Cc = none -> D ∉ avOf fe [Cc] (compEnvC sc (clOf env sc.names []) Cc env) ->
  CompFin T fe (K.sub ts sc) (compEnvC sc (clOf env sc.names []) Cc env) Cc D its (clearTs ρ ts) g s ys xs g' σ' s' h' -> compPost (model T.prog T.w) A Er use Q (.ref D) Cc (.ok .next) { s' with heap := h' }) :
 wpAny (model T.prog T.w) A (comprehension (.ListComp x [⟨t, i, cs, 0⟩] sc pos) sc env P (newList []) false (eval i env) use) Q Er s := by
 have sk := scopeOk_ok h3
 have hset : ∀ y, foldedSetIterable i env y = pure y := fun y => by
  unfold foldedSetIterable
  cases i <;> first | rfl | exact ff_ h2
 refine wpAny_comprehension_free (use := use) rfl hset (closureFor_eq sc fun m hm => ?_) sk.kind (fun p hp hl => by rw [sk.uni p hp, hl]) ?_
 ·have hk : env.kindOf m = some .cell ∨ env.kindOf m = some .free := by rw [kindOf_names cx.names]; exact sk.fre m hm
  obtain ⟨c, _, hl, _⟩ := I.blk.cell m hk
  exact ⟨c, hl⟩
 ·refine wpAny_mono (hI i (avOf fe own env) h1 cx I (fun c hc => (I.avAp c hc).2.2) (bind_ne hr)) (fun xv s₁ h₁ => wpAny_mono h₁ (fun itv s₂ hz_ => ?_) fun _ _ h => h.elim) fun _ _ h => h.elim
  obtain ⟨vs, σ₂, g₂, b, its, a, e₂, st₂, hv, it₂, new₂, hb₂⟩ := hz_
  subst hv
  have e3 : ((evalIt C it ρ σ).bind fun vs σ => compEnd fz (compS (compStep ρ ts (fun ρ σ => evalIfs C ifs ρ σ) (fun ρ σ => evalE C elt ρ σ)) (vs.fuel σ) vs σ)) =
   compEnd fz (compS (compStep ρ ts (fun ρ σ => evalIfs C ifs ρ σ) (fun ρ σ => evalE C elt ρ σ)) (vs.fuel σ₂) vs σ₂) := by rw [e₂]; rfl
  rw [e3] at hr hfin
  have I₂ := I.step st₂
  refine wpAny_newList ?_ (by exact Nat.zero_le _)
  refine wpAny_newFunctionEnv sk.noc (by intro y hy; simp at hy) (fun h₁ hns₁ hsb₁ => ?_) sk.kind
  dsimp only at hns₁ hsb₁ ⊢
  generalize hH2 : s₂.heap.push { cls := .type "list", dict := none, data := .seq ([] : List Value).toArray } = H2 at hns₁ hsb₁ ⊢
  have hC : H2.objs.size = s₂.heap.objs.size + 1 := by rw [<- hH2, Heap.size_push]
  have hDC : s₂.heap.objs.size ≠ H2.objs.size := by rw [hC]; exact Nat.ne_of_lt (Nat.lt_succ_self _)
  have hC0 : s₂.heap.get? H2.objs.size = none := Heap.get?_none_of_le (by rw [hC]; exact Nat.le_succ _)
  have hD0 : s₂.heap.get? s₂.heap.objs.size = none := atSize _
  have hD1 : h₁.get? s₂.heap.objs.size = some { cls := .type "list", dict := none, data := .seq #[], slots := #[] } := (hsb₁.2 _ hDC).trans (Heap.get?_push_of_some _ (hH2 ▸ Heap.get?_push_size _ rfl))
  have old : ∀ c o, s₂.heap.get? c = some o -> h₁.get? c = some o := fun c o e => (hsb₁.2 c fun q => by rw [q, hC0] at e; exact none_ne e).trans (Heap.get?_push_of_some _ (hH2 ▸ Heap.get?_push_of_some _ e))
  have Ic := comp_inv (h' := h₁) sk I₂ cx.names old hC0 (by exact hns₁)
  have st₃ : Step T g₂.mu (frsOf fe) g₂ s₂ g₂ σ₂ { s₂ with heap := h₁, toks := s₂.toks + ([] : List (Str × Value)).length } := .grow I₂.st old
  have DA : Apart g₂ h₁ s₂.heap.objs.size := ⟨I₂.st.fz_none hD0, I₂.st.mu_none hD0, _, hD1⟩
  have cellsub : ∀ c, c ∈ cellsAv (compEnvC sc (clOf env sc.names []) H2.objs.size env) -> s₂.heap.get? c ≠ none := fun c hc => by
   obtain ⟨nm, hk, hl⟩ := of_cellsAv hc
   have hm := mem_of_lookup (show (clOf env sc.names []).lookup nm = some c from hl)
   rcases clOf_mem hm with h | ⟨h', h⟩
   ·simp at h
   ·have hk' : env.kindOf nm = some .cell ∨ env.kindOf nm = some .free := by rw [kindOf_names cx.names]; exact sk.fre nm h'
    obtain ⟨c', v, q1, ⟨o, q2, _⟩, _⟩ := I₂.blk.cell nm hk'
    rw [q1] at h
    have h : c = c' := h
    rw [h, q2]; simp
  have avc : ∀ c, c ∈ avOf fe [H2.objs.size] (compEnvC sc (clOf env sc.names []) H2.objs.size env) -> s₂.heap.get? c ≠ none ∨ c = H2.objs.size := fun c hc => by
   rcases List.mem_append.mp hc with h | h
   ·obtain ⟨o, e⟩ := (I₂.fr.mem h).2.2
    exact .inl (by rw [e]; simp)
   ·rcases List.mem_append.mp h with h | h
    ·exact .inr (List.mem_singleton.mp h)
    ·exact .inl (cellsub c h)
  have hDa : s₂.heap.objs.size ∉ avOf fe [H2.objs.size] (compEnvC sc (clOf env sc.names []) H2.objs.size env) := fun q => (avc _ q).elim (fun h => h hD0) hDC
  have cx' : Cx T (K.sub ts sc) C fe (compEnvC sc (clOf env sc.names []) H2.objs.size env) A n := ⟨cx.rd, relabel_names I.blk.kind cx.names, cx.ha, cx.cf, fun h => ff_ h⟩
  have av2 : ∀ c, c ∈ avOf fe own env -> s.heap.get? c ≠ none := fun c hc => by obtain ⟨o, e⟩ := (I.avAp c hc).2.2; rw [e]; simp
  have itav : ∀ c, c ∈ its -> c ∉ s₂.heap.objs.size :: avOf fe [H2.objs.size] (compEnvC sc (clOf env sc.names []) H2.objs.size env) := fun c hc q => by
   have hal := (it₂.lone c hc).1.2.2
   obtain ⟨o, hal⟩ := hal
   rcases List.mem_cons.mp q with q | q
   ·rw [q, hD0] at hal; exact none_ne hal
   ·rcases List.mem_append.mp q with h | h
    ·exact (it₂.lone c hc).2 (List.mem_append.mpr (.inl h))
    ·rcases List.mem_append.mp h with h | h
     ·rw [List.mem_singleton.mp h, hC0] at hal; exact none_ne hal
     ·-- a cell of the block around
      obtain ⟨nm, hk, hl⟩ := of_cellsAv h
      have hm := mem_of_lookup (show (clOf env sc.names []).lookup nm = some c from hl)
      rcases clOf_mem hm with h' | ⟨h', h''⟩
      ·simp at h'
      ·have hk' : env.kindOf nm = some .cell ∨ env.kindOf nm = some .free := by rw [kindOf_names cx.names]; exact sk.fre nm h'
       obtain ⟨c', v, q1, _, _⟩ := I.blk.cell nm hk'
       rw [q1] at h''
       have h'' : c = c' := h''
       exact (it₂.lone c hc).2 (List.mem_append.mpr (.inr (List.mem_append.mpr (.inr (mem_cellsAv hk' (h'' ▸ q1))))))
  have it₂' := it₂.step st₃ (fun c h => .inl h) fun c h => List.mem_append.mpr (.inl h)
  have loop : codeAny (model T.prog T.w) A (.compLoop (.ListComp x [⟨t, i, cs, 0⟩] sc pos) 0 (.ref a) (.ref s₂.heap.objs.size) (compEnvC sc (clOf env sc.names []) H2.objs.size env))
   (compPost (model T.prog T.w) A Er use Q (.ref s₂.heap.objs.size) H2.objs.size) { s₂ with heap := h₁, toks := s₂.toks + ([] : List (Str × Value)).length } := by
   refine comp_turns (b := b) (its := its) (fz := fz) (Cc := H2.objs.size) (g₀ := g) (s₀ := s) he hf cx' h4 h5 h6 (zip_tup h4 h7 hb₂) hr (st₂.kept.dead hD0) (st₂.kept.dead hC0) new₂ hDa (use := use) (fun ys xs g' σ' s' h' e F => hfin H2.objs.size s₂.heap.objs.size its ys xs g' σ' s' h' (by rw [e]; rfl) new₂ (st₂.kept.dead hD0) (st₂.kept.dead hC0) hDa F) ⟨vs.fuel σ₂, vs, [], #[], g₂, σ₂, ?_, st₂.trans st₃, Ic, it₂'.avoid itav, ⟨_, hD1⟩, trivial, DA⟩ rfl
   ·induction eg : compS (compStep ρ ts (fun ρ σ => evalIfs C ifs ρ σ) (fun ρ σ => evalE C elt ρ σ)) (vs.fuel σ₂) vs σ₂ with
    | ok _ _ => rfl
    | bad => rfl
  exact codeAny_compStart_list loop (pyIter_self it₂' loop)
theorem se_comp (fz : Bool) {elt : E} (ts : List Nat) {it : It} {ifs : List E} (hI : SI it) (he : SE elt) (hf : SAll ifs) : SE (.comp fz elt ts it ifs) := by
 intro T K C fe own env A n ρ g σ s ex hc cx I
 induction hc with
 | @mk x t i cs sc pos h1 h2 h3 h4 h5 h6 =>
  obtain ⟨h3, h7⟩ := h3
  intro hr
  rw [eA_20] at hr ⊢
  rw [eval_ListComp]
  exact comp_run hI he hf h1 h2 h3 h7 h4 h5 h6 cx I hr fun Cc D its ys xs g' σ' s' h' e hin hDn hCn hDa F => comp_end (fz := fz) F (by rw [e] at hr; exact hr) hDn hCn hin hDa rfl fun s'' h => by rw [e]; exact h
end
end Mine.Internal
namespace Mine.Internal
open PySem PySem.Calls
theorem se_dct (pp : Bool) : SE (.dct pp) := by
 intro T K C fe own env A n ρ g σ s ex hc cx I
 cases hc
 rw [eA_21]
 refine Sim.of (wpAny_Dict_empty ?_)
 have st := I.st
 induction pp with
 | true => exact ⟨g.add s.heap.objs.size, .add st (fun b x e => Heap.get?_push_of_some _ e) (Heap.get?_push_size _ rfl) (atSize _) ⟨#[], _, [], ⟨rfl, rfl, rfl⟩, rfl, rfl, List.nodup_nil, trivial, Nat.zero_le _⟩, _, made_at st, rfl⟩
 | false =>
  obtain ⟨o, es, ep, h1, h2, h3, h4, h5, h6⟩ := Heap.DictOf.new (knd := strKind T.prog T.w) s.heap
  exact ⟨g.add s.heap.objs.size, .add st (fun b x e => Heap.get?_push_of_some _ e) h1 (atSize _) ⟨es, ep, [], h2, h3, h4, h5, h6, trivial, Nat.zero_le _⟩, _, made_at st, rfl⟩
noncomputable def maxTo (b : Int) (is : List Int) : Int := is.foldl (fun a b => if a < b then b else a) b
theorem maxArgs (a v : Value) : argsOk "max" ⟨[a], [(Str.ofString "default", v)]⟩ := by unfold argsOk; kernel_rfl
section
variable {prog : Program} {w : World} {A : Around} {R : Result -> Shared -> Prop} {l I S : Addr} {xs : Array Value} {is : List Int} {d : Value}
structure MaxAt (l I S : Addr) (xs : Array Value) (i : Nat) (bs : Array Value) (h : Heap) : Prop where
 it : h.IsListIter I l i
 ls : h.IsList l xs
 bo : ∃ c, h.get? S = some { cls := .type "list", dict := none, data := .seq bs c, slots := #[] }
theorem MaxAt.turned {i : Nat} {bs : Array Value} {h h' : Heap} (x : MaxAt l I S xs i bs h) (hlI : l ≠ I) (hSI : S ≠ I) (it : h'.IsListIter I l (i + 1)) (hs : Heap.SameBut I h h') : MaxAt l I S xs (i + 1) bs h' := by
 obtain ⟨o, ho, r⟩ := x.ls
 obtain ⟨c, hc⟩ := x.bo
 exact ⟨it, ⟨o, (hs.2 l hlI).trans ho, r⟩, c, (hs.2 S hSI).trans hc⟩
theorem MaxAt.put {i : Nat} {bs bs' : Array Value} {h : Heap} (x : MaxAt l I S xs i bs h) (hlS : l ≠ S) (hSI : S ≠ I) : MaxAt l I S xs i bs' (h.update S (Obj.mapSeq fun _ => bs')) := by
 obtain ⟨o, ho, r⟩ := x.ls
 obtain ⟨c, hc⟩ := x.bo
 refine ⟨x.it.at fun o e => (Heap.get?_update_other _ _ hSI).trans e, ⟨o, (Heap.get?_update_other _ _ (Ne.symm hlS)).trans ho, r⟩, _, Heap.get?_update_self _ hc rfl⟩
theorem max_rest (hh : A.handled = none) (hlI : l ≠ I) (hSI : S ≠ I) (hlS : l ≠ S) : ∀ (k i : Nat) (s : Shared) (b : Int) (t : Tok), xs.size - i = k -> MaxAt l I S xs i #[.int b t, .int b t] s.heap -> (∀ (j : Nat) (x : Value), xs[j]? = some x -> ∃ t, x = Value.int (is.getD j 0) t) -> xs.size = is.length ->
 (∀ h' tk t', (∀ a o, a ≠ I -> a ≠ S -> s.heap.get? a = some o -> h'.get? a = some o) -> R (.ok (.ret (.int (maxTo b (is.drop i)) t'))) { s with heap := h', toks := tk }) ->
 codeAny (model prog w) A (.builtin "max.loop" ⟨[.ref I, .none, .ref S], [(Str.ofString "default", d)]⟩) R s := by
 have hname : (toString "max" ++ toString ".loop" : String) = "max.loop" := by decide
 intro k
 induction k with
 | zero =>
  intro i s b t hk x hx hl hR
  obtain ⟨c, hc⟩ := x.bo
  refine codeAny_builtin F.entry_max_loop ?_
  rw [Around.under_plainId F.plain_max_loop _]
  show wpAny _ A.in1 (seqItems? (.ref S) >>= _) _ _ s
  refine wpAny_bind (wpAny_seqItems hc rfl ?_)
  show wpAny _ A.in1 (tryCatch (pyNext (.ref I)) _ >>= _) _ _ s
  refine wpAny_bind (wpAny_tryCatch (wpAny_pyNext_list_end (A := A.in1) hh x.it x.ls (by rw [Array.getElem?_eq_none_iff]; omega) fun h' hx' => ?_))
  show wpAny _ A.in1 (updateSeq S (fun _ => #[]) >>= _) _ _ _
  refine wpAny_bind ?_
  refine wpAny_updateSeq (hx' S _ hSI hc) rfl (wpAny_bind (wpAny_letGo (wpAny_pure ?_)))
  have e : is.drop i = [] := List.drop_eq_nil_of_le (by omega)
  rw [e] at hR
  exact hR _ _ t fun a o h1 h2 ho => (Heap.get?_update_other _ _ (Ne.symm h2)).trans (hx' a o h1 ho)
 | succ k ih =>
  intro i s b t hk x hx hl hR
  have hi : i < xs.size := by omega
  obtain ⟨u, hu⟩ := hx i xs[i] (Array.getElem?_eq_getElem hi)
  obtain ⟨c, hc⟩ := x.bo
  have ed : is.drop i = is.getD i 0 :: is.drop (i + 1) := by
   rw [List.drop_eq_getElem_cons (by omega)]
   simp [List.getElem?_eq_getElem (show i < is.length by omega)]
  refine codeAny_builtin F.entry_max_loop ?_
  rw [Around.under_plainId F.plain_max_loop _]
  show wpAny _ A.in1 (seqItems? (.ref S) >>= _) _ _ s
  refine wpAny_bind (wpAny_seqItems hc rfl ?_)
  show wpAny _ A.in1 (tryCatch (pyNext (.ref I)) _ >>= _) _ _ s
  refine wpAny_bind (wpAny_tryCatch (wpAny_pyNext_list_item (A := A.in1) x.it x.ls (Array.getElem?_eq_getElem hi) fun h' it' hs => ?_))
  have x' := x.turned hlI hSI it' hs
  obtain ⟨c', hc'⟩ := x'.bo
  rw [hu]
  show wpAny _ A.in1 (tryCatch (holding [.int (is.getD i 0) u, .int (is.getD i 0) u] (richCompare .Gt (.int (is.getD i 0) u) (.int b t) >>= _)) _ >>= _) _ _ _
  refine wpAny_bind (wpAny_tryCatch (wpAny_holding (wpAny_bind (P.gt_int ?_))))
  refine wpAny_bind (wpAny_holding (wpAny_truthy_bool ?_))
  refine wpAny_bind (wpAny_letGo (wpAny_pure ?_))
  by_cases hb : is.getD i 0 > b
  ·rw [decide_eq_true hb]
   simp only [if_true]
   refine wpAny_bind ?_
   refine wpAny_updateSeq hc' rfl (wpAny_bind (wpAny_letGo ?_))
   rw [hname]
   refine wpAny_pure ⟨plainId_quiet F.plain_max_loop _, ih (i + 1) _ (is.getD i 0) u (by omega) (x'.put hlS hSI) hx hl fun h'' tk t' hk' => ?_⟩
   have e2 : maxTo b (is.drop i) = maxTo (is.getD i 0) (is.drop (i + 1)) := by
    rw [ed]; show (is.drop (i + 1)).foldl _ (if b < is.getD i 0 then is.getD i 0 else b) = _; rw [if_pos hb]; rfl
   rw [<- e2]
   exact hR h'' tk t' fun a o h1 h2 ho => hk' a o h1 h2 ((Heap.get?_update_other _ _ (Ne.symm h2)).trans ((hs.2 a h1).trans ho))
  ·rw [decide_eq_false hb]
   simp only [Bool.false_eq_true, if_false]
   refine wpAny_bind (wpAny_letGo ?_)
   rw [hname]
   refine wpAny_pure ⟨plainId_quiet F.plain_max_loop _, ih (i + 1) _ b t (by omega) x' hx hl fun h'' tk t' hk' => ?_⟩
   have e2 : maxTo b (is.drop i) = maxTo b (is.drop (i + 1)) := by
    rw [ed]; show (is.drop (i + 1)).foldl _ (if b < is.getD i 0 then is.getD i 0 else b) = _; rw [if_neg (by omega)]; rfl
   rw [<- e2]
   exact hR h'' tk t' fun a o h1 h2 ho => hk' a o h1 h2 ((hs.2 a h1).trans ho)
theorem max_first {z : Int} {tz : Tok} (hh : A.handled = none) (hlI : l ≠ I) (hSI : S ≠ I) (hlS : l ≠ S) {s : Shared} (x : MaxAt l I S xs 0 #[] s.heap) (hx : ∀ (j : Nat) (x : Value), xs[j]? = some x -> ∃ t, x = Value.int (is.getD j 0) t) (hl : xs.size = is.length)
 (hR : ∀ h' tk t', (∀ a o, a ≠ I -> a ≠ S -> s.heap.get? a = some o -> h'.get? a = some o) -> R (.ok (.ret (.int (maxOf z is) t'))) { s with heap := h', toks := tk }) :
 codeAny (model prog w) A (.builtin "max.loop" ⟨[.ref I, .none, .ref S], [(Str.ofString "default", .int z tz)]⟩) R s := by
 have hname : (toString "max" ++ toString ".loop" : String) = "max.loop" := by decide
 obtain ⟨c, hc⟩ := x.bo
 refine codeAny_builtin F.entry_max_loop ?_
 rw [Around.under_plainId F.plain_max_loop _]
 show wpAny _ A.in1 (seqItems? (.ref S) >>= _) _ _ s
 refine wpAny_bind (wpAny_seqItems hc rfl ?_)
 show wpAny _ A.in1 (tryCatch (pyNext (.ref I)) _ >>= _) _ _ s
 cases is with
 | nil =>
  refine wpAny_bind (wpAny_tryCatch (wpAny_pyNext_list_end (A := A.in1) hh x.it x.ls (by rw [Array.getElem?_eq_none_iff, hl]; exact Nat.le_refl _) fun h' hx' => ?_))
  refine wpAny_bind (wpAny_rule (wpAny_pure ?_))
  exact hR _ _ tz fun a o h1 _ ho => hx' a o h1 ho
 | cons b is =>
  have hi : 0 < xs.size := by rw [hl]; exact Nat.succ_pos _
  obtain ⟨u, hu⟩ := hx 0 xs[0] (Array.getElem?_eq_getElem hi)
  refine wpAny_bind (wpAny_tryCatch (wpAny_pyNext_list_item (A := A.in1) x.it x.ls (Array.getElem?_eq_getElem hi) fun h' it' hs => ?_))
  have x' := x.turned hlI hSI it' hs
  obtain ⟨c', hc'⟩ := x'.bo
  rw [hu]
  show wpAny _ A.in1 (updateSeq S (fun _ => #[.int b u, .int b u]) >>= _) _ _ _
  refine wpAny_bind ?_
  refine wpAny_updateSeq hc' rfl ?_
  rw [hname]
  refine wpAny_pure ⟨plainId_quiet F.plain_max_loop _, max_rest (is := b :: is) hh hlI hSI hlS _ 1 _ b u rfl (x'.put hlS hSI) hx hl fun h'' tk t' hk' => ?_⟩
  exact hR h'' tk t' fun a o h1 h2 ho => hk' a o h1 h2 ((Heap.get?_update_other _ _ (Ne.symm h2)).trans ((hs.2 a h1).trans ho))
end
section
variable {T : Top} {K : Kx} {C : Cfg} {fe : List Env} {own fs : List Addr} {env : Env} {A : Around} {n : Nat} {ρ : Vars} {g : G} {σ : Store} {s : Shared}
theorem intsV_rep : ∀ {vs : List V} {xs : List Value} {is : List Int}, RepVs T g vs xs -> intsV vs = some is -> xs.length = is.length ∧ (∀ (j : Nat) (x : Value), xs[j]? = some x -> ∃ t, x = Value.int (is.getD j 0) t) ∧ vs = is.map (fun i => .d (.int i)) := by
 intro vs
 induction vs with
 | nil =>
  intro xs is r e
  rcases xs with _ | ⟨x, xs⟩
  ·rw [<- Option.some.inj e]; exact ⟨rfl, fun j x h => by simp at h, rfl⟩
  ·exact r.elim
 | cons v vs ih =>
  intro xs is r e
  rcases xs with _ | ⟨x, xs⟩
  ·exact r.elim
  ·have e : (match isIntV v with | some x => (match intsV vs with | some xs => some (x :: xs) | none => none) | none => none) = some is := e
   induction e1 : isIntV v with
   | none => rw [e1] at e; exact none_ne e
   | some i => induction e2 : intsV vs with
    | none => rw [e1, e2] at e; exact none_ne e
    | some is' =>
     rw [e1, e2] at e
     rw [<- Option.some.inj e]
     obtain ⟨h1, h2, h3⟩ := ih r.2 e2
     obtain ⟨t, ht⟩ := isIntV_rep r.1 e1
     refine ⟨congrArg (· + 1) h1, fun j y hy => ?_, ?_⟩
     ·cases j with
      | zero => exact ⟨t, (Option.some.inj hy).symm.trans ht⟩
      | succ j => exact h2 j y hy
     ·have hv : v = .d (.int i) := by
       cases v with
       | d y => cases y with
        | int k => rw [Option.some.inj (show some k = some i from e1)]
        | _ => exact none_ne e1
       | _ => exact none_ne e1
      rw [hv, h3]; rfl
theorem max_sim {z : Int} {tz : Tok} {v : V} {x : Value} (ha : AOk fe n A) (st : St T g σ s.heap) (rx : RepV T g v x) : Sim T fs A g s (call (.builtin "max") [x] [(Str.ofString "default", .int z tz)]) (RepV T) (bMax z v σ) := by
 unfold bMax
 induction e : lstOf σ v with
 | none => exact Sim.bad
 | some vs =>
  obtain ⟨a, ys, rfl, hL, hr, hl⟩ := lstOf_rep st rx e
  show Sim T fs A g s _ _ (match intsV vs with | some is => .ok (V.d (.int (maxOf z is))) σ | none => .bad)
  induction e2 : intsV vs with
  | none => exact Sim.bad
  | some is =>
   obtain ⟨h1, h2, _⟩ := intsV_rep hr e2
   refine Sim.of (PyProof.Rows.kmk_tree F.kind_max F.plain_max F.entry_max (maxArgs _ _) ?_)
   show wpAny _ A.in1 (Builtin.Builtins.bindParams "max" ["key", "default"] 0 ⟨[], [(Str.ofString "default", .int z tz)]⟩ >>= _) _ _ s
   refine wpAny_bind (wpAny_of_eq (show Builtin.Builtins.bindParams "max" ["key", "default"] 0 ⟨[], [(Str.ofString "default", .int z tz)]⟩ = pure [none, some (.int z tz)] from rfl) ?_)
   refine wpAny_bind (wpAny_pure ?_)
   refine wpAny_bind (wpAny_pyIter_list hL ?_)
   refine wpAny_bind (wpAny_newObj_type ?_)
   obtain ⟨o, ho, hc, m, hd⟩ := id hL
   have hlt := Heap.lt_size ho
   have hname : (toString "max" ++ toString ".loop" : String) = "max.loop" := by decide
   rw [hname]
   have e3 : (s.heap.push { cls := .type "list_iterator", data := .fields #[.ref a, .int 0 0] }).objs.size = s.heap.objs.size + 1 := Heap.size_push ..
   have eS : (s.heap.push { cls := .type "list_iterator", data := .fields #[.ref a, .int 0 0] }).objs.size ≠ s.heap.objs.size := by rw [e3]; exact Nat.succ_ne_self _
   have eL : a ≠ (s.heap.push { cls := .type "list_iterator", data := .fields #[.ref a, .int 0 0] }).objs.size := by rw [e3]; exact Nat.ne_of_lt (Nat.lt_succ_of_lt hlt)
   refine wpAny_pure ⟨plainId_quiet F.plain_max_loop _, max_first (A := A) (l := a) (I := s.heap.objs.size) (S := (s.heap.push { cls := .type "list_iterator", data := .fields #[.ref a, .int 0 0] }).objs.size) (xs := ys) (is := is) (z := z) (tz := tz) ha.handled (Nat.ne_of_lt hlt) eS eL ?_ (fun j x hj => h2 j x (by rw [Array.getElem?_toList]; exact hj)) (by simpa using h1) fun h' tk t' hk => ?_⟩
   ·exact ⟨⟨_, Heap.get?_push_of_some _ (Heap.get?_push_size _ rfl), rfl, rfl⟩, ⟨o, Heap.get?_push_of_some _ (Heap.get?_push_of_some _ ho), hc, m, hd⟩, 0, Heap.get?_push_size _ rfl⟩
   ·exact ⟨g, .grow st fun b o e => hk b o (fun q => by rw [q, atSize] at e; exact none_ne e) (fun q => by rw [q, e3, Heap.get?_none_of_le (Nat.le_succ _)] at e; exact none_ne e) (Heap.get?_push_of_some _ (Heap.get?_push_of_some _ e)), t', rfl⟩
theorem se_maxd {a : E} (z : Int) (h : SE a) : SE (.maxd a z) := by
 intro T K C fe own env A n ρ g σ s ex hc cx I
 induction hc with
 | @mk nm np x k cp kp p h1 h2 h3 =>
  rw [eA_22]
  intro hr
  refine wpAny_bind (load_gl cx I h1.1 h1.2 fun f hf => ?_)
  obtain rfl : f = .builtin "max" := hf
  refine PyProof.Rows.callWith_kw (e := x) (rest := []) ?_ (by rw [starEach_cons h3]; rfl) (by rw [starEach_cons h3]; rfl)
  rw [starEach_cons h3]
  refine spliced_cons (wpAny_mono (h _ h2 cx I (bind_ne hr)) (fun xv s₁ hz => spliced_nil ?_) fun _ _ h => h)
  obtain ⟨v, σ₁, g₁, e₁, st₁, r₁⟩ := hz
  rw [e₁] at hr ⊢
  refine PyProof.Rows.kws_cons (wpAny_Constant_int (PyProof.Rows.kws_nil ?_))
  have st₂ : Step T g₁.mu (frsOf fe) g₁ s₁ g₁ σ₁ { s₁ with toks := s₁.toks + 1 } := .heapEq st₁.st
  have t := max_sim (fs := frsOf fe) (A := A) (z := z) (tz := s₁.toks) (s := { s₁ with toks := s₁.toks + 1 }) cx.ha st₂.st r₁ hr
  exact wpAny_mono t (fun _ _ h => (h.after st₂).after st₁) fun _ _ h => h
end
end Mine.Internal
namespace Mine.Internal
open PySem PySem.Calls
structure LmOk (K : Kx) (i : Nat) (nm : Str) (sc : Scope) : Prop where
 lam : K.lam = true
 at_ : K.vars[i]? = some nm
 kind : sc.kind = .function
 gen : sc.isGenerator = false
 co : sc.isCoroutine = false
 loc : ∀ n, (n, NameKind.local) ∈ sc.names -> n = nm
 fre : ∀ n, (n, NameKind.free) ∈ sc.names -> K.names.lookup n = some .cell ∨ K.names.lookup n = some .free
 noc : ∀ p, p ∈ sc.names -> p.2 ≠ .cell
 par : sc.names.lookup nm = some .local
theorem lamOk_ok {K : Kx} {i : Nat} {nm : Str} {sc : Scope} (h : lamOk K i nm sc = true) : LmOk K i nm sc := by
 unfold lamOk at h
 simp only [Bool.and_eq_true, List.all_eq_true, Bool.not_eq_true'] at h
 obtain ⟨h1, h2, h3, h4, h5, h6, h7, h8⟩ := h
 have nme : ∀ p, p ∈ sc.names -> (p.2 = .local ∧ p.1 = nm) ∨ ((p.2 = .free ∧ (K.names.lookup p.1 = some .cell ∨ K.names.lookup p.1 = some .free)) ∨ p.2 = .globalImplicit) := fun p hp => by
  have := h6 p hp
  unfold lnameOk at this
  simp only [Bool.or_eq_true, Bool.and_eq_true, decide_eq_true_eq, beq_iff_eq] at this
  exact this.imp id (Or.imp (And.imp id (Or.imp Kx.kd_eq Kx.kd_eq)) id)
 refine ⟨h1, isAt_ok h2, of_decide_eq_true h3, h4, h5, fun n hn => ?_, fun n hn => ?_, fun p hp q => ?_, of_decide_eq_true h8⟩
 ·rcases nme _ hn with h | h | h
  ·exact h.2
  ·exact nomatch (show NameKind.local = .free from h.1)
  ·exact nomatch (show NameKind.local = .globalImplicit from h)
 ·rcases nme _ hn with h | h | h
  ·exact nomatch (show NameKind.free = .local from h.1)
  ·exact h.2
  ·exact nomatch (show NameKind.free = .globalImplicit from h)
 ·rcases nme _ hp with h | h | h
  ·rw [q] at h; exact absurd h.1 (by decide)
  ·rw [q] at h; exact absurd h.1 (by decide)
  ·rw [q] at h; exact absurd h (by decide)
section
variable {T : Top} {K : Kx} {C : Cfg} {fe : List Env} {own fs : List Addr} {env : Env} {A : Around} {n : Nat} {ρ : Vars} {g g' : G} {σ σ' : Store} {s s₁ s' : Shared} {Er : Value -> Shared -> Prop}
theorem Step.out {fs' : List Addr} (hk : ∀ b o, s.heap.get? b = some o -> s₁.heap.get? b = some o) (hg : s₁.gens = s.gens) (ho : s₁.os = s.os) (x : Step T (g.mu ++ own) fs' g s₁ g' σ' s') (hown : ∀ c, c ∈ own -> s.heap.get? c = none)
 (hfs : ∀ c, c ∈ fs' -> c ∈ fs ∨ s.heap.get? c = none) : Step T g.mu fs g s g' σ' s' := by
 have no : ∀ b o, s.heap.get? b = some o -> b ∉ own := fun b o e q => by exact none_ne ((Eq.symm (hown b q)).trans e)
 have dd : ∀ a, s₁.heap.get? a = none -> s.heap.get? a = none := fun a e => by
  induction q : s.heap.get? a with
  | none => rfl
  | some o => exact some_ne ((Eq.symm (hk a o q)).trans e)
 refine ⟨x.le, x.st, ⟨fun b o e => x.kept.alive b o (hk b o e), fun b o e nb nf => ?_, fun b o e nb hf => ?_⟩, ⟨fun a h => (x.new.mu a h).imp id (dd a), fun a o h => (x.new.fz a o h).imp id fun h => h.imp (dd a) id⟩, x.gens.trans hg, x.os.trans ho⟩
 ·exact x.kept.same b o (hk b o e) (fun q => (List.mem_append.mp q).elim nb (no b o e)) fun q => (hfs b q).elim nf fun h => by exact none_ne (h.symm.trans e)
 ·have nb' : b ∉ g.mu ++ own := fun q => (List.mem_append.mp q).elim nb (no b o e)
  by_cases q : b ∈ fs'
  ·exact x.kept.slots b o (hk b o e) nb' q
  ·exact ⟨o.slots, x.kept.same b o (hk b o e) nb' q⟩
theorem among_snoc {pos : Pos} {a b : Int} {c cv : Value} (l : List Value) (h : TriplesOk l) (e : codeAmong pos (l ++ [rawInt a, rawInt b, c]) = some cv) : codeAmong pos l = some cv ∨ cv = c := by
 fun_induction TriplesOk l with
 | case1 =>
  have e : (if (a == (pos.line : Int) && b == (pos.col : Int)) = true then some c else codeAmong pos []) = some cv := e
  split at e
  ·exact .inr (Option.some.inj e).symm
  ·exact none_ne e
 | case2 a' t b' u x rest ih =>
  have e : (if (a' == (pos.line : Int) && b' == (pos.col : Int)) = true then some x else codeAmong pos (rest ++ [rawInt a, rawInt b, c])) = some cv := e
  show (if (a' == (pos.line : Int) && b' == (pos.col : Int)) = true then some x else codeAmong pos rest) = some cv ∨ _
  split at e
  ·rename_i q; rw [if_pos q]; exact .inl e
  ·rename_i q; rw [if_neg q]; exact ih h e
 | case3 => exact h.elim
theorem Step.code {ps : Array Value} {c' : Addr} {oc : Obj} (st : St T g σ s.heap) (hx : Heap.ExtBut T.tab s.heap s'.heap) (hn : s.heap.get? c' = none) (hc : s'.heap.get? c' = some oc) (ht : s'.heap.get? T.tab = some { cls := .none, data := .fields ps }) (tri : TriplesOk ps.toList)
 (hcc : ∀ pos cv, codeAmong pos ps.toList = some cv -> ∃ c o vs t, cv = .ref c ∧ (g.put c' oc).fz c = some o ∧ o.data = .fields vs ∧ vs[1]? = some (.str T.lq t)) (hg : s'.gens = s.gens := by rfl) (ho : s'.os = s.os := by rfl) : Step T g.mu fs g s (g.put c' oc) σ s' := by
 have le : G.le g (g.put c' oc) := .put (st.fz_none hn)
 have tm := st.tb.mem
 have kp : ∀ b o, b ≠ T.tab -> s.heap.get? b = some o -> s'.heap.get? b = some o := fun b o h e => hx b o h e
 refine ⟨le, ⟨fun b x e => ?_, st.len, st.nd, fun b hb => ?_, fun k b x e1 e2 => ?_, fun b x e => le.fz b x (st.base b x e), ?_⟩, ⟨fun b o e => ?_, fun b o e nb _ => kp b o (fun q => nb (q ▸ tm)) e, fun b o e nb _ => ⟨o.slots, kp b o (fun q => nb (q ▸ tm)) e⟩⟩, ⟨fun _ h => .inl h, fun b x e => ?_⟩, hg, ho⟩
 ·have e' : (if b = c' then some oc else g.fz b) = some x := e
  by_cases q : b = c'
  ·rw [if_pos q] at e'; obtain rfl := Option.some.inj e'; rw [q]; exact hc
  ·rw [if_neg q] at e'
   exact kp b x (fun q => by rw [q, st.ap _ tm] at e'; exact none_ne e') (st.fz b x e')
 ·show (if b = c' then some oc else g.fz b) = none
  rw [if_neg (fun (q : b = c') => st.mu_none hn (q ▸ hb))]
  exact st.ap b hb
 ·obtain ⟨y, h1, h2⟩ := st.ob k b x e1 e2
  exact ⟨y, kp b y (fun q => tab_ne st e1 q.symm) h1, RepO.mono le _ _ h2⟩
 ·obtain ⟨ps0, h0, _⟩ := st.tb
  exact ⟨ps, h0, ht, tri, hcc⟩
 ·by_cases q : b = T.tab
  ·rw [q]; exact ⟨_, ht⟩
  ·exact ⟨o, kp b o q e⟩
 ·have e' : (if b = c' then some oc else g.fz b) = some x := e
  by_cases q : b = c'
  ·exact .inr (.inl (q ▸ hn))
  ·rw [if_neg q] at e'; exact .inl e'
inductive LamAt (T : Top) (g : G) (env : Env) (nm : Str) (ap : Pos) (b : Expr) (sc : Scope) (f : Addr) : Prop
 | mk (pm ctv : Value) (c' : Addr) (o : Obj) (fo : Obj) (vs : Array Value) (t : Tok) (h1 : g.fz f = some fo) (h2 : fo.data = .func (W.kla_fn "<lambda>" T.lq (lamArgs nm ap) b sc (clOf env sc.names []) pm (.ref c') ctv)) (h3 : g.fz c' = some o) (h4 : o.data = .fields vs) (h5 : vs[1]? = some (.str T.lq t)) : LamAt T g env nm ap b sc f
theorem LamAt.mono {nm : Str} {ap : Pos} {b : Expr} {sc : Scope} {f : Addr} (x : LamAt T g env nm ap b sc f) (le : G.le g g') : LamAt T g' env nm ap b sc f := by
 obtain ⟨pm, ctv, c', o, fo, vs, t, h1, h2, h3, h4, h5⟩ := x
 exact ⟨pm, ctv, c', o, fo, vs, t, le.fz _ _ h1, h2, le.fz _ _ h3, h4, h5⟩
theorem lam_clos {i : Nat} {nm : Str} {sc : Scope} (lo : LmOk K i nm sc) (cx : Cx T K C fe env A n) (I : Inv T fe own K.wr env K.vars ρ g σ s.heap) : closureFor sc env = pure (clOf env sc.names []) :=
 closureFor_eq sc fun m hm => by
  have hk : env.kindOf m = some .cell ∨ env.kindOf m = some .free := by rw [kindOf_names cx.names]; exact lo.fre m hm
  obtain ⟨c, _, hl, _⟩ := I.blk.cell m hk
  exact ⟨c, hl⟩
theorem lam_make {i : Nat} {nm : Str} {ap : Pos} {b : Expr} {sc : Scope} {lp : Pos} {Q : Value -> Shared -> Prop} (lo : LmOk K i nm sc) (cx : Cx T K C fe env A n) (I : Inv T fe own K.wr env K.vars ρ g σ s.heap)
 (h : ∀ f g' s', Step T g.mu (frsOf fe) g s g' σ s' -> LamAt T g' env nm ap b sc f -> Q (.ref f) s') : wpAny (model T.prog T.w) A (eval (.Lambda (lamArgs nm ap) b sc lp) env) Q Er s := by
 obtain ⟨_, hq, c, hcode, hd⟩ := cx.lamc lo.lam
 obtain ⟨mg, mb, hg, hb, _, bm, ob, b1, b2, b3, b4, b5, b6⟩ := cx.rd.ns
 obtain ⟨ps, h0, hP, tri, hcc⟩ := id I.st.tb
 have kp := I.st.keepsBase
 have hg' : s.heap.Ns mainGlobals mg := hg.keeps kp
 have hC : W.CodeHd s.heap c T.tab := hd.keeps kp
 have tfz := I.st.ap _ I.st.tb.mem
 have hgP : mainGlobals ≠ T.tab := fun q => by
  obtain ⟨o, es, ep, e, hd, _⟩ := hg'
  rw [q, hP] at e; rw [<- Option.some.inj e] at hd; exact nomatch hd
 have hbP : bm ≠ T.tab := fun q => by
  have e := I.st.base _ _ b3
  rw [q, tfz] at e; exact none_ne e
 have hbG : bm ≠ mainGlobals := fun q => by
  obtain ⟨o, es, ep, e, hd, _⟩ := hg
  rw [q, e] at b3; rw [<- Option.some.inj b3, hd] at b6; exact nomatch b6
 have hB : s.heap.BuiltinsAt mg T.tab := ⟨bm, ob, b1, b2, hbG, hbP, kp _ _ b3, b4, b5, b6⟩
 refine W.kla_eval rfl ?_
 rw [hq]
 cases hit : codeAmong lp ps.toList with
 | none =>
  refine W.kla_makeFunction (lam_clos lo cx I) I.blk.glob hg' hcode hC hP tri hit hgP hB fun c' ctv h' tk hx hge hlt hrec htb => ?_
  obtain ⟨c₂, oc, vs, t, e2, hoc, hdc, hv⟩ := hrec
  obtain rfl := Value.ref.inj e2
  have hn : s.heap.get? c' = none := Heap.get?_none_of_le hge
  have st1 : Step T g.mu (frsOf fe) g s (g.put c' oc) σ { s with heap := h', toks := tk } := by
   refine .code I.st hx hn hoc htb (by rw [Array.toList_append]; exact TriplesOk_snoc _ _ _ _ tri) fun pos cv e => ?_
   rw [Array.toList_append] at e
   rcases among_snoc _ tri e with e | e
   ·obtain ⟨c3, o3, vs3, t3, q1, q2, q3⟩ := hcc pos cv e
    exact ⟨c3, o3, vs3, t3, q1, (G.le.put (I.st.fz_none hn)).fz _ _ q2, q3⟩
   ·exact ⟨c', oc, vs, t, e, G.put_self, hdc, hv⟩
  have st2 : Step T (g.put c' oc).mu (frsOf fe) (g.put c' oc) { s with heap := h', toks := tk } ((g.put c' oc).put h'.objs.size (W.kla_obj "<lambda>" T.lq (lamArgs nm ap) b sc (clOf env sc.names []) ((mg "__name__").getD .none) c' ctv)) σ { s with heap := h'.push (W.kla_obj "<lambda>" T.lq (lamArgs nm ap) b sc (clOf env sc.names []) ((mg "__name__").getD .none) c' ctv), toks := tk } :=
   .put st1.st (fun b o e => Heap.get?_push_of_some _ e) (Heap.get?_push_size _ rfl) (atSize _)
  exact h _ _ _ (st1.trans st2) ⟨_, ctv, c', oc, _, vs, t, G.put_self, rfl, (G.le.put (st1.st.fz_none (s := { s with heap := h', toks := tk }) (atSize _))).fz _ _ G.put_self, hdc, hv⟩
 | some cv =>
  obtain ⟨c', o3, vs3, t3, q1, q2, q3, q4⟩ := hcc lp cv hit
  subst q1
  refine W.kla_makeFunctionHit (lam_clos lo cx I) I.blk.glob hg' hcode hC hP tri hit hB fun ctv h' tk hk hsz => ?_
  have st1 : Step T g.mu (frsOf fe) g s g σ { s with heap := h', toks := tk } := .grow I.st hk
  have st2 : Step T g.mu (frsOf fe) g { s with heap := h', toks := tk } (g.put h'.objs.size (W.kla_obj "<lambda>" T.lq (lamArgs nm ap) b sc (clOf env sc.names []) ((mg "__name__").getD .none) c' ctv)) σ { s with heap := h'.push (W.kla_obj "<lambda>" T.lq (lamArgs nm ap) b sc (clOf env sc.names []) ((mg "__name__").getD .none) c' ctv), toks := tk } :=
   .put st1.st (fun b o e => Heap.get?_push_of_some _ e) (Heap.get?_push_size _ rfl) (atSize _)
  exact h _ _ _ (st1.trans st2) ⟨_, ctv, c', o3, _, vs3, t3, G.put_self, rfl, (G.le.put (st1.st.fz_none (s := { s with heap := h', toks := tk }) (atSize _))).fz _ _ q2, q3, q4⟩
end
end Mine.Internal
namespace Mine.Internal
open PySem PySem.Calls
theorem lookup_mem {x : Str} {c : Addr} : ∀ {l : List (Str × Addr)}, (x, c) ∈ l -> ∃ c', l.lookup x = some c'
 | p :: r, h => by
  rw [List.lookup_cons]
  split
  ·exact ⟨_, rfl⟩
  ·rename_i e
   rcases List.mem_cons.mp h with h | h
   ·rw [<- h] at e; simp at e
   ·exact lookup_mem h
section
variable {T : Top} {K : Kx} {C : Cfg} {fe : List Env} {own fs : List Addr} {env : Env} {A : Around} {n : Nat} {ρ : Vars} {g g' : G} {σ σ' : Store} {s s₁ s' : Shared} {Er : Value -> Shared -> Prop}
theorem lam_inv {i : Nat} {nm : Str} {sc : Scope} {v : V} {x : Value} {Lc f : Addr} {qual : Str} {cd : Value} {h' : Heap} (lo : LmOk K i nm sc) (I : Inv T fe own K.wr env K.vars ρ g σ s.heap) (hn : env.scope.names = K.names) (r : RepV T g v x)
 (hk : ∀ b o, s.heap.get? b = some o -> h'.get? b = some o) (hL : s.heap.get? Lc = none) (hns : h'.Ns Lc (fun y => [(nm, x)].reverse.lookup y)) :
 Inv T (W.envX qual sc Lc f cd (clOf env sc.names []) :: fe) [Lc] (K.lsub nm sc).wr (W.envX qual sc Lc f cd (clOf env sc.names [])) (K.lsub nm sc).vars (ρ.set i (some v)) g σ h' := by
 have stp : Step T g.mu (frsOf fe) g s g σ { s with heap := h' } := .grow I.st hk
 obtain ⟨o, es, ep, ho, hd, _⟩ := id hns
 have apL : Apart g h' Lc := ⟨I.st.fz_none hL, I.st.mu_none hL, o, ho⟩
 have look : ∀ y c, (clOf env sc.names []).lookup y = some c -> (y, NameKind.free) ∈ sc.names ∧ env.cells.lookup y = some c := fun y c hc => by
  rcases clOf_mem (mem_of_lookup hc) with h | ⟨h1, h⟩
  ·simp at h
  ·have hk' : env.kindOf y = some .cell ∨ env.kindOf y = some .free := by rw [kindOf_names hn]; exact lo.fre y h1
   obtain ⟨c', _, hl, _⟩ := I.blk.cell y hk'
   rw [hl] at h
   exact ⟨h1, by rw [hl, h]; rfl⟩
 have cel : ∀ y, sc.names.lookup y = some .cell ∨ sc.names.lookup y = some .free -> (y, NameKind.free) ∈ sc.names ∧ ∃ c, (clOf env sc.names []).lookup y = some c := fun y hy => by
  have hf : sc.names.lookup y = some .free := by
   rcases hy with h | h
   ·exact absurd rfl (lo.noc _ (mem_of_lookup h))
   ·exact h
  exact ⟨mem_of_lookup hf, lookup_mem (clOf_has (env := env) (acc := []) (mem_of_lookup hf))⟩
 have out : ∀ y, (y, NameKind.free) ∈ sc.names -> env.kindOf y = some .cell ∨ env.kindOf y = some .free := fun y h => by rw [kindOf_names hn]; exact lo.fre y h
 refine ⟨stp.st, ⟨⟨by show sc.kind ≠ _; rw [lo.kind]; decide, lo.gen, lo.co, rfl, rfl⟩, ⟨Lc, o, rfl, ho, (fun vs q => by rw [hd] at q; exact nomatch q), apL.1, apL.2.1⟩, I.fr.step stp⟩, ⟨_, _, rfl, rfl⟩,
  ⟨lo.kind, rfl, rfl, apL, ⟨_, hns⟩, fun y hy => ?_, fun y y' c h1 h2 => I.blk.cinj y y' c (look y c h1).2 (look y' c h2).2⟩, fun j y w hj hw => ?_, I.nd, .head _, fun y hy c hk' _ => ?_, fun a ha => ?_⟩
 ·obtain ⟨hf, c, hc⟩ := cel y hy
  obtain ⟨c', w, q1, q2, q3⟩ := I.blk.cell y (out y hf)
  rw [(look y c hc).2] at q1
  obtain rfl := Option.some.inj q1
  exact ⟨c, w, hc, by obtain ⟨oc, e1, e2⟩ := q2; exact ⟨oc, hk _ _ e1, e2⟩, q3.step stp⟩
 ·refine ⟨fun hl => ?_, fun hl => ?_⟩
  ·have e := lo.loc y (mem_of_lookup hl)
   subst e
   have e := nodup_inj I.nd hj lo.at_
   subst e
   rcases vars_get hw with ⟨_, e⟩ | ⟨q, _⟩
   ·rw [<- Option.some.inj e]
    exact ⟨_, x, hns, by simp [List.lookup_cons], r⟩
   ·exact absurd rfl q
  ·obtain ⟨hf, c, hc⟩ := cel y hl
   rcases vars_get hw with ⟨q, _⟩ | ⟨q, e⟩
   ·subst q
    have e2 : y = nm := Option.some.inj (hj.symm.trans lo.at_)
    subst e2
    rcases hl with h | h
    ·exact nomatch ((show sc.names.lookup y = some .cell from h).symm.trans lo.par)
    ·exact nomatch ((show sc.names.lookup y = some .free from h).symm.trans lo.par)
   ·obtain ⟨c', w', q1, q2, q3⟩ := (I.sees j y w hj e).2 (out y hf)
    rw [(look y c hc).2] at q1
    obtain rfl := Option.some.inj q1
    exact ⟨c, w', hc, by obtain ⟨oc, e1, e2⟩ := q2; exact ⟨oc, hk _ _ e1, e2⟩, q3⟩
 ·exact absurd rfl (lo.noc _ (mem_of_lookup (show sc.names.lookup y = some .cell from hk')))
 ·rw [List.mem_singleton.mp ha]; exact apL
theorem lam_bind {nm : Str} {ap : Pos} {b : Expr} {sc : Scope} {cl : List (Str × Addr)} {pm cd ct x : Value} {q : Str} : bindArgs (W.kla_fn "<lambda>" q (lamArgs nm ap) b sc cl pm cd ct) ⟨[x], []⟩ = pure [(nm, x)] := by
 have h5 : notAStandIn .none = pure () := rfl
 have h1 : (List.lookup nm [(nm, x)]) = some x := by simp [List.lookup_cons]
 unfold bindArgs seqItems?
 simp [lamArgs, h5, h1]
theorem lam_call {i : Nat} {nm : Str} {ap : Pos} {b : Expr} {sc : Scope} {key : E} {f : Addr} {v : V} {x : Value} (hs : SE key) (lo : LmOk K i nm sc) (hb : IsE key (K.lsub nm sc) b) (cx : Cx T K C fe env A n) (I : Inv T fe own K.wr env K.vars ρ g σ s.heap) (lm : LamAt T g env nm ap b sc f) (r : RepV T g v x) :
 Sim T (frsOf fe) A.in1.in1 g s (call (.ref f) [x]) (RepV T) (evalE C.still key (ρ.set i (some v)) σ) := by
 intro hr
 obtain ⟨pm, ctv, c', o, fo, vs, t, h1, h2, h3, h4, h5⟩ := lm
 obtain ⟨hn1, _⟩ := cx.lamc lo.lam
 have hA := cx.ha
 refine wpAny_call ?_
 refine W.kla_callFunE (by show A.depth < 1000; have := hA.depth; lia) (I.st.fz _ _ h1) h2 lo.co lo.gen rfl ⟨c', o, vs, t, rfl, I.st.fz _ _ h3, h4, h5⟩ ?_
 rw [lam_bind]
 refine wpAny_pure (wpAny_newFunctionEnv lo.noc (fun y hy => by rw [List.mem_singleton.mp hy]; exact lo.par) (fun h₁ hns hsb => ?_) lo.kind)
 have hk : ∀ b o, s.heap.get? b = some o -> h₁.get? b = some o := fun b o e => hsb.extBut b o (Nat.ne_of_lt (Heap.lt_size e)) (Heap.get?_push_of_some _ e)
 refine ⟨(cx.rd.ok.nolimit.keeps I.st.keepsBase).keeps hk, ?_⟩
 show codeAny _ _ (.expr b (W.envX T.lq sc s.heap.objs.size f (.ref c') (clOf env sc.names []))) _ _
 have I' := lam_inv (qual := T.lq) (f := f) (cd := .ref c') lo I cx.names r hk (atSize _) hns
 have cx' : Cx T (K.lsub nm sc) C.still (W.envX T.lq sc s.heap.objs.size f (.ref c') (clOf env sc.names []) :: fe) (W.envX T.lq sc s.heap.objs.size f (.ref c') (clOf env sc.names [])) (A.in1.in1.deeper (W.envX T.lq sc s.heap.objs.size f (.ref c') (clOf env sc.names []))) (n - 1) := by
  refine ⟨cx.rd, rfl, ⟨by show A.frames.map _ = _; rw [hA.frames]; rfl, by show A.depth + 1 + (n - 1) <= 600; have := hA.depth; lia, by show A.units + 1 + 1 + 3 + 100 * (n - 1) <= 9000; have := hA.units; lia, hA.handled⟩, ?_, fun h => ff_ h⟩
  exact fun _ _ _ _ _ _ => Sim.bad
 have t := hs b hb (s := { s with heap := h₁, toks := s.toks + [(nm, x)].length }) cx' I' hr
 refine W.kla_codeExpr (wpAny_mono t (fun y s' hz => ?_) fun _ _ h => h.elim)
 obtain ⟨w, σ', g', e, st, rv⟩ := hz
 refine ⟨w, σ', g', e, Step.out (own := []) (s₁ := { s with heap := h₁, toks := s.toks + [(nm, x)].length }) (fs' := frsOf (W.envX T.lq sc s.heap.objs.size f (.ref c') (clOf env sc.names []) :: fe)) hk rfl rfl (by rw [List.append_nil]; exact st) (fun c hc => nomatch hc) fun c hc => ?_, rv⟩
 rcases List.mem_cons.mp (show c ∈ s.heap.objs.size :: frsOf fe from hc) with rfl | hc
 ·exact .inr (atSize _)
 ·exact .inl hc
end
end Mine.Internal
namespace Mine.Internal
set_option tactic.hygienic true
set_option backward.match.sparseCases true
open PySem PyProof.Rows
noncomputable def RR (ρ : Keyed -> Nat) (xs : Array Keyed) (i : Nat) : Nat := match xs[i]? with | some p => ρ p | none => 0
theorem RR_congr {ρ : Keyed -> Nat} {xs ys : Array Keyed} {i j : Nat} (h : xs[i]? = ys[j]?) : RR ρ xs i = RR ρ ys j := by unfold RR; rw [h]
noncomputable def Bef (κ : KeyKind) (ρ : Keyed -> Nat) (xs : Array Keyed) (i j : Nat) : Prop := κ.klt (KK κ xs i) (KK κ xs j) ∨ (KK κ xs i = KK κ xs j ∧ RR ρ xs i < RR ρ xs j)
noncomputable def StabTo (κ : KeyKind) (ρ : Keyed -> Nat) (xs : Array Keyed) (n : Nat) : Prop := ∀ i j, i < j -> j < n -> Bef κ ρ xs i j
section
variable {κ : KeyKind} {ρ : Keyed -> Nat} {xs ys : Array Keyed} {i j i' j' n : Nat}
theorem Bef.congr (h : Bef κ ρ ys i' j') (hi : xs[i]? = ys[i']?) (hj : xs[j]? = ys[j']?) : Bef κ ρ xs i j := by
 unfold Bef; rw [KK_congr (κ := κ) hi, KK_congr (κ := κ) hj, RR_congr (ρ := ρ) hi, RR_congr (ρ := ρ) hj]; exact h
theorem Bef.kle (h : Bef κ ρ xs i j) : κ.kle (KK κ xs i) (KK κ xs j) := h.elim (fun h => KeyOrd.kle_of_klt h) fun h => by rw [h.1]; exact KeyOrd.kle_refl _
theorem bef_of (h : κ.kle (KK κ xs i) (KK κ xs j)) (hr : RR ρ xs i < RR ρ xs j) : Bef κ ρ xs i j := by
 cases hb : κ.blt (KK κ xs i) (KK κ xs j) with
 | true => exact .inl hb
 | false => exact .inr ⟨(κ.total _ _ (show κ.blt (KK κ xs j) (KK κ xs i) = false from h) hb).symm, hr⟩
theorem StabTo.sorted (h : StabTo κ ρ xs n) : SortedToK κ xs n := fun i j hij hj => by
 by_cases e : i = j
 ·subst e; exact KeyOrd.kle_refl _
 ·exact (h i j (by omega) hj).kle
end
structure SOk (κ : KeyKind) (ρ : Keyed -> Nat) (a₀ : Array Keyed) (st : SortSt) (n : Nat) : Prop where
 base : SBase a₀ st
 rest : ∀ i, n <= i -> i < a₀.size -> RR ρ (arrOf st) i = i
 low : ∀ i, i < n -> RR ρ (arrOf st) i < n
section
variable {prog : Program} {w : World} {A : Around} {E : Value -> Shared -> Prop} {s : Shared} {a₀ : Array Keyed} {κ : KeyKind} {ρ : Keyed -> Nat}
theorem SOk.more {st : SortSt} {n : Nat} (h : SOk κ ρ a₀ st n) (hn : n < a₀.size) : SOk κ ρ a₀ st (n + 1) :=
 ⟨h.base, fun i h1 h2 => h.rest i (by omega) h2, fun i hi => by
  by_cases e : i = n
  ·subst e; rw [h.rest i (Nat.le_refl _) hn]; omega
  ·have := h.low i (by omega); omega⟩
theorem bubble_src {xs : Array Keyed} {k l : Nat} (hk : k < xs.size) (hl : l <= k) (x : Nat) :
 (x = l ∧ (bubble xs k (k - l))[x]? = xs[k]?) ∨ (l < x ∧ x <= k ∧ (bubble xs k (k - l))[x]? = xs[x - 1]?) ∨ ((x < l ∨ k < x) ∧ (bubble xs k (k - l))[x]? = xs[x]?) := by
 have e := getElem?_bubble hk (k - l) (by omega) x
 rw [show k - (k - l) = l by omega] at e
 by_cases h1 : x = l
 ·rw [if_pos h1] at e; exact .inl ⟨h1, e⟩
 ·rw [if_neg h1] at e
  by_cases h2 : l < x ∧ x <= k
  ·rw [if_pos h2] at e; exact .inr (.inl ⟨h2.1, h2.2, e⟩)
  ·rw [if_neg h2] at e; exact .inr (.inr ⟨by omega, e⟩)
theorem stab_bubble {xs : Array Keyed} {k l : Nat} (hk : k < xs.size) (hl : l <= k) (hs : StabTo κ ρ xs k) (hlo : ∀ i, i < l -> Bef κ ρ xs i k) (hhi : ∀ i, l <= i -> i < k -> κ.klt (KK κ xs k) (KK κ xs i)) :
 StabTo κ ρ (bubble xs k (k - l)) (k + 1) := by
 intro i j hij hj
 rcases bubble_src hk hl i with ⟨h1, e1⟩ | ⟨h1, h2, e1⟩ | ⟨h1, e1⟩
 ·rcases bubble_src hk hl j with ⟨g1, e2⟩ | ⟨g1, g2, e2⟩ | ⟨g1, e2⟩
  ·omega
  ·exact Bef.congr (.inl (hhi (j - 1) (by omega) (by omega))) e1 e2
  ·omega
 ·rcases bubble_src hk hl j with ⟨g1, e2⟩ | ⟨g1, g2, e2⟩ | ⟨g1, e2⟩
  ·omega
  ·exact Bef.congr (hs (i - 1) (j - 1) (by omega) (by omega)) e1 e2
  ·omega
 ·rcases bubble_src hk hl j with ⟨g1, e2⟩ | ⟨g1, g2, e2⟩ | ⟨g1, e2⟩
  ·exact Bef.congr (hlo i (by omega)) e1 e2
  ·exact Bef.congr (hs i (j - 1) (by omega) (by omega)) e1 e2
  ·exact Bef.congr (hs i j hij (by omega)) e1 e2
theorem SOk.bubble {st : SortSt} {k l : Nat} (h : SOk κ ρ a₀ st k) (hk : k < a₀.size) (hl : l <= k) : SOk κ ρ a₀ (setArr st (bubble (arrOf st) k (k - l))) (k + 1) := by
 have hks : k < (arrOf st).size := by rw [h.base.size]; exact hk
 refine ⟨h.base.setArr (bubble_perm _ _ _), fun i h1 h2 => ?_, fun i hi => ?_⟩
 ·show RR ρ (PyProof.Rows.bubble (arrOf st) k (k - l)) i = i
  rcases bubble_src hks hl i with ⟨g1, e⟩ | ⟨g1, g2, e⟩ | ⟨g1, e⟩
  ·omega
  ·omega
  ·rw [RR_congr e]; exact h.rest i (by omega) h2
 ·show RR ρ (PyProof.Rows.bubble (arrOf st) k (k - l)) i < k + 1
  rcases bubble_src hks hl i with ⟨g1, e⟩ | ⟨g1, g2, e⟩ | ⟨g1, e⟩
  ·rw [RR_congr e, h.rest k (Nat.le_refl _) hk]; omega
  ·rw [RR_congr e]; have := h.low (i - 1) (by omega); omega
  ·rw [RR_congr e]; have := h.low i (by omega); omega
theorem wpS_binarySortS {st : SortSt} {n ok : Nat} {Q : Bool -> SortSt -> Prop} (hO : κ.OneLt) (h0 : KeysOf κ a₀) (hn : n <= a₀.size) (hok : ok <= n) (ho1 : 1 <= ok) (hB : SOk κ ρ a₀ st ok) (hs : StabTo κ ρ (arrOf st) ok)
 (h : ∀ st', SOk κ ρ a₀ st' n -> StabTo κ ρ (arrOf st') n -> Q true st') : wpS (model prog w) A E s (binarySort' 0 n ok) Q st := by
 rw [binarySort'_eq]
 simp only [Nat.zero_add]
 refine wpS_bind (wpS_mono (wpS_forRange (I := fun k c st' => c = (none, ()) ∧ SOk κ ρ a₀ st' (min k n) ∧ StabTo κ ρ (arrOf st') (min k n))
  (Q := fun c st' => c = (none, ()) ∧ SOk κ ρ a₀ st' n ∧ StabTo κ ρ (arrOf st') n) ?step ?fin ?init) ?post)
 case post =>
  rintro c st' ⟨rfl, hB', hs'⟩
  exact wpS_pure (h st' hB' hs')
 case init =>
  rw [show min (max ok 1) n = ok by omega]
  exact ⟨rfl, hB, hs⟩
 case fin =>
  rintro c st' ⟨hc, hB', hs'⟩
  rw [show min (max (max ok 1) n) n = n by omega] at hB' hs'
  exact ⟨hc, hB', hs'⟩
 case step =>
  rintro k c st' hak hkn ⟨rfl, hB', hs'⟩
  rw [show min k n = k by omega] at hB' hs'
  have hk : k < a₀.size := by omega
  have hss := hs'.sorted
  refine wpS_bind (wpS_mono (wpS_forRange (I := fun x c st'' => st'' = st' ∧ ∃ l r, c = (none, l, r) ∧ l <= r ∧ r <= k ∧ r - l <= k - x ∧
   (∀ i, i < l -> κ.kle (KK κ (arrOf st') i) (KK κ (arrOf st') k)) ∧ (∀ i, r <= i -> i < k -> κ.klt (KK κ (arrOf st') k) (KK κ (arrOf st') i)))
   (Q := fun c st'' => st'' = st' ∧ ∃ l r, c = (none, l, r) ∧ l <= k ∧
    (∀ i, i < l -> κ.kle (KK κ (arrOf st') i) (KK κ (arrOf st') k)) ∧ (∀ i, l <= i -> i < k -> κ.klt (KK κ (arrOf st') k) (KK κ (arrOf st') i))) ?istep ?ifin ?iinit) ?ipost)
  case iinit => exact ⟨rfl, 0, k, rfl, by omega, by omega, by omega, fun i hi => by omega, fun i h1 h2 => by omega⟩
  case ifin =>
   rintro c st'' ⟨rfl, l, r, rfl, hlr, hrk, hm, hlo, hhi⟩
   have : l = r := by omega
   subst this
   exact ⟨rfl, l, l, rfl, hrk, hlo, hhi⟩
  case istep =>
   rintro x c st'' _ hxk ⟨rfl, l, r, rfl, hlr, hrk, hm, hlo, hhi⟩
   dsimp only
   by_cases hge : l ≥ r
   ·rw [if_pos hge]
    have : l = r := by omega
    subst this
    exact wpS_pure ⟨rfl, l, l, rfl, hrk, hlo, hhi⟩
   ·rw [if_neg hge]
    refine wpS_bind (wpS_ltKK hO hB'.base h0 hk (by omega) ?_)
    cases hless : κ.blt (KK κ (arrOf st'') k) (KK κ (arrOf st'') ((l + r) / 2))
    case true =>
     simp only [if_true]
     refine wpS_pure ⟨rfl, l, (l + r) / 2, rfl, by omega, by omega, by omega, hlo, fun i h1 h2 => ?_⟩
     exact KeyOrd.klt_of_klt_of_kle hless (hss _ _ h1 h2)
    case false =>
     simp only [Bool.false_eq_true, if_false]
     refine wpS_pure ⟨rfl, (l + r) / 2 + 1, r, rfl, by omega, by omega, by omega, fun i h1 => ?_, hhi⟩
     exact KeyOrd.kle_trans (hss i ((l + r) / 2) (by omega) (by omega)) (show κ.kle _ _ from hless)
  case ipost =>
   rintro c st'' ⟨rfl, l, r, rfl, hlk, hlo, hhi⟩
   show wpS _ _ _ _ (do moveDown' k l; pure (ForInStep.yield (none, ()))) _ _
   rw [moveDown'_eq]
   refine wpS_bind (wpS_modify (wpS_pure ⟨rfl, ?_, ?_⟩))
   ·rw [show min (k + 1) n = k + 1 by omega]; exact hB'.bubble hk hlk
   ·rw [show min (k + 1) n = k + 1 by omega]
    exact stab_bubble (by rw [hB'.base.size]; exact hk) hlk hs' (fun i hi => bef_of (hlo i hi) (by rw [hB'.rest k (Nat.le_refl _) hk]; exact hB'.low i (by omega))) hhi
theorem wpS_ascLoopS {st : SortSt} {a nrem : Nat} {Q : AscSt -> SortSt -> Prop} (hO : κ.OneLt) (h0 : KeysOf κ a₀) (hn : nrem <= a₀.size) (ha : 1 <= a) (han : a <= nrem) (hB : SOk κ ρ a₀ st a)
 (hs : StabTo κ ρ (arrOf st) a)
 (h : ∀ n, a <= n -> n <= nrem -> SOk κ ρ a₀ st n -> StabTo κ ρ (arrOf st) n -> (n = nrem ∨ κ.klt (KK κ (arrOf st) n) (KK κ (arrOf st) (n - 1))) -> Q (none, n) st) :
 wpS (model prog w) A E s (ascLoop a nrem) Q st := by
 unfold ascLoop
 refine wpS_forRange (I := fun x c st' => st' = st ∧ c = (none, x) ∧ SOk κ ρ a₀ st x ∧ StabTo κ ρ (arrOf st) x) ?step ?fin ⟨rfl, rfl, hB, hs⟩
 case fin =>
  rintro c st' ⟨rfl, rfl, hB', hs'⟩
  rw [show max a nrem = nrem by omega] at hB' hs' ⊢
  exact h nrem han (Nat.le_refl _) hB' hs' (.inl rfl)
 case step =>
  rintro x c st' hax hxn ⟨rfl, rfl, hB', hs'⟩
  dsimp only
  refine wpS_bind (wpS_ltKK hO hB'.base h0 (by omega) (by omega) ?_)
  cases hless : κ.blt (KK κ (arrOf st') x) (KK κ (arrOf st') (x - 1))
  case true =>
   simp only [if_true]
   exact wpS_pure (h x hax (by omega) hB' hs' (.inr hless))
  case false =>
   simp only [Bool.false_eq_true, if_false]
   refine wpS_pure ⟨rfl, rfl, hB'.more (by omega), fun i j hij hj => ?_⟩
   by_cases hjx : j < x
   ·exact hs' i j hij hjx
   ·have hj' : j = x := by omega
    subst hj'
    refine bef_of (KeyOrd.kle_trans (hs'.sorted i (j - 1) (by omega) (by omega)) hless) ?_
    rw [hB'.rest j (Nat.le_refl _) (by omega)]; exact hB'.low i hij
end
end Mine.Internal
namespace Mine.Internal
set_option tactic.hygienic true
set_option backward.match.sparseCases true
open PySem PyProof.Rows
section
variable {prog : Program} {w : World} {A : Around} {E : Value -> Shared -> Prop} {s : Shared} {a₀ : Array Keyed} {κ : KeyKind} {ρ : Keyed -> Nat}
theorem mirror_src {xs : Array Keyed} {b m : Nat} (hm : m <= xs.size) (x : Nat) :
 (b <= x ∧ x < m ∧ (mirror xs b m ((m - b) / 2))[x]? = xs[b + m - 1 - x]?) ∨ ((x < b ∨ m <= x) ∧ (mirror xs b m ((m - b) / 2))[x]? = xs[x]?) := by
 have e := getElem?_mirror_all (i := b) hm x
 by_cases h1 : b <= x ∧ x < m
 ·rw [if_pos h1] at e; exact .inl ⟨h1.1, h1.2, e⟩
 ·rw [if_neg h1] at e; exact .inr ⟨by omega, e⟩
theorem SOk.mirror {st : SortSt} {b m : Nat} (h : SOk κ ρ a₀ st m) (hm : m <= a₀.size) : SOk κ ρ a₀ (setArr st (mirror (arrOf st) b m ((m - b) / 2))) m := by
 have hms : m <= (arrOf st).size := by rw [h.base.size]; exact hm
 refine ⟨h.base.setArr (mirror_perm _ _ _ _), fun i h1 h2 => ?_, fun i hi => ?_⟩
 ·show RR ρ (PyProof.Rows.mirror (arrOf st) b m ((m - b) / 2)) i = i
  rcases mirror_src (b := b) hms i with ⟨g1, g2, e⟩ | ⟨g1, e⟩
  ·omega
  ·rw [RR_congr e]; exact h.rest i h1 h2
 ·show RR ρ (PyProof.Rows.mirror (arrOf st) b m ((m - b) / 2)) i < m
  rcases mirror_src (b := b) hms i with ⟨g1, g2, e⟩ | ⟨g1, e⟩
  ·rw [RR_congr e]; exact h.low _ (by omega)
  ·rw [RR_congr e]; exact h.low _ hi
noncomputable def RevTo (κ : KeyKind) (ρ : Keyed -> Nat) (xs : Array Keyed) (n : Nat) : Prop := ∀ i j, i < j -> j < n -> Bef κ ρ xs j i
theorem rev_stab {xs : Array Keyed} {m : Nat} (hm : m <= xs.size) (h : RevTo κ ρ xs m) : StabTo κ ρ (mirror xs 0 m ((m - 0) / 2)) m := by
 intro i j hij hj
 rcases mirror_src (b := 0) hm i with ⟨g1, g2, e1⟩ | ⟨g1, e1⟩
 ·rcases mirror_src (b := 0) hm j with ⟨k1, k2, e2⟩ | ⟨k1, e2⟩
  ·exact Bef.congr (h (0 + m - 1 - j) (0 + m - 1 - i) (by omega) (by omega)) e1 e2
  ·omega
 ·omega
structure Dsc (κ : KeyKind) (ρ : Keyed -> Nat) (a₀ : Array Keyed) (st : SortSt) (x neq : Nat) : Prop where
 ok : SOk κ ρ a₀ st x
 le : neq + 1 <= x
 rev : ∀ i j, i < j -> j < x -> i < x - (neq + 1) -> Bef κ ρ (arrOf st) j i
 eq : ∀ i, x - (neq + 1) <= i -> i < x -> KK κ (arrOf st) i = KK κ (arrOf st) (x - 1) ∧ RR ρ (arrOf st) i = i
theorem Dsc.kle {st : SortSt} {x neq : Nat} (h : Dsc κ ρ a₀ st x neq) {i : Nat} (hi : i < x) : κ.kle (KK κ (arrOf st) (x - 1)) (KK κ (arrOf st) i) := by
 by_cases h1 : i < x - (neq + 1)
 ·exact (h.rev i (x - 1) (by omega) (by omega) h1).kle
 ·rw [(h.eq i (by omega) hi).1]; exact KeyOrd.kle_refl _
theorem Dsc.turn {st : SortSt} {x neq : Nat} (h : Dsc κ ρ a₀ st x neq) (hx : x <= a₀.size) :
 SOk κ ρ a₀ (setArr st (mirror (arrOf st) (x - (neq + 1)) x ((x - (x - (neq + 1))) / 2))) x ∧ RevTo κ ρ (mirror (arrOf st) (x - (neq + 1)) x ((x - (x - (neq + 1))) / 2)) x ∧
 ∀ k, KK κ (mirror (arrOf st) (x - (neq + 1)) x ((x - (x - (neq + 1))) / 2)) k = KK κ (arrOf st) k := by
 have hxs : x <= (arrOf st).size := by rw [h.ok.base.size]; exact hx
 have hle := h.le
 refine ⟨h.ok.mirror hx, fun i j hij hj => ?_, KK_mirror_equal hxs fun k h1 h2 => (h.eq k h1 h2).1⟩
 rcases mirror_src (b := x - (neq + 1)) hxs i with ⟨g1, g2, e1⟩ | ⟨g1, e1⟩
 ·rcases mirror_src (b := x - (neq + 1)) hxs j with ⟨k1, k2, e2⟩ | ⟨k1, e2⟩
  ·refine Bef.congr (.inr ⟨?_, ?_⟩) e2 e1
   ·rw [(h.eq _ (by omega) (by omega)).1]; exact (h.eq _ (by omega) (by omega)).1.symm
   ·rw [(h.eq _ (by omega) (by omega)).2, (h.eq _ (by omega) (by omega)).2]; omega
  ·omega
 ·rcases mirror_src (b := x - (neq + 1)) hxs j with ⟨k1, k2, e2⟩ | ⟨k1, e2⟩
  ·exact Bef.congr (h.rev i _ (by omega) (by omega) (by omega)) e2 e1
  ·exact Bef.congr (h.rev i j hij hj (by omega)) e2 e1
theorem Dsc.whole {st : SortSt} {x : Nat} (h : Dsc κ ρ a₀ st x 0) : RevTo κ ρ (arrOf st) x := fun i j hij hj => h.rev i j hij hj (by omega)
theorem dsc_less {st : SortSt} {x : Nat} (ok : SOk κ ρ a₀ st x) (hx : x < a₀.size) (h1 : 1 <= x) (rv : RevTo κ ρ (arrOf st) x) (hl : κ.klt (KK κ (arrOf st) x) (KK κ (arrOf st) (x - 1)))
 (hk : ∀ i, i < x -> κ.kle (KK κ (arrOf st) (x - 1)) (KK κ (arrOf st) i)) : Dsc κ ρ a₀ st (x + 1) 0 := by
 refine ⟨ok.more hx, by omega, fun i j hij hj hi => ?_, fun i h2 h3 => ?_⟩
 ·by_cases e : j = x
  ·subst e; exact .inl (KeyOrd.klt_of_klt_of_kle hl (hk i (by omega)))
  ·exact rv i j hij (by omega)
 ·have : i = x := by omega
  subst this
  exact ⟨rfl, ok.rest i (Nat.le_refl _) hx⟩
theorem Dsc.more {st : SortSt} {x neq : Nat} (h : Dsc κ ρ a₀ st x neq) (hx : x < a₀.size) (he : KK κ (arrOf st) x = KK κ (arrOf st) (x - 1)) : Dsc κ ρ a₀ st (x + 1) (neq + 1) := by
 have hle := h.le
 refine ⟨h.ok.more hx, by omega, fun i j hij hj hi => ?_, fun i h2 h3 => ?_⟩
 ·by_cases e : j = x
  ·subst e
   rcases h.rev i (j - 1) (by omega) (by omega) (by omega) with q | ⟨_, q⟩
   ·exact .inl (by rw [he]; exact q)
   ·rw [(h.eq (j - 1) (by omega) (by omega)).2] at q
    have := h.ok.low i (by omega)
    omega
  ·exact h.rev i j hij (by omega) (by omega)
 ·show KK κ (arrOf st) i = KK κ (arrOf st) x ∧ _
  by_cases e : i = x
  ·subst e; exact ⟨rfl, h.ok.rest i (Nat.le_refl _) hx⟩
  ·rw [he]; exact h.eq i (by omega) (by omega)
end
end Mine.Internal
namespace Mine.Internal
set_option tactic.hygienic true
set_option backward.match.sparseCases true
open PySem PyProof.Rows
section
variable {prog : Program} {w : World} {A : Around} {E : Value -> Shared -> Prop} {s : Shared} {a₀ : Array Keyed} {κ : KeyKind} {ρ : Keyed -> Nat}
theorem wpS_tail3S {st : SortSt} {n nrem : Nat} {Q : Option Nat -> SortSt -> Prop} (hO : κ.OneLt) (h0 : KeysOf κ a₀) (hn : nrem <= a₀.size) (h1 : 1 <= n) (hnn : n <= nrem) (hB : SOk κ ρ a₀ st n)
 (hs : RevTo κ ρ (arrOf st) n) (h : ∀ m st', SOk κ ρ a₀ st' m -> 1 <= m -> m <= nrem -> StabTo κ ρ (arrOf st') m -> Q (some m) st') :
 wpS (model prog w) A E s (tail3 n nrem) Q st := by
 unfold tail3
 have hsz : n <= (arrOf st).size := by rw [hB.base.size]; omega
 refine wpS_bind (wpS_reverse ?_)
 have hB' : SOk κ ρ a₀ (setArr st (mirror (arrOf st) 0 n ((n - 0) / 2))) n := hB.mirror (by omega)
 exact wpS_bind (wpS_ascLoopS hO h0 hn h1 hnn hB' (rev_stab hsz hs) fun m hm1 hm2 hBm hsm _ => wpS_pure (h m _ hBm (by omega) hm2 hsm))
theorem wpS_descLoopS {st : SortSt} {n nrem : Nat} {Q : DescSt -> SortSt -> Prop} (hO : κ.OneLt) (h0 : KeysOf κ a₀) (hn : nrem <= a₀.size) (h1 : 1 <= n) (hnn : n <= nrem) (hD : Dsc κ ρ a₀ st n 0)
 (h : ∀ m neq st', n <= m -> m <= nrem -> Dsc κ ρ a₀ st' m neq -> Q (none, m, neq) st') :
 wpS (model prog w) A E s (descLoop n nrem) Q st := by
 unfold descLoop
 refine wpS_forRange (I := fun x c st' => ∃ neq, c = (none, x, neq) ∧ Dsc κ ρ a₀ st' x neq) ?step ?fin ⟨0, rfl, hD⟩
 case fin =>
  rintro c st' ⟨neq, rfl, hD'⟩
  rw [show max n nrem = nrem by omega] at hD' ⊢
  exact h nrem neq st' hnn (Nat.le_refl _) hD'
 case step =>
  rintro x c st' hax hxn ⟨neq, rfl, hD'⟩
  dsimp only
  refine wpS_bind (wpS_ltKK hO hD'.ok.base h0 (by omega) (by omega) ?_)
  cases hless : κ.blt (KK κ (arrOf st') x) (KK κ (arrOf st') (x - 1))
  case true =>
   simp only [if_true]
   by_cases hneq : neq > 0
   ·rw [if_pos hneq]
    obtain ⟨t1, t2, t3⟩ := hD'.turn (by omega)
    refine wpS_bind (wpS_reverse (wpS_pure ⟨0, rfl, dsc_less t1 (by omega) (by omega) t2 ?_ ?_⟩))
    ·show κ.klt (KK κ (mirror (arrOf st') _ _ _) x) (KK κ (mirror (arrOf st') _ _ _) (x - 1))
     rw [t3, t3]; exact hless
    ·intro i hi
     show κ.kle (KK κ (mirror (arrOf st') _ _ _) (x - 1)) (KK κ (mirror (arrOf st') _ _ _) i)
     rw [t3, t3]; exact hD'.kle hi
   ·rw [if_neg hneq]
    have : neq = 0 := by omega
    subst this
    exact wpS_pure ⟨0, rfl, dsc_less hD'.ok (by omega) (by omega) hD'.whole hless fun i hi => hD'.kle hi⟩
  case false =>
   simp only [Bool.false_eq_true, if_false]
   refine wpS_bind (wpS_ltKK hO hD'.ok.base h0 (by omega) (by omega) ?_)
   cases hlarger : κ.blt (KK κ (arrOf st') (x - 1)) (KK κ (arrOf st') x)
   case true =>
    simp only [if_true]
    exact wpS_pure (h x neq st' hax (by omega) hD')
   case false =>
    simp only [Bool.false_eq_true, if_false]
    exact wpS_pure ⟨neq + 1, rfl, hD'.more (by omega) (KeyOrd.kle_antisymm hlarger hless)⟩
theorem wpS_descPartS {st : SortSt} {n nrem : Nat} {Q : Option Nat -> SortSt -> Prop} (hO : κ.OneLt) (h0 : KeysOf κ a₀) (hn : nrem <= a₀.size) (hnn : n + 1 <= nrem) (hD : Dsc κ ρ a₀ st (n + 1) 0)
 (h : ∀ m st', SOk κ ρ a₀ st' m -> 1 <= m -> m <= nrem -> StabTo κ ρ (arrOf st') m -> Q (some m) st') :
 wpS (model prog w) A E s (descPart n nrem) Q st := by
 unfold descPart
 refine wpS_bind (wpS_lift (wpAny_rule ⟨rfl, ?_⟩))
 refine wpS_bind (wpS_descLoopS hO h0 hn (by omega) hnn hD fun m neq st' hm1 hm2 hD' => ?_)
 dsimp only
 by_cases hneq : neq > 0
 ·rw [if_pos hneq]
  obtain ⟨t1, t2, _⟩ := hD'.turn (by omega)
  exact wpS_bind (wpS_reverse (wpS_tail3S hO h0 hn (by omega) hm2 t1 t2 h))
 ·rw [if_neg hneq]
  have : neq = 0 := by omega
  subst this
  exact wpS_tail3S hO h0 hn (by omega) hm2 hD'.ok hD'.whole h
theorem wpS_countRunS {st : SortSt} {nrem : Nat} {Q : Option Nat -> SortSt -> Prop} (hO : κ.OneLt) (h0 : KeysOf κ a₀) (hn : nrem <= a₀.size) (h1 : 1 <= nrem) (hB : SBase a₀ st)
 (hr : ∀ i, i < a₀.size -> RR ρ (arrOf st) i = i)
 (h : ∀ m st', SOk κ ρ a₀ st' m -> 1 <= m -> m <= nrem -> StabTo κ ρ (arrOf st') m -> Q (some m) st') :
 wpS (model prog w) A E s (countRun' 0 nrem) Q st := by
 have ok : ∀ n, n <= a₀.size -> SOk κ ρ a₀ st n := fun n hn => ⟨hB, fun i _ h2 => hr i h2, fun i hi => by rw [hr i (by omega)]; exact hi⟩
 rw [countRun0_eq]
 refine wpS_bind (wpS_ascLoopS hO h0 hn (Nat.le_refl 1) h1 (ok 1 (by omega)) (fun i j hij hj => by omega) fun n hn1 hn2 _ hsn hor => ?_)
 dsimp only
 by_cases hnn : n = nrem
 ·rw [if_pos (by simpa using hnn)]
  exact wpS_pure (h n st (ok n (by omega)) hn1 hn2 hsn)
 ·rw [if_neg (by simpa using hnn)]
  have hlt : κ.klt (KK κ (arrOf st) n) (KK κ (arrOf st) (n - 1)) := hor.resolve_left hnn
  by_cases hgt : n > 1
  ·rw [if_pos hgt]
   refine wpS_bind (wpS_ltKK hO hB h0 (by omega) (by omega) ?_)
   cases hrose : κ.blt (KK κ (arrOf st) 0) (KK κ (arrOf st) (n - 1))
   case true =>
    simp only [if_true]
    exact wpS_pure (h n st (ok n (by omega)) hn1 hn2 hsn)
   case false =>
    simp only [Bool.false_eq_true, if_false]
    have hsz : n <= (arrOf st).size := by rw [hB.size]; omega
    have hss := hsn.sorted
    have hall : ∀ k, 0 <= k -> k < n -> KK κ (arrOf st) k = KK κ (arrOf st) (n - 1) := by
     intro k _ hk
     have a1 := hss 0 k (by omega) hk
     have a2 := hss k (n - 1) (by omega) (by omega)
     exact KeyOrd.kle_antisymm a2 (KeyOrd.kle_trans hrose a1)
    have keq := KK_mirror_equal (κ := κ) hsz hall
    refine wpS_bind (wpS_reverse (wpS_descPartS hO h0 hn (by omega) (dsc_less ((ok n (by omega)).mirror (by omega)) (by omega) hn1 ?_ ?_ ?_) h))
    ·intro i j hij hj
     rcases mirror_src (b := 0) hsz i with ⟨g1, g2, e1⟩ | ⟨g1, e1⟩
     ·rcases mirror_src (b := 0) hsz j with ⟨k1, k2, e2⟩ | ⟨k1, e2⟩
      ·refine Bef.congr (.inr ⟨?_, ?_⟩) e2 e1
       ·rw [hall _ (by omega) (by omega)]; exact (hall _ (by omega) (by omega)).symm
       ·rw [hr _ (by omega), hr _ (by omega)]; omega
      ·omega
     ·omega
    ·show κ.klt (KK κ (mirror (arrOf st) _ _ _) n) (KK κ (mirror (arrOf st) _ _ _) (n - 1))
     rw [keq, keq]; exact hlt
    ·intro i hi
     show κ.kle (KK κ (mirror (arrOf st) _ _ _) (n - 1)) (KK κ (mirror (arrOf st) _ _ _) i)
     rw [keq, keq, hall i (by omega) hi]; exact KeyOrd.kle_refl _
  ·rw [if_neg hgt]
   have hn1' : n = 1 := by omega
   subst hn1'
   refine wpS_descPartS hO h0 hn (by omega) (dsc_less (ok 1 (by omega)) (by omega) (Nat.le_refl 1) (fun i j hij hj => by omega) hlt fun i hi => ?_) h
   have : i = 0 := by omega
   subst this; exact KeyOrd.kle_refl _
theorem wpS_sortRunsS {st : SortSt} {Q : Unit -> SortSt -> Prop} (hO : κ.OneLt) (h0 : KeysOf κ a₀) (hB : SBase a₀ st) (hr : ∀ i, i < a₀.size -> RR ρ (arrOf st) i = i) (h2 : 2 <= a₀.size) (h64 : a₀.size < 64)
 (h : ∀ st', (arrOf st').Perm a₀ -> failedOf st' = none -> StabTo κ ρ (arrOf st') a₀.size -> Q () st') : wpS (model prog w) A E s sortRuns' Q st := by
 rw [sortRuns'_eq]
 refine wpS_bind (wpS_get ?_)
 dsimp only
 have hmr : minRun' a₀.size a₀.size 0 = a₀.size := by
  obtain ⟨f, hf⟩ : ∃ f, a₀.size = f + 1 := ⟨a₀.size - 1, by omega⟩
  have : minRun' (f + 1) a₀.size 0 = a₀.size := by rw [minRun'_succ, if_pos h64]; rfl
  rwa [<- hf] at this
 simp only [hB.size, hmr]
 have fin : ∀ {st' : SortSt}, SOk κ ρ a₀ st' a₀.size -> StabTo κ ρ (arrOf st') a₀.size -> (arrOf (setPending st' ((pendingOf st').push (0, a₀.size, 0)))).Perm a₀ ∧ failedOf (setPending st' ((pendingOf st').push (0, a₀.size, 0))) = none ∧
  pendingOf (setPending st' ((pendingOf st').push (0, a₀.size, 0))) = #[(0, a₀.size, 0)] ∧ StabTo κ ρ (arrOf (setPending st' ((pendingOf st').push (0, a₀.size, 0)))) a₀.size :=
  fun ok hs => ⟨ok.base.perm, ok.base.failed, by show (pendingOf _).push _ = _; rw [ok.base.pend]; rfl, hs⟩
 refine wpS_bind (wpS_mono (wpS_forRange
  (I := fun x c st' => (x = 0 ∧ c = (none, 0) ∧ st' = st) ∨ (1 <= x ∧ c = (none, a₀.size) ∧ (arrOf st').Perm a₀ ∧ failedOf st' = none ∧ pendingOf st' = #[(0, a₀.size, 0)] ∧ StabTo κ ρ (arrOf st') a₀.size))
  (Q := fun c st' => c = (none, a₀.size) ∧ (arrOf st').Perm a₀ ∧ failedOf st' = none ∧ pendingOf st' = #[(0, a₀.size, 0)] ∧ StabTo κ ρ (arrOf st') a₀.size) ?step ?fin (.inl ⟨rfl, rfl, rfl⟩)) ?post)
 case fin =>
  rintro c st' (⟨hx, _, _⟩ | ⟨_, hc, hD⟩)
  ·omega
  ·exact ⟨hc, hD⟩
 case step =>
  rintro x c st' _ hx (⟨rfl, rfl, rfl⟩ | ⟨hx1, rfl, hD⟩)
  ·dsimp only
   rw [if_neg (by omega)]
   simp only [Nat.sub_zero, Nat.min_self, Nat.zero_add]
   refine wpS_bind (wpS_countRunS hO h0 (Nat.le_refl _) (by omega) hB hr fun m st2 hB2 hm1 hm2 hs2 => ?_)
   dsimp only
   by_cases hlt : m < a₀.size
   ·rw [if_pos hlt]
    refine wpS_bind (wpS_lift (wpAny_rule ⟨rfl, ?_⟩))
    refine wpS_bind (wpS_binarySortS hO h0 (Nat.le_refl _) hm2 hm1 hB2 hs2 fun st3 hB3 hs3 => ?_)
    simp only [Bool.not_true, Bool.false_eq_true, if_false]
    refine wpS_bind (wpS_get ?_)
    have hb : (pendingOf st3).back? = none := by rw [hB3.base.pend]; rfl
    rw [hb]
    dsimp only
    exact wpS_bind (wpS_modify (wpS_pure (.inr ⟨by omega, rfl, fin hB3 hs3⟩)))
   ·rw [if_neg hlt]
    have hm : m = a₀.size := by omega
    subst hm
    refine wpS_bind (wpS_get ?_)
    have hb : (pendingOf st2).back? = none := by rw [hB2.base.pend]; rfl
    rw [hb]
    dsimp only
    exact wpS_bind (wpS_modify (wpS_pure (.inr ⟨by omega, rfl, fin hB2 hs2⟩)))
  ·dsimp only
   rw [if_pos (Nat.le_refl _)]
   exact wpS_pure ⟨rfl, hD⟩
 case post =>
  rintro c st' ⟨rfl, hD⟩
  dsimp only
  refine wpS_bind (wpS_mono (wpS_forRange (I := fun _ c st'' => st'' = st' ∧ c = (none, ())) (Q := fun c st'' => st'' = st' ∧ c = (none, ())) ?_ (fun _ _ hh => hh) ⟨rfl, rfl⟩) ?_)
  ·rintro x c st'' _ _ ⟨rfl, rfl⟩
   refine wpS_bind (wpS_get ?_)
   rw [if_pos (by rw [hD.2.2.1]; exact Nat.le_refl 1)]
   exact wpS_pure ⟨rfl, rfl⟩
  ·rintro c st'' ⟨rfl, rfl⟩
   exact wpS_pure (h _ hD.1 hD.2.1 hD.2.2.2)
end
end Mine.Internal
namespace Mine.Internal
set_option tactic.hygienic true
set_option backward.match.sparseCases true
structure LinB {κ : Type} (lt : κ -> κ -> Bool) : Prop where
 irr : ∀ a, lt a a = false
 trans : ∀ a b c, lt a b = true -> lt b c = true -> lt a c = true
 total : ∀ a b, lt a b = false -> lt b a = false -> a = b
section
variable {κ α : Type} {lt : κ -> κ -> Bool} {R : κ × α -> κ × α -> Prop}
noncomputable def Ahead (lt : κ -> κ -> Bool) (R : κ × α -> κ × α -> Prop) (a b : κ × α) : Prop := lt a.1 b.1 = true ∨ (a.1 = b.1 ∧ R a b)
theorem insBy_perm (p : κ × α) (l : List (κ × α)) : (insBy lt p l).Perm (p :: l) := by
 induction l with
 | nil => exact .refl _
 | cons q r ih =>
  unfold insBy
  split
  ·exact (ih.cons q).trans (.swap ..)
  ·exact .refl _
theorem sortBy_perm (l : List (κ × α)) : (sortBy lt l).Perm l := by
 induction l with
 | nil => exact .refl _
 | cons p r ih => exact (insBy_perm p _).trans (ih.cons p)
theorem LinB.lt_of {h : LinB lt} {a b c : κ} (h1 : lt a b = true) (h2 : lt c b = false) : lt a c = true := by
 cases h3 : lt b c with
 | true => exact h.trans _ _ _ h1 h3
 | false => rw [<- h.total _ _ h3 h2]; exact h1
theorem insBy_stab (H : LinB lt) (p : κ × α) (l : List (κ × α)) (hl : l.Pairwise (Ahead lt R)) (hp : ∀ q ∈ l, R p q) : (insBy lt p l).Pairwise (Ahead lt R) := by
 induction l with
 | nil => exact List.pairwise_singleton ..
 | cons q r ih =>
  have h1 := List.pairwise_cons.mp hl
  unfold insBy
  split
  ·rename_i hq
   refine List.pairwise_cons.mpr ⟨fun x hx => ?_, ih h1.2 fun y hy => hp y (.tail _ hy)⟩
   rcases List.mem_cons.mp ((insBy_perm p r).mem_iff.mp hx) with rfl | hx
   ·exact .inl hq
   ·exact h1.1 x hx
  ·rename_i hq
   have hq : lt q.1 p.1 = false := by simpa using hq
   have first : Ahead lt R p q := by
    cases h3 : lt p.1 q.1 with
    | true => exact .inl h3
    | false => exact .inr ⟨H.total _ _ h3 hq, hp q (.head _)⟩
   refine List.pairwise_cons.mpr ⟨fun x hx => ?_, hl⟩
   rcases List.mem_cons.mp hx with rfl | hx'
   ·exact first
   ·rcases h1.1 x hx' with h4 | h4
    ·rcases first with h5 | h5
     ·exact .inl (H.trans _ _ _ h5 h4)
     ·exact .inl (by rw [h5.1]; exact h4)
    ·rcases first with h5 | h5
     ·exact .inl (by rw [<- h4.1]; exact h5)
     ·exact .inr ⟨h5.1.trans h4.1, hp x hx⟩
theorem sortBy_stab (H : LinB lt) (l : List (κ × α)) (hl : l.Pairwise R) : (sortBy lt l).Pairwise (Ahead lt R) := by
 induction l with
 | nil => exact .nil
 | cons p r ih =>
  have h1 := List.pairwise_cons.mp hl
  exact insBy_stab H p _ (ih h1.2) fun q hq => h1.1 q ((sortBy_perm r).mem_iff.mp hq)
end
theorem pair_unique {α : Type} {P : α -> α -> Prop} (asym : ∀ a b, P a b -> P b a -> False) : ∀ {l l' : List α}, l.Pairwise P -> l'.Pairwise P -> l.Perm l' -> l = l'
 | [], l', _, _, hp => (List.nil_perm.mp hp).symm
 | a :: l, l', h1, h2, hp => by
  cases l' with
  | nil => exact absurd hp.length_eq (by simp)
  | cons b l' =>
   have c1 := List.pairwise_cons.mp h1
   have c2 := List.pairwise_cons.mp h2
   have ab : a = b := by
    rcases List.mem_cons.mp (hp.mem_iff.mp (.head _)) with e | e
    ·exact e
    ·rcases List.mem_cons.mp (hp.mem_iff.mpr (.head l')) with e' | e'
     ·exact e'.symm
     ·exact (asym _ _ (c1.1 b e') (c2.1 a e)).elim
   subst ab
   rw [pair_unique asym c1.2 c2.2 (List.Perm.cons_inv hp)]
end Mine.Internal
namespace Mine.Internal
set_option tactic.hygienic true
open PySem PyProof.Rows
theorem sortBy_map {κ κ' α α' : Type} {lt : κ -> κ -> Bool} {lt' : κ' -> κ' -> Bool} (f : κ × α -> κ' × α') (h : ∀ p q, lt' (f p).1 (f q).1 = lt p.1 q.1) (l : List (κ × α)) : sortBy lt' (l.map f) = (sortBy lt l).map f := by
 have ins : ∀ (p : κ × α) (l : List (κ × α)), insBy lt' (f p) (l.map f) = (insBy lt p l).map f := by
  intro p l
  induction l with
  | nil => rfl
  | cons q r ih =>
   show (if lt' (f q).1 (f p).1 then f q :: insBy lt' (f p) (r.map f) else f p :: f q :: r.map f) = (if lt q.1 p.1 then q :: insBy lt p r else p :: q :: r).map f
   rw [h, ih]
   split <;> rfl
 induction l with
 | nil => rfl
 | cons p r ih =>
  show insBy lt' (f p) (sortBy lt' (r.map f)) = (insBy lt p (sortBy lt r)).map f
  rw [ih, ins]
theorem lin_of (κ : KeyKind) : LinB κ.blt := ⟨κ.irrefl, κ.trans, κ.total⟩
noncomputable abbrev intKey : KeyKind where
 α := Int
 blt a b := decide (a < b)
 irrefl a := decide_eq_false (Int.lt_irrefl a)
 trans a b c h1 h2 := decide_eq_true (Int.lt_trans (of_decide_eq_true h1) (of_decide_eq_true h2))
 negTrans a b c h := by
  have := of_decide_eq_true h
  by_cases hab : a < b
  ·exact .inl (decide_eq_true hab)
  ·exact .inr (decide_eq_true (by omega))
 total a b h1 h2 := by have := of_decide_eq_false h1; have := of_decide_eq_false h2; omega
 keyOf v := match v with | .int x _ => some x | _ => none
 dflt := 0
theorem intKey_oneLt : intKey.OneLt := by
 intro prog w A E s x y a b Q ha hb h
 cases x <;> simp only [intKey, reduceCtorEq, Option.some.injEq] at ha
 cases y <;> simp only [intKey, reduceCtorEq, Option.some.injEq] at hb
 cases ha; cases hb
 exact oneLt_int h
section
variable {κ : KeyKind} {γ : Type}
structure SortZ (κ : KeyKind) (Z : List (κ.α × (Keyed × γ))) : Prop where
 key : ∀ z ∈ Z, κ.keyOf z.2.1.1 = some z.1
 nd : (Z.map (·.2.1.2)).Nodup
noncomputable def placeOf (Z : List (κ.α × (Keyed × γ))) (p : Keyed) : Nat := (Z.map (·.2.1.2)).findIdx (· == p.2)
theorem place_at {Z : List (κ.α × (Keyed × γ))} (h : SortZ κ Z) {i : Nat} {z : κ.α × (Keyed × γ)} (e : Z[i]? = some z) : placeOf Z z.2.1 = i := by
 unfold placeOf
 obtain ⟨hi, he⟩ := List.getElem?_eq_some_iff.mp e
 have hl : i < (Z.map (·.2.1.2)).length := by rw [List.length_map]; exact hi
 refine (List.findIdx_eq hl).mpr ⟨by rw [List.getElem_map, he]; exact beq_self_eq_true _, fun j hj => ?_⟩
 refine beq_eq_false_iff_ne.mpr fun q => ?_
 have : j = i := (List.getElem_inj (h₀ := Nat.lt_trans hj hl) (h₁ := hl) h.nd).mp (by rw [q, List.getElem_map, he])
 omega
theorem rr_at {Z : List (κ.α × (Keyed × γ))} (h : SortZ κ Z) (i : Nat) (hi : i < Z.length) : RR (placeOf Z) (Z.map (·.2.1)).toArray i = i := by
 unfold RR
 rw [List.getElem?_toArray, List.getElem?_map, List.getElem?_eq_getElem hi]
 exact place_at h (List.getElem?_eq_getElem hi)
theorem kk_of {xs : Array Keyed} {i : Nat} (hi : i < xs.size) {a : κ.α} (e : κ.keyOf xs[i].1 = some a) : KK κ xs i = a := by
 unfold KK; rw [Array.getElem?_eq_getElem hi]; show (κ.keyOf xs[i].1).getD κ.dflt = a; rw [e]; rfl
theorem sort_is {Z : List (κ.α × (Keyed × γ))} (h : SortZ κ Z) {xs : Array Keyed} (hp : xs.Perm (Z.map (·.2.1)).toArray) (hs : StabTo κ (placeOf Z) xs xs.size) : xs.toList = (sortBy κ.blt Z).map (·.2.1) := by
 have hl : xs.toList.Perm (Z.map (·.2.1)) := by have := Array.perm_iff_toList_perm.mp hp; simpa using this
 let f : Keyed -> κ.α × Keyed := fun p => ((κ.keyOf p.1).getD κ.dflt, p)
 have key : ∀ p ∈ xs.toList, κ.keyOf p.1 = some (f p).1 := fun p hp' => by
  obtain ⟨z, hz, rfl⟩ := List.mem_map.mp (hl.mem_iff.mp hp')
  show _ = some ((κ.keyOf z.2.1.1).getD κ.dflt)
  rw [h.key z hz]; rfl
 have e1 : (Z.map fun z => (z.1, z.2.1)) = (Z.map (·.2.1)).map f := by
  rw [List.map_map]
  refine List.map_congr_left fun z hz => ?_
  show (z.1, z.2.1) = ((κ.keyOf z.2.1.1).getD κ.dflt, z.2.1)
  rw [h.key z hz]; rfl
 let R : κ.α × Keyed -> κ.α × Keyed -> Prop := fun a b => placeOf Z a.2 < placeOf Z b.2
 have hR : (Z.map fun z => (z.1, z.2.1)).Pairwise R := by
  rw [List.pairwise_map, List.pairwise_iff_getElem]
  intro i j hi hj hij
  show placeOf Z Z[i].2.1 < placeOf Z Z[j].2.1
  rw [place_at h (List.getElem?_eq_getElem hi), place_at h (List.getElem?_eq_getElem hj)]
  exact hij
 have h1 := sortBy_stab (lin_of κ) _ hR
 have h2 : (xs.toList.map f).Pairwise (Ahead κ.blt R) := by
  rw [List.pairwise_map, List.pairwise_iff_getElem]
  intro i j hi hj hij
  have hi' : i < xs.size := by simpa using hi
  have hj' : j < xs.size := by simpa using hj
  have b := hs i j hij hj'
  unfold Bef at b
  rw [kk_of hi' (a := (f xs[i]).1) (key _ (by simp)), kk_of hj' (a := (f xs[j]).1) (key _ (by simp))] at b
  have r1 : RR (placeOf Z) xs i = placeOf Z xs[i] := by unfold RR; rw [Array.getElem?_eq_getElem hi']
  have r2 : RR (placeOf Z) xs j = placeOf Z xs[j] := by unfold RR; rw [Array.getElem?_eq_getElem hj']
  rw [r1, r2] at b
  rw [Array.getElem_toList, Array.getElem_toList]
  exact b
 have h3 : (xs.toList.map f).Perm (sortBy κ.blt (Z.map fun z => (z.1, z.2.1))) := by
  refine (hl.map f).trans ?_
  rw [<- e1]
  exact (sortBy_perm _).symm
 have asym : ∀ a b, Ahead κ.blt R a b -> Ahead κ.blt R b a -> False := fun a b q q' => by
  rcases q with q | q <;> rcases q' with q' | q'
  ·have := κ.trans _ _ _ q q'; rw [κ.irrefl] at this; cases this
  ·rw [q'.1, κ.irrefl] at q; cases q
  ·rw [q.1, κ.irrefl] at q'; cases q'
  ·have x1 : placeOf Z a.2 < placeOf Z b.2 := q.2
   have x2 : placeOf Z b.2 < placeOf Z a.2 := q'.2
   omega
 have h4 := pair_unique asym h2 h1 h3
 have h5 := sortBy_map (lt := κ.blt) (lt' := κ.blt) (fun z : κ.α × (Keyed × γ) => (z.1, z.2.1)) (fun _ _ => rfl) Z
 rw [h5] at h4
 have h6 := congrArg (List.map Prod.snd) h4
 rw [List.map_map, List.map_map] at h6
 have : (Prod.snd ∘ f) = id := rfl
 rw [this, List.map_id] at h6
 exact h6
end
end Mine.Internal
namespace Mine.Internal
set_option tactic.hygienic true
set_option maxRecDepth 100000
set_option maxHeartbeats 4000000
open PySem PyProof.Rows
section
variable {prog : Program} {w : World} {A : Around} {E : Value -> Shared -> Prop} {s : Shared} {a kS : Addr} {b : Bool} {vs : List Value} {keys : Array Value} {e e1 : Nat} {P : PySem.Fin -> Shared -> Prop}
theorem upd_list {h : Heap} {a : Addr} {xs : Array Value} {n : Nat} (ho : h.get? a = some (seqObj "list" xs n)) (out : Array Value) : ∃ c, (h.update a (Obj.mapSeq fun _ => out)).get? a = some (seqObj "list" out c) := ⟨_, get?_update_seq ho fun _ => out⟩
theorem push_list {h : Heap} {a : Addr} {xs : Array Value} {n : Nat} (ho : h.get? a = some (seqObj "list" xs n)) (v : Value) : ∃ c, (h.update a (Obj.mapSeq (·.push v))).get? a = some (seqObj "list" (xs.push v) c) := ⟨_, get?_update_seq ho (·.push v)⟩
noncomputable def But2 (a b : Addr) (h h' : Heap) : Prop := ∀ x o, x ≠ a -> x ≠ b -> h.get? x = some o -> h'.get? x = some o
theorem sort_tail {st : SortSt} (hS : s.heap.get? kS = some (seqObj "list" keys e)) (hA : s.heap.get? a = some (seqObj "list" #[] e1)) (hka : kS ≠ a) (hsz : keys.size <= sizeLine) (hout : (arrOf st).size <= sizeLine) (hfl : failedOf st = none)
 (h : ∀ h' c, But2 a kS s.heap h' -> h'.get? a = some (seqObj "list" (if b = true then ((arrOf st).map (·.2)).reverse else (arrOf st).map (·.2)) c) -> P (.done (.ret .none)) { s with heap := h' }) :
 wpAny (model prog w) A (ksk_tail a b e1 (.ref kS) st) P E s := by
 have s1 := Heap.SameBut.update s.heap kS (Obj.mapSeq fun _ => (#[] : Array Value))
 have na1 : (s.heap.update kS (Obj.mapSeq fun _ => (#[] : Array Value))).get? a = some (seqObj "list" #[] e1) := (s1.2 a hka.symm).trans hA
 have s2 := Heap.SameBut.update (s.heap.update kS (Obj.mapSeq fun _ => (#[] : Array Value))) a (Obj.mapSeq fun _ => if b = true then ((arrOf st).map (·.2)).reverse else (arrOf st).map (·.2))
 obtain ⟨c2, hc2⟩ := upd_list na1 (if b = true then ((arrOf st).map (·.2)).reverse else (arrOf st).map (·.2))
 have ho : (if b = true then ((arrOf st).map (·.2)).reverse else (arrOf st).map (·.2)).size <= sizeLine := by
  cases b with
  | false => rw [if_neg Bool.false_ne_true, Array.size_map]; exact hout
  | true => rw [if_pos rfl, Array.size_reverse, Array.size_map]; exact hout
 unfold ksk_tail
 dsimp only
 refine wpAny_bind (listUpdate_at hS rfl ?_ hsz (Nat.zero_le _))
 refine wpAny_bind (wpAny_letGo ?_)
 refine wpAny_bind (seqEpoch_at na1 rfl ?_)
 refine wpAny_bind (listUpdate_at na1 rfl ?_ (Nat.zero_le _) (Nat.le_succ_of_le ho))
 rw [hfl]
 simp only [bne_self_eq_false, Bool.false_eq_true, if_false]
 exact wpAny_pure (h _ c2 (fun x o h1 h2 ho => (s2.2 x h1).trans ((s1.2 x h2).trans ho)) hc2)
noncomputable def outOf {κ : KeyKind} {γ : Type} (b : Bool) (Z : List (κ.α × (Keyed × γ))) : List (κ.α × (Keyed × γ)) := match b with | true => (sortBy κ.blt Z.reverse).reverse | false => sortBy κ.blt Z
theorem out_perm {κ : KeyKind} {γ : Type} (b : Bool) (Z : List (κ.α × (Keyed × γ))) : (outOf b Z).Perm Z := by
 cases b with
 | true => exact (List.reverse_perm _).trans ((sortBy_perm _).trans (List.reverse_perm _))
 | false => exact sortBy_perm _
theorem sort_end {κ : KeyKind} {γ : Type} (hO : κ.OneLt) {Z : List (κ.α × (Keyed × γ))} (hz : SortZ κ Z) (hk : keys.zip vs.toArray = (Z.map (·.2.1)).toArray) (hlen : keys.size = vs.length) (hkk : 2 <= keys.size -> keyKind' keys = pure oneType') (h64 : vs.length < 64)
 (hS : s.heap.get? kS = some (seqObj "list" keys e)) (hA : s.heap.get? a = some (seqObj "list" #[] e1)) (hka : kS ≠ a)
 (h : ∀ h' c, But2 a kS s.heap h' -> h'.get? a = some (seqObj "list" ((outOf b Z).map (·.2.1.2)).toArray c) -> P (.done (.ret .none)) { s with heap := h' }) :
 wpAny (model prog w) A (ksk_end a b vs.toArray e1 (.ref kS) keys) P E s := by
 have hzl : (keys.zip vs.toArray).size = vs.length := by rw [Array.size_zip, hlen, List.size_toArray, Nat.min_self]
 have hZ : Z.length = vs.length := by rw [<- hzl, hk, List.size_toArray, List.length_map]
 have step : ∀ t : Sem PySem.Fin, wpAny (model prog w) A t P E s -> wpAny (model prog w) A (if b = true then (do let _ <- rule "list.sort.reverse"; t) else t) P E s := by
  intro t ht
  split
  ·exact wpAny_bind (wpAny_rule ht)
  ·exact ht
 -- the things in the order in which they are sorted
 obtain ⟨Y, hY⟩ : ∃ Y, Y = (if b = true then Z.reverse else Z) := ⟨_, rfl⟩
 have hYl : Y.length = vs.length := by rw [hY]; split <;> simp [hZ]
 have hYz : SortZ κ Y := by
  rw [hY]
  split
  ·exact ⟨fun z hz' => hz.key z (List.mem_reverse.mp hz'), by rw [List.map_reverse]; exact (List.reverse_perm _).nodup_iff.mpr hz.nd⟩
  ·exact hz
 have hstart : (if b = true then (keys.zip vs.toArray).reverse else keys.zip vs.toArray) = (Y.map (·.2.1)).toArray := by
  rw [hk, hY]
  cases b with
  | false => rfl
  | true => rw [if_pos rfl, if_pos rfl, List.map_reverse]; simp
 have fin : ∀ st : SortSt, (arrOf st).Perm (Y.map (·.2.1)).toArray -> StabTo κ (placeOf Y) (arrOf st) (arrOf st).size -> failedOf st = none -> wpAny (model prog w) A (ksk_tail a b e1 (.ref kS) st) P E s := by
  intro st hp hs hf
  have hsz : (arrOf st).size = vs.length := by rw [hp.size_eq, List.size_toArray, List.length_map, hYl]
  refine sort_tail hS hA hka (by rw [hlen, sizeLine_eq]; omega) (by rw [hsz, sizeLine_eq]; omega) hf fun h' c hb ha => h h' c hb ?_
  rw [ha]
  have e3 := sort_is hYz hp hs
  congr 2
  apply Array.toList_inj.mp
  rw [hY] at e3
  cases b with
  | false =>
   rw [if_neg Bool.false_ne_true, Array.toList_map, e3, if_neg Bool.false_ne_true, List.map_map]; rfl
  | true =>
   rw [if_pos rfl, Array.toList_reverse, Array.toList_map, e3, if_pos rfl, List.map_map]
   show _ = ((sortBy κ.blt Z.reverse).reverse.map _)
   rw [List.map_reverse]; rfl
 unfold ksk_end
 dsimp only
 refine step _ ?_
 rw [hstart]
 by_cases h2 : vs.toArray.size < 2
 ·rw [if_pos h2, if_pos h2]
  refine wpAny_bind (wpAny_pure ?_)
  rw [StateT.run_pure]
  refine wpAny_bind (wpAny_pure ?_)
  dsimp only
  refine fin (SortSt.mk' general' (Y.map (·.2.1)).toArray #[] 7 none) (Array.Perm.refl _) (fun i j hij hj => ?_) rfl
  have hj2 : j < (Y.map (·.2.1)).toArray.size := hj
  rw [List.size_toArray, List.length_map, hYl] at hj2
  rw [List.size_toArray] at h2
  omega
 ·rw [if_neg h2, if_neg h2]
  rw [List.size_toArray] at h2
  have hY2 : (Y.map (·.2.1)).toArray.size = vs.length := by rw [List.size_toArray, List.length_map, hYl]
  rw [hkk (by omega)]
  refine wpAny_bind (wpAny_pure ?_)
  have hkeys : PyProof.Rows.KeysOf κ (Y.map (·.2.1)).toArray := fun p hp => by
   obtain ⟨z, hz', rfl⟩ := List.mem_map.mp (show p ∈ Y.map (·.2.1) from by simpa using hp)
   exact ⟨z.1, hYz.key z hz'⟩
  have hrr : ∀ i, i < (Y.map (·.2.1)).toArray.size -> RR (placeOf Y) (Y.map (·.2.1)).toArray i = i := fun i hi => rr_at hYz i (by rw [hY2, <- hYl] at hi; exact hi)
  generalize (Y.map (·.2.1)).toArray = a₀ at hkeys hrr hY2 fin ⊢
  have run : wpS (model prog w) A E s sortRuns' (fun _ st' => (arrOf st').Perm a₀ ∧ failedOf st' = none ∧ StabTo κ (placeOf Y) (arrOf st') a₀.size) (SortSt.mk' oneType' a₀ #[] 7 none) :=
   wpS_sortRunsS (κ := κ) (ρ := placeOf Y) hO hkeys ⟨Array.Perm.refl _, rfl, rfl, rfl⟩ hrr (by rw [hY2]; omega) (by rw [hY2]; exact h64) fun st' a1 a2 a3 => ⟨a1, a2, a3⟩
  refine wpAny_bind (wpAny_mono run ?_ fun _ _ e => e)
  rintro ⟨⟨⟩, st'⟩ s' ⟨rfl, hp, hf, hs⟩
  dsimp only
  exact fin st' hp (by rw [hp.size_eq]; exact hs) hf
end
end Mine.Internal
namespace Mine.Internal
set_option tactic.hygienic true
set_option maxRecDepth 100000
open PySem PyProof.Rows
theorem rep_all {δ : Type} {fz : Addr -> Option Obj} {d : δ -> PyData} {v : δ -> Value} : ∀ {l : List δ}, (∀ z ∈ l, RepD fz (d z) (v z)) -> RepDs fz (l.map d) (l.map v)
 | [], _ => trivial
 | z :: l, h => ⟨h z (.head _), rep_all fun y hy => h y (.tail _ hy)⟩
theorem RepDs.at_ {fz : Addr -> Option Obj} : ∀ {ds : List PyData} {vs : List Value} {j : Nat} {d : PyData} {v : Value}, RepDs fz ds vs -> ds[j]? = some d -> vs[j]? = some v -> RepD fz d v
 | _ :: _, _ :: _, 0, _, _, r, e1, e2 => by obtain rfl := Option.some.inj e1; obtain rfl := Option.some.inj e2; exact r.1
 | _ :: _, _ :: _, j + 1, _, _, r, e1, e2 => RepDs.at_ (j := j) r.2 e1 e2
 | [], _, _, _, _, _, e1, _ => by simp at e1
 | _ :: _, [], _, _, _, r, _, _ => r.elim
theorem vals_nodup {fz : Addr -> Option Obj} {ds : List PyData} {vs : List Value} (r : RepDs fz ds vs) (h : ds.Nodup) : vs.Nodup := by
 rw [List.Nodup, List.pairwise_iff_getElem]
 intro i j hi hj hij q
 have hl := r.length
 have h1 := r.at_ (List.getElem?_eq_getElem (show i < ds.length by omega)) (List.getElem?_eq_getElem hi)
 have h2 := r.at_ (List.getElem?_eq_getElem (show j < ds.length by omega)) (List.getElem?_eq_getElem hj)
 rw [q] at h1
 have e := RepD.inj _ _ _ h1 h2
 have := (List.getElem_inj (h₀ := by omega) (h₁ := by omega) h).mp e
 omega
theorem sort_ready {κ : KeyKind} {β : Type} {fz : Addr -> Option Obj} (emb : β -> κ.α) (lt : β -> β -> Bool) (hlt : ∀ x y, κ.blt (emb x) (emb y) = lt x y) {bs : List β} {kA : Array Value} {vs : List Value} {xs : List PyData} (hkey : ∀ (j : Nat) (x : Value) (y : β), kA.toList[j]? = some x -> bs[j]? = some y -> κ.keyOf x = some (emb y)) (hk : kA.size = bs.length) (hb : bs.length = vs.length)
 (r : RepDs fz xs vs) (nd : xs.Nodup) : ∃ Z : List (κ.α × (Keyed × PyData)), SortZ κ Z ∧ kA.zip vs.toArray = (Z.map (·.2.1)).toArray ∧ ∀ rev, RepDs fz (sortOut rev lt (bs.zip xs)) ((outOf rev Z).map (·.2.1.2)) := by
 have hx := r.length
 have hkl : kA.toList.length = bs.length := by simpa using hk
 obtain ⟨Y, hY⟩ : ∃ Y : List (β × (Keyed × PyData)), Y = bs.zip ((kA.toList.zip vs).zip xs) := ⟨_, rfl⟩
 have mem : ∀ y ∈ Y, ∃ j : Nat, bs[j]? = some y.1 ∧ kA.toList[j]? = some y.2.1.1 ∧ vs[j]? = some y.2.1.2 ∧ xs[j]? = some y.2.2 := fun y hy => by
  obtain ⟨j, hj⟩ := List.mem_iff_getElem?.mp hy
  rw [hY] at hj
  obtain ⟨h1, h2⟩ := List.getElem?_zip_eq_some.mp hj
  obtain ⟨h3, h4⟩ := List.getElem?_zip_eq_some.mp h2
  obtain ⟨h5, h6⟩ := List.getElem?_zip_eq_some.mp h3
  exact ⟨j, h1, h5, h6, h4⟩
 have e1 : Y.map (fun y => y.2.1) = kA.toList.zip vs := by
  have : Y.map (fun y => y.2.1) = (Y.map (·.2)).map (·.1) := by rw [List.map_map]; rfl
  rw [this, hY, List.map_snd_zip (by simp; omega), List.map_fst_zip (by simp; omega)]
 have e2 : Y.map (fun y => (y.1, y.2.2)) = bs.zip xs := by
  refine List.ext_getElem? fun j => ?_
  rw [List.getElem?_map, hY]
  by_cases hj : j < bs.length
  ·have a1 : bs[j]? = some bs[j] := List.getElem?_eq_getElem hj
   have a2 : kA.toList[j]? = some (kA.toList[j]'(by omega)) := List.getElem?_eq_getElem _
   have a3 : vs[j]? = some (vs[j]'(by omega)) := List.getElem?_eq_getElem _
   have a4 : xs[j]? = some (xs[j]'(by omega)) := List.getElem?_eq_getElem _
   have b1 : (bs.zip ((kA.toList.zip vs).zip xs))[j]? = some (bs[j], ((kA.toList[j]'(by omega), vs[j]'(by omega)), xs[j]'(by omega))) :=
    List.getElem?_zip_eq_some.mpr ⟨a1, List.getElem?_zip_eq_some.mpr ⟨List.getElem?_zip_eq_some.mpr ⟨a2, a3⟩, a4⟩⟩
   have b2 : (bs.zip xs)[j]? = some (bs[j], xs[j]'(by omega)) := List.getElem?_zip_eq_some.mpr ⟨a1, a4⟩
   rw [b1, b2]; rfl
  ·rw [List.getElem?_eq_none (by simp; omega), List.getElem?_eq_none (by simp; omega)]; rfl
 refine ⟨Y.map fun y => (emb y.1, y.2), ⟨fun z hz => ?_, ?_⟩, ?_, fun rev => ?_⟩
 ·obtain ⟨y, hy, rfl⟩ := List.mem_map.mp hz
  obtain ⟨j, h1, h2, _⟩ := mem y hy
  exact hkey j _ _ h2 h1
 ·rw [List.map_map]
  have : Y.map ((fun z : κ.α × (Keyed × PyData) => z.2.1.2) ∘ fun y => (emb y.1, y.2)) = (Y.map fun y => y.2.1).map (·.2) := by rw [List.map_map]; rfl
  rw [this, e1, List.map_snd_zip (by omega)]
  exact vals_nodup r nd
 ·rw [List.map_map]
  show _ = (Y.map fun y => y.2.1).toArray
  rw [e1]
  apply Array.toList_inj.mp
  simp
 ·have m1 : ∀ L : List (β × (Keyed × PyData)), sortBy κ.blt (L.map fun y => (emb y.1, y.2)) = (sortBy lt L).map fun y => (emb y.1, y.2) := fun L => sortBy_map _ (fun p q => hlt _ _) L
  have m2 : ∀ L : List (β × (Keyed × PyData)), sortBy lt (L.map fun y => (y.1, y.2.2)) = (sortBy lt L).map fun y => (y.1, y.2.2) := fun L => sortBy_map (lt := lt) (lt' := lt) (fun y : β × (Keyed × PyData) => (y.1, y.2.2)) (fun p q => rfl) L
  have good : ∀ L : List (β × (Keyed × PyData)), (∀ y ∈ L, y ∈ Y) -> RepDs fz (L.map fun y => y.2.2) (L.map fun y => y.2.1.2) := fun L hL => rep_all fun y hy => by
   obtain ⟨j, _, _, h3, h4⟩ := mem y (hL y hy)
   exact r.at_ h4 h3
  cases rev with
  | false =>
   show RepDs fz ((sortBy lt (bs.zip xs)).map (·.2)) ((sortBy κ.blt (Y.map fun y => (emb y.1, y.2))).map (·.2.1.2))
   rw [<- e2, m1, m2, List.map_map, List.map_map]
   exact good _ fun y hy => (sortBy_perm _).mem_iff.mp hy
  | true =>
   show RepDs fz ((sortBy lt (bs.zip xs).reverse).reverse.map (·.2)) ((sortBy κ.blt (Y.map fun y => (emb y.1, y.2)).reverse).reverse.map (·.2.1.2))
   rw [<- e2, <- List.map_reverse, <- List.map_reverse, m1, m2, <- List.map_reverse, <- List.map_reverse, List.map_map, List.map_map]
   exact good _ fun y hy => List.mem_reverse.mp ((sortBy_perm _).mem_iff.mp (List.mem_reverse.mp hy))
section
variable {T : Top} {fs : List Addr} {g g' : G} {σ σ' : Store} {s s' : Shared} {D kS : Addr}
theorem sort_made {fz : Bool} {h' : Heap} {out : Array Value} {c : Nat} {vs' : List V} (S : Step T g.mu fs g s g' σ' s') (hD : g'.fz D = none ∧ D ∉ g'.mu) (hk : g'.fz kS = none ∧ kS ∉ g'.mu) (hD0 : s.heap.get? D = none) (hk0 : s.heap.get? kS = none) (hb : But2 D kS s'.heap h')
 (ho : h'.get? D = some (seqObj "list" out c)) (hr : RepVs T g' vs' out.toList) (hw : mkList fz vs' σ' ≠ .bad) : OkR T fs g s (RepV T) (mkList fz vs' σ') (.ref D) { s' with heap := h' } := by
 have stp := S.rest (its := [D, kS]) (h' := h') (fun c hc => by
  rcases List.mem_cons.mp hc with rfl | hc
  ·exact hD
  ·rw [List.mem_singleton.mp hc]; exact hk) (fun c hc => by
  rcases List.mem_cons.mp hc with rfl | hc
  ·exact hD0
  ·rw [List.mem_singleton.mp hc]; exact hk0) fun c o hc e => hb c o (fun q => hc (q ▸ .head _)) (fun q => hc (by rw [q]; exact .tail _ (.head _))) e
 obtain ⟨v, σ₂, g₂, e1, e2, e3, e4, e5, e6⟩ := made_own (fz := fz) stp.st ⟨hD.1, hD.2, _, ho⟩ ho hr hw
 refine ⟨v, σ₂, g₂, e1, ⟨stp.le.trans e3, e2, stp.kept, ⟨fun c hc => ?_, fun c o hc => ?_⟩, stp.gens, stp.os⟩, e4⟩
 ·rcases e5 c hc with q | q
  ·exact stp.new.mu c q
  ·exact .inr (q ▸ hD0)
 ·rcases e6 c o hc with q | q
  ·exact stp.new.fz c o q
  ·exact .inr (.inl (q ▸ hD0))
end
end Mine.Internal
namespace Mine.Internal
set_option tactic.hygienic true
set_option maxRecDepth 100000
set_option maxHeartbeats 4000000
open PySem PySem.Calls PyProof.Rows
section
variable {T : Top} {K : Kx} {C : Cfg} {fe : List Env} {own : List Addr} {env : Env} {A : Around} {n : Nat} {ρ : Vars} {g : G} {σ : Store} {s : Shared}
structure KeysAt (T : Top) (K : Kx) (fe : List Env) (own : List Addr) (env : Env) (ρ : Vars) (F : V -> Store -> Res V) (whole : Res (List V)) (D kS : Addr) (e1 : Nat) (g₀ : G) (s₀ : Shared) (ws : List V) (ks : List V) (kA : Array Value) (g : G) (σ : Store) (s : Shared) : Prop where
 eq : whole = (keysGo F ws σ).bind fun r σ' => .ok (ks ++ r) σ'
 step : Step T g₀.mu (frsOf fe) g₀ s₀ g σ s
 inv : Inv T fe own K.wr env K.vars ρ g σ s.heap
 ho : ∃ e, s.heap.get? kS = some (seqObj "list" kA e)
 hd : s.heap.get? D = some (seqObj "list" #[] e1)
 rep : RepVs T g ks kA.toList
 ak : g.fz kS = none ∧ kS ∉ g.mu
 ad : g.fz D = none ∧ D ∉ g.mu
theorem apart_step {X fs : List Addr} {g g' : G} {σ' : Store} {s s' : Shared} {a : Addr} {o : Obj} (x : Step T X fs g s g' σ' s') (h : g.fz a = none ∧ a ∉ g.mu) (e : s.heap.get? a = some o) : g'.fz a = none ∧ a ∉ g'.mu := by
 have := Apart.step x ⟨h.1, h.2, o, e⟩
 exact ⟨this.1, this.2.1⟩
theorem sort_keys {key : E} {i : Nat} {nm : Str} {ap : Pos} {b : Expr} {sc : Scope} {f D kS : Addr} {e1 : Nat} {rev fz : Bool} {ws : List V} {vs : List Value} {g₁ : G} {σ₁ : Store} {s₁ : Shared} {P : PySem.Fin -> Shared -> Prop} {E : Value -> Shared -> Prop} (hs : SE key) (lo : LmOk K i nm sc) (hb : IsE key (K.lsub nm sc) b) (cx : Cx T K C fe env A n)
 (S : Step T g.mu (frsOf fe) g s g₁ σ₁ s₁) (I : Inv T fe own K.wr env K.vars ρ g₁ σ₁ s₁.heap) (lm : LamAt T g₁ env nm ap b sc f) (r : RepVs T g₁ ws vs) (hD0 : s.heap.get? D = none) (hk0 : s.heap.get? kS = none) (hDk : kS ≠ D) (hfD : D ∉ frsOf fe) (hfk : kS ∉ frsOf fe)
 (hD : s₁.heap.get? D = some (seqObj "list" #[] e1)) (hk : s₁.heap.get? kS = some (seqObj "list" #[] 0)) (aD : g₁.fz D = none ∧ D ∉ g₁.mu) (ak : g₁.fz kS = none ∧ kS ∉ g₁.mu) (avD : D ∉ avOf fe own env) (avk : kS ∉ avOf fe own env)
 (hr : ((keysGo (fun v σ => evalE C.still key (ρ.set i (some v)) σ) ws σ₁).bind fun ks σ => sortK fz rev ws ks σ) ≠ .bad)
 (h : ∀ s', OkR T (frsOf fe) g s (RepV T) ((keysGo (fun v σ => evalE C.still key (ρ.set i (some v)) σ) ws σ₁).bind fun ks σ => sortK fz rev ws ks σ) (.ref D) s' -> P (.done (.ret .none)) s') :
 wpAny (model T.prog T.w) A.in1.in1 (ksk_rest D (.ref f) rev vs.toArray e1 (.ref kS)) P E s₁ := by
 -- what is sorted is plain, and few
 have hall : ∃ xs, allD ws = some xs ∧ xs.Nodup ∧ xs.length < 64 := by
  induction ek : keysGo (fun v σ => evalE C.still key (ρ.set i (some v)) σ) ws σ₁ with
  | bad => rw [ek] at hr; exact absurd rfl hr
  | ok ks σ' =>
   rw [ek] at hr
   have hr : sortK fz rev ws ks σ' ≠ .bad := hr
   unfold sortK at hr
   induction ea : allD ws with
   | none => rw [ea] at hr; exact absurd rfl hr
   | some xs =>
    rw [ea] at hr
    refine ⟨xs, rfl, Classical.byContradiction fun q => hr ?_⟩
    exact if_neg q
 obtain ⟨xs, hxs, hnd, h64⟩ := hall
 have hlw : ws.length = vs.length := r.length
 have hxl : xs.length = vs.length := (RepDs.ofV r hxs).length
 generalize hF : (fun v σ => evalE C.still key (ρ.set i (some v)) σ) = F at hr h
 have hF' : ∀ v σ, F v σ = evalE C.still key (ρ.set i (some v)) σ := fun v σ => by rw [<- hF]
 unfold ksk_rest
 refine wpAny_bind (wpAny_rule ?_)
 rw [List.forIn_toArray]
 refine wpAny_bind (ksk_fold (fun j s' => ∃ ks kA g' σ', KeysAt T K fe own env ρ F (keysGo F ws σ₁) D kS e1 g s (ws.drop j) ks kA g' σ' s' ∧ G.le g₁ g' ∧ ks.length = j) vs 0 s₁ ⟨[], #[], g₁, σ₁, ⟨?_, S, I, ⟨0, hk⟩, hD, trivial, ak, aD⟩, .refl _, rfl⟩ ?step ?done)
 ·rw [List.drop_zero]
  cases keysGo F ws σ₁ <;> rfl
 case step =>
  rintro j x s' hx ⟨ks, kA, g', σ', P', le, hj⟩
  rw [Nat.zero_add] at P' hj ⊢
  have hjl : j < vs.length := (List.getElem?_eq_some_iff.mp hx).1
  have hw : ws[j]? = some (ws[j]'(by omega)) := List.getElem?_eq_getElem _
  obtain ⟨x', hx', rx⟩ := r.get hw
  obtain rfl := Option.some.inj (hx.symm.trans hx')
  have ed : ws.drop j = ws[j]'(by omega) :: ws.drop (j + 1) := List.drop_eq_getElem_cons _
  generalize ws[j]'(by omega) = w at rx ed
  have eq := P'.eq
  rw [ed] at eq
  have eq : keysGo F ws σ₁ = ((F w σ').bind fun k σ => (keysGo F (ws.drop (j + 1)) σ).bind fun r σ => .ok (k :: r) σ).bind fun r σ' => .ok (ks ++ r) σ' := eq
  have hwb : F w σ' ≠ .bad := fun q => hr (by rw [eq, q]; rfl)
  rw [hF'] at hwb
  have t := lam_call (i := i) (v := w) hs lo hb cx P'.inv (lm.mono le) (RepV.mono le _ _ rx) hwb
  refine wpAny_bind (wpAny_attempt (wpAny_mono t (fun k s'' hz => ?_) fun _ _ hf => hf.elim))
  obtain ⟨kv, σ'', g'', e2, st, rk⟩ := hz
  dsimp only
  obtain ⟨e, hok⟩ := P'.ho
  have nk : s''.heap.get? kS = some (seqObj "list" kA e) := st.kept.same kS _ hok P'.ak.2 hfk
  have nd : s''.heap.get? D = some (seqObj "list" #[] e1) := st.kept.same D _ P'.hd P'.ad.2 hfD
  have ak2 := apart_step st P'.ak hok
  have ad2 := apart_step st P'.ad P'.hd
  obtain ⟨c2, hc2⟩ := push_list nk k
  have hsz : kA.size = j := by rw [<- Array.length_toList, <- P'.rep.length, hj]
  refine wpAny_bind (listUpdate_at nk rfl ?_ (by rw [hsz, sizeLine_eq]; omega) (Nat.le_trans (Nat.le_of_eq (Array.size_push ..)) (by rw [hsz, sizeLine_eq]; omega)))
  have sb := Heap.SameBut.update s''.heap kS (Obj.mapSeq (·.push k))
  have stu : Step T (g''.mu ++ [kS]) (frsOf fe) g'' s'' g'' σ'' { s'' with heap := s''.heap.update kS (Obj.mapSeq (·.push k)) } := .sameBut st.st ⟨ak2.1, ak2.2, _, nk⟩ (List.mem_append_right _ (.head _)) sb ⟨_, hc2⟩
  have S2 := P'.step.transW st fun c hc => P'.step.new.mu c hc
  have S3 := S2.transW stu fun c hc => (List.mem_append.mp hc).elim (fun h => S2.new.mu c h) fun h => .inr (by rw [List.mem_singleton.mp h]; exact hk0)
  refine wpAny_pure ⟨rfl, ks ++ [kv], kA.push k, g'', σ'', ⟨?_, S3, Inv.far stu (fun c hc => (List.mem_append.mp hc).imp id fun h q => by rw [List.mem_singleton.mp h] at q; exact avk q) (P'.inv.step st), ⟨c2, hc2⟩, (sb.2 D hDk.symm).trans nd, ?_, ak2, ad2⟩, le.trans st.le, by rw [List.length_append, hj]; rfl⟩
  ·rw [eq, hF', e2]
   show ((keysGo F (ws.drop (j + 1)) σ'').bind (fun r σ => .ok (kv :: r) σ)).bind _ = _
   cases keysGo F (ws.drop (j + 1)) σ'' with
   | bad => rfl
   | ok r σ => show Res.ok (ks ++ kv :: r) σ = Res.ok (ks ++ [kv] ++ r) σ; rw [List.append_assoc]; rfl
  ·rw [Array.toList_push]
   exact RepVs.append (RepVs.mono st.le _ _ P'.rep) ⟨rk, trivial⟩
 case done =>
  rintro s' ⟨ks, kA, g', σ', P', le, hj⟩
  rw [Nat.zero_add, <- hlw] at P'
  rw [Nat.zero_add] at hj
  have eq := P'.eq
  rw [List.drop_length] at eq
  have eq : keysGo F ws σ₁ = .ok ks σ' := eq.trans (by show Res.ok (ks ++ []) σ' = _; rw [List.append_nil])
  rw [eq] at hr h
  have hr : sortK fz rev ws ks σ' ≠ .bad := hr
  have h : ∀ s', OkR T (frsOf fe) g s (RepV T) (sortK fz rev ws ks σ') (.ref D) s' -> P (.done (.ret .none)) s' := h
  have esk : sortK fz rev ws ks σ' = sortKs fz rev xs ks σ' := by
   unfold sortK; rw [hxs]; exact if_pos ⟨hnd, h64⟩
  rw [esk] at hr h
  obtain ⟨e, hok⟩ := P'.ho
  have hsz : kA.size = vs.length := by rw [<- Array.length_toList, <- P'.rep.length, hj]
  have rx : RepDs g'.fz xs vs := RepDs.mono le.fz _ _ (RepDs.ofV r hxs)
  have fin : ∀ {κ : KeyKind} (hO : κ.OneLt) {β : Type} (emb : β -> κ.α) (lt : β -> β -> Bool) (hlt : ∀ x y, κ.blt (emb x) (emb y) = lt x y) (bs : List β) (hkey : ∀ (j : Nat) (x : Value) (y : β), kA.toList[j]? = some x -> bs[j]? = some y -> κ.keyOf x = some (emb y)) (hbl : bs.length = vs.length) (hkk : 2 <= kA.size -> keyKind' kA = pure oneType') (hv : sortKs fz rev xs ks σ' = mkList fz ((sortOut rev lt (bs.zip xs)).map .d) σ'),
   wpAny (model T.prog T.w) A.in1.in1 (ksk_end D rev vs.toArray e1 (.ref kS) kA) P E s' := by
   intro κ hO β emb lt hlt bs hkey hbl hkk hv
   rw [hv] at hr h
   obtain ⟨Z, hz, hzk, hout⟩ := sort_ready emb lt hlt hkey (by rw [hsz, hbl]) hbl rx hnd
   refine sort_end hO hz hzk hsz hkk (by omega) hok P'.hd hDk fun h' c hb2 ho2 => ?_
   exact h _ (sort_made P'.step P'.ad P'.ak hD0 hk0 hb2 ho2 (RepVs.ofD (hout rev)) hr)
  refine wpAny_bind (listItems_at hok rfl ?_)
  unfold sortKs at hr
  induction ei : intsV ks with
  | some is =>
   obtain ⟨q1, q2, q3⟩ := intsV_rep P'.rep ei
   have hia : IntsAre kA.toList is := by
    have : ∀ (l : List Value) (is : List Int), l.length = is.length -> (∀ (j : Nat) (x : Value), l[j]? = some x -> ∃ t, x = Value.int (is.getD j 0) t) -> IntsAre l is := by
     intro l
     induction l with
     | nil => intro is hl _; cases is with | nil => exact .nil | cons _ _ => cases hl
     | cons x l ih =>
      intro is hl hx
      cases is with
      | nil => cases hl
      | cons k is =>
       obtain ⟨t, ht⟩ := hx 0 x rfl
       have ht : x = .int k t := ht
       rw [ht]
       exact .cons k t (ih is (Nat.succ.inj hl) fun j y hy => hx (j + 1) y hy)
    exact this _ _ q1 q2
   refine fin (κ := intKey) intKey_oneLt id ltI (fun _ _ => rfl) is (fun j x y hx hy => ?_) (by rw [<- hsz, <- Array.length_toList, q1]) (fun h2 => ksk_kind hia h2) ?_
   ·obtain ⟨t, rfl⟩ := q2 j x hx
    show some (is.getD j 0) = some y
    rw [List.getD_eq_getElem?_getD, hy]; rfl
   ·unfold sortKs; rw [ei]
  | none =>
   rw [ei] at hr
   induction es : strsV ks with
   | none => rw [es] at hr; exact absurd rfl hr
   | some ss =>
    obtain ⟨q1, q2, q3⟩ := strsV_rep P'.rep es
    have ql : kA.toList.length = ss.length := by rw [<- P'.rep.length, q3, List.length_map]
    have qat : ∀ (l : List Value) (ss : List Str), StrsAre l ss -> ∀ (j : Nat) (x : Value) (y : Str), l[j]? = some x -> ss[j]? = some y -> ∃ t, x = .str y t := by
     intro l ss hss
     induction hss with
     | nil => intro j x y hx; simp at hx
     | cons z t _ ih =>
      intro j x y hx hy
      cases j with
      | zero => obtain rfl := Option.some.inj hx; obtain rfl := Option.some.inj hy; exact ⟨t, rfl⟩
      | succ j => exact ih j x y hx hy
    refine fin (κ := PyProof.Rows.strKind) strKind_oneLt (fun x => x.cps.toList) ltStr (fun _ _ => rfl) ss (fun j x y hx hy => ?_) (by rw [<- hsz, <- Array.length_toList, ql]) (fun h2 => ?_) ?_
    ·obtain ⟨t, rfl⟩ := qat _ _ q1 j x y hx hy
     rfl
    ·obtain ⟨v₁, v₂, rest, ev⟩ : ∃ v₁ v₂ rest, kA.toList = v₁ :: v₂ :: rest := by
      have hl : 2 <= kA.toList.length := by rw [Array.length_toList]; exact h2
      rcases q : kA.toList with _ | ⟨v₁, _ | ⟨v₂, rest⟩⟩
      ·rw [q] at hl; simp at hl
      ·rw [q] at hl; simp at hl
      ·exact ⟨v₁, v₂, rest, rfl⟩
     have ek : kA = (v₁ :: v₂ :: rest).toArray := by rw [<- ev, Array.toArray_toList]
     rw [ev] at q1
     rw [ek]
     exact keyKind_strs q1
    ·unfold sortKs; rw [ei, es]
end
end Mine.Internal
namespace Mine.Internal
set_option tactic.hygienic true
set_option maxRecDepth 100000
set_option maxHeartbeats 4000000
open PySem PySem.Calls PyProof.Rows
section
variable {T : Top} {K : Kx} {C : Cfg} {fe : List Env} {own : List Addr} {env : Env} {A : Around} {n : Nat} {ρ : Vars} {g : G} {σ : Store} {s : Shared}
theorem sort_call {key : Mine.Internal.E} {i : Nat} {nm : Str} {ap : Pos} {b : Expr} {sc : Scope} {f : Addr} {rev fz : Bool} {v : V} {x : Value} {kw : List (Str × Value)} (hs : SE key) (lo : LmOk K i nm sc) (hb : IsE key (K.lsub nm sc) b) (cx : Cx T K C fe env A n)
 (I : Inv T fe own K.wr env K.vars ρ g σ s.heap) (lm : LamAt T g env nm ap b sc f) (r : RepV T g v x) (ha1 : ∀ l, argsOk "sorted" ⟨[.ref l], kw⟩) (ha2 : ∀ x, argsOk "list.sort" ⟨[.ref x], kw⟩) (ht : ∀ x, Builtin.«list.sort» ⟨[.ref x], kw⟩ = ksk_tree x (.ref f) rev) :
 Sim T (frsOf fe) A g s (call (.builtin "sorted") [x] kw) (RepV T) (match lstOf σ v with | some vs => (keysGo (fun v σ => evalE C.still key (ρ.set i (some v)) σ) vs σ).bind fun ks σ => sortK fz rev vs ks σ | none => .bad) := by
 induction el : lstOf σ v with
 | none => exact Sim.bad
 | some ws =>
 obtain ⟨l, ys, rfl, hL, rws, hyl⟩ := lstOf_rep I.st r el
 intro hr
 have hr : ((keysGo (fun v σ => evalE C.still key (ρ.set i (some v)) σ) ws σ).bind fun ks σ => sortK fz rev ws ks σ) ≠ .bad := hr
 have hL' : s.heap.IsList l ys.toList.toArray := by rw [Array.toArray_toList]; exact hL
 have hvl : ys.toList.length <= sizeLine := by rw [Array.length_toList, <- line_eq]; exact hyl
 generalize ys.toList = vs at rws hL' hvl
 refine call_function_entry_kw kind_sorted plain_sorted entry_sorted (ha1 _) ?_
 unfold Builtin.«sorted»
 refine wpAny_bind (m := checkCount "sorted" 1 1 _) (wpAny_pure ?_)
 refine wpAny_bind (collect_list hL' ?_ hvl)
 refine wpAny_bind (wpAny_newList ?_ hvl)
 obtain ⟨h1, hh1⟩ : ∃ h1, h1 = (s.heap.push (seqObj "list" #[] 0)).update s.heap.objs.size (Obj.mapSeq (· ++ vs.toArray)) := ⟨_, rfl⟩
 have z1 : h1.objs.size = s.heap.objs.size + 1 := by rw [hh1, Heap.size_update, size_push']
 have k1 : ∀ b o, s.heap.get? b = some o -> h1.get? b = some o := fun b o e => by
  have hlt := Heap.lt_size e
  rw [hh1, Heap.get?_update_ne _ _ _ _ (Nat.ne_of_lt hlt)]
  exact Heap.get?_push_of_some _ e
 show wpAny _ _ _ _ _ { s with heap := ((s.heap.push (seqObj "list" #[] 0)).update s.heap.objs.size (Obj.mapSeq (· ++ vs.toArray))).push (seqObj "list" vs.toArray 0) }
 rw [<- hh1]
 have hoD : (h1.push (seqObj "list" vs.toArray 0)).get? h1.objs.size = some (seqObj "list" vs.toArray 0) := Heap.get?_push_size _ rfl
 have z2 : (h1.push (seqObj "list" vs.toArray 0)).objs.size = s.heap.objs.size + 2 := by rw [size_push', z1]
 refine wpAny_bind (wpAny_holding (wpAny_call_entry_kw (s := { s with heap := h1.push (seqObj "list" vs.toArray 0) }) slot_list_sort ⟨_, hoD, rfl⟩ entry_list_sort ?body (ha2 _)))
 case body =>
  show wpAny (model T.prog T.w) A.in1.in1 (Builtin.«list.sort» ⟨[.ref h1.objs.size], kw⟩) _ _ _
  rw [ht h1.objs.size]
  generalize hDe : h1.objs.size = D at hoD z1 ⊢
  generalize hh2 : h1.push (seqObj "list" vs.toArray 0) = h2 at hoD z2 ⊢
  have k2 : ∀ b o, s.heap.get? b = some o -> h2.get? b = some o := fun b o e => by rw [<- hh2]; exact Heap.get?_push_of_some _ (k1 b o e)
  have hD0 : s.heap.get? D = none := Heap.get?_none_of_le (by rw [z1]; exact Nat.le_succ _)
  have s3 := Heap.SameBut.update h2 D (Obj.mapSeq fun _ => (#[] : Array Value))
  obtain ⟨e1, ho3⟩ := upd_list hoD #[]
  unfold ksk_tree
  refine wpAny_bind (listItems_at hoD rfl ?_)
  refine wpAny_bind (listUpdate_at hoD rfl ?_ (by rw [List.size_toArray]; exact hvl) (Nat.zero_le _))
  refine wpAny_bind (seqEpoch_at ho3 rfl ?_)
  refine wpAny_bind (wpAny_newTuple ?_ hvl)
  refine wpAny_bind (wpAny_newList ?_ (Nat.zero_le _))
  refine wpAny_holding ?_
  obtain ⟨h3, hh3⟩ : ∃ h3, h3 = h2.update D (Obj.mapSeq fun _ => (#[] : Array Value)) := ⟨_, rfl⟩
  have z3 : h3.objs.size = s.heap.objs.size + 2 := by rw [hh3, Heap.size_update, z2]
  rw [<- hh3] at ho3 s3
  have k3 : ∀ b o, s.heap.get? b = some o -> h3.get? b = some o := fun b o e => (s3.2 b fun q => by rw [q, hD0] at e; exact none_ne e).trans (k2 b o e)
  show wpAny _ _ (ksk_rest D (.ref f) rev vs.toArray e1 (.ref ((h2.update D (Obj.mapSeq fun _ => (#[] : Array Value))).push (seqObj "tuple" vs.toArray 0)).objs.size)) _ _ { s with heap := ((h2.update D (Obj.mapSeq fun _ => (#[] : Array Value))).push (seqObj "tuple" vs.toArray 0)).push (seqObj "list" #[] 0) }
  rw [<- hh3]
  have z4 : (h3.push (seqObj "tuple" vs.toArray 0)).objs.size = s.heap.objs.size + 3 := by rw [size_push', z3]
  generalize hh4 : h3.push (seqObj "tuple" vs.toArray 0) = h4 at z4 ⊢
  have k4 : ∀ b o, h3.get? b = some o -> (h4.push (seqObj "list" #[] 0)).get? b = some o := fun b o e => by rw [<- hh4]; exact Heap.get?_push_of_some _ (Heap.get?_push_of_some _ e)
  have hk0 : s.heap.get? h4.objs.size = none := Heap.get?_none_of_le (by rw [z4]; exact Nat.le_add_right _ _)
  have S : Step T g.mu (frsOf fe) g s g σ { s with heap := h4.push (seqObj "list" #[] 0) } := .grow I.st fun b o e => k4 b o (k3 b o e)
  have al : ∀ c, c ∈ avOf fe own env -> ∃ o, s.heap.get? c = some o := fun c hc => (I.avAp c hc).2.2
  have fa : ∀ c, c ∈ frsOf fe -> c ∈ avOf fe own env := fun c hc => List.mem_append.mpr (.inl hc)
  have nD : D ∉ avOf fe own env := fun q => by obtain ⟨o, e⟩ := al D q; exact none_ne (hD0.symm.trans e)
  have nk : h4.objs.size ∉ avOf fe own env := fun q => by obtain ⟨o, e⟩ := al _ q; exact none_ne (hk0.symm.trans e)
  refine sort_keys (fz := fz) hs lo hb cx S (I.step S) lm rws hD0 hk0 (by rw [z4, z1]; exact Nat.ne_of_gt (Nat.add_lt_add_left (by decide) _)) (fun q => nD (fa _ q)) (fun q => nk (fa _ q)) (k4 D _ ho3) (Heap.get?_push_size _ rfl) ⟨I.st.fz_none hD0, I.st.mu_none hD0⟩ ⟨I.st.fz_none hk0, I.st.mu_none hk0⟩ nD nk hr fun s' h => ⟨_, rfl, ?_⟩
  exact wpAny_pure ⟨_, rfl, h⟩
theorem se_sortk (fz rev : Bool) {a key : Mine.Internal.E} (i : Nat) (ha : SE a) (hk : SE key) : SE (.sortk fz rev a i key) := by
 intro T K C fe own env A n ρ g σ s ex hc cx I
 rw [eA_23]
 intro hr
 have hc : IsSort (K.to (.bi .sorted)) (IsE a K) (fun nm sc b => lamOk K i nm sc = true ∧ IsE key (K.lsub nm sc) b) rev ex := hc
 cases hc with
 | @one nm np x pm ap b sc lp kp p h1 h2 h3 h4 =>
  refine wpAny_bind (load_gl cx I h1.1 h1.2 fun f hf => ?_)
  obtain rfl : f = .builtin "sorted" := hf
  refine PyProof.Rows.callWith_kw (e := x) (rest := []) ?_ (by rw [starEach_cons h3]; rfl) (by rw [starEach_cons h3]; rfl)
  rw [starEach_cons h3]
  refine spliced_cons (wpAny_mono (ha _ h2 cx I (bind_ne hr)) (fun xv s₁ hz => spliced_nil ?_) fun _ _ h => h)
  obtain ⟨v, σ₁, g₁, e₁, st₁, r₁⟩ := hz
  rw [e₁] at hr ⊢
  have lo := lamOk_ok h4.1
  refine PyProof.Rows.kws_cons (lam_make lo cx (I.step st₁) fun f g₂ s₂ st₂ lm => PyProof.Rows.kws_nil ?_)
  have t := sort_call (fz := fz) hk lo h4.2 cx ((I.step st₁).step st₂) lm (RepV.mono st₂.le _ _ r₁) (fun l => ksk_s1 _ _) (fun x => ksk_l1 _ _) (fun x => ksk_t1 _ _) hr
  exact wpAny_mono t (fun _ _ h => (h.after st₂).after st₁) fun _ _ h => h
 | @two nm np x pm ap b sc lp kp k cp kp' p h1 h2 h3 h4 =>
  refine wpAny_bind (load_gl cx I h1.1 h1.2 fun f hf => ?_)
  obtain rfl : f = .builtin "sorted" := hf
  refine PyProof.Rows.callWith_kw (e := x) (rest := []) ?_ (by rw [starEach_cons h3]; rfl) (by rw [starEach_cons h3]; rfl)
  rw [starEach_cons h3]
  refine spliced_cons (wpAny_mono (ha _ h2 cx I (bind_ne hr)) (fun xv s₁ hz => spliced_nil ?_) fun _ _ h => h)
  obtain ⟨v, σ₁, g₁, e₁, st₁, r₁⟩ := hz
  rw [e₁] at hr ⊢
  have lo := lamOk_ok h4.1
  refine PyProof.Rows.kws_cons (lam_make lo cx (I.step st₁) fun f g₂ s₂ st₂ lm => PyProof.Rows.kws_cons (wpAny_Constant_bool (PyProof.Rows.kws_nil ?_)))
  have t := sort_call (fz := fz) hk lo h4.2 cx ((I.step st₁).step st₂) lm (RepV.mono st₂.le _ _ r₁) (fun l => ksk_s2 _ _ _) (fun x => ksk_l2 _ _ _) (fun x => ksk_t2 _ _ _) hr
  exact wpAny_mono t (fun _ _ h => (h.after st₂).after st₁) fun _ _ h => h
end
end Mine.Internal
namespace Mine.Internal
open PySem PySem.Calls
theorem pt_cst (x : PyData) : ST (.cst x) := st_plain (se_cst x) fun h env w => by cases h; rfl
theorem pt_var (i : Nat) : ST (.var i) := st_plain (se_var i) fun h env w => by cases h; rfl
theorem pt_ty (x : String) : ST (.ty x) := st_plain (se_ty x) fun h env w => by cases h; rfl
theorem pt_bin {fz : Bool} {op : Operator} {a b : E} (h : SE (.bin fz op a b)) : ST (.bin fz op a b) := st_plain h fun h env w => by cases h; rfl
theorem pt_neg {a : E} (h : SE (.neg a)) : ST (.neg a) := st_plain h fun h env w => by cases h; rfl
theorem pt_tup {es : List E} (h : SE (.tup es)) : ST (.tup es) := st_plain h fun h env w => by cases h; rfl
theorem pt_lst {fz : Bool} {es : List E} (h : SE (.lst fz es)) : ST (.lst fz es) := st_plain h fun h env w => by cases h; rfl
theorem pt_sub {a i : E} (h : SE (.sub a i)) : ST (.sub a i) := st_plain h fun h env w => by cases h; rfl
theorem pt_slc {fz : Bool} {a : E} {lo hi : Option E} (h : SE (.slc fz a lo hi)) : ST (.slc fz a lo hi) := st_plain h fun h env w => by cases h; rfl
theorem pt_bcall {b : Bi} {fz : Bool} {es : List E} (h : SE (.bcall b fz es)) : ST (.bcall b fz es) := st_plain h fun h env w => by cases h; rfl
theorem pt_fcall {m : Mode} {f : Nat} {es : List E} (h : SE (.fcall m f es)) : ST (.fcall m f es) := st_plain h fun h env w => by cases h; rfl
theorem pt_meth {m : Meth} {fz : Bool} {o : E} {es : List E} (h : SE (.meth m fz o es)) : ST (.meth m fz o es) := st_plain h fun h env w => by cases h; rfl
theorem pt_comp {fz : Bool} {elt : E} {ts : List Nat} {it : It} {ifs : List E} (h : SE (.comp fz elt ts it ifs)) : ST (.comp fz elt ts it ifs) := st_plain h fun h env w => by cases h; rfl
theorem pt_dct {pp : Bool} (h : SE (.dct pp)) : ST (.dct pp) := st_plain h fun h env w => by cases h; rfl
theorem pt_maxd {a : E} {z : Int} (h : SE (.maxd a z)) : ST (.maxd a z) := st_plain h fun h env w => by cases h; rfl
theorem pt_sortk {fz rev : Bool} {a key : E} {i : Nat} (h : SE (.sortk fz rev a i key)) : ST (.sortk fz rev a i key) := st_plain h fun h env w => by cases h <;> rfl
mutual
theorem soundE : ∀ e : E, SE e ∧ ST e
 | .cst x => ⟨se_cst x, pt_cst x⟩
 | .var i => ⟨se_var i, pt_var i⟩
 | .ty t => ⟨se_ty t, pt_ty t⟩
 | .bin fz op a b => ⟨se_bin fz op (soundE a).1 (soundE b).1, pt_bin (se_bin fz op (soundE a).1 (soundE b).1)⟩
 | .neg a => ⟨se_neg (soundE a).1, pt_neg (se_neg (soundE a).1)⟩
 | .not a => se_not (soundE a).2 (soundE a).1
 | .bop op es => se_bop op (soundEs es)
 | .cmp op a b => se_cmp op (soundE a).1 (soundE b).1
 | .tup es => ⟨se_tup (soundEs es).ses, pt_tup (se_tup (soundEs es).ses)⟩
 | .lst fz es => ⟨se_lst fz (soundEs es).ses, pt_lst (se_lst fz (soundEs es).ses)⟩
 | .dct pp => ⟨se_dct pp, pt_dct (se_dct pp)⟩
 | .maxd a z => ⟨se_maxd z (soundE a).1, pt_maxd (se_maxd z (soundE a).1)⟩
 | .sortk fz rev a i key => ⟨se_sortk fz rev i (soundE a).1 (soundE key).1, pt_sortk (se_sortk fz rev i (soundE a).1 (soundE key).1)⟩
 | .sub a i => ⟨se_sub (soundE a).1 (soundE i).1, pt_sub (se_sub (soundE a).1 (soundE i).1)⟩
 | .slc fz a lo hi => ⟨se_slc fz (soundE a).1 (soundO lo) (soundO hi), pt_slc (se_slc fz (soundE a).1 (soundO lo) (soundO hi))⟩
 | .bcall b fz es => ⟨se_bcall b fz (soundEs es).ses, pt_bcall (se_bcall b fz (soundEs es).ses)⟩
 | .fcall m f es => ⟨se_fcall m f (soundEs es).ses, pt_fcall (se_fcall m f (soundEs es).ses)⟩
 | .meth m fz o es => ⟨se_meth m fz (soundE o).1 (soundEs es).ses, pt_meth (se_meth m fz (soundE o).1 (soundEs es).ses)⟩
 | .comp fz elt ts it ifs => ⟨se_comp fz ts (soundI it) (soundE elt).1 (soundEs ifs), pt_comp (se_comp fz ts (soundI it) (soundE elt).1 (soundEs ifs))⟩
theorem soundEs : ∀ es : List E, SAll es
 | [] => trivial
 | e :: r => ⟨soundE e, soundEs r⟩
theorem soundO : ∀ o : Option E, SO o
 | none => so_none
 | some e => so_some (soundE e).1
theorem soundI : ∀ it : It, SI it
 | .of e => si_of (soundE e).1
 | .range es => si_range (soundEs es).ses
 | .zip a b => si_zip (soundE a).1 (soundE b).1
 | .enum a => si_enum (soundE a).1
end
end Mine.Internal
namespace Mine.Internal
open PySem PySem.Calls
inductive OkPost (T : Top) (K : Kx) (fe : List Env) (own : List Addr) (env : Env) (g : G) (s : Shared) (ρ : Vars) (as : List Nat) (r : Res Fl) (f : Flow) (s' : Shared) : Prop
 | mk (fl : Fl) (σ' : Store) (g' : G) (e : r = .ok fl σ') (st : Step T (g.mu ++ own) (frsOf fe) g s g' σ' s') (h : match fl with
  | .next ρ' => f = .next ∧ Inv T fe own K.wr env K.vars ρ' g' σ' s'.heap ∧ ∀ i, i ∉ as -> ρ'[i]? = ρ[i]?
  | .ret v => ∃ x, f = .ret x ∧ RepV T g' v x ∧ ∃ ρ', Inv T fe own K.wr env K.vars ρ' g' σ' s'.heap) : OkPost T K fe own env g s ρ as r f s'
noncomputable def SS (st : S) : Prop := ∀ {T : Top} {K : Kx} {C : Cfg} {fe outer : List Env} {own : List Addr} {env : Env} {A : Around} {n : Nat} {ρ : Vars} {g : G} {σ : Store} {s : Shared} (x : Stmt),
 IsS st K x -> fe = env :: outer -> Cx T K C fe env A n -> Inv T fe own K.wr env K.vars ρ g σ s.heap -> execS C st ρ σ ≠ .bad ->
 wpAny (model T.prog T.w) A (exec x env) (OkPost T K fe own env g s ρ (asgs st) (execS C st ρ σ)) (fun _ _ => False) s
noncomputable def SSs (l : List S) : Prop := ∀ {T : Top} {K : Kx} {C : Cfg} {fe outer : List Env} {own : List Addr} {env : Env} {A : Around} {n : Nat} {ρ : Vars} {g : G} {σ : Store} {s : Shared} (xs : List Stmt),
 IsSs l K xs -> fe = env :: outer -> Cx T K C fe env A n -> Inv T fe own K.wr env K.vars ρ g σ s.heap -> execSs C l ρ σ ≠ .bad ->
 wpAny (model T.prog T.w) A (execs xs env) (OkPost T K fe own env g s ρ (asgAll l) (execSs C l ρ σ)) (fun _ _ => False) s
section
variable {T : Top} {K : Kx} {C : Cfg} {fe outer : List Env} {own : List Addr} {env : Env} {A : Around} {n : Nat} {ρ ρ₁ : Vars} {g g₁ : G} {σ σ₁ : Store} {s s₁ s' : Shared} {as as' : List Nat} {r r' : Res Fl}
theorem OkPost.after (st : Step T (g.mu ++ own) (frsOf fe) g s g₁ σ₁ s₁) (ha : ∀ i, i ∉ as -> ρ₁[i]? = ρ[i]?) (hr : r = r') {f : Flow}
 (h : OkPost T K fe own env g₁ s₁ ρ₁ as r f s') : OkPost T K fe own env g s ρ as r' f s' := by
 subst hr
 obtain ⟨fl, σ', g', e, st', h⟩ := h
 refine ⟨fl, σ', g', e, st.transO st', ?_⟩
 induction fl with
 | next ρ' => exact ⟨h.1, h.2.1, fun i hi => (h.2.2 i hi).trans (ha i hi)⟩
 | ret v => exact h
theorem OkPost.wide {f : Flow} (hs : ∀ i, i ∈ as' -> i ∈ as) (h : OkPost T K fe own env g s ρ as' r f s') : OkPost T K fe own env g s ρ as r f s' := by
 obtain ⟨fl, σ', g', e, st', h⟩ := h
 refine ⟨fl, σ', g', e, st', ?_⟩
 induction fl with
 | next ρ' => exact ⟨h.1, h.2.1, fun i hi => h.2.2 i fun q => hi (hs i q)⟩
 | ret v => exact h
theorem not_swaps {v : Expr} (h : notComp v = true) (t : Option Expr) (l : Nat) (env : Env) : swapsWith v t l env = pure false := by
 unfold swapsWith
 cases v <;> first | rfl | exact ff_ h
theorem ss_ret (e : E) : SS (.ret e) := by
 intro T K C fe outer own env A n ρ g σ s x hc hfe cx I hr
 induction hc with
 | @mk v p hc =>
  rw [arm_exec_Return]
  rw [xA_10] at hr ⊢
  refine wpAny_bind (wpAny_standAt ?_)
  refine wpAny_bind (wpAny_mono ((soundE e).1 _ hc cx I (bind_ne hr)) (fun v s₁ ⟨b, σ₁, g₁, e₁, st₁, r₁⟩ => wpAny_pure ?_) fun _ _ h => h)
  exact ⟨.ret b, σ₁, g₁, by rw [e₁]; rfl, st₁.toO, v, rfl, r₁, ρ, I.step st₁⟩
theorem drop_any {prog : Program} {w : World} {A : Around} {s : Shared} {Q : Flow -> Shared -> Prop} {E : Value -> Shared -> Prop} {e : Expr} {p : Pos} {v : Value} (h : Q .next s) : wpAny (model prog w) A (dropValue e p v) Q E s := by
 have key : ∀ a, wpAny (model prog w) A (dropValue (.List [] default) p (.ref a)) Q E s := fun a => by
  refine wpAny_bind (wpAny_standAt (wpAny_bind (wpAny_runValue (codeAny_builtin entry_let_go ?_))))
  unfold Builtin.«proto.let_go»
  exact wpAny_pure (wpAny_pure h)
 have key2 : wpAny (model prog w) A (dropValue (.List [] default) p v) Q E s := by
  cases v <;> first | exact wpAny_pure h | exact key _
 have to : ∀ t, t = dropValue (.List [] default) p v -> wpAny (model prog w) A t Q E s := fun t e => e ▸ key2
 cases e <;> first | exact wpAny_pure h | exact to _ (by kernel_rfl)
theorem ss_exp (e : E) : SS (.exp e) := by
 intro T K C fe outer own env A n ρ g σ s x hc hfe cx I hr
 induction hc with
 | @mk v p h1 h2 =>
  rw [arm_exec_Expr]
  rw [xA_6] at hr ⊢
  refine wpAny_bind (wpAny_standAt ?_)
  have hi : interactive env = false := by unfold interactive; rw [I.blk.kind]; rfl
  rw [hi]
  show wpAny _ _ (swapsWith v none p.line env >>= _) _ _ _
  rw [not_swaps h2, pure_bind]
  simp only [Bool.false_eq_true, if_false]
  refine wpAny_bind (wpAny_mono ((soundE e).1 _ h1 cx I (bind_ne hr)) (fun v s₁ hz_ => ?_) fun _ _ h => h)
  obtain ⟨b, σ₁, g₁, e₁, st₁, r₁⟩ := hz_
  have fin : OkPost T K fe own env g s ρ (asgs (.exp e)) ((evalE C e ρ σ).bind fun _ σ => .ok (.next ρ) σ) .next s₁ := ⟨.next ρ, σ₁, g₁, by rw [e₁]; rfl, st₁.toO, rfl, I.step st₁, fun _ _ => rfl⟩
  exact drop_any fin
theorem ss_nil : SSs [] := by
 intro T K C fe outer own env A n ρ g σ s xs hc hfe cx I hr
 cases hc
 (first | rw [xB_1] | rw [xB_2])
 exact wpAny_execs_nil ⟨_, σ, g, rfl, .refl I.st, rfl, I, fun _ _ => rfl⟩
theorem ss_cons {st : S} {l : List S} (h1 : SS st) (h2 : SSs l) : SSs (st :: l) := by
 intro T K C fe outer own env A n ρ g σ s xs hc hfe cx I hr
 induction hc with
 | @mk x t c1 c2 =>
  (first | rw [xB_1] at hr ⊢ | rw [xB_2] at hr ⊢)
  rw [execs_cons]
  have wide : ∀ i, i ∈ asgs st -> i ∈ asgAll (st :: l) := fun i h => show i ∈ _ ++ _ from List.mem_append.mpr (.inl h)
  have wide' : ∀ i, i ∈ asgAll l -> i ∈ asgAll (st :: l) := fun i h => show i ∈ _ ++ _ from List.mem_append.mpr (.inr h)
  refine wpAny_bind (wpAny_mono (h1 x c1 hfe cx I (bind_ne hr)) (fun f s₁ hz_ => ?_) fun _ _ h => h)
  obtain ⟨fl, σ₁, g₁, e₁, st₁, hf⟩ := hz_
  rw [e₁] at hr
  induction fl with
  | ret v =>
   obtain ⟨y, rfl, ry⟩ := hf
   exact wpAny_pure ⟨.ret v, σ₁, g₁, by rw [e₁]; rfl, st₁, y, rfl, ry⟩
  | next ρ₁ =>
   obtain ⟨rfl, I₁, hv⟩ := hf
   have hv' : ∀ i, i ∉ asgAll (st :: l) -> ρ₁[i]? = ρ[i]? := fun i hi => hv i fun q => hi (wide i q)
   have er : execSs C l ρ₁ σ₁ = (execS C st ρ σ).bind fun f σ => (match f with | .next ρ => execSs C l ρ σ | .ret v => .ok (.ret v) σ) := by rw [e₁]; rfl
   exact wpAny_mono (h2 t c2 hfe cx I₁ hr) (fun f s' h => OkPost.after st₁ hv' er (h.wide wide')) fun _ _ h => h
end
end Mine.Internal
namespace Mine.Internal
open PySem PySem.Calls
section
variable {T : Top} {K : Kx} {C : Cfg} {fe outer : List Env} {own : List Addr} {env : Env} {A : Around} {n : Nat} {ρ : Vars} {g : G} {σ : Store} {s : Shared}
theorem asg_comp {fz : Bool} {elt : E} {ts : List Nat} {it : It} {ifs : List E} {k : Nat} {nm : Str} {p p' vp : Pos} {x t i : Expr} {cs : List Expr} {sc : Scope} (hc : IsE (.comp fz elt ts it ifs) K (.ListComp x [⟨t, i, cs, 0⟩] sc vp)) (hw : K.canWr k nm = true)
 (hl : K.names.lookup nm = some .local) (hp : p.line = vp.line) (hs : (sc.names.any fun q => q.1 == nm && (q.2 == .local || q.2 == .cell)) = false) (hfe : fe = env :: outer) (cx : Cx T K C fe env A n) (I : Inv T fe own K.wr env K.vars ρ g σ s.heap)
 (hr : (evalE C (.comp fz elt ts it ifs) ρ σ).bind (fun v σ => Res.ok (Fl.next (ρ.set k (some v))) σ) ≠ .bad) :
 wpAny (model T.prog T.w) A (exec (.Assign [.Name nm p] (.ListComp x [⟨t, i, cs, 0⟩] sc vp) p') env) (OkPost T K fe own env g s ρ [k] ((evalE C (.comp fz elt ts it ifs) ρ σ).bind fun v σ => .ok (.next (ρ.set k (some v))) σ)) (fun _ _ => False) s := by
 cases hc with
 | @mk x t i cs sc pos h1 h2 h3 h4 h5 h6 =>
 obtain ⟨h3, h7⟩ := h3
 rw [arm_exec_Assign]
 refine wpAny_bind (wpAny_standAt ?_)
 show wpAny _ _ (swapsWith (.ListComp x [⟨t, i, cs, 0⟩] sc vp) (some (.Name nm p)) p'.line env >>= _) _ _ _
 have hb : (env.blockKind == .function) = true := by unfold Env.blockKind; rw [I.blk.kind]; rfl
 have hk : (env.kindOf nm == some .local) = true := by rw [kindOf_names cx.names, hl]; rfl
 have hsw : swapsWith (.ListComp x [⟨t, i, cs, 0⟩] sc vp) (some (.Name nm p)) p'.line env = pure true := by
  unfold swapsWith
  show (pure (env.blockKind == .function && env.kindOf nm == some .local && p.line == vp.line && !(sc.names.any fun q => q.1 == nm && (q.2 == .local || q.2 == .cell))) : Sem Bool) = _
  rw [hb, hk, hp, hs]; simp
 rw [hsw, pure_bind]
 simp only [if_true]
 have hall : ∀ v, assignAll v [assign (.Name nm p) env] = (assign (.Name nm p) env v) := fun v => by
  first | rfl | (unfold assignAll; rfl)
 show wpAny _ _ ((comprehension (.ListComp x [⟨t, i, cs, 0⟩] sc vp) sc env (firstIterPos [⟨t, i, cs, 0⟩] vp) (newList []) false (eval i env) (some fun v => assignAll v [assign (.Name nm p) env]) >>= fun _ => pure ()) >>= fun _ => pure Flow.next) _ _ _
 have hne := bind_ne hr
 rw [eA_20] at hne
 refine wpAny_bind (wpAny_bind (wpAny_mono (comp_run (Q := fun _ s' => OkPost T K fe own env g s ρ [k] ((evalE C (.comp fz elt ts it ifs) ρ σ).bind fun v σ => .ok (.next (ρ.set k (some v))) σ) .next s') (soundI it) (soundE elt).1 (soundEs ifs) h1 h2 h3 h7 h4 h5 h6 cx I hne ?_) (fun _ s' h => wpAny_pure (wpAny_pure h)) fun _ _ h => h))
 ·intro Cc D its ys xs g' σ' s' h' e hin hDn hCn hDa F
  show wpAny _ A (assignAll (.ref D) [assign (.Name nm p) env]) _ _ _
  rw [hall]
  have hwk : mkList fz ys σ' ≠ .bad := fun q => hne (by rw [e]; exact q)
  have stp := F.step.rest (its := its) (h' := h') (fun c hc => (F.lone c hc).1) hin F.hk
  obtain ⟨mm, hDo⟩ := F.list
  have hDi : D ∉ its := fun q => (F.lone D q).2 (List.mem_cons_self ..)
  have hDo' := F.hk D _ hDi hDo
  obtain ⟨v, σ'', g'', e1, e2, e3, e4, e5, e6⟩ := made_own (fz := fz) stp.st ⟨F.ap.1, F.ap.2.1, _, hDo'⟩ hDo' F.rep hwk
  have S2 : Step T g.mu (frsOf fe) g s g'' σ'' { s' with heap := h' } := by
   refine ⟨stp.le.trans e3, e2, stp.kept, ⟨fun c hc => ?_, fun c o hc => ?_⟩, stp.gens, stp.os⟩
   ·rcases e5 c hc with q | q
    ·exact stp.new.mu c q
    ·exact .inr (q ▸ hDn)
   ·rcases e6 c o hc with q | q
    ·exact stp.new.fz c o q
    ·exact .inr (.inl (q ▸ hDn))
  have I2 := I.step S2
  have hCa : Cc ∈ avOf fe [Cc] (compEnvC sc (clOf env sc.names []) Cc env) := List.mem_append.mpr (.inr (List.mem_append.mpr (.inl (List.mem_singleton.mpr rfl))))
  have hDC : D ≠ Cc := fun q => hDa (q ▸ hCa)
  have hCi : Cc ∉ its := fun q => (F.lone Cc q).2 (List.mem_cons_of_mem _ hCa)
  have apC := F.inv.oap Cc (List.mem_singleton.mpr rfl)
  have nz : g''.fz Cc = none := by
   induction q : g''.fz Cc with
   | none => rfl
   | some o =>
    rcases e6 Cc o q with q | q
    ·exact none_ne ((Eq.symm (apC.1)).trans q)
    ·exact absurd q.symm hDC
  have nm' : Cc ∉ g''.mu := fun q => (e5 Cc q).elim apC.2.1 fun q => hDC q.symm
  have nav : Cc ∉ avOf fe own env := fun q => by
   obtain ⟨o, eo⟩ := (I.avAp Cc q).2.2
   exact none_ne (hCn.symm.trans eo)
  refine assign_name (fs := frsOf fe) I2 cx.names hw e4 fun s₃ st₃ I₃ => ?_
  obtain ⟨m, hm⟩ := F.inv.blk.ns
  obtain ⟨o, es, ep, ho, rr⟩ := hm
  have ho' := F.hk Cc o hCi ho
  have ho3 : s₃.heap.get? Cc = some o := st₃.kept.same Cc o ho' (fun q => (List.mem_append.mp q).elim nm' fun q => nav (List.mem_append.mpr (.inr (List.mem_append.mpr (.inl q))))) fun q => nav (List.mem_append.mpr (.inl q))
  refine ⟨m, ⟨o, es, ep, ho3, rr⟩, fun h'' hs'' => ?_⟩
  have kk : ∀ c o, c ∉ [Cc] -> s₃.heap.get? c = some o -> h''.get? c = some o := fun c o hc e => (hs''.2 c fun q => hc (by rw [q]; exact List.mem_singleton.mpr rfl)).trans e
  have S4 := (S2.toO.transO st₃).rest (its := [Cc]) (h' := h'') (fun c hc => by rw [List.mem_singleton.mp hc]; exact ⟨nz, nm'⟩) (fun c hc => by rw [List.mem_singleton.mp hc]; exact hCn) kk
  have I4 := Inv.rest (its := [Cc]) (h' := h'') I₃ (fun c hc => by rw [List.mem_singleton.mp hc]; exact ⟨nz, nm'⟩) (fun c hc => by rw [List.mem_singleton.mp hc]; exact nav) kk
  refine ⟨.next (ρ.set k (some v)), σ'', g'', by rw [eA_20, e, e1]; rfl, S4, rfl, I4, fun j hj => ?_⟩
  exact List.getElem?_set_ne fun q => hj (List.mem_singleton.mpr q.symm)
theorem ss_asg (i : Nat) (e : E) : SS (.asg i e) := by
 intro T K C fe outer own env A n ρ g σ s x hc hfe cx I hr
 induction hc with
 | @mk nm p v p' h1 h2 h3 =>
  by_cases hnc : notComp v = true
  case neg =>
   rw [Bool.not_eq_true _ |>.mp hnc, Bool.false_or] at h3
   cases v with
   | ListComp x gs sc vp =>
    have h9 : (decide (K.names.lookup nm = some .local) && (decide (p.line = vp.line) && !(sc.names.any fun q => q.1 == nm && (q.2 == .local || q.2 == .cell)))) = true := h3
    rw [Bool.and_eq_true, Bool.and_eq_true, Bool.not_eq_true', decide_eq_true_eq, decide_eq_true_eq] at h9
    rw [xA_1] at hr ⊢
    cases e with
    | comp fz elt ts it ifs =>
     have h2' := h2
     cases h2' with
     | @mk x t j cs sc vp k1 k2 k3 k4 k5 k6 => exact asg_comp h2 h1 h9.1 h9.2.1 h9.2.2 hfe cx I hr
    | _ => exfalso; cases h2
   | _ => exact ff_ h3
  case pos =>
  rw [arm_exec_Assign]
  rw [xA_1] at hr ⊢
  refine wpAny_bind (wpAny_standAt ?_)
  show wpAny _ _ (swapsWith v (some (.Name nm p)) p'.line env >>= _) _ _ _
  rw [not_swaps hnc, pure_bind]
  simp only [Bool.false_eq_true, if_false]
  refine wpAny_bind (wpAny_mono ((soundE e).1 _ h2 cx I (bind_ne hr)) (fun xv s₁ hz_ => ?_) fun _ _ h => h)
  obtain ⟨b, σ₁, g₁, e₁, st₁, r₁⟩ := hz_
  have hsw : swappedStores [.Name nm p] v env = pure none := by unfold swappedStores; rfl
  rw [hsw, pure_bind]
  unfold assignStores
  show wpAny _ _ (assignAll xv [assign (.Name nm p) env] >>= fun _ => pure Flow.next) _ _ _
  have I₁ := I.step st₁
  have hall : assignAll xv [assign (.Name nm p) env] = (assign (.Name nm p) env xv) := by
   first | rfl | (unfold assignAll; rfl)
  rw [hall]
  refine wpAny_bind (assign_name (fs := frsOf fe) I₁ cx.names h1 r₁ fun s₂ st₂ I₂ => wpAny_pure ?_)
  refine ⟨.next (ρ.set i (some b)), σ₁, g₁, by rw [e₁]; rfl, st₁.toO.transO st₂, rfl, I₂, fun j hj => ?_⟩
  exact List.getElem?_set_ne fun q => hj (List.mem_singleton.mpr q.symm)
end
end Mine.Internal
namespace Mine.Internal
open PySem PySem.Calls
section
variable {T : Top} {K : Kx} {C : Cfg} {fe outer : List Env} {own : List Addr} {env : Env} {A : Around} {n : Nat} {ρ ρ₁ : Vars} {g g₁ : G} {σ σ₁ : Store} {s s₁ s' : Shared} {as as' : List Nat} {r r' : Res Fl}
theorem iteB {C : Cfg} {c : E} {a b : List S} {ρ : Vars} {σ : Store} : execS C (.ite c a b) ρ σ = ((evalE C c ρ σ).bind toB).bind fun q σ => cond q (execSs C a ρ σ) (execSs C b ρ σ) := by
 rw [xA_7]
 cases evalE C c ρ σ with
 | ok v σ' =>
  dsimp only [Res.bind, toB]
  cases truth σ' v with
  | none => rfl
  | some q => cases q <;> rfl
 | bad => rfl
theorem ss_ite (c : E) {a b : List S} (ha : SSs a) (hb : SSs b) : SS (.ite c a b) := by
 intro T K C fe outer own env A n ρ g σ s x hc hfe cx I hr
 induction hc with
 | @mk t x y p h1 h2 h3 =>
  rw [iteB] at hr ⊢
  have wa : ∀ i, i ∈ asgAll a -> i ∈ asgs (.ite c a b) := fun i h => show i ∈ _ ++ _ from List.mem_append.mpr (.inl h)
  have wb : ∀ i, i ∈ asgAll b -> i ∈ asgs (.ite c a b) := fun i h => show i ∈ _ ++ _ from List.mem_append.mpr (.inr h)
  refine wpAny_If ?_
  refine wpAny_mono ((soundE c).2 _ h1 cx I (bind_ne hr)) (fun bb s₁ hz => ?_) fun _ _ h => h
  obtain ⟨b', σ₁, g₁, e₁, st₁, r₁⟩ := hz
  obtain rfl : bb = b' := r₁
  rw [e₁] at hr ⊢
  have I₁ := I.step st₁
  induction bb with
  | true => exact wpAny_mono (ha x h2 hfe cx I₁ hr) (fun f s' h => OkPost.after st₁.toO (fun _ _ => rfl) rfl (h.wide wa)) fun _ _ h => h
  | false => exact wpAny_mono (hb y h3 hfe cx I₁ hr) (fun f s' h => OkPost.after st₁.toO (fun _ _ => rfl) rfl (h.wide wb)) fun _ _ h => h
structure ForAt (T : Top) (K : Kx) (fe : List Env) (own : List Addr) (env : Env) (its : List Addr) (a : Addr) (b : Bool) (f : V -> Vars -> Store -> Res Fl) (whole : Res Fl) (as : List Nat) (ρ : Vars) (g₀ : G) (s₀ : Shared)
 (n : Nat) (vs : Src) (ρ₁ : Vars) (g : G) (σ : Store) (s : Shared) : Prop where
 eq : whole = forS f n vs ρ₁ σ
 step : Step T (g₀.mu ++ own) (frsOf fe) g₀ s₀ g σ s
 inv : Inv T fe own K.wr env K.vars ρ₁ g σ s.heap
 it : ItOk T (avOf fe own env) g s.heap b its a vs
 vars : ∀ i, i ∉ as -> ρ₁[i]? = ρ[i]?
theorem ss_for (ts : List Nat) (it : It) {body : List S} (hb : SSs body) : SS (.for_ ts it body) := by
 intro T K C fe outer own env A n ρ g σ s x hc hfe cx I hr
 induction hc with
 | @mk t i bd p h1 h2 h3 h4 =>
  rw [xA_8] at hr ⊢
  have hset : ∀ y, foldedSetIterable i env y = pure y := fun y => by
   unfold foldedSetIterable
   cases i <;> first | rfl | exact ff_ h3
  have wt : ∀ i, i ∈ ts -> i ∈ asgs (.for_ ts it body) := fun i h => show i ∈ _ ++ _ from List.mem_append.mpr (.inl h)
  have wb : ∀ i, i ∈ asgAll body -> i ∈ asgs (.for_ ts it body) := fun i h => show i ∈ _ ++ _ from List.mem_append.mpr (.inr h)
  refine wpAny_For ?_ hset
  refine wpAny_mono (soundI it i (avOf fe own env) h2 cx I (fun c hc => (I.avAp c hc).2.2) (bind_ne hr)) (fun xv s₁ h₁ => wpAny_mono h₁ (fun itv s₂ hz_ => ?_) fun _ _ h => h) fun _ _ h => h
  obtain ⟨vs, σ₂, g₂, b, its, a, e₂, st₂, hv, it₂, new₂, hb₂⟩ := hz_
  subst hv
  have e3 : ((evalIt C it ρ σ).bind fun vs σ => forS (forStep ts (fun ρ σ => execSs C body ρ σ)) (vs.fuel σ) vs ρ σ) =
   forS (forStep ts (fun ρ σ => execSs C body ρ σ)) (vs.fuel σ₂) vs ρ σ₂ := by rw [e₂]; rfl
  rw [e3] at hr ⊢
  generalize hF : forStep ts (fun ρ σ => execSs C body ρ σ) = F at hr ⊢
  generalize vs.fuel σ₂ = nf at hr ⊢
  generalize hW : forS F nf vs ρ σ₂ = whole at hr ⊢
  refine codeAny_forLoop_any (I := fun k s' => ∃ vs ρ₁ g₁ σ₁, ForAt T K fe own env its a b F whole (asgs (.for_ ts it body)) ρ g s k vs ρ₁ g₁ σ₁ s') ?_ nf ⟨vs, ρ, g₂, σ₂, hW.symm, st₂.toO, I.step st₂, it₂, fun _ _ => rfl⟩
  rintro k s₃ ⟨vs₃, ρ₃, g₃, σ₃, P⟩
  induction k with
  | zero => exact absurd P.eq hr
  | succ k =>
  have eqk : whole = forOne (forS F k) F ρ₃ σ₃ (vs₃.next σ₃) := P.eq
  have itl : ∀ c, c ∈ its -> g₃.fz c = none ∧ c ∉ g₃.mu := fun c hc => ⟨(P.it.lone c hc).1.1, (P.it.lone c hc).1.2.1⟩
  have itn : ∀ c, c ∈ its -> c ∉ avOf fe own env := fun c hc => (P.it.lone c hc).2
  refine draw (fs := frsOf fe) (target := t) P.inv.st P.it ⟨cx.ha.handled, zip_tup h1.1 h1.2 hb₂, fun q => hr (by rw [eqk, q]; rfl), fun e h' hk => ?_, fun v rest e xv s₄ lt => ?_⟩
  ·have e4 : whole = .ok (.next ρ₃) σ₃ := by rw [eqk, e]; rfl
   refine wpAny_execs_nil ?_
   show OkPost T K fe own env g s ρ (asgs (.for_ ts it body)) whole .next _
   exact ⟨.next ρ₃, σ₃, g₃, e4, P.step.rest itl new₂ hk, rfl, P.inv.rest itl itn hk, P.vars⟩
  ·refine lt _ _ fun g₅ s₅ st₅ it₅ r₅ => ?_
   have I₅ := Inv.far st₅ (fun c hc => (List.mem_append.mp hc).imp id fun h => itn c h) P.inv
   have S₅ : Step T (g.mu ++ own) (frsOf fe) g s g₅ σ₃ s₅ := P.step.transW st₅ fun c hc => (List.mem_append.mp hc).elim (fun h => (P.step.new.mu c h).imp (fun h => List.mem_append.mpr (.inl h)) id) fun h => .inr (new₂ c h)
   have e5 : whole = (F v ρ₃ σ₃).bind fun x σ => (match x with | .next ρ => forS F k rest ρ σ | .ret y => .ok (.ret y) σ) := by rw [eqk, e]; rfl
   induction eb : bindTs ρ₃ ts v with
   | none => exact absurd (by rw [e5, <- hF]; simp only [forStep, eb]; rfl) hr
   | some ρ₆ =>
   have e6 : F v ρ₃ σ₃ = execSs C body ρ₆ σ₃ := by rw [<- hF]; simp only [forStep, eb]
   rw [e6] at e5
   refine assign_ts I₅ cx.names cx.ha.handled h1.1 r₅ eb fun s₆ st₆ I₆ => ?_
   have S₆ := S₅.transO st₆
   have own_av : ∀ c, c ∈ g₅.mu ++ own -> c ∈ g₅.mu ∨ c ∈ avOf fe own env := fun c hc => (List.mem_append.mp hc).imp id fun h => List.mem_append.mpr (.inr (List.mem_append.mpr (.inl h)))
   have fs_av : ∀ c, c ∈ frsOf fe -> c ∈ avOf fe own env := fun c h => List.mem_append.mpr (.inl h)
   have it₆ := it₅.step st₆ own_av fs_av
   have V₆ : ∀ i, i ∉ asgs (.for_ ts it body) -> ρ₆[i]? = ρ[i]? := fun i hi => (bindTs_out eb fun q => hi (wt i q)).trans (P.vars i hi)
   refine wpAny_mono (hb bd h4 hfe cx I₆ fun q => hr (by rw [e5, q]; rfl)) (fun f s₇ ⟨fl, σ₇, g₇, e₇, st₇, hf⟩ => ?_) fun _ _ h => h.elim
   ·rw [e₇] at e5
    induction fl with
    | ret y =>
     obtain ⟨z, rfl, rz⟩ := hf
     exact ⟨.ret y, σ₇, g₇, e5, S₆.transO st₇, z, rfl, rz⟩
    | next ρ₇ =>
     obtain ⟨rfl, I₇, hv⟩ := hf
     exact ⟨k, Nat.lt_succ_self k, rest, ρ₇, g₇, σ₇, e5, S₆.transO st₇, I₇, it₆.step st₇ own_av fs_av, fun i hi => (hv i fun q => hi (wb i q)).trans (V₆ i hi)⟩
end
end Mine.Internal
namespace Mine.Internal
open PySem PySem.Calls
inductive WhAt (T : Top) (K : Kx) (fe : List Env) (own : List Addr) (env : Env) (t : Vars -> Store -> Res Bool) (b : Vars -> Store -> Res Fl) (whole : Res Fl) (as : List Nat) (ρ : Vars) (g₀ : G) (s₀ : Shared) (n : Nat) (s : Shared) : Prop
 | mk (ρ₁ : Vars) (g : G) (σ : Store) (eq : whole = whileGo t b n ρ₁ σ) (step : Step T (g₀.mu ++ own) (frsOf fe) g₀ s₀ g σ s) (inv : Inv T fe own K.wr env K.vars ρ₁ g σ s.heap) (vars : ∀ i, i ∉ as -> ρ₁[i]? = ρ[i]?) : WhAt T K fe own env t b whole as ρ g₀ s₀ n s
theorem ss_while {c : E} {body : List S} (hb : SSs body) : SS (.while_ c body) := by
 intro T K C fe outer own env A n ρ g σ s x hc hfe cx I hr
 induction hc with
 | @mk t bd p h1 h4 =>
  rw [xA_11] at hr ⊢
  generalize hF : (fun ρ σ => (evalE C c ρ σ).bind fun v σ => (match truth σ v with | some b => Res.ok b σ | none => .bad)) = F at hr ⊢
  generalize hG : (fun ρ σ => execSs C body ρ σ) = G at hr ⊢
  generalize hW : whileGo F G C.fuel ρ σ = whole at hr ⊢
  refine wpAny_While ?_
  refine codeAny_whileLoop (I := fun k s' => WhAt T K fe own env F G whole (asgs (.while_ c body)) ρ g s k s') ?_ C.fuel ⟨ρ, g, σ, hW.symm, .refl I.st, I, fun _ _ => rfl⟩
  rintro k s₃ ⟨ρ₃, g₃, σ₃, e, S₃, I₃, V₃⟩
  rcases k with _ | k
  ·exact absurd e hr
  have eF : F ρ₃ σ₃ = (evalE C c ρ₃ σ₃).bind toB := by rw [<- hF]; rfl
  have eG : ∀ σ, G ρ₃ σ = execSs C body ρ₃ σ := fun σ => by rw [<- hG]
  have e1 : whole = ((evalE C c ρ₃ σ₃).bind toB).bind fun q σ => (match q with | true => (execSs C body ρ₃ σ).bind fun f σ => (match f with | .next ρ => whileGo F G k ρ σ | .ret v => .ok (.ret v) σ) | false => .ok (.next ρ₃) σ) := by
   rw [e, <- eF]
   refine congrArg (Res.bind (F ρ₃ σ₃)) (funext fun q => funext fun σ => ?_)
   cases q with
   | false => rfl
   | true => show (G ρ₃ σ).bind _ = _; rw [eG] <;> rfl
  rw [e1] at hr
  refine wpAny_mono ((soundE c).2 _ h1 cx I₃ (bind_ne hr)) (fun q s₄ hz => ?_) fun _ _ h => h.elim
  ·obtain ⟨q', σ₄, g₄, e₄, st₄, r₄⟩ := hz
   obtain rfl : q = q' := r₄
   rw [e₄] at e1 hr
   have I₄ := I₃.step st₄
   have S₄ := S₃.transO st₄.toO
   induction q with
   | false =>
    exact wpAny_execs_nil ⟨.next ρ₃, σ₄, g₄, e1, S₄, rfl, I₄, V₃⟩
   | true =>
    refine wpAny_mono (hb bd h4 hfe cx I₄ (bind_ne hr)) (fun f s₇ hz => ?_) fun _ _ h => h.elim
    ·obtain ⟨fl, σ₇, g₇, e₇, st₇, hf⟩ := hz
     have e8 := e1.trans (congrArg (fun r => Res.bind r (fun (f : Fl) (σ : Store) => (match f with | .next ρ => whileGo F G k ρ σ | .ret v => .ok (.ret v) σ : Res Fl))) e₇)
     induction fl with
     | ret y =>
      obtain ⟨z, rfl, rz⟩ := hf
      exact ⟨.ret y, σ₇, g₇, e8, S₄.transO st₇, z, rfl, rz⟩
     | next ρ₇ =>
      obtain ⟨rfl, I₇, hv⟩ := hf
      exact ⟨k, Nat.lt_succ_self k, ρ₇, g₇, σ₇, e8, S₄.transO st₇, I₇, fun i hi => (hv i hi).trans (V₃ i hi)⟩
end Mine.Internal
namespace Mine.Internal
set_option backward.match.sparseCases true
open PySem PySem.Calls
section
variable {T : Top} {K : Kx} {C : Cfg} {fe outer : List Env} {own fs X : List Addr} {env : Env} {A : Around} {n : Nat} {ρ ρ₁ : Vars} {g g₁ : G} {σ σ₁ : Store} {s s₁ s' : Shared} {Er : Value -> Shared -> Prop}
theorem short_fm {α β : Type} {f : α -> Option β} : ∀ {l : List α}, (∃ e, e ∈ l ∧ f e = none) -> (l.filterMap f).length < l.length
 | [], ⟨_, h, _⟩ => by cases h
 | a :: r, ⟨e, h, he⟩ => by
  rw [List.filterMap_cons]
  rcases List.mem_cons.mp h with rfl | h
  ·rw [he]; exact Nat.lt_succ_of_le (List.length_filterMap_le _ _)
  ·have ih := short_fm (f := f) ⟨e, h, he⟩
   split
   ·exact Nat.lt_succ_of_lt ih
   ·exact Nat.succ_lt_succ ih
theorem short_of {K : Kx} (hn : env.scope.names = K.names) (line : Nat) {ts : List Expr} (h : cellAmong K ts = true) :
 (ts.filterMap fun | .Name id pos => if env.kindOf id == some .local && pos.line == line then some id else none | _ => none).length < ts.length := by
 obtain ⟨e, he, h0⟩ := List.any_eq_true.mp h
 refine short_fm ⟨e, he, ?_⟩
 cases e with
 | Name nm p =>
  have h1 : K.kd nm .local = false := by
   have : (!K.kd nm .local) = true := h0
   simpa using this
  have h2 : (env.kindOf nm == some .local) = false := by
   rw [kindOf_names hn, beq_eq_false_iff_ne]
   exact of_decide_eq_false h1
  show (if (env.kindOf nm == some .local && p.line == line) = true then some nm else none) = none
  rw [h2]; rfl
 | _ => exact ff_ h0
theorem sw_eq {ts vs : List Expr} {k k' : Nat} {p p' : Pos} (hn : env.scope.names = K.names) (h : cellAmong K ts = true) : swappedStores [.Tuple ts k p] (.Tuple vs k' p') env = pure none := by
 have hs := short_of hn ((ts.head?.map (·.pos.line)).getD 0) h
 unfold swappedStores
 dsimp only
 split
 ·rfl
 ·split
  ·rfl
  ·refine if_pos ?_
   rw [Bool.or_eq_true]
   exact .inl (bne_iff_ne.mpr (Nat.ne_of_lt hs))
theorem ss_swp (xs : List Nat) (es : List E) : SS (.swp xs es) := by
 intro T K C fe outer own env A n ρ g σ s x hc hfe cx I hr
 induction hc with
 | @mk ts k p vs k' p' pos h1 h2 =>
  obtain ⟨h1, h5, h3⟩ := h1
  rw [arm_exec_Assign]
  rw [xA_3] at hr ⊢
  refine wpAny_bind (wpAny_standAt ?_)
  show wpAny _ _ (swapsWith (.Tuple vs k' p') (some (.Tuple ts k p)) pos.line env >>= _) _ _ _
  rw [not_swaps (v := .Tuple vs k' p') rfl, pure_bind]
  simp only [Bool.false_eq_true, if_false]
  rw [arm_eval_Tuple, sw_eq cx.names h5]
  refine wpAny_bind (wpAny_bind (wpAny_standAt (wpAny_bind (wpAny_mono ((soundEs es).ses vs p' h2 cx I (bind_ne hr)) (fun ys s₁ hz_ => ?_) fun _ _ h => h))))
  obtain ⟨ws, σ₁, g₁, e₁, st₁, r₁⟩ := hz_
  rw [e₁] at hr ⊢
  simp only [okb] at hr ⊢
  by_cases hq : ws.length = xs.length
  ·rw [if_pos hq]
   have hyl : ys.length = xs.length := by rw [<- r₁.length]; exact hq
   refine wpAny_newTuple ?_ (by rw [hyl, h3, <- line_eq]; unfold line; decide)
   rw [pure_bind]
   show wpAny _ _ (assign (.Tuple ts k p) env _ >>= fun _ => pure Flow.next) _ _ _
   have st₂ : Step T g₁.mu (frsOf fe) g₁ s₁ g₁ σ₁ { s₁ with heap := s₁.heap.push { cls := .type "tuple", data := .seq ys.toArray } } := .grow st₁.st fun b o e => Heap.get?_push_of_some _ e
   obtain ⟨l1, l2⟩ := chkNs_len (env := env) h1
   refine wpAny_bind (wpAny_assign_Tuple cx.ha.handled ⟨_, Heap.get?_push_size _ rfl, rfl, _, rfl⟩ (by rw [l1, <- hyl]; rfl) l2 fun h' he => ?_)
   have st₃ : Step T g₁.mu (frsOf fe) g₁ { s₁ with heap := s₁.heap.push { cls := .type "tuple", data := .seq ys.toArray } } g₁ σ₁ { s₁ with heap := h' } := .ext_size st₂.st he
   exact assign_names (fs := frsOf fe) cx.names h1 ws ys ρ _ _ (((I.step st₁).step st₂).step st₃) r₁ hq fun s' st' I' => wpAny_pure
    ⟨.next (setTs ρ xs ws), σ₁, g₁, rfl, ((st₁.trans st₂).trans st₃).toO.transO st', rfl, I', fun j hj => setTs_get hj⟩
  ·rw [if_neg hq] at hr; exact absurd rfl hr
end
end Mine.Internal
namespace Mine.Internal
open PySem PySem.Calls
section
variable {T : Top} {fs : List Addr} {A : Around} {g : G} {σ : Store} {s : Shared} {k : Nat} {a : Addr} {kvs : List (Str × PyData)}
theorem set_S {y : Str} {t : Tok} {d : PyData} {v : Value} {Q : Unit -> Shared -> Prop} {E : Value -> Shared -> Prop} (st : St T g σ s.heap) (hk : g.mu[k + 1]? = some a) (hσ : σ[k]? = some (.dictS kvs)) (hl : kvs.length < line) (rv : RepD g.fz d v)
 (h : ∀ h' tk, Step T g.mu fs g s g (σ.set k (.dictS (putK kvs y d))) { s with heap := h', toks := tk } -> Q () { s with heap := h', toks := tk }) : wpAny (model T.prog T.w) A (setItem (.ref a) (.str y t) v) Q E s := by
 obtain ⟨ws, hD, hr, _⟩ := tabS_at st hk hσ
 refine wpAny_setItem_pairs (k := y) (strKind_is T.prog T.w y t) hD (fun h' hD' hs => h h' _ ?_) (by rw [<- kv_len hr, <- line_eq]; exact Nat.le_of_lt hl)
 obtain ⟨x, es, ep, hx, ho, hd, hk', hp, hn⟩ := hD'
 exact .turn st hk hs hx ⟨es, ep, _, ho, hd, hk', hp, hn, put_rep hr rv, Nat.le_trans (put_len _ _ _) hl⟩
end
section
variable {T : Top} {fs : List Addr} {A : Around} {g : G} {σ : Store} {s : Shared} {k : Nat} {a b : Addr} {kvs : List ((Str × Int) × PyData)} {q : Str × Int}
theorem set_P {d : PyData} {v : Value} {Q : Unit -> Shared -> Prop} {E : Value -> Shared -> Prop} (hu : A.in1.units < cLine) (st : St T g σ s.heap) (hk : g.mu[k + 1]? = some a) (hσ : σ[k]? = some (.dictP kvs)) (hl : kvs.length < line) (hb : RepD g.fz (.tuple [.str q.1, .int q.2]) (.ref b)) (rv : RepD g.fz d v)
 (h : ∀ h' tk, Step T g.mu fs g s g (σ.set k (.dictP (putK kvs q d))) { s with heap := h', toks := tk } -> Q () { s with heap := h', toks := tk }) : wpAny (model T.prog T.w) A (setItem (.ref a) (.ref b) v) Q E s := by
 obtain ⟨ws, hD, hr, _⟩ := tabP_at st hk hσ
 refine wpAny_setItem_heap (knd := tupleKind (mixKind T.prog T.w)) hu (pair_key st hb) hD (fun h' hD' hs => h h' _ ?_) (by rw [<- kp_len hr, <- line_eq]; exact Nat.le_of_lt hl)
 obtain ⟨x, es, ep, hx, ho, hd, he, _, hn⟩ := hD'
 exact .turn st hk hs hx ⟨es, ep, _, ho, hd, he, hn, putP hr hb rv, Nat.le_trans (put_len _ _ _) hl⟩
end
end Mine.Internal
namespace Mine.Internal
open PySem PySem.Calls
section
variable {T : Top} {A : Around} {s : Shared} {g : G} {Er : Value -> Shared -> Prop}
theorem setItem_plain {l : Addr} {items : Array Value} {m : Nat} {k : Int} {t : Tok} {v : Value} {Q : Unit -> Shared -> Prop} (ho : s.heap.get? l = some { cls := .type "list", dict := none, data := .seq items m, slots := #[] }) (h0 : 0 <= k) (hfit : k < 2 ^ 63) (hn : k < items.size)
 (hQ : ∀ h' m', h'.get? l = some { cls := .type "list", dict := none, data := .seq (items.setIfInBounds k.toNat v) m', slots := #[] } -> Heap.SameBut l s.heap h' -> Q () { s with heap := h' }) : wpAny (model T.prog T.w) A (setItem (.ref l) (.int k t) v) Q Er s := by
 have hT : s.TypeIs (.ref l) "list" := ⟨_, ho, rfl⟩
 unfold setItem
 refine wpAny_holding (wpAny_bind (wpAny_sequenceKey hT (by decide) (wpAny_bind (wpAny_callSpecial?_slot (name := Str.ofString "__setitem__") hT slot_list_setitem (wpAny_call_entry slot_list_setitem hT entry_list_setitem ?_ (args_list_setitem _ _ _))))))
 show wpAny _ _ (Builtin.List.listSubscript? (.int k t) >>= _) _ _ s
 refine wpAny_bind (wpAny_listSubscript_int (fitsIndex_of h0 hfit) ?_)
 clear hfit
 obtain ⟨j, rfl⟩ := Int.eq_ofNat_of_zero_le h0
 have hj : j < items.size := Int.ofNat_lt.mp hn
 show wpAny _ _ ((seqItemAt l j >>= fun r => pure (r.map (j, ·))) >>= _) _ _ s
 refine wpAny_bind (wpAny_bind (wpAny_seqItemAt ho rfl (wpAny_pure ?_)))
 rw [Array.getElem?_eq_getElem hj]
 show wpAny _ _ (setSeqItemAt l j v >>= _) _ _ s
 refine wpAny_bind (wpAny_setSeqItemAt ho rfl ?_)
 have e := Heap.get?_update_self (Obj.mapSeq (·.setIfInBounds j v)) ho rfl
 exact wpAny_bind (wpAny_pure (wpAny_pure ⟨.none, rfl, wpAny_pure (hQ _ _ e (Heap.SameBut.update ..))⟩))
theorem RepVs.set : ∀ {ws : List V} {xs : List Value} (j : Nat) {v : V} {x : Value}, RepVs T g ws xs -> RepV T g v x -> RepVs T g (ws.set j v) (xs.set j x)
 | [], [], _, _, _, _, _ => trivial
 | _ :: _, _ :: _, 0, _, _, h, r => ⟨r, h.2⟩
 | _ :: _, _ :: _, j + 1, _, _, h, r => ⟨h.1, RepVs.set j h.2 r⟩
 | [], _ :: _, _, _, _, h, _ => h.elim
 | _ :: _, [], _, _, _, h, _ => h.elim
theorem set_sim {fs : List Addr} {fe : List Env} {n : Nat} {ob ib b : V} {ov iv xv : Value} {Q : Unit -> Shared -> Prop} {σ : Store} {Er : Value -> Shared -> Prop} (ha : AOk fe n A) (st : St T g σ s.heap) (ro : RepV T g ob ov) (ri : RepV T g ib iv) (rb : RepV T g b xv) (hr : setItemV ob ib b σ ≠ .bad)
 (h : ∀ s' σ', setItemV ob ib b σ = .ok (.next []) σ' -> Step T g.mu fs g s g σ' s' -> Q () s') : wpAny (model T.prog T.w) A (setItem ov iv xv) Q Er s := by
 cases ob with
 | ref k =>
  obtain ⟨a, hk, rfl⟩ := ro
  have hr : setAt k ib b σ σ[k]? ≠ .bad := hr
  have h : ∀ s' σ', setAt k ib b σ σ[k]? = .ok (.next []) σ' -> Step T g.mu fs g s g σ' s' -> Q () s' := h
  induction eo : σ[k]? with
  | none => rw [eo] at hr; exact absurd rfl hr
  | some oo =>
  rw [eo] at hr h
  induction oo with
  | list ws =>
   have e4 : setAt k ib b σ (some (.list ws)) = (match isIntV ib with | some j => if 0 <= j ∧ j < ws.length then .ok (.next []) (σ.set k (.list (ws.set j.toNat b))) else .bad | none => .bad) := rfl
   rw [e4] at hr h
   induction ej : isIntV ib with
   | none => rw [ej] at hr; exact absurd rfl hr
   | some j =>
    rw [ej] at hr h
    obtain ⟨t, rfl⟩ := isIntV_rep ri ej
    by_cases hj : 0 <= j ∧ j < ws.length
    ·obtain ⟨x, hx, ys, m', q, hrp, hl⟩ := st.ob k a _ hk eo
     subst q
     have hsz : ys.size = ws.length := by have := hrp.length; simp at this; lia
     refine setItem_plain hx hj.1 (by have := line63 hl; lia) (by lia) fun h' m'' ho' hs => ?_
     exact h _ _ (if_pos hj) (.turn st hk hs ho' ⟨_, m'', rfl, by rw [Array.toList_setIfInBounds]; exact RepVs.set _ hrp rb, by rw [List.length_set]; exact hl⟩)
    ·exact absurd (if_neg hj) hr
  | dictS kvs =>
   have e4 : setAt k ib b σ (some (.dictS kvs)) = (match isStrV ib with | some x => (match isDV b with | some d => if kvs.length < line then .ok (.next []) (σ.set k (.dictS (putK kvs x d))) else .bad | none => .bad) | none => .bad) := rfl
   rw [e4] at hr h
   induction ej : isStrV ib with
   | none => rw [ej] at hr; exact absurd rfl hr
   | some x => induction ed : isDV b with
    | none => rw [ej, ed] at hr; exact absurd rfl hr
    | some d =>
     rw [ej, ed] at hr h
     obtain ⟨t, rfl, _⟩ := isStrV_rep ri ej
     rw [isDV_eq ed] at rb
     by_cases hl : kvs.length < line
     ·exact set_S st hk eo hl rb fun h' tk stp => h _ _ (if_pos hl) stp
     ·exact absurd (if_neg hl) hr
  | dictP kvs =>
   have e4 : setAt k ib b σ (some (.dictP kvs)) = (match isPairV ib with | some x => (match isDV b with | some d => if kvs.length < line then .ok (.next []) (σ.set k (.dictP (putK kvs x d))) else .bad | none => .bad) | none => .bad) := rfl
   rw [e4] at hr h
   induction ej : isPairV ib with
   | none => rw [ej] at hr; exact absurd rfl hr
   | some x => induction ed : isDV b with
    | none => rw [ej, ed] at hr; exact absurd rfl hr
    | some d =>
     rw [ej, ed] at hr h
     obtain ⟨t, rfl, rp⟩ := isPairV_rep ri ej
     rw [isDV_eq ed] at rb
     by_cases hl : kvs.length < line
     ·exact set_P (in1_room ha) st hk eo hl rp rb fun h' tk stp => h _ _ (if_pos hl) stp
     ·exact absurd (if_neg hl) hr
 | _ => exact absurd rfl hr
end
theorem ss_set (o i v : E) : SS (.set o i v) := by
 intro T K C fe outer own env A n ρ g σ s x hc hfe cx I hr
 induction hc with
 | @mk oe ie p ve p' h1 h2 h3 h4 =>
 rw [arm_exec_Assign]
 rw [xA_4] at hr ⊢
 refine wpAny_bind (wpAny_standAt ?_)
 show wpAny _ _ (swapsWith ve (some (.Subscript oe ie p)) p'.line env >>= _) _ _ _
 rw [not_swaps h4, pure_bind]
 simp only [Bool.false_eq_true, if_false]
 refine wpAny_bind (wpAny_mono ((soundE v).1 _ h1 cx I (bind_ne hr)) (fun xv s₁ hz_ => ?_) fun _ _ h => h)
 obtain ⟨b, σ₁, g₁, e₁, st₁, r₁⟩ := hz_
 rw [e₁] at hr ⊢
 have hr : ((evalE C o ρ σ₁).bind fun y σ => (evalE C i ρ σ).bind fun z σ => (setItemV y z b σ).bind fun _ σ => (Res.ok (Fl.next ρ) σ : Res Fl)) ≠ .bad := hr
 have hsw : swappedStores [.Subscript oe ie p] ve env = pure none := by unfold swappedStores; rfl
 rw [hsw, pure_bind]
 unfold assignStores
 show wpAny _ _ (assignAll xv [assign (.Subscript oe ie p) env] >>= fun _ => pure Flow.next) _ _ _
 have hall : assignAll xv [assign (.Subscript oe ie p) env] = (assign (.Subscript oe ie p) env xv) := by
  first | rfl | (unfold assignAll; rfl)
 rw [hall, arm_assign_Subscript]
 have I₁ := I.step st₁
 refine wpAny_bind (wpAny_bind (wpAny_holding (wpAny_mono ((soundE o).1 _ h2 cx I₁ (bind_ne hr)) (fun ov s₂ hz_ => ?_) fun _ _ h => h)))
 obtain ⟨ob, σ₂, g₂, e₂, st₂, r₂⟩ := hz_
 rw [e₂] at hr
 have hr : ((evalE C i ρ σ₂).bind fun z σ => (setItemV ob z b σ).bind fun _ σ => (Res.ok (Fl.next ρ) σ : Res Fl)) ≠ .bad := hr
 have I₂ := I₁.step st₂
 refine wpAny_bind (wpAny_holding (wpAny_mono ((soundE i).1 _ h3 cx I₂ (bind_ne hr)) (fun iv s₃ hz_ => ?_) fun _ _ h => h))
 obtain ⟨ib, σ₃, g₃, e₃, st₃, r₃⟩ := hz_
 rw [e₃] at hr
 have hr : ((setItemV ob ib b σ₃).bind fun _ σ => (Res.ok (Fl.next ρ) σ : Res Fl)) ≠ .bad := hr
 refine wpAny_bind (wpAny_standAt ?_)
 have S₃ := (st₁.trans st₂).trans st₃
 have rb : RepV T g₃ b xv := RepV.mono st₃.le _ _ (RepV.mono st₂.le _ _ r₁)
 have ro : RepV T g₃ ob ov := RepV.mono st₃.le _ _ r₂
 have eq : ((Res.ok b σ₁).bind fun x σ => (evalE C o ρ σ).bind fun y σ => (evalE C i ρ σ).bind fun z σ => (setItemV y z x σ).bind fun _ σ => (Res.ok (Fl.next ρ) σ : Res Fl)) = ((setItemV ob ib b σ₃).bind fun _ σ => (Res.ok (Fl.next ρ) σ : Res Fl)) := by
  show ((evalE C o ρ σ₁).bind _) = _
  rw [e₂]
  show ((evalE C i ρ σ₂).bind _) = _
  rw [e₃]; rfl
 rw [eq]
 refine wpAny_bind (wpAny_holding (set_sim (fs := frsOf fe) cx.ha st₃.st ro r₃ rb (bind_ne hr) fun s' σ' e4 st₄ => ?_))
 rw [e4]
 exact wpAny_release (wpAny_pure ⟨.next ρ, _, g₃, rfl, (S₃.trans st₄).toO, rfl, ((I₂.step st₃).step st₄), fun _ _ => rfl⟩)
mutual
theorem soundS : ∀ st : S, SS st
 | .asg x e => ss_asg x e
 | .swp xs es => ss_swp xs es
 | .set o i v => ss_set o i v
 | .exp e => ss_exp e
 | .ite c a b => ss_ite c (soundSs a) (soundSs b)
 | .for_ ts it body => ss_for ts it (soundSs body)
 | .while_ c body => ss_while (soundSs body)
 | .ret e => ss_ret e
theorem soundSs : ∀ l : List S, SSs l
 | [] => ss_nil
 | st :: r => ss_cons (soundS st) (soundSs r)
end
end Mine.Internal
namespace Mine.Internal
open PySem PySem.Calls
theorem cellsFrom_acc : ∀ {names : List (Str × NameKind)} {k : Nat} {acc : List (Str × Addr)} {n : Str}, (∃ c, (n, c) ∈ acc) -> ∃ c, (n, c) ∈ cellsFrom k names acc
 | [], _, _, _, h => h
 | (m, kd) :: r, k, acc, n, h => by
  unfold cellsFrom
  split
  ·obtain ⟨c, h⟩ := h; exact cellsFrom_acc ⟨c, List.mem_cons_of_mem _ h⟩
  ·exact cellsFrom_acc h
theorem cellsFrom_has : ∀ {names : List (Str × NameKind)} {k : Nat} {acc : List (Str × Addr)} {n : Str}, (n, NameKind.cell) ∈ names -> ∃ c, (n, c) ∈ cellsFrom k names acc
 | (m, kd) :: r, k, acc, n, h => by
  unfold cellsFrom
  rcases List.mem_cons.mp h with h | h
  ·cases h
   rw [if_pos (by decide)]
   exact cellsFrom_acc ⟨k, List.mem_cons_self ..⟩
  ·split
   ·exact cellsFrom_has h
   ·exact cellsFrom_has h
theorem lookup_of_mem {α : Type} {n : Str} : ∀ {l : List (Str × α)}, (∃ c, (n, c) ∈ l) -> ∃ c, l.lookup n = some c
 | p :: r, ⟨c, h⟩ => by
  rw [List.lookup_cons]
  split
  ·exact ⟨_, rfl⟩
  ·rename_i hne
   rcases List.mem_cons.mp h with h | h
   ·rw [<- h] at hne; simp at hne
   ·exact lookup_of_mem ⟨c, h⟩
theorem bindL_out (kf : Str -> Option NameKind) : ∀ {bs : List (Str × Value)} {m : Str -> Option Value} {n : Str}, (∀ p, p ∈ bs -> p.1 ≠ n) -> bindL kf bs m n = m n
 | [], m, n, _ => rfl
 | (k, v) :: r, m, n, h => by
  show bindL kf r (if kf k = some .local then fun y => if y = k then some v else m y else m) n = m n
  rw [bindL_out kf fun p hp => h p (List.mem_cons_of_mem _ hp)]
  have := h (k, v) (List.mem_cons_self ..)
  split
  ·show (if n = k then some v else m n) = m n
   rw [if_neg (fun q => this (Eq.symm q))]
  ·rfl
theorem bindC_out (kf : Str -> Option NameKind) : ∀ {bs : List (Str × Value)} {m : Str -> Option Value} {n : Str}, (∀ p, p ∈ bs -> p.1 ≠ n) -> bindC kf bs m n = m n
 | [], m, n, _ => rfl
 | (k, v) :: r, m, n, h => by
  show bindC kf r (if kf k = some .local then m else fun y => if y = k then some v else m y) n = m n
  rw [bindC_out kf fun p hp => h p (List.mem_cons_of_mem _ hp)]
  have := h (k, v) (List.mem_cons_self ..)
  split
  ·rfl
  ·show (if n = k then some v else m n) = m n
   rw [if_neg (fun q => this (Eq.symm q))]
theorem zip_fst {ns : List Str} {vs : List Value} {p : Str × Value} (h : p ∈ ns.zip vs) : p.1 ∈ ns := (List.of_mem_zip (a := p.1) (b := p.2) h).1
theorem bind_get (kf : Str -> Option NameKind) : ∀ {ns : List Str} {vs : List Value} {m : Str -> Option Value} {i : Nat} {n : Str} {v : Value}, ns.Nodup -> ns[i]? = some n -> vs[i]? = some v ->
 (kf n = some .local -> bindL kf (ns.zip vs) m n = some v) ∧ (kf n ≠ some .local -> bindC kf (ns.zip vs) m n = some v)
 | k :: ns, w :: vs, m, 0, n, v, hn, h1, h2 => by
  obtain rfl := Option.some.inj h1; obtain rfl := Option.some.inj h2
  have hn' := List.nodup_cons.mp hn
  have out : ∀ p, p ∈ ns.zip vs -> p.1 ≠ k := fun p hp q => hn'.1 (q ▸ zip_fst hp)
  refine ⟨fun hk => ?_, fun hk => ?_⟩
  ·show bindL kf (ns.zip vs) (if kf k = some .local then fun y => if y = k then some w else m y else m) k = some w
   rw [bindL_out kf out, if_pos hk]; exact if_pos rfl
  ·show bindC kf (ns.zip vs) (if kf k = some .local then m else fun y => if y = k then some w else m y) k = some w
   rw [bindC_out kf out, if_neg hk]; exact if_pos rfl
 | k :: ns, w :: vs, m, i + 1, n, v, hn, h1, h2 => by
  have hn' := List.nodup_cons.mp hn
  have ih := fun m => bind_get kf (m := m) (i := i) (n := n) (v := v) hn'.2 (by exact h1) (by exact h2)
  exact ⟨fun hk => (ih _).1 hk, fun hk => (ih _).2 hk⟩
 | [], _, _, _, _, _, _, h1, _ => by simp at h1
 | _ :: _, [], _, _, _, _, _, _, h2 => by simp at h2
structure FnOk (T : Top) (gl : Str -> Option GV) (fn : Fn) (a : Addr) : Prop where
 ex : ∃ (name : Str) (params : Arguments) (body : List Stmt) (scope : Scope) (pm cd doc : Value) (o : Obj) (vars : List Str),
  T.h0.get? a = some o ∧ o.data = .func (docDef name params body scope pm cd doc) ∧ T.h0.CodeRec cd name ∧ scope.kind = .function ∧ scope.isGenerator = false ∧ scope.isCoroutine = false ∧
  vars.Nodup ∧ vars.length = fn.nvars ∧ fn.nparams <= fn.nvars ∧ (∀ vals : List Value, vals.length = fn.nparams -> bindArgs (docDef name params body scope pm cd doc) ⟨vals, []⟩ = pure ((vars.take fn.nparams).zip vals)) ∧
  (∀ n, n ∈ vars.take fn.nparams -> scope.names.lookup n = some .local ∨ scope.names.lookup n = some .cell) ∧ (∀ p, p ∈ scope.names -> p.2 ≠ .free) ∧
  ∃ lam : Bool, IsSs fn.body ⟨vars, scope.names, vars, gl, lam⟩ body ∧ (lam = true -> (name ++ (".<locals>." : Str)) ++ ("<lambda>" : Str) = T.lq ∧ ∃ c, cd = .ref c ∧ W.CodeHd T.h0 c T.tab)
section
variable {T : Top} {fe : List Env} {own fs X : List Addr} {A : Around} {n : Nat} {g g' : G} {σ σ' : Store} {s s₁ s' : Shared}
theorem fn_sim {C : Cfg} {gl : Str -> Option GV} {fn : Fn} {a : Addr} {vs : List V} {xs : List Value} (rd : Ready T gl) (fo : FnOk T gl fn a) (cf : CallOk T C.cf n) (hn1 : 1 <= n) (st : St T g σ s.heap) (fr : FrOk g s.heap fe) (hA : AOk fe (n + 1) A)
 (r : RepVs T g vs xs) : Sim T (frsOf fe) A g s (call (.ref a) xs) (RepV T) (runFn C fn vs σ) := by
 unfold runFn
 by_cases hl : vs.length = fn.nparams
 ·rw [if_pos hl]
  intro hr
  obtain ⟨name, params, body, scope, pm, cd, doc, o, vars, ho, hdat, hcd, hk, hgen, hco, hnd, hnv, hnp, hbind, hpk, hnf, lam, hchk, hlam⟩ := fo.ex
  have hxl : xs.length = fn.nparams := by rw [<- r.length]; exact hl
  have hnd' : (vars.take fn.nparams).Nodup := List.Nodup.sublist (List.take_sublist _ _) hnd
  refine wpAny_call ?_
  refine codeAny_call_cells (by show A.depth < 1000; have := hA.depth; lia) (st.keepsBase _ _ ho) hdat (rd.ok.nolimit.keeps st.keepsBase) (hcd.keeps st.keepsBase) rfl (hbind xs hxl) rfl (fun p hp => ?_) (fun s₁ ic => ?_) hco hgen hk
  ·have hm := zip_fst hp
   rcases hpk p.1 hm with h | h
   ·exact .inl h
   ·obtain ⟨c, hc⟩ := lookup_of_mem (cellsFrom_has (k := s.heap.objs.size + 1) (acc := []) (mem_of_lookup h))
    exact .inr ⟨h, by show (List.lookup p.1 (cellsFrom (s.heap.objs.size + 1) scope.names [])).isSome = true; rw [hc]; rfl⟩
  ·generalize hE : callEnvC (docDef name params body scope pm cd doc) s.heap.objs.size a = env at ic ⊢
   have eloc : env.locals = s.heap.objs.size := by rw [<- hE]; rfl
   have esc : env.scope = scope := by rw [<- hE]; rfl
   have ecl : env.cells = cellsFrom (s.heap.objs.size + 1) scope.names [] := by rw [<- hE]; rfl
   have efr : env.frame = some s.heap.objs.size := by rw [<- hE]; rfl
   have egl : env.globals = mainGlobals := by rw [<- hE]; rfl
   have ebl : env.builtins = builtinsNs := by rw [<- hE]; rfl
   have ekd : ∀ x, env.kindOf x = scope.names.lookup x := fun x => by unfold Env.kindOf; rw [esc]
   obtain ⟨h₁, tk₁, hs₁⟩ := ic.toInCall.same
   have st₁ : St T g σ s₁.heap := (Step.grow (X := g.mu) (fs := frsOf fe) st ic.toInCall.keep (by rw [hs₁]) (by rw [hs₁])).st
   have fr₁ : FrOk g s₁.heap fe := fr.step (Step.grow (fs := frsOf fe) st ic.toInCall.keep (by rw [hs₁]) (by rw [hs₁]))
   have hLn : s.heap.get? s.heap.objs.size = none := atSize _
   have hns := ic.toInCall.ns
   rw [eloc] at hns
   obtain ⟨oL, esL, epL, hoL, hdL, _⟩ := id hns
   have apL : Apart g s₁.heap s.heap.objs.size := ⟨st.fz_none hLn, st.mu_none hLn, oL, hoL⟩
   have cell : ∀ x, env.kindOf x = some .cell ∨ env.kindOf x = some .free -> ∃ c v, env.cells.lookup x = some c ∧ s₁.heap.IsCell c v ∧ Apart g s₁.heap c ∧ s.heap.get? c = none := fun x hx => by
    have hc : scope.names.lookup x = some .cell := by
     rcases hx with h | h
     ·rw [<- ekd]; exact h
     ·rw [ekd] at h; exact absurd rfl (hnf _ (mem_of_lookup h))
    obtain ⟨c, hc'⟩ := lookup_of_mem (cellsFrom_has (k := s.heap.objs.size + 1) (acc := []) (mem_of_lookup hc))
    rw [<- ecl] at hc'
    have hic := ic.cell x c hc'
    have hab := ic.above x c (mem_of_lookup hc')
    rw [eloc] at hab
    have hcn : s.heap.get? c = none := Heap.get?_none_of_le (Nat.le_of_lt hab)
    obtain ⟨oc, hoc, hdc⟩ := id hic
    exact ⟨c, _, hc', hic, ⟨st.fz_none hcn, st.mu_none hcn, oc, hoc⟩, hcn⟩
   have cav : ∀ c, c ∈ cellsAv env -> Apart g s₁.heap c ∧ s.heap.get? c = none := fun c hc => by
    obtain ⟨x, hx, hl'⟩ := of_cellsAv hc
    obtain ⟨c', v, q1, _, q3, q4⟩ := cell x hx
    obtain rfl := Option.some.inj (hl'.symm.trans q1); exact ⟨q3, q4⟩
   have I : Inv T (env :: fe) (env.locals :: cellsAv env) vars env vars (vs.map some ++ List.replicate (fn.nvars - fn.nparams) none) g σ s₁.heap := by
    refine ⟨st₁, ⟨⟨by rw [esc, hk]; decide, by rw [esc]; exact hgen, by rw [esc]; exact hco, ebl, egl⟩, ⟨s.heap.objs.size, oL, efr, hoL, (fun ws q => by rw [hdL] at q; cases q), apL.1, apL.2.1⟩, fr₁⟩, ⟨env, fe, rfl, rfl⟩,
     ⟨by rw [esc]; exact hk, egl, ebl, by rw [eloc]; exact apL, ⟨_, by rw [eloc]; exact hns⟩, fun x hx => ?_, fun x y c hx hy => name_of_addr ic.apart (mem_of_lookup hx) (mem_of_lookup hy)⟩, fun i x v hi hv => ?_, hnd, by exact .head _, fun x hx c hk' hc => ?_, fun c hc => ?_⟩
    ·obtain ⟨c, v, q1, q2, q3, _⟩ := cell x hx
     exact ⟨c, v, q1, q2, q3⟩
    ·have hi' : i < vs.length := by
      rcases Nat.lt_or_ge i vs.length with h | h
      ·exact h
      ·rw [List.getElem?_append_right (by simpa using h)] at hv
       rw [List.getElem?_replicate] at hv
       split at hv <;> cases hv
     rw [List.getElem?_append_left (by simpa using hi'), List.getElem?_map] at hv
     have hv' : vs[i]? = some v := by
      induction q : vs[i]? with
      | none => rw [q] at hv; exact none_ne hv
      | some w => rw [q] at hv; simpa using hv
     obtain ⟨y, hy, ry⟩ := r.get hv'
     have hx : (vars.take fn.nparams)[i]? = some x := by rw [List.getElem?_take_of_lt (by lia)]; exact hi
     have hg := bind_get env.kindOf (m := fun _ => none) hnd' hx hy
     refine ⟨fun hloc => ⟨_, y, by rw [eloc]; exact hns, hg.1 hloc, ry⟩, fun hce => ?_⟩
     obtain ⟨c, w, q1, q2, _⟩ := cell x hce
     have hq := ic.cell x c q1
     have hnl : env.kindOf x ≠ some .local := by rcases hce with h | h <;> rw [h] <;> simp
     rw [hg.2 hnl] at hq
     exact ⟨c, y, q1, hq, ry⟩
    ·exact List.mem_cons_of_mem _ (mem_cellsAv (.inl hk') hc)
    ·rcases List.mem_cons.mp hc with rfl | hc
     ·rw [eloc]; exact apL
     ·exact (cav c hc).1
   have hA' : AOk (env :: fe) n (A.deeper env) := ⟨by show A.frames.map _ = _; rw [hA.frames]; rfl, by show A.depth + 1 + n <= 600; have := hA.depth; lia, by show A.units + 3 + 100 * n <= 9000; have := hA.units; lia, hA.handled⟩
   have cx : Cx T ⟨vars, scope.names, vars, gl, lam⟩ C (env :: fe) env (A.deeper env) n := ⟨rd, by rw [esc], hA', cf, fun h => ⟨hn1, by rw [<- hE]; exact (hlam h).1, by obtain ⟨c, h1, h2⟩ := (hlam h).2; exact ⟨c, by rw [<- hE]; exact h1, h2⟩⟩⟩
   have hown : ∀ c, c ∈ env.locals :: cellsAv env -> s.heap.get? c = none := fun c hc => by
    rcases List.mem_cons.mp hc with rfl | hc
    ·rw [eloc]; exact hLn
    ·exact (cav c hc).2
   have hfs : ∀ c, c ∈ frsOf (env :: fe) -> c ∈ frsOf fe ∨ s.heap.get? c = none := fun c hc => by
    unfold frsOf at hc
    rw [List.filterMap_cons_some efr] at hc
    rcases List.mem_cons.mp hc with rfl | hc
    ·exact .inr hLn
    ·exact .inl hc
   have dd : ∀ a, s₁.heap.get? a = none -> s.heap.get? a = none := fun a e => by
    induction q : s.heap.get? a with
    | none => rfl
    | some o => exact some_ne ((Eq.symm (ic.toInCall.keep a o q)).trans e)
   have hg₁ : s₁.gens = s.gens := by rw [hs₁]
   have ho₁ : s₁.os = s.os := by rw [hs₁]
   have hrb : execSs C fn.body (vs.map some ++ List.replicate (fn.nvars - fn.nparams) none) σ ≠ .bad := fun q => hr (by rw [q]; rfl)
   refine wpAny_mono (soundSs fn.body (outer := fe) body hchk rfl cx I hrb) (fun f s₂ ⟨fl, σ₂, g₂, e₂, st₂, hf⟩ => ?_) fun _ _ h => h.elim
   ·have S₂ := Step.out (fs := frsOf fe) ic.toInCall.keep hg₁ ho₁ st₂ hown hfs
    rw [e₂]
    induction fl with
    | next ρ' =>
     obtain ⟨rfl, _, _⟩ := hf
     exact ⟨.d .none, σ₂, g₂, rfl, S₂, rfl⟩
    | ret v =>
     obtain ⟨y, rfl, ry, _⟩ := hf
     exact ⟨v, σ₂, g₂, rfl, S₂, ry⟩
 ·rw [if_neg hl]; exact Sim.bad
end
end Mine.Internal
namespace Mine.Internal
open PySem PySem.Calls
section
variable {T : Top} {fe : List Env} {A : Around} {n : Nat} {g g' : G} {σ σ' : Store} {s s' : Shared} {fz' : Addr -> Option Obj}
theorem noList_rep {f f' : Addr -> Option Obj} {y : PyData} {x : Value} (h : noList y = true) (r : RepD f y x) : RepD f' y x := by
 cases y with
 | none => exact r
 | bool b => exact r
 | int i => exact r
 | str s => exact r
 | list _ => exact ff_ h
 | tuple _ => exact ff_ h
 | dict _ => exact ff_ h
theorem FrOk.other {h : Heap} : ∀ {l : List Env}, (∀ c, c ∈ frsOf l -> g'.fz c = none ∧ c ∉ g'.mu) -> FrOk g h l -> FrOk g' h l
 | [], _, _ => trivial
 | e :: r, hc, ⟨k, ⟨L, o, hf, ho, hd, h1, h2⟩, hr⟩ => by
  have hm : L ∈ frsOf (e :: r) := by unfold frsOf; rw [List.filterMap_cons_some hf]; exact List.mem_cons_self ..
  exact ⟨k, ⟨L, o, hf, ho, hd, (hc L hm).1, (hc L hm).2⟩, FrOk.other (fun c h => hc c (by unfold frsOf; rw [List.filterMap_cons_some hf]; exact List.mem_cons_of_mem _ h)) hr⟩
theorem ob_data {o : O} {x : Obj} (h : RepO T g o x) : ∀ vs, x.data ≠ .fields vs := fun vs q => by
 cases o with
 | list ws => obtain ⟨xs, m, e, _⟩ := h; rw [e] at q; exact nomatch q
 | dictS kvs => obtain ⟨es, ep, ws, ho, hd, _⟩ := h; rw [hd] at q; exact nomatch q
 | dictP kvs => obtain ⟨es, ep, ws, ho, hd, _⟩ := h; rw [hd] at q; exact nomatch q
theorem iso_core {run : List V -> Store -> Res V} {vs : List V} {a : Addr} {xs : List Value} {gc : G} {flat : Bool} (hg : gc.mu = [T.tab]) (stc : St T gc [] s.heap) (hcg : ∀ b o, gc.fz b = some o -> g.fz b = some o ∨ b ∈ g.mu) (st : St T g σ s.heap) (fr : FrOk g s.heap fe) (hb : Sim T (frsOf fe) A gc s (call (.ref a) xs) (RepV T) (run vs []))
 (hF : ∀ (v : V) (x : Value) (y : PyData) (σ' : Store) (g' : G) (s' : Shared), Step T [T.tab] (frsOf fe) gc s g' σ' s' -> RepV T g' v x -> ansOf1 flat σ' v = some y -> ∃ F : Addr -> Option Obj, FzLe g.fz F ∧ (∀ b o, F b = some o -> g.fz b = some o ∨ (s.heap.get? b = none ∧ s'.heap.get? b = some o)) ∧ RepD F y x) :
 Sim T (frsOf fe) A g s (call (.ref a) xs) (RepV T) (isoCall run vs flat σ) := by
 intro hr
 unfold isoCall at hr ⊢
 have hrun : run vs [] ≠ .bad := fun q => hr (by rw [q])
 refine wpAny_mono (hb hrun) (fun x s' ⟨v, σ', g', e, st', rv⟩ => ?_) fun _ _ h => h
 rw [e] at hr ⊢
 rw [hg] at st'
 dsimp only at hr ⊢
 induction hs : ansOf1 flat σ' v with
 | none => rw [hs] at hr; exact absurd rfl hr
 | some y =>
 obtain ⟨F0, h1, h2, h3⟩ := hF v x y σ' g' s' st' rv hs
 have tm := st.tb.mem
 have nT : ∀ b, b ∉ g.mu -> b ∉ [T.tab] := fun b h q => h (by rw [List.mem_singleton.mp q]; exact tm)
 have keepF : ∀ b o, g.fz b = some o -> s'.heap.get? b = some o := fun b o e => st'.kept.same b o (st.fz b o e) (nT b fun q => none_ne ((st.ap b q).symm.trans e)) fun q => none_ne ((Eq.symm ((fr.mem q).1)).trans e)
 obtain ⟨F, hFd⟩ : ∃ F : Addr -> Option Obj, ∀ b, F b = if F0 b = none ∧ s.heap.get? b = none then g'.fz b else F0 b := ⟨_, fun _ => rfl⟩
 have up : ∀ b o, F0 b = some o -> F b = some o := fun b o e => by rw [hFd, if_neg fun q => none_ne (q.1.symm.trans e)]; exact e
 have H2 : ∀ b o, F b = some o -> g.fz b = some o ∨ (s.heap.get? b = none ∧ s'.heap.get? b = some o) := fun b o e => by
  rw [hFd] at e
  by_cases q : F0 b = none ∧ s.heap.get? b = none
  ·rw [if_pos q] at e; exact .inr ⟨q.2, st'.st.fz b o e⟩
  ·rw [if_neg q] at e; exact h2 b o e
 have le : G.le g ⟨F, g.mu⟩ := ⟨fun b o e => up b o (h1 b o e), fun _ _ h => h⟩
 refine ⟨.d y, σ, ⟨F, g.mu⟩, rfl, ⟨le, ⟨fun b o hb => (H2 b o hb).elim (fun h => keepF b o h) fun h => h.2, st.len, st.nd, fun b hb => ?_, fun k b o e1 e2 => ?_, fun b o hb => le.fz b o (st.base b o hb), ?_⟩,
  ⟨st'.kept.alive, fun b o e nb nf => st'.kept.same b o e (nT b nb) nf, fun b o e nb hf => st'.kept.slots b o e (nT b nb) hf⟩, ⟨fun _ h => .inl h, fun b o hb => (H2 b o hb).imp id fun h => .inl h.1⟩, st'.gens, st'.os⟩, RepD.mono up _ _ h3⟩
 ·induction hz : F b with
  | none => exact hz
  | some o =>
   obtain ⟨o', al⟩ := st.mu_alive hb
   rcases H2 b o hz with h | h
   ·exact none_ne ((Eq.symm (st.ap b hb)).trans h)
   ·exact none_ne ((Eq.symm (h.1)).trans al)
 ·obtain ⟨z, h1, h2⟩ := st.ob k b o e1 e2
  refine ⟨z, st'.kept.same b z h1 (fun q => tab_ne st e1 (List.mem_singleton.mp q).symm) fun q => (fr.mem q).2.1 (List.mem_of_getElem? e1), RepO.mono le _ _ h2⟩
 ·obtain ⟨ps0, g0, _⟩ := st.tb
  obtain ⟨ps, _, ho, ht, hc⟩ := st'.st.tb
  refine ⟨ps, g0, ho, ht, fun pos cv e => ?_⟩
  obtain ⟨c, o, ws, t, q1, q2, q3, q4⟩ := hc pos cv e
  refine ⟨c, o, ws, t, q1, ?_, q3, q4⟩
  show F c = some o
  rcases st'.new.fz c o q2 with h | h | h
  ·rcases hcg c o h with h' | h'
   ·exact up c o (h1 c o h')
   ·exfalso
    obtain ⟨k, hk, ek⟩ := List.mem_iff_getElem.mp h'
    have hl := st.len
    cases k with
    | zero =>
     rw [List.getElem?_eq_getElem hk, ek] at g0
     rw [Option.some.inj g0, stc.ap T.tab (by rw [hg]; exact .head _)] at h
     exact none_ne h
    | succ k =>
     have hσ : k < σ.length := by lia
     obtain ⟨z, h1, h2⟩ := st.ob k c σ[k] (by rw [List.getElem?_eq_getElem hk, ek]) (List.getElem?_eq_getElem hσ)
     obtain rfl := Option.some.inj (h1.symm.trans (stc.fz c o h))
     exact ob_data h2 ws q3
  ·induction hz : F0 c with
   | some o2 =>
    rcases h2 c o2 hz with h' | h'
    ·exact none_ne (h.symm.trans (st.fz c o2 h'))
    ·rw [up c o2 hz]; exact h'.2.symm.trans (st'.st.fz c o q2)
   | none => rw [hFd, if_pos ⟨hz, h⟩]; exact q2
  ·rw [hg] at h
   rw [List.mem_singleton.mp h, st'.st.ap T.tab st'.st.tb.mem] at q2
   exact none_ne q2
theorem own_ne {g' : G} {σ' : Store} {s' : Shared} {gc : G} {b : Addr} (st' : Step T [T.tab] (frsOf fe) gc s g' σ' s') (hg : gc.mu = [T.tab]) (hb : b ∈ g'.mu) (hn : b ≠ T.tab) : s.heap.get? b = none :=
 (st'.new.mu b hb).elim (fun h => absurd (List.mem_singleton.mp (hg ▸ h)) hn) id
theorem iso_inert {run : List V -> Store -> Res V} {vs : List V} {a : Addr} {xs : List Value} (stc : St T ⟨g.fz, [T.tab]⟩ [] s.heap) (st : St T g σ s.heap) (fr : FrOk g s.heap fe) (hb : Sim T (frsOf fe) A ⟨g.fz, [T.tab]⟩ s (call (.ref a) xs) (RepV T) (run vs [])) :
 Sim T (frsOf fe) A g s (call (.ref a) xs) (RepV T) (isoCall run vs false σ) := by
 refine iso_core rfl stc (fun b o h => .inl h) st fr hb fun v x y σ' g' s' st' rv hs => ?_
 have out : ∀ {b : Addr} {o : Obj}, g'.fz b = some o -> b ∉ g'.mu := fun {b o} hb hm => by exact none_ne ((Eq.symm (st'.st.ap b hm)).trans hb)
 have nt : ∀ {b : Addr} {o : Obj}, g'.fz b = some o -> b ≠ T.tab := fun {b o} hb q => out hb (q ▸ st'.st.tb.mem)
 refine ⟨fun b => if b = T.tab then none else if b ∈ g'.mu then s'.heap.get? b else g'.fz b, fun b o hb => ?_, fun b o hb => ?_, snap_fz st'.st (fun b o hb => ?_) (fun k b hb o ho => ?_) 8 v x y rv hs⟩
 ·have h1 : g'.fz b = some o := st'.le.fz b o hb
  show (if b = T.tab then none else if b ∈ g'.mu then s'.heap.get? b else g'.fz b) = some o
  rw [if_neg (nt h1), if_neg (out h1)]; exact h1
 ·have hb' : (if b = T.tab then none else if b ∈ g'.mu then s'.heap.get? b else g'.fz b) = some o := hb
  by_cases q : b = T.tab
  ·rw [if_pos q] at hb'; exact none_ne hb'
  rw [if_neg q] at hb'
  by_cases hm : b ∈ g'.mu
  ·rw [if_pos hm] at hb'; exact .inr ⟨own_ne st' rfl hm q, hb'⟩
  ·rw [if_neg hm] at hb'
   rcases st'.new.fz b o hb' with h | h | h
   ·exact .inl h
   ·exact .inr ⟨h, st'.st.fz b o hb'⟩
   ·exact absurd (List.mem_singleton.mp h) q
 ·show (if b = T.tab then none else if b ∈ g'.mu then s'.heap.get? b else g'.fz b) = some o
  rw [if_neg (nt hb), if_neg (out hb)]; exact hb
 ·show (if b = T.tab then none else if b ∈ g'.mu then s'.heap.get? b else g'.fz b) = some o
  rw [if_neg (fun q => tab_ne st'.st hb q.symm), if_pos (List.mem_of_getElem? hb)]; exact ho
theorem fresh_fz {fz' : Addr -> Option Obj} (st : St T g σ s.heap) (h2 : ∀ (k : Nat) (a : Addr), g.mu[k + 1]? = some a -> ∀ o, s.heap.get? a = some o -> fz' a = some o) : ∀ (n : Nat) (v : V) (x : Value) (d : PyData), RepV T g v x -> fresh σ n v = some d -> RepD fz' d x := by
 intro n
 induction n with
 | zero =>
  intro v x d r e
  cases v with
  | d y => obtain ⟨hn, rfl⟩ := if_some e; exact noList_rep hn r
  | _ => exact none_ne e
 | succ n ih =>
  intro v x d r e
  cases v with
  | d y => obtain ⟨hn, rfl⟩ := if_some e; exact noList_rep hn r
  | ref k =>
   obtain ⟨a, e1, rfl⟩ := r
   have e : snapO (fresh σ n) σ[k]? = some d := e
   induction ho : σ[k]? with
   | none => rw [ho] at e; exact none_ne e
   | some o => induction o with
   | dictS _ => rw [ho] at e; exact none_ne e
   | dictP _ => rw [ho] at e; exact none_ne e
   | list ws =>
   rw [ho] at e
   have e : (match snapL (fresh σ n) ws with | some xs => some (.list xs) | none => none) = some d := e
   induction hx : snapL (fresh σ n) ws with
   | none => rw [hx] at e; exact none_ne e
   | some ds =>
    rw [hx] at e
    rw [<- Option.some.inj e]
    obtain ⟨y, hy, xs, m, q, hr, hl⟩ := st.ob k a _ e1 ho
    subst q
    have h3 := snapL_fz ih ws xs.toList ds hr hx
    exact ⟨a, _, xs, m, rfl, h2 k a e1 _ hy, rfl, rfl, h3, by rw [h3.length, <- hr.length]; exact hl⟩
  | _ => exact none_ne e
theorem iso_lent {run : List V -> Store -> Res V} {vs : List V} {a : Addr} {xs : List Value} {gc : G} (hg : gc.mu = [T.tab]) (stc : St T gc [] s.heap) (hcg : ∀ b o, gc.fz b = some o -> g.fz b = some o ∨ b ∈ g.mu) (st : St T g σ s.heap) (fr : FrOk g s.heap fe) (hb : Sim T (frsOf fe) A gc s (call (.ref a) xs) (RepV T) (run vs [])) :
 Sim T (frsOf fe) A g s (call (.ref a) xs) (RepV T) (isoCall run vs true σ) := by
 refine iso_core hg stc hcg st fr hb fun v x y σ' g' s' st' rv hs => ?_
 have tfz := st.ap _ st.tb.mem
 refine ⟨fun b => if b = T.tab then none else if b ∈ g'.mu then s'.heap.get? b else g.fz b, fun b o hb => ?_, fun b o hb => ?_, fresh_fz st'.st (fun k b hb o ho => ?_) 8 v x y rv hs⟩
 ·have q : b ≠ T.tab := fun q => by rw [q, tfz] at hb; exact none_ne hb
  show (if b = T.tab then none else if b ∈ g'.mu then s'.heap.get? b else g.fz b) = some o
  rw [if_neg q, if_neg (fun hm => by have := st.fz b o hb; exact none_ne ((Eq.symm (own_ne st' hg hm q)).trans this))]; exact hb
 ·have hb' : (if b = T.tab then none else if b ∈ g'.mu then s'.heap.get? b else g.fz b) = some o := hb
  by_cases q : b = T.tab
  ·rw [if_pos q] at hb'; exact none_ne hb'
  rw [if_neg q] at hb'
  by_cases hm : b ∈ g'.mu
  ·rw [if_pos hm] at hb'; exact .inr ⟨own_ne st' hg hm q, hb'⟩
  ·rw [if_neg hm] at hb'; exact .inl hb'
 ·show (if b = T.tab then none else if b ∈ g'.mu then s'.heap.get? b else g.fz b) = some o
  rw [if_neg (fun q => tab_ne st'.st hb q.symm), if_pos (List.mem_of_getElem? hb)]; exact ho
theorem inert_rep {vs : List V} : ∀ {xs : List Value}, inert vs = true -> RepVs T g vs xs -> RepVs T ⟨g.fz, [T.tab]⟩ vs xs := by
 induction vs with
 | nil => intro xs _ r; rcases xs with _ | ⟨x, xs⟩; exact trivial; exact r.elim
 | cons v vs ih =>
  intro xs h r
  rcases xs with _ | ⟨x, xs⟩
  ·exact r.elim
  ·cases v with
   | d y => exact ⟨r.1, ih h r.2⟩
   | _ => exact (Bool.false_ne_true h).elim
noncomputable def G.lend (t : Addr) (g : G) (h : Heap) : G := ⟨fun b => if b = t then none else if b ∈ g.mu then h.get? b else g.fz b, [t]⟩
theorem lent_rep (st : St T g σ s.heap) : ∀ {vs : List V} {xs : List Value} {ws : List V}, lent σ vs = some ws -> RepVs T g vs xs -> RepVs T (G.lend T.tab g s.heap) ws xs := by
 have h1 : FzLe g.fz (G.lend T.tab g s.heap).fz := fun b o hb => by
  show (if b = T.tab then none else if b ∈ g.mu then s.heap.get? b else g.fz b) = some o
  have out : b ∉ g.mu := fun hm => by exact none_ne ((Eq.symm (st.ap b hm)).trans hb)
  rw [if_neg (fun (q : b = T.tab) => out (q ▸ st.tb.mem)), if_neg out]; exact hb
 have h2 : ∀ (k : Nat) (a : Addr), g.mu[k + 1]? = some a -> ∀ o, s.heap.get? a = some o -> (G.lend T.tab g s.heap).fz a = some o := fun k b hb o ho => by
  show (if b = T.tab then none else if b ∈ g.mu then s.heap.get? b else g.fz b) = some o
  rw [if_neg (fun q => tab_ne st hb q.symm), if_pos (List.mem_of_getElem? hb)]; exact ho
 have dat : ∀ {v : V} {x : Value} {d : PyData}, snap σ 8 v = some d -> RepV T g v x -> RepV T (G.lend T.tab g s.heap) (.d d) x := fun hs r => snap_fz st h1 h2 8 _ _ _ r hs
 intro vs
 induction vs with
 | nil =>
  intro xs ws h r
  obtain rfl : [] = ws := Option.some.inj h
  induction xs with
  | nil => exact trivial
  | cons _ _ => exact r.elim
 | cons v vs ih =>
  intro xs ws h r
  induction xs with
  | nil => exact r.elim
  | cons x xs =>
   have gen : ∀ (d : PyData) (ys : List V), snap σ 8 v = some d -> lent σ vs = some ys -> RepVs T (G.lend T.tab g s.heap) (.d d :: ys) (x :: xs) := fun d ys e1 e2 => ⟨dat e1 r.1, ih e2 r.2⟩
   cases v with
   | _ =>
    have key : ∀ u : V, (match snap σ 8 u, lent σ vs with | some x, some xs => some (V.d x :: xs) | _, _ => none) = some ws -> ∃ d ys, snap σ 8 u = some d ∧ lent σ vs = some ys ∧ ws = .d d :: ys := fun u h => by
     induction e1 : snap σ 8 u with
     | none => rw [e1] at h; exact none_ne h
     | some d => induction e2 : lent σ vs with
      | none => rw [e1, e2] at h; exact none_ne h
      | some ys => rw [e1, e2] at h; exact ⟨d, ys, rfl, rfl, (Option.some.inj h).symm⟩
    first | exact none_ne h | (obtain ⟨d, ys, e1, e2, rfl⟩ := key _ h; exact gen d ys e1 e2)
theorem callF_ok {P : Nat -> Option Fn} {gl : Str -> Option GV} (fuel : Nat) (rd : Ready T gl) (fns : ∀ f fn a, P f = some fn -> T.fn f = some a -> FnOk T gl fn a) : ∀ n, CallOk T (callF P fuel n) (n + 1) := by
 intro n
 induction n with
 | zero =>
  intro fe A g σ s m f a vs xs hf st fr hne hA r
  exact Sim.bad
 | succ n ih =>
  intro fe A g σ s m f a vs xs hf st fr hne hA r
  show Sim _ _ _ _ _ _ _ (match P f with | none => .bad | some fn => (match m with | .shared => runFn ⟨callF P fuel n, fuel⟩ fn vs σ | .frz => (match inert vs with | true => isoCall (runFn ⟨callF P fuel n, fuel⟩ fn) vs false σ | false => (match lent σ vs with | some xs => isoCall (runFn ⟨callF P fuel n, fuel⟩ fn) xs true σ | none => .bad))) : Res V)
  induction hP : P f with
  | none => exact Sim.bad
  | some fn =>
   have fo := fns f fn a hP hf
   have base : ∀ {g : G} {σ : Store} {vs : List V}, St T g σ s.heap -> FrOk g s.heap fe -> RepVs T g vs xs -> Sim T (frsOf fe) A g s (call (.ref a) xs) (RepV T) (runFn ⟨callF P fuel n, fuel⟩ fn vs σ) :=
    fun st fr r => fn_sim (C := ⟨callF P fuel n, fuel⟩) rd fo ih (Nat.succ_pos n) st fr hA r
   obtain ⟨ps, g0, ho, ht, hc⟩ := id st.tb
   have tfz := st.ap _ st.tb.mem
   have frt : ∀ c, c ∈ frsOf fe -> c ∉ [T.tab] := fun c hc q => (fr.mem hc).2.1 (by rw [List.mem_singleton.mp q]; exact st.tb.mem)
   induction m with
   | shared => exact base st fr r
   | frz =>
    dsimp only
    induction hi : inert vs with
    | true =>
     dsimp only
     have stc : St T ⟨g.fz, [T.tab]⟩ [] s.heap := ⟨st.fz, rfl, List.nodup_cons.mpr ⟨List.not_mem_nil, List.nodup_nil⟩, (fun b hb => by rw [List.mem_singleton.mp hb]; exact tfz), (fun k b o e1 _ => by simp at e1), st.base, ⟨ps, rfl, ho, ht, hc⟩⟩
     exact iso_inert stc st fr (base stc (fr.other fun c hc => ⟨(fr.mem hc).1, frt c hc⟩) (inert_rep hi r))
    | false =>
     dsimp only
     induction hl : lent σ vs with
     | none => exact Sim.bad
     | some ws =>
      dsimp only
      have fzl : ∀ b o, (G.lend T.tab g s.heap).fz b = some o -> s.heap.get? b = some o ∧ (g.fz b = some o ∨ b ∈ g.mu) := fun b o hb => by
       have hb' : (if b = T.tab then none else if b ∈ g.mu then s.heap.get? b else g.fz b) = some o := hb
       by_cases q : b = T.tab
       ·rw [if_pos q] at hb'; exact none_ne hb'
       rw [if_neg q] at hb'
       by_cases hm : b ∈ g.mu
       ·rw [if_pos hm] at hb'; exact ⟨hb', .inr hm⟩
       ·rw [if_neg hm] at hb'; exact ⟨st.fz b o hb', .inl hb'⟩
      have up : ∀ b o, g.fz b = some o -> (G.lend T.tab g s.heap).fz b = some o := fun b o hb => by
       have out : b ∉ g.mu := fun hm => by exact none_ne ((Eq.symm (st.ap b hm)).trans hb)
       show (if b = T.tab then none else if b ∈ g.mu then s.heap.get? b else g.fz b) = some o
       rw [if_neg (fun (q : b = T.tab) => out (q ▸ st.tb.mem)), if_neg out]; exact hb
      have stc : St T (G.lend T.tab g s.heap) [] s.heap := by
       refine ⟨fun b o hb => (fzl b o hb).1, rfl, List.nodup_cons.mpr ⟨List.not_mem_nil, List.nodup_nil⟩, (fun b hb => ?_), (fun k b o e1 _ => by simp [G.lend] at e1), fun b o hb => up b o (st.base b o hb), ⟨ps, rfl, ho, ht, fun pos cv e => ?_⟩⟩
       ·rw [List.mem_singleton.mp (show b ∈ [T.tab] from hb)]; exact if_pos rfl
       ·obtain ⟨c, o, ws, t, q1, q2, q3⟩ := hc pos cv e
        exact ⟨c, o, ws, t, q1, up c o q2, q3⟩
      refine iso_lent rfl stc (fun b o h => (fzl b o h).2) st fr (base stc (fr.other fun c hc => ⟨?_, frt c hc⟩) (lent_rep st hl r))
      show (if c = T.tab then none else if c ∈ g.mu then s.heap.get? c else g.fz c) = none
      rw [if_neg (fun (q : c = T.tab) => (fr.mem hc).2.1 (q ▸ st.tb.mem)), if_neg (fr.mem hc).2.1]; exact (fr.mem hc).1
end
end Mine.Internal
namespace Mine.Internal
open PySem PySem.Calls
theorem lookup_zip_some {ns : List Str} {vals : List Value} (h : vals.length = ns.length) {n : Str} (hn : n ∈ ns) : ((ns.zip vals).lookup n).isNone = false := by
 induction ns generalizing vals with
 | nil => simp at hn
 | cons a ns ih =>
  induction vals with
  | nil => simp at h
  | cons v vals =>
   rw [List.zip_cons_cons, List.lookup_cons]
   by_cases e : n == a
   ·rw [e]; rfl
   ·have e' : (n == a) = false := by exact Bool.not_eq_true _ |>.mp e
    rw [e']
    refine ih (by exact Nat.succ.inj h) ?_
    simp only [List.mem_cons] at hn
    rcases hn with hn | hn
    ·rw [hn] at e; simp at e
    ·exact hn
theorem filterMap_zip : ∀ {ns : List Str} {vals : List Value}, vals.length = ns.length -> ns.Nodup -> ns.filterMap (fun n => ((ns.zip vals).lookup n).map (n, ·)) = ns.zip vals
 | [], [], _, _ => rfl
 | [], _ :: _, h, _ => by simp at h
 | _ :: _, [], h, _ => by simp at h
 | a :: ns, v :: vals, h, hn => by
  rw [List.nodup_cons] at hn
  rw [List.zip_cons_cons, List.filterMap_cons]
  have h0 : List.lookup a ((a, v) :: ns.zip vals) = some v := by rw [List.lookup_cons]; simp
  rw [h0]
  simp only [Option.map_some]
  congr 1
  have : ∀ x ∈ ns, (List.lookup x ((a, v) :: ns.zip vals)) = List.lookup x (ns.zip vals) := by
   intro x hx
   rw [List.lookup_cons]
   have : (x == a) = false := by
    simp only [beq_eq_false_iff_ne]; intro e; exact hn.1 (e ▸ hx)
   rw [this]
  have e : ∀ l : List Str, (∀ x ∈ l, x ∈ ns) -> l.filterMap (fun n => Option.map (n, ·) (List.lookup n ((a, v) :: ns.zip vals))) = l.filterMap (fun n => Option.map (n, ·) (List.lookup n (ns.zip vals))) := by
   intro l hl
   induction l with
   | nil => rfl
   | cons b l ih => rw [List.filterMap_cons, List.filterMap_cons, this b (hl b (by exact .head _)), ih (fun x hx => hl x (by exact .tail _ hx))]
  rw [e ns (fun _ h => h)]
  exact filterMap_zip (ns := ns) (vals := vals) (by exact Nat.succ.inj h) hn.2
theorem bind_plain {name : Str} {as : List Arg} {kd : List (Option Expr)} {df : List Expr} {body : List Stmt} {scope : Scope} {pm cd doc : Value} {vals : List Value} (h : vals.length = as.length) (hn : (as.map (·.arg)).Nodup) :
 bindArgs (docDef name ⟨[], as, none, [], kd, none, df⟩ body scope pm cd doc) ⟨vals, []⟩ = pure ((as.map (·.arg)).zip vals) := by
 have hl : vals.length = (as.map (·.arg)).length := by simpa using h
 have h1 : (List.filter (fun n => (List.lookup n ((as.map (·.arg)).zip vals)).isNone) (as.map (·.arg))) = [] := by
  rw [List.filter_eq_nil_iff]
  intro n hn
  rw [lookup_zip_some hl hn]; simp
 have h2 := filterMap_zip hl hn
 have h3 : ¬ (as.map (·.arg)).length < vals.length := by lia
 have h4 : decide (vals.length > (as.map (·.arg)).length) = false := by rw [decide_eq_false_iff_not]; (with_reducible assumption)
 have h5 : notAStandIn .none = pure () := rfl
 unfold bindArgs docDef seqItems?
 simp only [List.map_nil, List.nil_append, List.forIn_nil, pure_bind, List.append_nil, Option.isNone_none, Bool.and_true, List.length_nil, h4, h5, Option.getD_none, Bool.false_eq_true, if_false, List.drop_nil, List.zip_nil_right, Nat.sub_zero, List.take_length, h1, List.isEmpty_nil, Bool.not_true, h2]
end Mine.Internal
namespace Mine.Internal
open PySem PySem.Calls PyProof.Rows
noncomputable def bodyOf (p : Program) (n : Str) : List Stmt := match (recsOf p).find? (·.name == n) with | some d => d.body | none => []
noncomputable def parOk (o : Option NameKind) : Bool := match o with | some .local => true | some .cell => true | _ => false
noncomputable def okRec (gl : Str -> Option GV) (ln : Nat) (x : Nat × Str × Fn × List Str) (d : DefRec) : Bool :=
 decide (d.scope.kind = .function) && !d.scope.isGenerator && !d.scope.isCoroutine && decide (x.2.2.2.Nodup) && decide (x.2.2.2.length = x.2.2.1.nvars) && decide (x.2.2.1.nparams <= x.2.2.1.nvars) &&
  (x.2.2.2.take x.2.2.1.nparams).all (fun n => parOk (d.scope.names.lookup n)) && d.scope.names.all (fun q => decide (q.2 ≠ .free)) &&
  (d.params.posonlyargs.isEmpty && d.params.vararg.isNone && d.params.kwonlyargs.isEmpty && d.params.kwarg.isNone && decide (d.params.args.map (·.arg) = x.2.2.2.take x.2.2.1.nparams)) &&
  okSs x.2.2.1.body ⟨x.2.2.2, d.scope.names, x.2.2.2, gl, x.1 == ln⟩ d.body
noncomputable def okFn (p : Program) (gl : Str -> Option GV) (ln : Nat) (x : Nat × Str × Fn × List Str) : Bool := ((recsOf p).find? (·.name == x.2.1)).any (okRec gl ln x)
theorem any_some {α : Type} {f : α -> Bool} {o : Option α} (h : o.any f = true) : ∃ d, o = some d ∧ f d = true := by
 induction o with
 | none => exact (Bool.false_ne_true h).elim
 | some d => exact ⟨d, rfl, h⟩
section
variable {p : Program} {loose : List Str} {mean : ExcName -> Option Value} {mg mb : Str -> Option Value} {T : Mine.Internal.Top} {gl : Str -> Option GV} {h : Heap} {ln : Nat} {lname : Str}
structure Hid (T : Mine.Internal.Top) (h : Heap) (mg : Str -> Option Value) (lname : Str) : Prop where
 tab : h.get? T.tab = some (W.tabObj #[])
 keep : ∀ a o, h.get? a = some o -> a ≠ T.tab -> T.h0.get? a = some o
 lam : ∀ a o fd, mg lname = some (.ref a) -> h.get? a = some o -> o.data = .func fd -> ∃ c, fd.code = .ref c ∧ W.CodeHd h c T.tab
 lq : (lname ++ (".<locals>." : Str)) ++ ("<lambda>" : Str) = T.lq
theorem Hid.get (H : Hid T h mg lname) {a : Addr} {o : Obj} (e : h.get? a = some o) (hd : o.data ≠ .fields #[]) : T.h0.get? a = some o :=
 H.keep a o e fun q => hd (by rw [q, H.tab] at e; rw [<- Option.some.inj e])
theorem Hid.ns (H : Hid T h mg lname) {a : Addr} {m : Str -> Option Value} (x : h.Ns a m) : T.h0.Ns a m :=
 let ⟨o, es, ep, e, d, r⟩ := x; ⟨o, es, ep, H.get e (by rw [d]; exact fun q => nomatch q), d, r⟩
theorem Hid.code (H : Hid T h mg lname) {cd : Value} {q : Str} (x : h.CodeRec cd q) : T.h0.CodeRec cd q :=
 let ⟨c, o, vs, t, e, g, d, r⟩ := x; ⟨c, o, vs, t, e, H.get g (fun w => by rw [d] at w; injection w with w; rw [w] at r; exact none_ne r), d, r⟩
theorem Hid.hd (H : Hid T h mg lname) {c : Addr} (x : W.CodeHd h c T.tab) : W.CodeHd T.h0 c T.tab :=
 let ⟨o, vs, file, tf, flags, tg, inF, text, tt, e, a, b, c', d, f, g, i, j, hne⟩ := x; ⟨o, vs, file, tf, flags, tg, inF, text, tt, H.keep _ _ e hne, a, b, c', d, f, g, i, j, hne⟩
theorem okFn_rec {x : Nat × Str × Fn × List Str} (h : okFn p gl ln x = true) : ∃ d, d ∈ recsOf p ∧ d.name = x.2.1 := by
 obtain ⟨d, hd, _⟩ := any_some h
 exact ⟨d, List.mem_of_find?_eq_some hd, eq_of_beq (show (d.name == x.2.1) = true from List.find?_some (p := fun (y : DefRec) => y.name == x.2.1) hd)⟩
theorem parOk_of {o : Option NameKind} (h : parOk o = true) : o = some .local ∨ o = some .cell := by
 induction o with
 | none => exact (Bool.false_ne_true h).elim
 | some k =>
  induction k with
  | «local» => exact .inl rfl
  | cell => exact .inr rfl
  | _ => exact (Bool.false_ne_true h).elim
theorem fnOk_of (Tp : PyProof.Rows.Top p loose mean mg mb h) (H : Hid T h mg lname) {x : Nat × Str × Fn × List Str} (h : okFn p gl ln x = true) (hln : x.1 = ln -> x.2.1 = lname) (hem : emSs x.2.2.1.body (bodyOf p x.2.1) = bodyOf p x.2.1) {a : Addr} (ha : mg x.2.1 = some (.ref a)) : FnOk T gl x.2.2.1 a := by
 obtain ⟨d, hd, h⟩ := any_some h
 ·have hm := List.mem_of_find?_eq_some hd
  have hn : d.name = x.2.1 := eq_of_beq (show (d.name == x.2.1) = true from List.find?_some (p := fun (y : DefRec) => y.name == x.2.1) hd)
  unfold okRec at h
  simp only [Bool.and_eq_true, decide_eq_true_eq, Bool.not_eq_true', List.all_eq_true, List.isEmpty_iff, Option.isNone_iff_eq_none] at h
  obtain ⟨⟨⟨⟨⟨⟨⟨⟨⟨h1, h2⟩, h3⟩, h4⟩, h5⟩, h6⟩, h7⟩, h8⟩, ⟨⟨⟨⟨p1, p2⟩, p3⟩, p4⟩, p5⟩⟩, h9⟩ := h
  obtain ⟨a', o, pm, code, doc, e1, e2, e3, e4⟩ := Tp.fn d hm
  rw [hn, ha] at e1
  cases e1
  have hbo : bodyOf p x.2.1 = d.body := by show (match (recsOf p).find? (·.name == x.2.1) with | some d => d.body | none => []) = _; rw [hd]
  rw [hbo] at hem
  refine ⟨d.name, d.params, d.body, d.scope, pm, code, doc, o, x.2.2.2, H.get e2 (by rw [e3]; exact fun q => nomatch q), e3, H.code e4, h1, h2, h3, h4, h5, h6, fun vals hv => ?_, fun n hn => ?_, fun q hq => ?_, x.1 == ln, hem ▸ isSs_of _ h9, fun hl => ?_⟩
  ·rcases hP : d.params with ⟨po, as, va, ko, kd, kw, df⟩
   rw [hP] at p1 p2 p3 p4 p5
   simp only at p1 p2 p3 p4 p5
   subst p1 p2 p3 p4
   rw [<- p5]
   refine bind_plain ?_ ?_
   ·have : as.length = (as.map (·.arg)).length := by simp
    rw [this, p5, List.length_take, h5, hv]; lia
   ·rw [p5]; exact List.Nodup.sublist (List.take_sublist _ _) h4
  ·exact parOk_of (h7 n hn)
  ·exact h8 q hq
  ·have hl := hln (eq_of_beq hl)
   obtain ⟨c, hc1, hc2⟩ := H.lam _ _ _ (hl ▸ ha) e2 e3
   exact ⟨by rw [hn, hl]; exact H.lq, c, hc1, H.hd hc2⟩
noncomputable def freeOk (p : Program) (loose : List Str) (x : Str) : Bool :=
 !startupNames.contains x && !loose.contains x && !((recsOf p).map (·.name)).contains x && !((litsOf p).map (·.1)).contains x && !((clssOf p loose).map (·.name)).contains x && (x != ("__name__" : Str))
theorem free_of (Tp : PyProof.Rows.Top p loose mean mg mb h) {x : Str} (h : freeOk p loose x = true) : mg x = none ∧ mb x = bootBuiltins x := by
 unfold freeOk at h
 simp only [Bool.and_eq_true, Bool.not_eq_true', bne_iff_ne, ne_eq] at h
 obtain ⟨⟨⟨⟨⟨h1, h2⟩, h3⟩, h4⟩, h5⟩, h6⟩ := h
 have nc : ∀ (l : List Str), l.contains x = false -> x ∉ l := fun l hl hm => by
  exact tt_ ((Eq.symm (List.contains_iff_mem.mpr hm)).trans hl)
 exact ⟨Tp.free x (nc _ h1) (nc _ h2) (nc _ h3) (nc _ h4) (nc _ h5), Tp.builtins x h6⟩
noncomputable def okGl (p : Program) (loose : List Str) (fns : List (Nat × Str × Fn × List Str)) (e : Str × GV) : Bool :=
 match e.2 with
 | .fn f => (fns.find? (·.1 == f)).any fun x => x.2.1 == e.1
 | .bi b => freeOk p loose e.1 && (bootBuiltins e.1 == some (biVal b))
 | .ty t => freeOk p loose e.1 && (bootBuiltins e.1 == some (.type t))
noncomputable def refOf (v : Value) : Option Addr := match v with | .ref a => some a | _ => none
theorem refOf_eq {o : Option Value} {a : Addr} (h : o.bind refOf = some a) : o = some (.ref a) := by
 induction o with
 | none => exact none_ne h
 | some v => cases v with
  | ref b => rw [Option.some.inj (show some b = some a from h)]
  | _ => exact none_ne h
noncomputable def fnsOf (mg : Str -> Option Value) (fns : List (Nat × Str × Fn × List Str)) (f : Nat) : Option Addr :=
 (fns.find? (·.1 == f)).bind fun x => (mg x.2.1).bind refOf
theorem fnsOf_some {fns : List (Nat × Str × Fn × List Str)} {f : Nat} {x : Nat × Str × Fn × List Str} (h : fns.find? (·.1 == f) = some x) : fnsOf mg fns f = (mg x.2.1).bind refOf := by
 show (fns.find? (·.1 == f)).bind _ = _
 rw [h]; rfl
theorem ns_of (Tp : PyProof.Rows.Top p loose mean mg mb h) (H : Hid T h mg lname) {fns : List (Nat × Str × Fn × List Str)} {L : List (Str × GV)} (hfn : T.fn = fnsOf mg fns)
 (hok : ∀ x ∈ fns, okFn p gl ln x = true) (h : ∀ e ∈ L, okGl p loose fns e = true) :
 ∃ mg mb, T.h0.Ns mainGlobals mg ∧ T.h0.Ns builtinsNs mb ∧ (∀ n v, L.lookup n = some v -> (match v with
  | .fn f => ∃ a, T.fn f = some a ∧ mg n = some (.ref a)
  | .bi b => mg n = none ∧ mb n = some (biVal b)
  | .ty t => mg n = none ∧ mb n = some (.type t))) ∧
  ∃ bm ob, mg "__builtins__" = some (.ref bm) ∧ bm ≠ builtinsNs ∧ T.h0.get? bm = some ob ∧ ob.cls = .type "module" ∧ ob.dict = some builtinsNs ∧ ob.data = .plain := by
 obtain ⟨bm, ob, b1, b2, b3, b4, b5, b6⟩ := Tp.bmain
 refine ⟨mg, mb, H.ns Tp.g, H.ns Tp.b, fun n v hv => ?_, bm, ob, b1, b2, H.get b3 (by rw [b6]; exact fun q => nomatch q), b4, b5, b6⟩
 have he := h (n, v) (mem_of_lookup hv)
 induction v with
 | fn f =>
  obtain ⟨x, hx, he⟩ := any_some (show (fns.find? (·.1 == f)).any (fun x => x.2.1 == n) = true from he)
  ·have hn : x.2.1 = n := eq_of_beq he
   obtain ⟨d, hd, hdn⟩ := okFn_rec (hok x (List.mem_of_find?_eq_some hx))
   obtain ⟨a, o, pm, code, doc, e1, _⟩ := Tp.fn d hd
   rw [hdn, hn] at e1
   refine ⟨a, ?_, e1⟩
   rw [hfn, fnsOf_some hx, hn, e1]
   rfl
 | bi b =>
  have he := Bool.and_eq_true_iff.mp (show (freeOk p loose n && (bootBuiltins n == some (biVal b))) = true from he)
  obtain ⟨f1, f2⟩ := free_of Tp he.1
  exact ⟨f1, by rw [f2]; exact beq_iff_eq.mp he.2⟩
 | ty t =>
  have he := Bool.and_eq_true_iff.mp (show (freeOk p loose n && (bootBuiltins n == some (.type t))) = true from he)
  obtain ⟨f1, f2⟩ := free_of Tp he.1
  exact ⟨f1, by rw [f2]; exact beq_iff_eq.mp he.2⟩
theorem fnob_of (Tp : PyProof.Rows.Top p loose mean mg mb h) (H : Hid T h mg lname) {fns : List (Nat × Str × Fn × List Str)} (hfn : T.fn = fnsOf mg fns) (hok : ∀ x ∈ fns, okFn p gl ln x = true) :
 ∀ f a, T.fn f = some a -> ∃ o fd, T.h0.get? a = some o ∧ o.data = .func fd := by
 intro f a h
 rw [hfn] at h
 obtain ⟨x, hx, h⟩ := Option.bind_eq_some_iff.mp (show (fns.find? (·.1 == f)).bind (fun x => (mg x.2.1).bind refOf) = some a from h)
 ·obtain ⟨d, hd, hdn⟩ := okFn_rec (hok x (List.mem_of_find?_eq_some hx))
  obtain ⟨a', o, pm, code, doc, e1, e2, e3, _⟩ := Tp.fn d hd
  rw [<- hdn, e1] at h
  cases (show some a' = some a from h)
  exact ⟨o, _, H.get e2 (by rw [e3]; exact fun q => nomatch q), e3⟩
theorem fns_ok (Tp : PyProof.Rows.Top p loose mean mg mb h) (H : Hid T h mg lname) {fns : List (Nat × Str × Fn × List Str)} (hfn : T.fn = fnsOf mg fns) (hok : ∀ x ∈ fns, okFn p gl ln x = true) (hln : ∀ x ∈ fns, x.1 = ln -> x.2.1 = lname) (hem : ∀ x ∈ fns, emSs x.2.2.1.body (bodyOf p x.2.1) = bodyOf p x.2.1) {P : Nat -> Option Fn}
 (hP : ∀ f fn, P f = some fn -> ∃ x, fns.find? (·.1 == f) = some x ∧ x.2.2.1 = fn) : ∀ f fn a, P f = some fn -> T.fn f = some a -> FnOk T gl fn a := by
 intro f fn a h1 h2
 obtain ⟨x, hx, rfl⟩ := hP f fn h1
 rw [hfn, fnsOf_some hx] at h2
 exact fnOk_of Tp H (hok x (List.mem_of_find?_eq_some hx)) (hln x (List.mem_of_find?_eq_some hx)) (hem x (List.mem_of_find?_eq_some hx)) (refOf_eq h2)
theorem ready_of (Tp : PyProof.Rows.Top p loose mean mg mb h) (H : Hid T h mg lname) {fns : List (Nat × Str × Fn × List Str)} {L : List (Str × GV)} (hfn : T.fn = fnsOf mg fns)
 (hok : ∀ x ∈ fns, okFn p (fun n => L.lookup n) ln x = true) (hgl : ∀ e ∈ L, okGl p loose fns e = true) (S : h.NoSeer) (ht : T.prog.given.tree = none) : Ready T (fun n => L.lookup n) := by
 obtain ⟨mc, n1, n2⟩ := Tp.nolimit
 obtain ⟨mm, m1, m2⟩ := S.mods
 refine ⟨⟨⟨mc, H.ns n1, n2⟩, ?_, ht, ?_⟩, fnob_of Tp H hfn hok, ns_of Tp H hfn hok hgl⟩
 ·obtain ⟨mc', c1, c2⟩ := S.statics
  obtain ⟨mb', i1, i2⟩ := S.imp
  obtain ⟨mg', bm, ob, g1, g2, g3, g4⟩ := S.main
  obtain ⟨bm', ob', b1, b2, b3, b4, b5, b6⟩ := Tp.bmain
  refine ⟨⟨mc', H.ns c1, c2⟩, ⟨mm, H.ns m1, m2⟩, ⟨mb', H.ns i1, i2⟩, ⟨mg, bm', ob', H.ns Tp.g, b1, H.get b3 (by rw [b6]; exact fun q => nomatch q), b4, b5⟩⟩
 ·obtain ⟨o, es, ep, e, d, r⟩ := m1
  exact ⟨o, H.get e (by rw [d]; exact fun q => nomatch q)⟩
end
end Mine.Internal
namespace Mine.Internal
set_option tactic.hygienic true
open PySem
noncomputable def F_steps : Fn := ⟨2, 7,
 [
  .asg 2 (.dct true),
  .for_ [3] (.of (.var 0))
   [
    .set (.var 2) (.sub (.var 3) (.cst (.int 0))) (.sub (.var 3) (.cst (.int 1)))],
  .asg 4 (.dct true),
  .for_ [3] (.of (.var 1))
   [
    .set (.var 4) (.sub (.var 3) (.cst (.int 0))) (.sub (.var 3) (.cst (.int 1)))],
  .asg 5 (.lst false []),
  .for_ [6] (.range [.bin true .Sub (.bcall .len true [.var 0]) (.cst (.int 1)), .neg (.cst (.int 1)), .neg (.cst (.int 1))])
   [
    .ite (.cmp .NotIn (.sub (.sub (.var 0) (.var 6)) (.cst (.int 0))) (.var 4))
     [
      .exp (.meth .append true (.var 5) [.tup [.cst (.str (Str.ofString "out")), .var 6]])]
     []],
  .for_ [6, 3] (.enum (.var 1))
   [
    .ite (.cmp .NotIn (.sub (.var 3) (.cst (.int 0))) (.var 2))
     [
      .exp (.meth .append true (.var 5) [.tup [.cst (.str (Str.ofString "put")), .var 6, .sub (.var 3) (.cst (.int 1))]])]
     [
      .ite (.cmp .NotEq (.sub (.var 2) (.sub (.var 3) (.cst (.int 0)))) (.sub (.var 3) (.cst (.int 1))))
       [
        .exp (.meth .append true (.var 5) [.tup [.cst (.str (Str.ofString "say")), .var 6, .sub (.var 3) (.cst (.int 1))]])]
       []]],
  .ret (.var 5)]⟩
noncomputable def Flaw_cell : Fn := ⟨2, 2,
 [
  .ite (.cmp .Lt (.var 1) (.bcall .len true [.var 0]))
   [
    .ret (.sub (.var 0) (.var 1))]
   [],
  .ret (.cst (.int 0))]⟩
noncomputable def Flaw_mixed : Fn := ⟨2, 2,
 [
  .ret (.bin true .Mod (.bin true .Mult (.bin true .Add (.var 0) (.bin true .Mult (.cst (.int 7919)) (.var 1))) (.cst (.int 48271))) (.cst (.int 2147483647)))]⟩
noncomputable def Flaw_name : Fn := ⟨2, 7,
 [
  .asg 2 (.cst (.str (Str.ofString "abcdefghijklmnopqrstuvwxyz0123456789"))),
  .asg 3 (.fcall .frz 3 [.var 0, .cst (.int 5)]),
  .asg 4 (.meth .join true (.cst (.str (Str.ofString ""))) [.comp true (.sub (.var 2) (.bin true .Mod (.fcall .frz 3 [.var 0, .var 5]) (.cst (.int 36)))) [5] (.range [.bin true .Add (.cst (.int 1)) (.bin true .Mod (.var 3) (.cst (.int 12)))]) []]),
  .ite (.cmp .Eq (.bin true .Mod (.var 0) (.cst (.int 8))) (.cst (.int 1)))
   [
    .asg 4 (.bcall .str true [.bin true .Mod (.var 3) (.cst (.int 130))])]
   [],
  .ite (.bop .And [.cmp .Eq (.bin true .Mod (.var 0) (.cst (.int 8))) (.cst (.int 2)), .var 1])
   [
    .asg 4 (.bin true .Add (.slc true (.sub (.var 1) (.neg (.cst (.int 1)))) none (some (.cst (.int 11)))) (.sub (.var 2) (.bin true .Mod (.var 3) (.cst (.int 36)))))]
   [],
  .ite (.bop .And [.cmp .Gt (.bin true .Mod (.var 0) (.cst (.int 8))) (.cst (.int 4)), .var 1])
   [
    .asg 4 (.sub (.var 1) (.bin true .Mod (.var 3) (.bcall .len true [.var 1]))),
    .asg 6 (.bin true .Mod (.bin true .FloorDiv (.var 3) (.cst (.int 60))) (.bcall .len true [.var 4])),
    .asg 4 (.bin true .Add (.bin true .Add (.slc true (.var 4) none (some (.var 6))) (.sub (.var 2) (.bin true .Mod (.bin true .FloorDiv (.var 3) (.cst (.int 720))) (.cst (.int 36))))) (.slc true (.var 4) (some (.bin true .Add (.var 6) (.cst (.int 1)))) none))]
   [],
  .ite (.cmp .NotIn (.var 4) (.var 1))
   [
    .ret (.var 4)]
   [],
  .ret (.sub (.comp true (.bcall .str true [.var 5]) [5] (.range [.bin true .Add (.bcall .len true [.var 1]) (.cst (.int 1))]) [.cmp .NotIn (.bcall .str true [.var 5]) (.var 1)]) (.cst (.int 0)))]⟩
noncomputable def Flaw_line : Fn := ⟨1, 5,
 [
  .asg 1 (.cst (.str (Str.ofString " !\"#$&'()*+,-./0123456789:;<=>?\x40ABCDEFGHIJKLMNOPQRSTUVWXYZ[\\]^_`"))),
  .asg 1 (.bin true .Add (.var 1) (.cst (.str (Str.ofString "abcdefghijklmnopqrstuvwxyz{|}~")))),
  .asg 2 (.bin true .Mod (.var 0) (.cst (.int 4))),
  .ite (.cmp .Eq (.bin true .Mod (.bin true .FloorDiv (.var 0) (.cst (.int 4))) (.cst (.int 9))) (.cst (.int 1)))
   [
    .asg 2 (.bin true .Mod (.bin true .FloorDiv (.var 0) (.cst (.int 36))) (.cst (.int 201)))]
   [],
  .asg 3 (.meth .join true (.cst (.str (Str.ofString ""))) [.comp true (.sub (.var 1) (.bin true .Mod (.bin true .Add (.bin true .FloorDiv (.var 0) (.cst (.int 7))) (.bin true .Mult (.var 4) (.bin true .Add (.cst (.int 1)) (.bin true .Mod (.var 0) (.cst (.int 5)))))) (.cst (.int 94)))) [4] (.range [.var 2]) []]),
  .ite (.bop .And [.cmp .Eq (.bin true .Mod (.bin true .FloorDiv (.var 0) (.cst (.int 3))) (.cst (.int 8))) (.cst (.int 1)), .cmp .Lt (.var 2) (.cst (.int 199))])
   [
    .ret (.bin true .Add (.bin true .Add (.slc true (.var 3) none (some (.cst (.int 1)))) (.cst (.str (Str.ofString ": ")))) (.slc true (.var 3) (some (.cst (.int 1))) none))]
   [],
  .ret (.var 3)]⟩
noncomputable def Flaw_leans : Fn := ⟨2, 7,
 [
  .asg 2 (.fcall .frz 3 [.var 0, .cst (.int 1)]),
  .asg 3 (.lst false []),
  .for_ [4, 5] (.enum (.var 1))
   [
    .asg 6 (.bop .And [.cmp .Eq (.var 4) (.bin true .Sub (.bcall .len true [.var 1]) (.cst (.int 1))), .cmp .Eq (.bin true .Mod (.var 0) (.cst (.int 7))) (.cst (.int 3))]),
    .ite (.bop .Or [.var 6, .bop .And [.cmp .Eq (.bin true .Mod (.var 2) (.bin true .Add (.cst (.int 2)) (.bin true .Mod (.var 0) (.cst (.int 3))))) (.cst (.int 0)), .bop .Or [.cmp .Lt (.bcall .len true [.var 1]) (.cst (.int 20)), .cmp .Eq (.bin true .Mod (.var 4) (.cst (.int 7))) (.bin true .Mod (.bin true .FloorDiv (.var 2) (.cst (.int 4))) (.cst (.int 7)))]]])
     [
      .exp (.meth .append true (.var 3) [.sub (.var 5) (.cst (.int 0))])]
     [],
    .asg 2 (.bin true .FloorDiv (.var 2) (.cst (.int 3))),
    .ite (.cmp .Lt (.var 2) (.cst (.int 100)))
     [
      .asg 2 (.fcall .frz 3 [.var 0, .bin true .Add (.var 4) (.cst (.int 2))])]
     []],
  .ret (.bcall .sorted false [.var 3])]⟩
noncomputable def Flaw_marks : Fn := ⟨1, 4,
 [
  .asg 1 (.bcall .len true [.comp true (.var 2) [2] (.of (.sub (.var 0) (.cst (.int 2)))) [.cmp .Eq (.sub (.var 2) (.cst (.int 0))) (.cst (.str (Str.ofString "add")))]]),
  .ret (.comp true (.tup [.sub (.var 0) (.cst (.int 0)), .var 3]) [3] (.range [.var 1]) [])]⟩
noncomputable def Flaw_deeds : Fn := ⟨4, 13,
 [
  .asg 4 (.lst false []),
  .asg 5 (.cst (.int 0)),
  .for_ [6] (.range [.var 2])
   [
    .asg 7 (.bin true .Add (.var 3) (.comp true (.tup [.var 0, .var 12]) [12] (.range [.var 5]) [])),
    .asg 8 (.fcall .frz 3 [.var 1, .var 6]),
    .asg 9 (.bin true .Mod (.bin true .FloorDiv (.var 8) (.cst (.int 5))) (.bin true .Add (.bcall .len true [.var 7]) (.cst (.int 1)))),
    .asg 10 (.fcall .frz 5 [.bin true .FloorDiv (.var 8) (.cst (.int 365))]),
    .ite (.bop .Or [.cmp .Lt (.bin true .Mod (.var 8) (.cst (.int 5))) (.cst (.int 3)), .not (.var 7)])
     [
      .asg 11 (.cst .none),
      .ite (.cmp .Gt (.var 9) (.cst (.int 0)))
       [
        .asg 11 (.sub (.var 7) (.bin true .Sub (.var 9) (.cst (.int 1))))]
       [],
      .exp (.meth .append true (.var 4) [.tup [.cst (.str (Str.ofString "add")), .var 11, .var 10]]),
      .asg 5 (.bin true .Add (.var 5) (.cst (.int 1)))]
     [
      .ite (.cmp .Eq (.bin true .Mod (.var 8) (.cst (.int 5))) (.cst (.int 3)))
       [
        .exp (.meth .append true (.var 4) [.tup [.cst (.str (Str.ofString "cut")), .sub (.var 7) (.bin true .Mod (.var 9) (.bcall .len true [.var 7]))]])]
       [
        .exp (.meth .append true (.var 4) [.tup [.cst (.str (Str.ofString "set")), .sub (.var 7) (.bin true .Mod (.var 9) (.bcall .len true [.var 7])), .var 10]])]]],
  .ret (.var 4)]⟩
noncomputable def Flaw_changes : Fn := ⟨2, 10,
 [
  .asg 2 (.lst false []),
  .asg 3 (.lst false [.cst (.str (Str.ofString "0"))]),
  .for_ [4] (.range [.bcall .min true [.bin true .FloorDiv (.bcall .len true [.var 0]) (.cst (.int 4)), .var 1]])
   [
    .asg 5 (.fcall .frz 4 [.sub (.var 0) (.bin true .Mult (.cst (.int 4)) (.var 4)), .var 3]),
    .exp (.meth .append true (.var 3) [.var 5]),
    .asg 6 (.fcall .frz 6 [.sub (.var 0) (.bin true .Add (.bin true .Mult (.cst (.int 4)) (.var 4)) (.cst (.int 1))), .var 2]),
    .asg 7 (.lst true []),
    .for_ [8] (.of (.var 2))
     [
      .ite (.cmp .In (.sub (.var 8) (.cst (.int 0))) (.var 6))
       [
        .asg 7 (.bin true .Add (.var 7) (.fcall .frz 7 [.var 8]))]
       []],
    .asg 9 (.bin true .Mod (.sub (.var 0) (.bin true .Add (.bin true .Mult (.cst (.int 4)) (.var 4)) (.cst (.int 3)))) (.cst (.int 5))),
    .ite (.cmp .Eq (.bin true .Mod (.bin true .FloorDiv (.sub (.var 0) (.bin true .Add (.bin true .Mult (.cst (.int 4)) (.var 4)) (.cst (.int 3)))) (.cst (.int 5))) (.cst (.int 16))) (.cst (.int 1)))
     [
      .asg 9 (.bin true .Sub (.cst (.int 20)) (.bin true .Mod (.bin true .FloorDiv (.sub (.var 0) (.bin true .Add (.bin true .Mult (.cst (.int 4)) (.var 4)) (.cst (.int 3)))) (.cst (.int 80))) (.cst (.int 16))))]
     [],
    .exp (.meth .append true (.var 2) [.tup [.var 5, .var 6, .fcall .frz 8 [.var 5, .sub (.var 0) (.bin true .Add (.bin true .Mult (.cst (.int 4)) (.var 4)) (.cst (.int 2))), .var 9, .var 7]]])],
  .ret (.var 2)]⟩
noncomputable def Flaw_heights : Fn := ⟨1, 4,
 [
  .asg 1 (.dct false),
  .for_ [2] (.of (.var 0))
   [
    .set (.var 1) (.sub (.var 2) (.cst (.int 0))) (.maxd (.comp true (.bin true .Add (.sub (.var 1) (.var 3)) (.cst (.int 1))) [3] (.of (.sub (.var 2) (.cst (.int 1)))) []) 0)],
  .ret (.var 1)]⟩
noncomputable def Flaw_model : Fn := ⟨1, 12,
 [
  .asg 1 (.fcall .shared 10 [.var 0]),
  .asg 2 (.sortk true true (.var 0) 3 (.sub (.var 3) (.cst (.int 0)))),
  .swp [4, 5, 6] [.lst false [], .dct true, .dct true],
  .for_ [3] (.of (.sortk true false (.var 2) 9 (.sub (.var 1) (.sub (.var 9) (.cst (.int 0))))))
   [
    .asg 7 (.cst (.int 0)),
    .for_ [8] (.of (.sub (.var 3) (.cst (.int 2))))
     [
      .ite (.cmp .Eq (.sub (.var 8) (.cst (.int 0))) (.cst (.str (Str.ofString "add"))))
       [
        .asg 10 (.cst (.int 0)),
        .ite (.cmp .IsNot (.sub (.var 8) (.cst (.int 1))) (.cst .none))
         [
          .asg 10 (.bin true .Add (.meth .index true (.var 4) [.sub (.var 8) (.cst (.int 1))]) (.cst (.int 1)))]
         [],
        .exp (.meth .insert true (.var 4) [.var 10, .tup [.sub (.var 3) (.cst (.int 0)), .var 7]]),
        .set (.var 5) (.tup [.sub (.var 3) (.cst (.int 0)), .var 7]) (.sub (.var 8) (.cst (.int 2))),
        .asg 7 (.bin true .Add (.var 7) (.cst (.int 1)))]
       [
        .ite (.cmp .Eq (.sub (.var 8) (.cst (.int 0))) (.cst (.str (Str.ofString "set"))))
         [
          .set (.var 5) (.sub (.var 8) (.cst (.int 1))) (.sub (.var 8) (.cst (.int 2)))]
         [
          .set (.var 6) (.sub (.var 8) (.cst (.int 1))) (.cst (.bool true))]]]],
  .ret (.tup [.var 4, .comp true (.tup [.var 11, .sub (.var 5) (.var 11)]) [11] (.of (.var 4)) [.cmp .NotIn (.var 11) (.var 6)]])]⟩
noncomputable def Flaw_ground : Fn := ⟨2, 7,
 [
  .asg 2 (.dct false),
  .for_ [3] (.of (.var 0))
   [
    .set (.var 2) (.sub (.var 3) (.cst (.int 0))) (.sub (.var 3) (.cst (.int 1)))],
  .asg 4 (.lst false []),
  .asg 5 (.bcall .list false [.var 1]),
  .while_ (.var 5)
   [
    .asg 6 (.meth .pop true (.var 5) []),
    .ite (.cmp .NotIn (.var 6) (.var 4))
     [
      .exp (.meth .append true (.var 4) [.var 6]),
      .exp (.meth .extend true (.var 5) [.sub (.var 2) (.var 6)])]
     []],
  .ret (.var 4)]⟩
noncomputable def Flaw_closed : Fn := ⟨2, 4,
 [
  .asg 2 (.fcall .frz 12 [.var 0, .var 1]),
  .ret (.comp true (.var 3) [3] (.of (.var 0)) [.cmp .In (.sub (.var 3) (.cst (.int 0))) (.var 2)])]⟩
noncomputable def Flaw_some : Fn := ⟨2, 6,
 [
  .asg 2 (.fcall .frz 3 [.var 1, .cst (.int 3)]),
  .asg 3 (.lst false []),
  .for_ [4, 5] (.enum (.var 0))
   [
    .ite (.cmp .Eq (.bin true .Mod (.var 2) (.cst (.int 3))) (.cst (.int 0)))
     [
      .exp (.meth .append true (.var 3) [.sub (.var 5) (.cst (.int 0))])]
     [],
    .asg 2 (.bin true .FloorDiv (.var 2) (.cst (.int 3))),
    .ite (.cmp .Lt (.var 2) (.cst (.int 3)))
     [
      .asg 2 (.fcall .frz 3 [.var 1, .bin true .Add (.var 4) (.cst (.int 4))])]
     []],
  .ret (.var 3)]⟩
noncomputable def Flaw_due : Fn := ⟨2, 7,
 [
  .asg 2 (.comp false (.sub (.var 3) (.cst (.int 0))) [3] (.of (.var 0)) []),
  .asg 4 (.comp true (.sub (.var 3) (.cst (.int 0))) [3] (.of (.var 1)) []),
  .asg 5 (.lst false []),
  .for_ [6] (.range [.bin true .Sub (.bcall .len true [.var 0]) (.cst (.int 1)), .neg (.cst (.int 1)), .neg (.cst (.int 1))])
   [
    .ite (.cmp .NotIn (.sub (.var 2) (.var 6)) (.var 4))
     [
      .exp (.meth .append true (.var 5) [.tup [.cst (.str (Str.ofString "out")), .var 6]])]
     []],
  .for_ [6, 3] (.enum (.var 1))
   [
    .ite (.cmp .NotIn (.sub (.var 3) (.cst (.int 0))) (.var 2))
     [
      .exp (.meth .append true (.var 5) [.tup [.cst (.str (Str.ofString "put")), .var 6, .sub (.var 3) (.cst (.int 1))]])]
     [
      .ite (.cmp .NotEq (.sub (.sub (.var 0) (.meth .index true (.var 2) [.sub (.var 3) (.cst (.int 0))])) (.cst (.int 1))) (.sub (.var 3) (.cst (.int 1))))
       [
        .exp (.meth .append true (.var 5) [.tup [.cst (.str (Str.ofString "say")), .var 6, .sub (.var 3) (.cst (.int 1))]])]
       []]],
  .ret (.var 5)]⟩
noncomputable def Flaw_step_like : Fn := ⟨2, 3,
 [
  .ite (.bop .Or [.not (.bcall .isinstance true [.var 0, .ty "tuple"]), .cmp .NotEq (.bcall .len true [.var 0]) (.bcall .len true [.var 1]), .not (.bcall .isinstance true [.sub (.var 0) (.cst (.int 0)), .ty "str"])])
   [
    .ret (.cst (.bool false))]
   [],
  .ite (.bop .Or [.not (.bcall .isinstance true [.sub (.var 0) (.cst (.int 1)), .ty "int"]), .bcall .isinstance true [.sub (.var 0) (.cst (.int 1)), .ty "bool"]])
   [
    .ret (.cst (.bool false))]
   [],
  .ret (.bop .And [.bcall .all true [.comp true (.bcall .isinstance true [.var 2, .ty "str"]) [2] (.of (.slc true (.var 0) (some (.cst (.int 2))) none)) []], .cmp .Eq (.var 0) (.var 1)])]⟩
noncomputable def Flaw_done : Fn := ⟨2, 3,
 [
  .asg 0 (.bcall .list false [.var 0]),
  .for_ [2] (.of (.var 1))
   [
    .ite (.cmp .Eq (.sub (.var 2) (.cst (.int 0))) (.cst (.str (Str.ofString "out"))))
     [
      .exp (.meth .pop true (.var 0) [.sub (.var 2) (.cst (.int 1))])]
     [
      .ite (.cmp .Eq (.sub (.var 2) (.cst (.int 0))) (.cst (.str (Str.ofString "put"))))
       [
        .exp (.meth .insert true (.var 0) [.sub (.var 2) (.cst (.int 1)), .sub (.var 2) (.cst (.int 2))])]
       [
        .set (.var 0) (.sub (.var 2) (.cst (.int 1))) (.sub (.var 2) (.cst (.int 2)))]]],
  .ret (.var 0)]⟩
noncomputable def Flaw_wide : Fn := ⟨3, 5,
 [
  .ite (.bop .Or [.cmp .Lt (.bcall .len true [.var 0]) (.cst (.int 4)), .cmp .NotEq (.bin true .Mod (.var 1) (.cst (.int 12))) (.cst (.int 5))])
   [
    .ret (.var 0)]
   [],
  .asg 3 (.lst false []),
  .for_ [4] (.range [.bin true .Mult (.cst (.int 4)) (.bin true .Add (.var 2) (.bin true .Mod (.bin true .FloorDiv (.var 1) (.cst (.int 12))) (.bin true .Sub (.cst (.int 61)) (.var 2))))])
   [
    .exp (.meth .append true (.var 3) [.fcall .frz 3 [.sub (.var 0) (.bin true .Mod (.var 4) (.bcall .len true [.var 0])), .var 4]]),
    .ite (.bop .And [.cmp .Eq (.bin true .Mod (.var 4) (.cst (.int 4))) (.cst (.int 1)), .cmp .Eq (.bin true .Mod (.bin true .FloorDiv (.var 1) (.cst (.int 12))) (.cst (.int 2))) (.cst (.int 1))])
     [
      .set (.var 3) (.var 4) (.bin true .Add (.bin true .Mult (.bin true .FloorDiv (.sub (.var 3) (.var 4)) (.cst (.int 7))) (.cst (.int 7))) (.cst (.int 3)))]
     []],
  .ret (.var 3)]⟩
noncomputable def FLaw : Fn := ⟨1, 11,
 [
  .asg 1 (.fcall .frz 9 [.fcall .frz 18 [.slc true (.var 0) (some (.cst (.int 3))) none, .fcall .frz 2 [.var 0, .cst (.int 2)], .cst (.int 10)], .cst (.int 60)]),
  .asg 2 (.lst false []),
  .for_ [3] (.range [.cst (.int 2)])
   [
    .asg 4 (.fcall .frz 14 [.var 1, .fcall .frz 2 [.var 0, .var 3]]),
    .exp (.meth .append true (.var 2) [.sub (.fcall .frz 11 [.fcall .frz 13 [.var 1, .var 4]]) (.cst (.int 1))])],
  .ite (.cmp .Eq (.bin true .Mod (.fcall .frz 2 [.var 0, .cst (.int 0)]) (.cst (.int 5))) (.cst (.int 1)))
   [
    .set (.var 2) (.cst (.int 1)) (.sub (.var 2) (.cst (.int 0)))]
   [],
  .asg 5 (.lst true [.bcall .list true [.sub (.var 2) (.cst (.int 0))], .bcall .list true [.sub (.var 2) (.cst (.int 1))]]),
  .asg 6 (.fcall .frz 1 [.sub (.var 5) (.cst (.int 0)), .sub (.var 5) (.cst (.int 1))]),
  .asg 7 (.fcall .frz 15 [.sub (.var 2) (.cst (.int 0)), .sub (.var 2) (.cst (.int 1))]),
  .ite (.bop .Or [.not (.bcall .isinstance true [.var 6, .ty "list"]), .cmp .NotEq (.bcall .len true [.var 6]) (.bcall .len true [.var 7]), .cmp .NotEq (.var 5) (.var 2)])
   [
    .ret (.cst (.bool false))]
   [],
  .ite (.not (.bcall .all true [.comp true (.fcall .frz 16 [.var 8, .var 9]) [8, 9] (.zip (.var 6) (.var 7)) []]))
   [
    .ret (.cst (.bool false))]
   [],
  .ret (.cmp .Eq (.fcall .frz 17 [.comp true (.sub (.var 10) (.cst (.int 1))) [10] (.of (.sub (.var 2) (.cst (.int 0)))) [], .var 6]) (.comp true (.sub (.var 10) (.cst (.int 1))) [10] (.of (.sub (.var 2) (.cst (.int 1)))) []))]⟩
noncomputable def fns14 : List (Nat × Str × Fn × List Str) := [
 (1, Str.ofString "steps", F_steps, [Str.ofString "one", Str.ofString "other", Str.ofString "before", Str.ofString "pair", Str.ofString "behind", Str.ofString "found", Str.ofString "place"]),
 (2, Str.ofString "_law_cell", Flaw_cell, [Str.ofString "_law_script", Str.ofString "_law_k"]),
 (3, Str.ofString "_law_mixed", Flaw_mixed, [Str.ofString "_law_cell_here", Str.ofString "_law_k"]),
 (4, Str.ofString "_law_name", Flaw_name, [Str.ofString "_law_cell_here", Str.ofString "_law_taken", Str.ofString "_law_signs", Str.ofString "_law_left", Str.ofString "_law_found", Str.ofString "_law_j", Str.ofString "_law_at"]),
 (5, Str.ofString "_law_line", Flaw_line, [Str.ofString "_law_cell_here", Str.ofString "_law_some_here", Str.ofString "_law_size", Str.ofString "_law_found", Str.ofString "_law_j"]),
 (6, Str.ofString "_law_leans", Flaw_leans, [Str.ofString "_law_cell_here", Str.ofString "_law_ahead", Str.ofString "_law_left", Str.ofString "_law_found", Str.ofString "_law_k", Str.ofString "_law_change", Str.ofString "_law_last"]),
 (7, Str.ofString "_law_marks", Flaw_marks, [Str.ofString "_law_change", Str.ofString "_law_many", Str.ofString "_law_deed", Str.ofString "_law_j"]),
 (8, Str.ofString "_law_deeds", Flaw_deeds, [Str.ofString "_law_name_here", Str.ofString "_law_cell_here", Str.ofString "_law_many", Str.ofString "_law_marks_here", Str.ofString "_law_deeds_here", Str.ofString "_law_own", Str.ofString "_law_k", Str.ofString "_law_known", Str.ofString "_law_left", Str.ofString "_law_at", Str.ofString "_law_line_here", Str.ofString "_law_mark", Str.ofString "_law_j"]),
 (9, Str.ofString "_law_changes", Flaw_changes, [Str.ofString "_law_cells", Str.ofString "_law_most", Str.ofString "_law_found", Str.ofString "_law_taken", Str.ofString "_law_k", Str.ofString "_law_name_here", Str.ofString "_law_leans_here", Str.ofString "_law_marks_here", Str.ofString "_law_change", Str.ofString "_law_many"]),
 (10, Str.ofString "_law_heights", Flaw_heights, [Str.ofString "_law_changes_here", Str.ofString "_law_found", Str.ofString "_law_change", Str.ofString "_law_lean"]),
 (11, Str.ofString "_law_model", Flaw_model, [Str.ofString "_law_changes_here", Str.ofString "_law_height", Str.ofString "_law_order", Str.ofString "_law_change", Str.ofString "_law_row", Str.ofString "_law_words", Str.ofString "_law_gone", Str.ofString "_law_own", Str.ofString "_law_deed", Str.ofString "_law_one", Str.ofString "_law_at", Str.ofString "_law_mark"]),
 (12, Str.ofString "_law_ground", Flaw_ground, [Str.ofString "_law_changes_here", Str.ofString "_law_names", Str.ofString "_law_leans_here", Str.ofString "_law_change", Str.ofString "_law_found", Str.ofString "_law_waiting", Str.ofString "_law_name_here"]),
 (13, Str.ofString "_law_closed", Flaw_closed, [Str.ofString "_law_changes_here", Str.ofString "_law_names", Str.ofString "_law_there", Str.ofString "_law_change"]),
 (14, Str.ofString "_law_some", Flaw_some, [Str.ofString "_law_changes_here", Str.ofString "_law_cell_here", Str.ofString "_law_left", Str.ofString "_law_found", Str.ofString "_law_k", Str.ofString "_law_change"]),
 (15, Str.ofString "_law_due", Flaw_due, [Str.ofString "_law_one", Str.ofString "_law_other", Str.ofString "_law_before", Str.ofString "_law_pair", Str.ofString "_law_after", Str.ofString "_law_found", Str.ofString "_law_at"]),
 (16, Str.ofString "_law_step_like", Flaw_step_like, [Str.ofString "_law_found", Str.ofString "_law_due_here", Str.ofString "_law_one"]),
 (17, Str.ofString "_law_done", Flaw_done, [Str.ofString "_law_lines", Str.ofString "_law_row", Str.ofString "_law_step"]),
 (18, Str.ofString "_law_wide", Flaw_wide, [Str.ofString "_law_cells", Str.ofString "_law_flag", Str.ofString "_law_most", Str.ofString "_law_found", Str.ofString "_law_j"]),
 (19, Str.ofString "law", FLaw, [Str.ofString "_law_script", Str.ofString "_law_changes_here", Str.ofString "_law_told", Str.ofString "_law_turn", Str.ofString "_law_names", Str.ofString "_law_handed", Str.ofString "_law_found", Str.ofString "_law_due_here", Str.ofString "_law_one", Str.ofString "_law_other", Str.ofString "_law_pair"])]
noncomputable def P14 (f : Nat) : Option Fn := (fns14.find? (·.1 == f)).map (·.2.2.1)
end Mine.Internal
namespace Mine.Internal
set_option tactic.hygienic true
set_option maxRecDepth 100000
open PySem PyProof.Rows
noncomputable def gll14 : List (Str × GV) := [
 (Str.ofString "steps", GV.fn 1),
 (Str.ofString "_law_cell", GV.fn 2),
 (Str.ofString "_law_mixed", GV.fn 3),
 (Str.ofString "_law_name", GV.fn 4),
 (Str.ofString "_law_line", GV.fn 5),
 (Str.ofString "_law_leans", GV.fn 6),
 (Str.ofString "_law_marks", GV.fn 7),
 (Str.ofString "_law_deeds", GV.fn 8),
 (Str.ofString "_law_changes", GV.fn 9),
 (Str.ofString "_law_heights", GV.fn 10),
 (Str.ofString "_law_model", GV.fn 11),
 (Str.ofString "_law_ground", GV.fn 12),
 (Str.ofString "_law_closed", GV.fn 13),
 (Str.ofString "_law_some", GV.fn 14),
 (Str.ofString "_law_due", GV.fn 15),
 (Str.ofString "_law_step_like", GV.fn 16),
 (Str.ofString "_law_done", GV.fn 17),
 (Str.ofString "_law_wide", GV.fn 18),
 (Str.ofString "law", GV.fn 19),
 (Str.ofString "len", GV.bi .len),
 (Str.ofString "sorted", GV.bi .sorted),
 (Str.ofString "min", GV.bi .min),
 (Str.ofString "isinstance", GV.bi .isinstance),
 (Str.ofString "all", GV.bi .all),
 (Str.ofString "max", GV.bi .max),
 (Str.ofString "list", GV.ty "list"),
 (Str.ofString "str", GV.ty "str"),
 (Str.ofString "int", GV.ty "int"),
 (Str.ofString "bool", GV.ty "bool"),
 (Str.ofString "tuple", GV.ty "tuple"),
 (Str.ofString "range", GV.ty "range"),
 (Str.ofString "zip", GV.ty "zip"),
 (Str.ofString "enumerate", GV.ty "enumerate")]
theorem okf0 : okFn view14 (fun n => gll14.lookup n) 11 (fns14[0]'(by decide)) = true := by decide +kernel
theorem okf1 : okFn view14 (fun n => gll14.lookup n) 11 (fns14[1]'(by decide)) = true := by decide +kernel
theorem okf2 : okFn view14 (fun n => gll14.lookup n) 11 (fns14[2]'(by decide)) = true := by decide +kernel
theorem okf3 : okFn view14 (fun n => gll14.lookup n) 11 (fns14[3]'(by decide)) = true := by decide +kernel
theorem okf4 : okFn view14 (fun n => gll14.lookup n) 11 (fns14[4]'(by decide)) = true := by decide +kernel
theorem okf5 : okFn view14 (fun n => gll14.lookup n) 11 (fns14[5]'(by decide)) = true := by decide +kernel
theorem okf6 : okFn view14 (fun n => gll14.lookup n) 11 (fns14[6]'(by decide)) = true := by decide +kernel
theorem okf7 : okFn view14 (fun n => gll14.lookup n) 11 (fns14[7]'(by decide)) = true := by decide +kernel
theorem okf8 : okFn view14 (fun n => gll14.lookup n) 11 (fns14[8]'(by decide)) = true := by decide +kernel
theorem okf9 : okFn view14 (fun n => gll14.lookup n) 11 (fns14[9]'(by decide)) = true := by decide +kernel
theorem okf10 : okFn view14 (fun n => gll14.lookup n) 11 (fns14[10]'(by decide)) = true := by decide +kernel
theorem okf11 : okFn view14 (fun n => gll14.lookup n) 11 (fns14[11]'(by decide)) = true := by decide +kernel
theorem okf12 : okFn view14 (fun n => gll14.lookup n) 11 (fns14[12]'(by decide)) = true := by decide +kernel
theorem okf13 : okFn view14 (fun n => gll14.lookup n) 11 (fns14[13]'(by decide)) = true := by decide +kernel
theorem okf14 : okFn view14 (fun n => gll14.lookup n) 11 (fns14[14]'(by decide)) = true := by decide +kernel
theorem okf15 : okFn view14 (fun n => gll14.lookup n) 11 (fns14[15]'(by decide)) = true := by decide +kernel
theorem okf16 : okFn view14 (fun n => gll14.lookup n) 11 (fns14[16]'(by decide)) = true := by decide +kernel
theorem okf17 : okFn view14 (fun n => gll14.lookup n) 11 (fns14[17]'(by decide)) = true := by decide +kernel
theorem okf18 : okFn view14 (fun n => gll14.lookup n) 11 (fns14[18]'(by decide)) = true := by decide +kernel
theorem emf0 : emSs (fns14[0]'(by decide)).2.2.1.body (bodyOf view14 (fns14[0]'(by decide)).2.1) = bodyOf view14 (fns14[0]'(by decide)).2.1 := by kernel_rfl
theorem emf1 : emSs (fns14[1]'(by decide)).2.2.1.body (bodyOf view14 (fns14[1]'(by decide)).2.1) = bodyOf view14 (fns14[1]'(by decide)).2.1 := by kernel_rfl
theorem emf2 : emSs (fns14[2]'(by decide)).2.2.1.body (bodyOf view14 (fns14[2]'(by decide)).2.1) = bodyOf view14 (fns14[2]'(by decide)).2.1 := by kernel_rfl
theorem emf3 : emSs (fns14[3]'(by decide)).2.2.1.body (bodyOf view14 (fns14[3]'(by decide)).2.1) = bodyOf view14 (fns14[3]'(by decide)).2.1 := by kernel_rfl
theorem emf4 : emSs (fns14[4]'(by decide)).2.2.1.body (bodyOf view14 (fns14[4]'(by decide)).2.1) = bodyOf view14 (fns14[4]'(by decide)).2.1 := by kernel_rfl
theorem emf5 : emSs (fns14[5]'(by decide)).2.2.1.body (bodyOf view14 (fns14[5]'(by decide)).2.1) = bodyOf view14 (fns14[5]'(by decide)).2.1 := by kernel_rfl
theorem emf6 : emSs (fns14[6]'(by decide)).2.2.1.body (bodyOf view14 (fns14[6]'(by decide)).2.1) = bodyOf view14 (fns14[6]'(by decide)).2.1 := by kernel_rfl
theorem emf7 : emSs (fns14[7]'(by decide)).2.2.1.body (bodyOf view14 (fns14[7]'(by decide)).2.1) = bodyOf view14 (fns14[7]'(by decide)).2.1 := by kernel_rfl
theorem emf8 : emSs (fns14[8]'(by decide)).2.2.1.body (bodyOf view14 (fns14[8]'(by decide)).2.1) = bodyOf view14 (fns14[8]'(by decide)).2.1 := by kernel_rfl
theorem emf9 : emSs (fns14[9]'(by decide)).2.2.1.body (bodyOf view14 (fns14[9]'(by decide)).2.1) = bodyOf view14 (fns14[9]'(by decide)).2.1 := by kernel_rfl
theorem emf10 : emSs (fns14[10]'(by decide)).2.2.1.body (bodyOf view14 (fns14[10]'(by decide)).2.1) = bodyOf view14 (fns14[10]'(by decide)).2.1 := by kernel_rfl
theorem emf11 : emSs (fns14[11]'(by decide)).2.2.1.body (bodyOf view14 (fns14[11]'(by decide)).2.1) = bodyOf view14 (fns14[11]'(by decide)).2.1 := by kernel_rfl
theorem emf12 : emSs (fns14[12]'(by decide)).2.2.1.body (bodyOf view14 (fns14[12]'(by decide)).2.1) = bodyOf view14 (fns14[12]'(by decide)).2.1 := by kernel_rfl
theorem emf13 : emSs (fns14[13]'(by decide)).2.2.1.body (bodyOf view14 (fns14[13]'(by decide)).2.1) = bodyOf view14 (fns14[13]'(by decide)).2.1 := by kernel_rfl
theorem emf14 : emSs (fns14[14]'(by decide)).2.2.1.body (bodyOf view14 (fns14[14]'(by decide)).2.1) = bodyOf view14 (fns14[14]'(by decide)).2.1 := by kernel_rfl
theorem emf15 : emSs (fns14[15]'(by decide)).2.2.1.body (bodyOf view14 (fns14[15]'(by decide)).2.1) = bodyOf view14 (fns14[15]'(by decide)).2.1 := by kernel_rfl
theorem emf16 : emSs (fns14[16]'(by decide)).2.2.1.body (bodyOf view14 (fns14[16]'(by decide)).2.1) = bodyOf view14 (fns14[16]'(by decide)).2.1 := by kernel_rfl
theorem emf17 : emSs (fns14[17]'(by decide)).2.2.1.body (bodyOf view14 (fns14[17]'(by decide)).2.1) = bodyOf view14 (fns14[17]'(by decide)).2.1 := by kernel_rfl
theorem emf18 : emSs (fns14[18]'(by decide)).2.2.1.body (bodyOf view14 (fns14[18]'(by decide)).2.1) = bodyOf view14 (fns14[18]'(by decide)).2.1 := by kernel_rfl
theorem okAll14 : ∀ x ∈ fns14, okFn view14 (fun n => gll14.lookup n) 11 x = true := by
 intro x hx
 simp only [fns14, List.mem_cons, List.not_mem_nil, or_false] at hx
 rcases hx with rfl | rfl | rfl | rfl | rfl | rfl | rfl | rfl | rfl | rfl | rfl | rfl | rfl | rfl | rfl | rfl | rfl | rfl | rfl
 ·exact okf0
 ·exact okf1
 ·exact okf2
 ·exact okf3
 ·exact okf4
 ·exact okf5
 ·exact okf6
 ·exact okf7
 ·exact okf8
 ·exact okf9
 ·exact okf10
 ·exact okf11
 ·exact okf12
 ·exact okf13
 ·exact okf14
 ·exact okf15
 ·exact okf16
 ·exact okf17
 ·exact okf18
theorem emAll14 : ∀ x ∈ fns14, emSs x.2.2.1.body (bodyOf view14 x.2.1) = bodyOf view14 x.2.1 := by
 intro x hx
 simp only [fns14, List.mem_cons, List.not_mem_nil, or_false] at hx
 rcases hx with rfl | rfl | rfl | rfl | rfl | rfl | rfl | rfl | rfl | rfl | rfl | rfl | rfl | rfl | rfl | rfl | rfl | rfl | rfl
 ·exact emf0
 ·exact emf1
 ·exact emf2
 ·exact emf3
 ·exact emf4
 ·exact emf5
 ·exact emf6
 ·exact emf7
 ·exact emf8
 ·exact emf9
 ·exact emf10
 ·exact emf11
 ·exact emf12
 ·exact emf13
 ·exact emf14
 ·exact emf15
 ·exact emf16
 ·exact emf17
 ·exact emf18
theorem okGl14 : ∀ e ∈ gll14, okGl view14 (PySem.W.looseW view14 []) fns14 e = true := by decide +kernel
theorem okLn14 : ∀ x ∈ fns14, x.1 = 11 -> x.2.1 = Str.ofString "_law_model" := by decide +kernel
theorem okP14 : ∀ f fn, P14 f = some fn -> ∃ x, fns14.find? (·.1 == f) = some x ∧ x.2.2.1 = fn := by
 intro f fn h
 unfold P14 at h
 cases e : fns14.find? (·.1 == f) with
 | none => rw [e] at h; cases h
 | some x => rw [e] at h; exact ⟨x, rfl, Option.some.inj h⟩
end Mine.Internal
namespace Mine.Internal
open PySem
theorem gz {α : Type} {a : α} {l : List α} : (a :: l)[0]? = some a := rfl
theorem gs {α : Type} {a : α} {l : List α} {i : Nat} : (a :: l)[i + 1]? = l[i]? := rfl
theorem sz {α : Type} {a b : α} {l : List α} : (a :: l).set 0 b = b :: l := rfl
theorem sy {α : Type} {a b : α} {l : List α} {i : Nat} : (a :: l).set (i + 1) b = a :: l.set i b := rfl
theorem le_c {a b c : Nat} (h : a <= b) (e : Nat.ble b c = true) : a <= c := Nat.le_trans h (Nat.le_of_ble_eq_true e)
theorem lt_c {a b c : Nat} (h : a <= b) (e : Nat.ble (b + 1) c = true) : a < c := Nat.lt_of_le_of_lt h (Nat.le_of_ble_eq_true e)
theorem ltc {a b c : Nat} (h : a < b) (e : Nat.ble b c = true) : a < c := Nat.lt_of_lt_of_le h (Nat.le_of_ble_eq_true e)
noncomputable def Tx (l : List Nat) : Str := ⟨l.toArray⟩
theorem Tx_app (a b : List Nat) : Tx a ++ Tx b = Tx (a ++ b) := by
 show Str.append _ _ = _
 simp [Str.append, Tx]
theorem Tx_len (a : List Nat) : (Tx a).length = a.length := by simp [Str.length, Tx]
theorem Tx_size (a : List Nat) : (Tx a).cps.size = a.length := by simp [Tx]
theorem Tx_list (a : List Nat) : (Tx a).cps.toList = a := by simp [Tx]
theorem Tx_inj {a b : List Nat} (h : Tx a = Tx b) : a = b := by
 have := congrArg (fun s => s.cps.toList) h
 simpa [Tx] using this
theorem Tx_eta (x : Str) : Tx x.cps.toList = x := by simp [Tx]
theorem Tx_cut (lo hi : Option Int) (a : List Nat) : cutS lo hi (Tx a) = Tx (cutAt lo hi a) := by simp [cutS, Tx]
theorem Tx_at (a : List Nat) (i : Int) : Txt.charAt (Tx a) i = (seqIndex? i a.length).bind (a[·]?) := by
 simp [Txt.charAt, Tx, Str.length]
theorem Tx_lt (a b : List Nat) : ltStr (Tx a) (Tx b) = decide (a < b) := by
 unfold ltStr; congr
theorem Tx_beq (a b : List Nat) : (Tx a == Tx b) = decide (a = b) := by
 by_cases h : a = b
 ·subst h; simp
 ·have h1 : Tx a ≠ Tx b := fun e => h (Tx_inj e)
  simp [h, h1]
theorem Tx_nil : Str.empty = Tx [] := rfl
theorem chr1_Tx (c : Nat) : chr1 c = Tx [c] := rfl
noncomputable abbrev vs (l : List Nat) : V := .d (.str (Tx l))
noncomputable abbrev vi (i : Int) : V := .d (.int i)
noncomputable abbrev vb (b : Bool) : V := .d (.bool b)
section
variable {α β : Type} {fz : Bool} {i j : Int} {x y : Str} {σ σ₁ σ₂ : Store} {C : Cfg} {ρ : Vars} {v : V} {e c : E} {r a b : List S}
theorem ok_bind (a : α) (σ : Store) (f : α -> Store -> Res β) : (Res.ok a σ).bind f = f a σ := rfl
theorem bind_bind {γ : Type} (r : Res α) (f : α -> Store -> Res β) (g : β -> Store -> Res γ) : (r.bind f).bind g = r.bind fun a σ => (f a σ).bind g := by cases r <;> rfl
theorem bc_len_s : bcall .len fz [.d (.str x)] σ = .ok (.d (.int x.cps.size)) σ := rfl
theorem bc_len_l {xs : List PyData} : bcall .len fz [.d (.list xs)] σ = .ok (.d (.int xs.length)) σ := by
 rw [<- List.length_map (f := V.d)]; rfl
theorem bc_len_t {xs : List PyData} : bcall .len fz [.d (.tuple xs)] σ = .ok (.d (.int xs.length)) σ := by
 rw [<- List.length_map (f := V.d)]; rfl
theorem c_eq {p q : V} : cmpop .Eq p q σ = eqV σ p q := rfl
theorem c_ne {p q : V} : cmpop .NotEq p q σ = notO (eqV σ p q) := rfl
theorem c_in {p q : V} : cmpop .In p q σ = inV σ p q := rfl
theorem c_nin {p q : V} : cmpop .NotIn p q σ = notO (inV σ p q) := rfl
theorem c_is {p q : V} : cmpop .Is p q σ = isV p q := rfl
theorem c_isn {p q : V} : cmpop .IsNot p q σ = notO (isV p q) := rfl
theorem c_lt {p q : V} : cmpop .Lt p q σ = ltV p q := rfl
theorem c_gt {p q : V} : cmpop .Gt p q σ = gtV p q := rfl
theorem c_ge {p q : V} : cmpop .GtE p q σ = geV p q := rfl
theorem c_le {p q : V} : cmpop .LtE p q σ = leV p q := rfl
theorem lt_i : ltV (.d (.int i)) (.d (.int j)) = some (decide (i < j)) := rfl
theorem gt_i : gtV (.d (.int i)) (.d (.int j)) = some (decide (i > j)) := rfl
theorem ge_s : geV (.d (.str x)) (.d (.str y)) = some (!ltStr x y) := rfl
theorem no_s {t : Bool} : notO (some t) = some (!t) := rfl
theorem tr_b {t : Bool} : truth σ (.d (.bool t)) = some t := rfl
theorem b_add : binop fz .Add (.d (.int i)) (.d (.int j)) σ = .ok (.d (.int (i + j))) σ := rfl
theorem b_sub : binop fz .Sub (.d (.int i)) (.d (.int j)) σ = .ok (.d (.int (i - j))) σ := rfl
theorem b_mul (h : (small i || small j) = true) : binop fz .Mult (.d (.int i)) (.d (.int j)) σ = .ok (.d (.int (i * j))) σ := if_pos h
theorem b_div (h : j ≠ 0) : binop fz .FloorDiv (.d (.int i)) (.d (.int j)) σ = .ok (.d (.int (i.fdiv j))) σ := if_neg h
theorem b_mod (h : j ≠ 0) : binop fz .Mod (.d (.int i)) (.d (.int j)) σ = .ok (.d (.int (i.fmod j))) σ := if_neg h
theorem b_cat (a b : List Nat) (h : a.length + b.length <= line) : binop fz .Add (.d (.str (Tx a))) (.d (.str (Tx b))) σ = .ok (.d (.str (Tx (a ++ b)))) σ := by
 have h' : (Tx a).length + (Tx b).length <= line := by rw [Tx_len, Tx_len]; exact h
 refine (if_pos h').trans ?_
 rw [Tx_app]
theorem allD_map (l : List PyData) : allD (l.map .d) = some l := by
 induction l with
 | nil => rfl
 | cons x r ih =>
  show (match allD (r.map .d) with | some xs => some (x :: xs) | none => none) = _
  rw [ih]
theorem mkListT (l : List PyData) (h : l.length <= line) : mkList true (l.map .d) σ = .ok (.d (.list l)) σ := by
 refine (if_pos (by rw [List.length_map]; exact h)).trans ?_
 show (match allD (l.map .d) with | some xs => Res.ok (V.d (.list xs)) σ | none => .bad) = _
 rw [allD_map]
theorem b_catL (a b : List PyData) (h : a.length + b.length <= line) : binop true .Add (.d (.list a)) (.d (.list b)) σ = .ok (.d (.list (a ++ b))) σ := by
 show mkList true (a.map V.d ++ b.map V.d) σ = _
 rw [<- List.map_append]
 exact mkListT _ (by rw [List.length_append]; exact h)
theorem x_append : execSs C (a ++ b) ρ σ = (execSs C a ρ σ).bind fun f σ => (match f with | .next ρ => execSs C b ρ σ | .ret v => .ok (.ret v) σ) := by
 induction a generalizing ρ σ with
 | nil => simp only [List.nil_append, xB_1, xB_2, ok_bind]
 | cons s r ih =>
  simp only [List.cons_append, xB_1, xB_2, bind_bind]
  congr 1; funext f σ
  induction f with
  | next ρ => exact ih
  | ret v => rfl
theorem x_asg {x : Nat} (h : evalE C e ρ σ = .ok v σ₁) : execSs C (.asg x e :: r) ρ σ = execSs C r (ρ.set x (some v)) σ₁ := by
 rw [xB_2, xA_1, h]; rfl
theorem x_exp (h : evalE C e ρ σ = .ok v σ₁) : execSs C (.exp e :: r) ρ σ = execSs C r ρ σ₁ := by
 rw [xB_2, xA_6, h]; rfl
theorem x_ret (h : evalE C e ρ σ = .ok v σ₁) : execSs C (.ret e :: r) ρ σ = .ok (.ret v) σ₁ := by
 rw [xB_2, xA_10, h]; rfl
theorem x_ite {t : Bool} (h : evalE C c ρ σ = .ok v σ₁) (ht : truth σ₁ v = some t) : execSs C (.ite c a b :: r) ρ σ = execSs C ((bif t then a else b) ++ r) ρ σ₁ := by
 rw [x_append]
 cases t <;> simp only [xB_1, xB_2, xA_1, xA_3, xA_6, xA_7, xA_8, xA_10, xA_11, h, ok_bind, ht, cond] <;> rfl
theorem x_ite_t (h : evalE C c ρ σ = .ok v σ₁) (ht : truth σ₁ v = some true) : execSs C (.ite c a b :: r) ρ σ = execSs C (a ++ r) ρ σ₁ := x_ite h ht
theorem x_ite_f (h : evalE C c ρ σ = .ok v σ₁) (ht : truth σ₁ v = some false) : execSs C (.ite c a b :: r) ρ σ = execSs C (b ++ r) ρ σ₁ := x_ite h ht
theorem x_iteB {t : Bool} (h : evalE C c ρ σ = .ok (.d (.bool t)) σ₁) : execSs C (.ite c a b :: r) ρ σ = execSs C ((bif t then a else b) ++ r) ρ σ₁ := x_ite h rfl
theorem x_nil : execSs C [] ρ σ = .ok (.next ρ) σ := rfl
theorem forS_items {f : V -> Vars -> Store -> Res Fl} : ∀ (ws : List V) (ρ : Vars) (σ : Store), forS f (ws.length + 1) (.items ws) ρ σ = forGo f ws ρ σ
 | [], _, _ => rfl
 | v :: r, ρ, σ => by
  show (f v ρ σ).bind (fun x σ => (match x with | .next ρ => forS f (r.length + 1) (.items r) ρ σ | .ret y => .ok (.ret y) σ)) = (f v ρ σ).bind fun x σ => (match x with | .next ρ => forGo f r ρ σ | .ret y => .ok (.ret y) σ)
  congr 1; funext x σ
  induction x with
  | next ρ => exact forS_items r ρ σ
  | ret _ => rfl
theorem compS_items {f : V -> Store -> Res (Option V)} : ∀ (ws : List V) (σ : Store), compS f (ws.length + 1) (.items ws) σ = compGo f ws σ
 | [], _ => rfl
 | v :: r, σ => by
  show compOne (compS f (r.length + 1)) f σ (some (some (v, .items r))) = _
  show (match f v σ with | .ok x σ => (match compS f (r.length + 1) (.items r) σ with | .ok xs σ => Res.ok (match x with | some y => y :: xs | none => xs) σ | .bad => .bad) | .bad => .bad) = (match f v σ with | .ok x σ => (match compGo f r σ with | .ok xs σ => Res.ok (match x with | some y => y :: xs | none => xs) σ | .bad => .bad) | .bad => .bad)
  induction f v σ with
  | ok x σ => dsimp only; rw [compS_items r σ]
  | _ => rfl
theorem x_for {ts : List Nat} {it : It} {body : List S} {ws : List V} (h : evalIt C it ρ σ = .ok (.items ws) σ₁) :
 execSs C (.for_ ts it body :: r) ρ σ = (forGo (forStep ts (fun ρ σ => execSs C body ρ σ)) ws ρ σ₁).bind fun f σ => (match f with | .next ρ => execSs C r ρ σ | .ret v => .ok (.ret v) σ) := by
 rw [xB_2, xA_8, h, ok_bind]
 show (forS _ (ws.length + 1) (.items ws) ρ σ₁).bind _ = _
 rw [forS_items] <;> rfl
theorem forGo_fold {f : V -> Vars -> Store -> Res Fl} {γ : Type} (I : γ -> Vars -> Store -> Prop) (w : α -> V) :
 ∀ (l : List α) (R : List α -> γ -> Prop) (pre : List α) (s : γ) (ρ : Vars) (σ : Store), R pre s -> I s ρ σ ->
 (∀ p a q s ρ σ, pre ++ l = p ++ a :: q -> R p s -> I s ρ σ -> ∃ s' ρ' σ', R (p ++ [a]) s' ∧ I s' ρ' σ' ∧ f (w a) ρ σ = .ok (.next ρ') σ') ->
 ∃ s' ρ' σ', R (pre ++ l) s' ∧ I s' ρ' σ' ∧ forGo f (l.map w) ρ σ = .ok (.next ρ') σ'
 | [], R, pre, s, ρ, σ, hR, hI, _ => ⟨s, ρ, σ, by rw [List.append_nil]; exact hR, hI, rfl⟩
 | a :: l, R, pre, s, ρ, σ, hR, hI, hf => by
  obtain ⟨s', ρ', σ', h1, h2, h3⟩ := hf pre a l s ρ σ rfl hR hI
  obtain ⟨s2, ρ2, σ2, k1, k2, k3⟩ := forGo_fold I w l R (pre ++ [a]) s' ρ' σ' h1 h2 (by
   intro p b q s ρ σ he; exact hf p b q s ρ σ (by rw [List.append_assoc] at he; exact he))
  refine ⟨s2, ρ2, σ2, by rw [List.append_assoc] at k1; exact k1, k2, ?_⟩
  show (f (w a) ρ σ).bind (fun x σ => (match x with | .next ρ => forGo f (l.map w) ρ σ | .ret y => .ok (.ret y) σ)) = _
  rw [h3]
  exact k3
theorem rangeV_eq (lo : Int) (n : Nat) : rangeV lo n = (List.range n).map fun j : Nat => V.d (.int (lo + (j : Int))) := by
 induction n generalizing lo with
 | zero => rfl
 | succ n ih =>
  show V.d (.int lo) :: rangeV (lo + 1) n = _
  rw [ih, List.range_succ_eq_map]
  simp only [List.map_cons, List.map_map]
  congr 1
  ·simp
  ·apply List.map_congr_left; intro j _; show V.d (.int (lo + 1 + (j : Int))) = V.d (.int (lo + ((j + 1 : Nat) : Int))); rw [Int.natCast_add, Int.add_assoc, Int.add_comm 1]; rfl
theorem range0 (n : Nat) : rangeV 0 n = (List.range n).map fun j : Nat => V.d (.int (j : Int)) := by simp [rangeV_eq]
theorem it_range {es : List E} {n : Int} (h : evalEs C es ρ σ = .ok [.d (.int n)] σ₁) (h1 : n <= 1000000) (h2 : -1000000 <= n) :
 evalIt C (.range es) ρ σ = .ok (.items ((List.range n.toNat).map fun j : Nat => V.d (.int (j : Int)))) σ₁ := by
 rw [eI_1, h, ok_bind, <- range0]
 show (match (if n <= 1000000 ∧ -1000000 <= n then some (rangeV 0 n.toNat) else none) with | some xs => Res.ok (Src.items xs) σ₁ | none => .bad) = _
 rw [if_pos ⟨h1, h2⟩]
theorem it_of {ws : Src} (h : evalE C e ρ σ = .ok v σ₁) (h1 : itemsOf σ₁ v = some ws) : evalIt C (.of e) ρ σ = .ok ws σ₁ := by
 rw [eI_4, h, ok_bind, h1]
theorem it_map {α : Type} (f : α -> PyData) (l : List α) : itemsOf σ (.d (.list (l.map f))) = some (.items (l.map fun a => V.d (f a))) := by
 show some (Src.items ((l.map f).map V.d)) = _
 rw [List.map_map]; rfl
theorem it_mapT {α : Type} (f : α -> PyData) (l : List α) : itemsOf σ (.d (.tuple (l.map f))) = some (.items (l.map fun a => V.d (f a))) := by
 show some (Src.items ((l.map f).map V.d)) = _
 rw [List.map_map]; rfl
theorem compGo_map {f : V -> Store -> Res (Option V)} (w : α -> V) (g : α -> Option V) : ∀ (l : List α), (∀ a ∈ l, f (w a) σ = .ok (g a) σ) -> compGo f (l.map w) σ = .ok (l.filterMap g) σ
 | [], _ => rfl
 | a :: l, h => by
  have h1 := h a (by simp)
  have h2 := compGo_map w g l (fun b hb => h b (by simp [hb]))
  show (match f (w a) σ with | .ok x σ => (match compGo f (l.map w) σ with | .ok xs σ => Res.ok (match x with | some y => y :: xs | none => xs) σ | .bad => .bad) | .bad => .bad) = _
  rw [h1]
  show (match compGo f (l.map w) σ with | .ok xs σ => Res.ok (match g a with | some y => y :: xs | none => xs) σ | .bad => .bad) = _
  rw [h2, List.filterMap_cons]
  cases g a <;> rfl
theorem e_comp {elt : E} {t : Nat} {it : It} {ifs : List E} {fz : Bool} {l : List α} (w : α -> V) (p : α -> Bool) (g : α -> V)
 (hi : evalIt C it ρ σ = .ok (.items (l.map w)) σ₁)
 (hp : ∀ a ∈ l, evalIfs C ifs ((ρ.set t none).set t (some (w a))) σ₁ = .ok (p a) σ₁)
 (hg : ∀ a ∈ l, p a = true -> evalE C elt ((ρ.set t none).set t (some (w a))) σ₁ = .ok (g a) σ₁) :
 evalE C (.comp fz elt [t] it ifs) ρ σ = mkList fz ((l.filter p).map g) σ₁ := by
 rw [eA_20, hi, ok_bind]
 show compEnd fz (compS _ ((l.map w).length + 1) (.items (l.map w)) σ₁) = _
 rw [compS_items, compGo_map w (fun a => if p a then some (g a) else none) l]
 ·show mkList fz _ σ₁ = _
  congr 1
  clear hi hp hg
  induction l with
  | nil => rfl
  | cons a l ih => cases h : p a <;> simp [List.filterMap_cons, List.filter_cons, h, ih]
 ·intro a ha
  have h1 := hp a ha
  show (evalIfs C ifs ((ρ.set t none).set t (some (w a))) σ₁).bind _ = _
  rw [h1, ok_bind]
  induction h : p a with
  | true =>
   show (evalE C elt ((ρ.set t none).set t (some (w a))) σ₁).bind _ = _
   rw [hg a ha h]; rfl
  | false => rfl
theorem e_comp1 {elt : E} {t : Nat} {it : It} {fz : Bool} {l : List α} (w : α -> V) (g : α -> V)
 (hi : evalIt C it ρ σ = .ok (.items (l.map w)) σ₁)
 (hg : ∀ a ∈ l, evalE C elt ((ρ.set t none).set t (some (w a))) σ₁ = .ok (g a) σ₁) :
 evalE C (.comp fz elt [t] it []) ρ σ = mkList fz (l.map g) σ₁ := by
 have := e_comp (elt := elt) (fz := fz) (t := t) (ifs := []) w (fun _ => true) g hi (fun a _ => by simp only [eF_1, eF_2]) (fun a ha _ => hg a ha)
 rw [List.filter_eq_self.mpr (by simp)] at this
 exact this
theorem e_bin {op : Operator} {a b : E} {x y : V} (h1 : evalE C a ρ σ = .ok x σ₁) (h2 : evalE C b ρ σ₁ = .ok y σ₂) : evalE C (.bin fz op a b) ρ σ = binop fz op x y σ₂ := by
 rw [eA_6, h1, ok_bind, h2, ok_bind]
theorem e_join {l : List (List Nat)} {sep : List Nat} (h : evalE C e ρ σ = .ok (.d (.list (l.map fun t => .str (Tx t)))) σ₁) (hok : JoinOk (Tx sep) (l.map Tx) = true) :
 evalE C (.meth .join fz (.cst (.str (Tx sep))) [e]) ρ σ = .ok (.d (.str (Txt.join (Tx sep) (l.map Tx)))) σ₁ := by
 have hs : strsV ((l.map fun t => PyData.str (Tx t)).map V.d) = some (l.map Tx) := by
  clear hok h
  induction l with
  | nil => rfl
  | cons a l ih =>
   show (match strsV ((l.map fun t => PyData.str (Tx t)).map V.d) with | some xs => some (Tx a :: xs) | none => none) = _
   rw [ih]; rfl
 rw [eA_19, eA_1, ok_bind]
 show (evalEs C [e] ρ σ).bind _ = _
 rw [eB_2, h, ok_bind, eB_1, ok_bind, ok_bind]
 show (match strsV ((l.map fun t => PyData.str (Tx t)).map V.d) with | some ss => if JoinOk (Tx sep) ss = true then Res.ok (V.d (.str (Txt.join (Tx sep) ss))) σ₁ else .bad | none => .bad) = _
 rw [hs]
 exact if_pos hok
end
section
variable {P : Nat -> Option Fn} {fuel n f : Nat} {fn : Fn} {ws xs : List V} {σ σ₁ : Store} {y : PyData} {v : V} {k : Nat}
theorem frz_ok (hP : P f = some fn) (hi : inert ws = true) (h : runFn ⟨callF P fuel n, fuel⟩ fn ws [] = .ok v σ₁) (hs : snap σ₁ 8 v = some y) : callF P fuel (n + 1) .frz f ws σ = .ok (.d y) σ := by
 show (match P f with | none => .bad | some fn => (match inert ws with | true => isoCall (runFn ⟨callF P fuel n, fuel⟩ fn) ws false σ | false => (match lent σ ws with | some xs => isoCall (runFn ⟨callF P fuel n, fuel⟩ fn) xs true σ | none => .bad)) : Res V) = _
 rw [hP]
 dsimp only
 rw [hi]
 show (match runFn ⟨callF P fuel n, fuel⟩ fn ws [] with | .ok v σ' => (match snap σ' 8 v with | some y => .ok (.d y) σ | none => .bad) | .bad => .bad : Res V) = _
 rw [h]
 dsimp only
 rw [hs]
theorem frz_lent (hP : P f = some fn) (hi : inert ws = false) (hl : lent σ ws = some xs) (h : runFn ⟨callF P fuel n, fuel⟩ fn xs [] = .ok v σ₁) (hs : fresh σ₁ 8 v = some y) : callF P fuel (n + 1) .frz f ws σ = .ok (.d y) σ := by
 show (match P f with | none => .bad | some fn => (match inert ws with | true => isoCall (runFn ⟨callF P fuel n, fuel⟩ fn) ws false σ | false => (match lent σ ws with | some xs => isoCall (runFn ⟨callF P fuel n, fuel⟩ fn) xs true σ | none => .bad)) : Res V) = _
 rw [hP]
 dsimp only
 rw [hi]
 dsimp only
 rw [hl]
 show (match runFn ⟨callF P fuel n, fuel⟩ fn xs [] with | .ok v σ' => (match fresh σ' 8 v with | some y => .ok (.d y) σ | none => .bad) | .bad => .bad : Res V) = _
 rw [h]
 dsimp only
 rw [hs]
theorem run_ret {C : Cfg} (hl : ws.length = fn.nparams) (h : execSs C fn.body (ws.map some ++ List.replicate (fn.nvars - fn.nparams) none) [] = .ok (.ret v) σ₁) : runFn C fn ws [] = .ok v σ₁ := by
 refine (if_pos hl).trans ?_
 rw [h]; rfl
theorem run_none {C : Cfg} {ρ : Vars} (hl : ws.length = fn.nparams) (h : execSs C fn.body (ws.map some ++ List.replicate (fn.nvars - fn.nparams) none) [] = .ok (.next ρ) σ₁) : runFn C fn ws [] = .ok (.d .none) σ₁ := by
 refine (if_pos hl).trans ?_
 rw [h]; rfl
end
end Mine.Internal
namespace Mine.Internal
open PySem
theorem contains1 (l : List Nat) (c : Nat) : Txt.contains (Tx l) (Tx [c]) = decide (c ∈ l) := by
 have h := StrLaws.found_one (Tx l) c
 rw [Tx_list] at h
 exact h
theorem join0 (l : List (List Nat)) : Txt.join (Tx []) (l.map Tx) = Tx l.flatten := by
 show Builtin.Str.glued _ _ = _
 rw [StrLaws.glued_eq_join]
 induction l with
 | nil => rfl
 | cons a l ih =>
  induction l with
  | nil => simp [Str.join]
  | cons b l =>
   simp only [List.map_cons, Str.join] at ih ⊢
   rw [ih, Tx_app, Tx_app]; simp
theorem joinOk0 (l : List (List Nat)) (h : l.length <= 1000000) (h1 : ∀ t ∈ l, t.length <= 1) : JoinOk (Tx []) (l.map Tx) = true := by
 refine PyProof.Rows.joinOk_of ?_
 have h2 : ((l.map Tx).map (·.length)).sum <= l.length := by
  clear h
  induction l with
  | nil => simp
  | cons a l ih =>
   have := h1 a (by simp)
   have := ih (fun t ht => h1 t (by simp [ht]))
   simp only [List.map_cons, List.sum_cons, List.length_cons, Tx_len]; lia
 simp only [Tx_len, List.length_nil, Nat.mul_zero]
 lia
end Mine.Internal
namespace Mine.Internal
open PySem
section
variable {σ σ₁ : Store} {C : Cfg} {ρ : Vars} {p q r : Bool} {a b c : E} {x y : V}
theorem e_or2 (h1 : evalE C a ρ σ = .ok (vb p) σ) (h2 : p = false -> evalE C b ρ σ = .ok (vb q) σ) : evalE C (.bop .Or [a, b]) ρ σ = .ok (vb (p || q)) σ := by
 rw [eA_9, eC_3, h1, ok_bind]
 cases p with
 | true => rfl
 | false => exact h2 rfl
theorem e_and2 (h1 : evalE C a ρ σ = .ok (vb p) σ) (h2 : p = true -> evalE C b ρ σ = .ok (vb q) σ) : evalE C (.bop .And [a, b]) ρ σ = .ok (vb (p && q)) σ := by
 rw [eA_9, eC_3, h1, ok_bind]
 cases p with
 | true => exact h2 rfl
 | false => rfl
theorem e_and3 (h1 : evalE C a ρ σ = .ok (vb p) σ) (h2 : p = true -> evalE C b ρ σ = .ok (vb q) σ) (h3 : p = true -> q = true -> evalE C c ρ σ = .ok (vb r) σ) : evalE C (.bop .And [a, b, c]) ρ σ = .ok (vb (p && q && r)) σ := by
 rw [eA_9, eC_3, h1, ok_bind]
 cases p with
 | false => rfl
 | true =>
  show evalB C .And [b, c] ρ σ = _
  rw [eC_3, h2 rfl, ok_bind]
  cases q with
  | false => rfl
  | true => exact h3 rfl rfl
theorem e_and2v (h1 : evalE C a ρ σ = .ok (vb p) σ) (h2 : p = true -> evalE C b ρ σ = .ok y σ ∧ truth σ y = some q) : ∃ z, evalE C (.bop .And [a, b]) ρ σ = .ok z σ ∧ truth σ z = some (p && q) := by
 induction p with
 | false => exact ⟨vb false, by rw [eA_9, eC_3, h1]; rfl, rfl⟩
 | true => exact ⟨y, by rw [eA_9, eC_3, h1]; exact (h2 rfl).1, (h2 rfl).2⟩
theorem e_cmp {op : CmpOp} (h1 : evalE C a ρ σ = .ok x σ) (h2 : evalE C b ρ σ = .ok y σ) (h3 : cmpop op x y σ = some p) : evalE C (.cmp op a b) ρ σ = .ok (vb p) σ := by
 rw [eA_10, h1, ok_bind, h2, ok_bind, h3]
theorem e_not (h1 : evalE C a ρ σ = .ok (vb p) σ) : evalE C (.not a) ρ σ = .ok (vb !p) σ := by
 rw [eA_8, h1]; rfl
end
section
variable {σ : Store} {i j : Int} {a b : List Nat}
theorem eq_int : eqV σ (vi i) (vi j) = some (decide (i = j)) := rfl
theorem eq_str : eqV σ (vs a) (vs b) = some (decide (a = b)) := by
 show some (Tx a == Tx b) = _
 rw [Tx_beq]
theorem inD_str (a : List Nat) (l : List (List Nat)) : inD (.str (Tx a)) (l.map fun t => .str (Tx t)) = some (decide (a ∈ l)) := by
 induction l with
 | nil => rfl
 | cons b l ih =>
  have h : eqN eqDepth (.str (Tx b)) (.str (Tx a)) = some (decide (b = a)) := by
   show some (Tx b == Tx a) = _
   rw [Tx_beq]
  show (match eqN eqDepth (.str (Tx b)) (.str (Tx a)), inD (.str (Tx a)) (l.map fun t => .str (Tx t)) with | some p, some q => some (p || q) | _, _ => none) = _
  rw [ih, h]
  show some (decide (b = a) || decide (a ∈ l)) = _
  rw [<- Bool.decide_or]
  congr 1
  exact decide_eq_decide.mpr (by rw [List.mem_cons, eq_comm])
theorem in_strs (a : List Nat) (l : List (List Nat)) : inV σ (vs a) (.d (.list (l.map fun t => .str (Tx t)))) = some (decide (a ∈ l)) := by
 exact inD_str a l
theorem seqI {k : Int} {n : Nat} (h0 : 0 <= k) (h : k < n) : seqIndex? k n = some k.toNat := by
 have h1 : ¬ k < 0 := by lia
 simp [seqIndex?, h1, h0, h]
theorem sub_seq {l : List PyData} {k : Int} {j : Nat} {v : V} (h2 : small k = true) (h3 : seqIndex? k (l.map V.d).length = some j) (h : (l.map V.d)[j]? = some v) : subscr (.d (.list l)) (vi k) σ = some v := by
 refine (if_pos h2).trans ?_
 show (match seqIndex? k (l.map V.d).length with | some j => (l.map V.d)[j]? | none => none) = _
 rw [h3]; exact h
theorem sub_seqT {l : List PyData} {k : Int} {j : Nat} {v : V} (h2 : small k = true) (h3 : seqIndex? k (l.map V.d).length = some j) (h : (l.map V.d)[j]? = some v) : subscr (.d (.tuple l)) (vi k) σ = some v := by
 refine (if_pos h2).trans ?_
 show (match seqIndex? k (l.map V.d).length with | some j => (l.map V.d)[j]? | none => none) = _
 rw [h3]; exact h
theorem at_list {l : List PyData} {y : PyData} (k : Int) (h0 : 0 <= k) (hs : k < 9223372036854775808) (h : l[k.toNat]? = some y) : subscr (.d (.list l)) (vi k) σ = some (.d y) := by
 have h1 : k.toNat < l.length := by
  rw [List.getElem?_eq_some_iff] at h; exact h.1
 have h2 : small k = true := by simp [small]; lia
 have h3 : seqIndex? k l.length = some k.toNat := seqI h0 (by lia)
 exact sub_seq h2 (by rw [List.length_map]; exact h3) (by rw [List.getElem?_map, h]; rfl)
theorem at_text {l : List Nat} {y : Nat} (k : Int) (h0 : 0 <= k) (hs : k < 9223372036854775808) (h : l[k.toNat]? = some y) : subscr (vs l) (vi k) σ = some (vs [y]) := by
 have h1 : k.toNat < l.length := by
  rw [List.getElem?_eq_some_iff] at h; exact h.1
 have h2 : small k = true := by simp [small]; lia
 have h3 : seqIndex? k l.length = some k.toNat := seqI h0 (by lia)
 refine (if_pos h2).trans ?_
 show (match Txt.charAt (Tx l) k with | some c => some (V.d (.str (chr1 c))) | none => none) = _
 rw [Tx_at, h3]
 show (match l[k.toNat]? with | some c => some (V.d (.str (chr1 c))) | none => none) = _
 rw [h]; rfl
theorem at_tup {l : List PyData} {y : PyData} (k : Int) (h0 : 0 <= k) (hs : k < 9223372036854775808) (h : l[k.toNat]? = some y) : subscr (.d (.tuple l)) (vi k) σ = some (.d y) := by
 have h1 : k.toNat < l.length := by
  rw [List.getElem?_eq_some_iff] at h; exact h.1
 have h2 : small k = true := by simp [small]; lia
 have h3 : seqIndex? k l.length = some k.toNat := seqI h0 (by lia)
 exact sub_seqT h2 (by rw [List.length_map]; exact h3) (by rw [List.getElem?_map, h]; rfl)
theorem at_last {l : List PyData} {y : PyData} (hs : l.length < 9223372036854775808) (h : l.getLast? = some y) : subscr (.d (.list l)) (vi (-1)) σ = some (.d y) := by
 have h0 : l ≠ [] := by intro e; simp [e] at h
 have h1 : 0 < l.length := List.length_pos_iff.mpr h0
 have h2 : small (-1) = true := by decide
 have h3 : seqIndex? (-1) l.length = some (l.length - 1) := by
  have h4 : (0 : Int) <= -1 + l.length := by lia
  have h5 : (-1 + (l.length : Int)) < l.length := by lia
  have h6 : (-1 + (l.length : Int)).toNat = l.length - 1 := by lia
  simp [seqIndex?, h4, h5, h6]
 rw [List.getLast?_eq_getElem?] at h
 exact sub_seq h2 (by rw [List.length_map]; exact h3) (by rw [List.getElem?_map, h]; rfl)
theorem small_of (h1 : -1000000000000 < i) (h2 : i < 1000000000000) : small i = true := by simp [small]; lia
theorem clip_nat (n k : Nat) : clipAt n (k : Int) = min k n := by
 show (max 0 (min (if (k : Int) < 0 then (k : Int) + n else k) n)).toNat = _
 rw [if_neg (Int.not_lt.mpr (Int.natCast_nonneg k))]
 rcases Nat.le_total k n with h | h
 ·rw [Int.min_eq_left (Int.ofNat_le.mpr h), Nat.min_eq_left h, Int.max_eq_right (Int.natCast_nonneg _)]; rfl
 ·rw [Int.min_eq_right (Int.ofNat_le.mpr h), Nat.min_eq_right h, Int.max_eq_right (Int.natCast_nonneg _)]; rfl
theorem cut_to {α : Type} (l : List α) (k : Nat) : cutAt none (some (k : Int)) l = l.take k := by
 have := clip_nat l.length k
 simp only [cutAt, Option.elim, this, List.drop_zero, Nat.sub_zero]
 rcases Nat.le_total k l.length with h | h
 ·rw [Nat.min_eq_left h]
 ·rw [Nat.min_eq_right h, List.take_of_length_le (Nat.le_refl _), List.take_of_length_le h]
theorem cut_from {α : Type} (l : List α) (k : Nat) : cutAt (some (k : Int)) none l = l.drop k := by
 have := clip_nat l.length k
 simp only [cutAt, Option.elim, this]
 rcases Nat.le_total k l.length with h | h
 ·rw [Nat.min_eq_left h, List.take_of_length_le (by simp)]
 ·rw [Nat.min_eq_right h]; simp [List.drop_eq_nil_of_le h]
theorem end_i (h : small i = true) : endOf (some (vi i)) = some (some i) := if_pos h
theorem sl_toI (h : small i = true) : slice true (vs a) none (some (vi i)) σ = .ok (vs (cutAt none (some i) a)) σ := by
 show (match endOf none with | some l => (match endOf (some (vi i)) with | some h => sliceAt true (vs a) l h σ | none => .bad) | none => .bad : Res V) = _
 rw [end_i h]
 show Res.ok (V.d (.str (cutS none (some i) (Tx a)))) σ = _
 rw [Tx_cut]
theorem sl_fromI (h : small i = true) : slice true (vs a) (some (vi i)) none σ = .ok (vs (cutAt (some i) none a)) σ := by
 show (match endOf (some (vi i)) with | some l => (match endOf none with | some h => sliceAt true (vs a) l h σ | none => .bad) | none => .bad : Res V) = _
 rw [end_i h]
 show Res.ok (V.d (.str (cutS (some i) none (Tx a)))) σ = _
 rw [Tx_cut]
theorem slL_toI {l' : List PyData} (h : small i = true) : slice true (.d (.list l')) none (some (vi i)) σ = mkList true (cutAt none (some i) (l'.map .d)) σ := by
 show (match endOf none with | some l => (match endOf (some (vi i)) with | some h => sliceAt true (.d (.list l')) l h σ | none => .bad) | none => .bad : Res V) = _
 rw [end_i h]; rfl
theorem slL_fromI {l' : List PyData} (h : small i = true) : slice true (.d (.list l')) (some (vi i)) none σ = mkList true (cutAt (some i) none (l'.map .d)) σ := by
 show (match endOf (some (vi i)) with | some l => (match endOf none with | some h => sliceAt true (.d (.list l')) l h σ | none => .bad) | none => .bad : Res V) = _
 rw [end_i h]; rfl
theorem sl_to {k : Nat} (hk : k <= 1000000) : slice true (vs a) none (some (vi k)) σ = .ok (vs (a.take k)) σ := by
 rw [sl_toI (small_of (by lia) (by lia)), cut_to]
theorem sl_from {k : Nat} (hk : k <= 1000000) : slice true (vs a) (some (vi k)) none σ = .ok (vs (a.drop k)) σ := by
 rw [sl_fromI (small_of (by lia) (by lia)), cut_from]
theorem slL_to {l : List PyData} {k : Nat} (hk : k <= 1000000) (hl : l.length <= line) : slice true (.d (.list l)) none (some (vi k)) σ = .ok (.d (.list (l.take k))) σ := by
 have h2 : (l.take k).length <= line := by simp; lia
 rw [slL_toI (small_of (by lia) (by lia)), cut_to, <- List.map_take, mkListT _ h2]
theorem slL_from {l : List PyData} {k : Nat} (hk : k <= 1000000) (hl : l.length <= line) : slice true (.d (.list l)) (some (vi k)) none σ = .ok (.d (.list (l.drop k))) σ := by
 have h2 : (l.drop k).length <= line := by simp; lia
 rw [slL_fromI (small_of (by lia) (by lia)), cut_from, <- List.map_drop, mkListT _ h2]
theorem sl_toZ (h0 : 0 <= i) (h1 : i <= 1000000) : slice true (vs a) none (some (vi i)) σ = .ok (vs (a.take i.toNat)) σ := by
 rw [sl_toI (small_of (by lia) (by lia)), <- cut_to, Int.toNat_of_nonneg h0]
theorem sl_fromZ (h0 : 0 <= i) (h1 : i <= 1000000) : slice true (vs a) (some (vi i)) none σ = .ok (vs (a.drop i.toNat)) σ := by
 rw [sl_fromI (small_of (by lia) (by lia)), <- cut_from, Int.toNat_of_nonneg h0]
theorem slL_toZ {l : List PyData} (h0 : 0 <= i) (h1 : i <= 1000000) (hl : l.length <= line) : slice true (.d (.list l)) none (some (vi i)) σ = .ok (.d (.list (l.take i.toNat))) σ := by
 have := slL_to (σ := σ) (k := i.toNat) (by lia) hl
 rwa [Int.toNat_of_nonneg h0] at this
theorem slL_fromZ {l : List PyData} (h0 : 0 <= i) (h1 : i <= 1000000) (hl : l.length <= line) : slice true (.d (.list l)) (some (vi i)) none σ = .ok (.d (.list (l.drop i.toNat))) σ := by
 have := slL_from (σ := σ) (k := i.toNat) (by lia) hl
 rwa [Int.toNat_of_nonneg h0] at this
theorem fmod_lt (i : Int) {j : Int} (h : 0 < j) : 0 <= i.fmod j ∧ i.fmod j < j := ⟨Int.fmod_nonneg_of_pos i h, Int.fmod_lt_of_pos i h⟩
end
end Mine.Internal
namespace Mine.Internal
open PySem
noncomputable def Ends (Q : Res Fl -> Prop) (r : Res Fl) : Prop := Q r
section
variable {α : Type} {C : Cfg} {ρ : Vars} {σ σ₁ : Store} {Q : Res Fl -> Prop} {e c : E} {v : V} {r a b : List S} {x : Nat} {w : α -> V} {l : List α} {p : α -> Bool} {o : Res Fl} {I : Vars -> Prop} {body : List S} {it : It}
theorem go_asg (h : evalE C e ρ σ = .ok v σ₁) (k : Ends Q (execSs C r (ρ.set x (some v)) σ₁)) : Ends Q (execSs C (.asg x e :: r) ρ σ) := by
 rw [x_asg h]; exact k
theorem go_exp (h : evalE C e ρ σ = .ok v σ₁) (k : Ends Q (execSs C r ρ σ₁)) : Ends Q (execSs C (.exp e :: r) ρ σ) := by
 rw [x_exp h]; exact k
theorem go_ret (h : evalE C e ρ σ = .ok v σ₁) (k : Q (.ok (.ret v) σ₁)) : Ends Q (execSs C (.ret e :: r) ρ σ) := by
 rw [x_ret h]; exact k
theorem go_nil (k : Q (.ok (.next ρ) σ)) : Ends Q (execSs C [] ρ σ) := by rw [x_nil]; exact k
theorem go_ite {t : Bool} (h : evalE C c ρ σ = .ok (.d (.bool t)) σ₁) (kt : t = true -> Ends Q (execSs C (a ++ r) ρ σ₁)) (kf : t = false -> Ends Q (execSs C (b ++ r) ρ σ₁)) : Ends Q (execSs C (.ite c a b :: r) ρ σ) := by
 rw [x_iteB h]; induction t with
 | true => exact kt rfl
 | false => exact kf rfl
theorem go_iteV {t : Bool} (h : ∃ v, evalE C c ρ σ = .ok v σ₁ ∧ truth σ₁ v = some t) (kt : t = true -> Ends Q (execSs C (a ++ r) ρ σ₁)) (kf : t = false -> Ends Q (execSs C (b ++ r) ρ σ₁)) : Ends Q (execSs C (.ite c a b :: r) ρ σ) := by
 obtain ⟨v, h1, h2⟩ := h
 rw [x_ite h1 h2]; induction t with
 | true => exact kt rfl
 | false => exact kf rfl
theorem for_stop (hI : I ρ)
 (ho : ∀ g : Fl -> Store -> Res Fl, (∀ y σ, g (.ret y) σ = .ok (.ret y) σ) -> o.bind g = o)
 (hf : ∀ a ∈ l, ∀ ρ, I ρ -> (p a = true -> execSs C body (ρ.set x (some (w a))) σ = o) ∧ (p a = false -> ∃ ρ', I ρ' ∧ execSs C body (ρ.set x (some (w a))) σ = .ok (.next ρ') σ)) :
 (l.any p = true -> forGo (forStep [x] (fun ρ σ => execSs C body ρ σ)) (l.map w) ρ σ = o) ∧ (l.any p = false -> ∃ ρ', I ρ' ∧ forGo (forStep [x] (fun ρ σ => execSs C body ρ σ)) (l.map w) ρ σ = .ok (.next ρ') σ) := by
 induction l generalizing ρ with
 | nil => exact ⟨by simp, fun _ => ⟨ρ, hI, rfl⟩⟩
 | cons a l ih =>
  have h1 := hf a (by simp) ρ hI
  have hs : forStep [x] (fun ρ σ => execSs C body ρ σ) (w a) ρ σ = execSs C body (ρ.set x (some (w a))) σ := rfl
  have hg : forGo (forStep [x] (fun ρ σ => execSs C body ρ σ)) ((a :: l).map w) ρ σ = (execSs C body (ρ.set x (some (w a))) σ).bind fun z σ => (match z with | .next ρ => forGo (forStep [x] (fun ρ σ => execSs C body ρ σ)) (l.map w) ρ σ | .ret y => .ok (.ret y) σ) := rfl
  rw [hg, List.any_cons]
  induction hp : p a with
  | true =>
   rw [(h1.1 hp)]
   exact ⟨fun _ => ho _ (fun _ _ => rfl), by simp⟩
  | false =>
   obtain ⟨ρ', h2, h3⟩ := h1.2 hp
   rw [h3]
   simp only [Bool.false_or, ok_bind]
   exact ih h2 (fun b hb => hf b (by simp [hb]))
theorem ends_ret {v : V} {σ : Store} (g : Fl -> Store -> Res Fl) (hg : ∀ y σ, g (.ret y) σ = .ok (.ret y) σ) : (Res.ok (Fl.ret v) σ).bind g = .ok (.ret v) σ := hg v σ
theorem go_for (p : α -> Bool) (o : Res Fl) (I : Vars -> Prop) (hit : evalIt C it ρ σ = .ok (.items (l.map w)) σ) (hI : I ρ)
 (ho : ∀ g : Fl -> Store -> Res Fl, (∀ y σ, g (.ret y) σ = .ok (.ret y) σ) -> o.bind g = o)
 (hf : ∀ a ∈ l, ∀ ρ, I ρ -> (p a = true -> execSs C body (ρ.set x (some (w a))) σ = o) ∧ (p a = false -> ∃ ρ', I ρ' ∧ execSs C body (ρ.set x (some (w a))) σ = .ok (.next ρ') σ))
 (kt : l.any p = true -> Q o) (kf : l.any p = false -> ∀ ρ', I ρ' -> Ends Q (execSs C r ρ' σ)) : Ends Q (execSs C (.for_ [x] it body :: r) ρ σ) := by
 have h := for_stop (C := C) (x := x) (w := w) (l := l) (body := body) hI ho hf
 rw [x_for hit]
 induction hp : l.any p with
 | true =>
  rw [h.1 hp]
  have hq : ∀ g : Fl -> Store -> Res Fl, (∀ y σ, g (.ret y) σ = .ok (.ret y) σ) -> Ends Q (o.bind g) := fun g hg => by rw [ho g hg]; exact kt hp
  exact hq _ (fun _ _ => rfl)
 | false =>
  obtain ⟨ρ', h1, h2⟩ := h.2 hp
  rw [h2, ok_bind]; exact kf hp ρ' h1
theorem for_stop2 {ts : List Nat} (bd : α -> Vars -> Vars) (hI : I ρ)
 (ho : ∀ g : Fl -> Store -> Res Fl, (∀ y σ, g (.ret y) σ = .ok (.ret y) σ) -> o.bind g = o)
 (hf : ∀ a ∈ l, ∀ ρ, I ρ -> bindTs ρ ts (w a) = some (bd a ρ) ∧ (p a = true -> execSs C body (bd a ρ) σ = o) ∧ (p a = false -> ∃ ρ', I ρ' ∧ execSs C body (bd a ρ) σ = .ok (.next ρ') σ)) :
 (l.any p = true -> forGo (forStep ts (fun ρ σ => execSs C body ρ σ)) (l.map w) ρ σ = o) ∧ (l.any p = false -> ∃ ρ', I ρ' ∧ forGo (forStep ts (fun ρ σ => execSs C body ρ σ)) (l.map w) ρ σ = .ok (.next ρ') σ) := by
 induction l generalizing ρ with
 | nil => exact ⟨by simp, fun _ => ⟨ρ, hI, rfl⟩⟩
 | cons a l ih =>
  have h1 := hf a (by simp) ρ hI
  have hs : forStep ts (fun ρ σ => execSs C body ρ σ) (w a) ρ σ = execSs C body (bd a ρ) σ := by
   show (match bindTs ρ ts (w a) with | some ρ' => execSs C body ρ' σ | none => .bad) = _
   rw [h1.1]
  have hg : forGo (forStep ts (fun ρ σ => execSs C body ρ σ)) ((a :: l).map w) ρ σ = (forStep ts (fun ρ σ => execSs C body ρ σ) (w a) ρ σ).bind fun z σ => (match z with | .next ρ => forGo (forStep ts (fun ρ σ => execSs C body ρ σ)) (l.map w) ρ σ | .ret y => .ok (.ret y) σ) := rfl
  rw [hg, hs, List.any_cons]
  induction hp : p a with
  | true =>
   rw [(h1.2.1 hp)]
   exact ⟨fun _ => ho _ (fun _ _ => rfl), by simp⟩
  | false =>
   obtain ⟨ρ', h2, h3⟩ := h1.2.2 hp
   rw [h3]
   simp only [Bool.false_or, ok_bind]
   exact ih h2 (fun b hb => hf b (by simp [hb]))
theorem go_for2 {ts : List Nat} (bd : α -> Vars -> Vars) (p : α -> Bool) (o : Res Fl) (I : Vars -> Prop) (hit : evalIt C it ρ σ = .ok (.items (l.map w)) σ) (hI : I ρ)
 (ho : ∀ g : Fl -> Store -> Res Fl, (∀ y σ, g (.ret y) σ = .ok (.ret y) σ) -> o.bind g = o)
 (hf : ∀ a ∈ l, ∀ ρ, I ρ -> bindTs ρ ts (w a) = some (bd a ρ) ∧ (p a = true -> execSs C body (bd a ρ) σ = o) ∧ (p a = false -> ∃ ρ', I ρ' ∧ execSs C body (bd a ρ) σ = .ok (.next ρ') σ))
 (kt : l.any p = true -> Q o) (kf : l.any p = false -> ∀ ρ', I ρ' -> Ends Q (execSs C r ρ' σ)) : Ends Q (execSs C (.for_ ts it body :: r) ρ σ) := by
 have h := for_stop2 (C := C) (w := w) (l := l) (body := body) bd hI ho hf
 rw [x_for hit]
 induction hp : l.any p with
 | true =>
  rw [h.1 hp]
  have hq : ∀ g : Fl -> Store -> Res Fl, (∀ y σ, g (.ret y) σ = .ok (.ret y) σ) -> Ends Q (o.bind g) := fun g hg => by rw [ho g hg]; exact kt hp
  exact hq _ (fun _ _ => rfl)
 | false =>
  obtain ⟨ρ', h1, h2⟩ := h.2 hp
  rw [h2, ok_bind]; exact kf hp ρ' h1
theorem zipV_d (a b : List PyData) : zipV (a.map .d) (b.map .d) = (a.zip b).map fun p => V.d (.tuple [p.1, p.2]) := by
 induction a generalizing b with
 | nil => rfl
 | cons x a ih => induction b with
  | nil => rfl
  | cons y b =>
   show mkTup [.d x, .d y] :: zipV (a.map .d) (b.map .d) = _
   rw [ih]; rfl
theorem go_foldl {γ : Type} (R : List α -> γ -> Prop) (I : γ -> Vars -> Store -> Prop) (s : γ) (hit : evalIt C it ρ σ = .ok (.items (l.map w)) σ₁) (hR : R [] s) (hI : I s ρ σ₁)
 (hf : ∀ p a q s ρ σ, l = p ++ a :: q -> R p s -> I s ρ σ -> ∃ s' ρ' σ', R (p ++ [a]) s' ∧ I s' ρ' σ' ∧ execSs C body (ρ.set x (some (w a))) σ = .ok (.next ρ') σ')
 (k : ∀ s' ρ' σ', R l s' -> I s' ρ' σ' -> Ends Q (execSs C r ρ' σ')) : Ends Q (execSs C (.for_ [x] it body :: r) ρ σ) := by
 have hs : ∀ v ρ σ, forStep [x] (fun ρ σ => execSs C body ρ σ) v ρ σ = execSs C body (ρ.set x (some v)) σ := fun _ _ _ => rfl
 obtain ⟨s', ρ', σ', h1, h2, h3⟩ := forGo_fold (f := forStep [x] (fun ρ σ => execSs C body ρ σ)) I w l R [] s ρ σ₁ hR hI (by
  intro p a q s ρ σ he hR hI
  rw [hs]
  exact hf p a q s ρ σ (by simpa using he) hR hI)
 rw [x_for hit, h3, ok_bind]
 exact k s' ρ' σ' (by simpa using h1) h2
end
end Mine.Internal
namespace Mine.Internal
open PySem
section
variable {α : Type} {C : Cfg} {ρ : Vars} {σ σ₁ : Store} {Q : Res Fl -> Prop} {r : List S} {s : S} {x : Nat}
theorem go_mid {M : Vars -> Store -> Prop} (h : Ends (fun r => ∃ ρ' σ', M ρ' σ' ∧ r = .ok (.next ρ') σ') (execSs C [s] ρ σ)) (k : ∀ ρ' σ', M ρ' σ' -> Ends Q (execSs C r ρ' σ')) : Ends Q (execSs C (s :: r) ρ σ) := by
 obtain ⟨ρ', σ', h1, h2⟩ := h
 have : s :: r = [s] ++ r := rfl
 rw [this, x_append, h2, ok_bind]
 exact k ρ' σ' h1
theorem e_compD {elt : E} {t : Nat} {it : It} {ifs : List E} {l : List α} (w : α -> V) (p : α -> Bool) (g : α -> PyData)
 (hi : evalIt C it ρ σ = .ok (.items (l.map w)) σ₁) (hl : l.length <= line)
 (hp : ∀ a ∈ l, evalIfs C ifs ((ρ.set t none).set t (some (w a))) σ₁ = .ok (p a) σ₁)
 (hg : ∀ a ∈ l, p a = true -> evalE C elt ((ρ.set t none).set t (some (w a))) σ₁ = .ok (.d (g a)) σ₁) :
 evalE C (.comp true elt [t] it ifs) ρ σ = .ok (.d (.list ((l.filter p).map g))) σ₁ := by
 rw [e_comp (elt := elt) w p (fun a => .d (g a)) hi hp hg]
 have h : ((l.filter p).map g).length <= line := by
  have := List.length_filter_le p l
  simp; (exact Nat.le_trans ‹_› ‹_›)
 rw [<- mkListT _ h, List.map_map]; rfl
theorem e_comp1D {elt : E} {t : Nat} {it : It} {l : List α} (w : α -> V) (g : α -> PyData)
 (hi : evalIt C it ρ σ = .ok (.items (l.map w)) σ₁) (hl : l.length <= line)
 (hg : ∀ a ∈ l, evalE C elt ((ρ.set t none).set t (some (w a))) σ₁ = .ok (.d (g a)) σ₁) :
 evalE C (.comp true elt [t] it []) ρ σ = .ok (.d (.list (l.map g))) σ₁ := by
 rw [e_comp1 (elt := elt) w (fun a => .d (g a)) hi hg]
 have h : (l.map g).length <= line := by simp; (with_reducible assumption)
 rw [<- mkListT _ h, List.map_map]; rfl
theorem flatten1 (l : List α) (f : α -> Nat) : (l.map fun j => [f j]).flatten = l.map f := by
 induction l with
 | nil => rfl
 | cons a l ih => simp [ih]
theorem e_signs {elt : E} {t : Nat} {it : It} {l : List α} {fz : Bool} (w : α -> V) (g : α -> Nat)
 (hi : evalIt C it ρ σ = .ok (.items (l.map w)) σ₁) (hl : l.length <= 1000)
 (hg : ∀ a ∈ l, evalE C elt ((ρ.set t none).set t (some (w a))) σ₁ = .ok (vs [g a]) σ₁) :
 evalE C (.meth .join fz (.cst (.str (Str.ofString ""))) [.comp true elt [t] it []]) ρ σ = .ok (vs (l.map g)) σ₁ := by
 have h0 : Str.ofString "" = Tx [] := by decide +kernel
 have h1 := e_comp1D (elt := elt) (t := t) w (fun a => .str (Tx [g a])) hi (by simp [line]; (exact le_c ‹_› (by rfl))) hg
 rw [h0]
 have h2 := e_join (fz := fz) (l := l.map fun a => [g a]) (sep := []) (h1.trans (by simp only [List.map_map]; rfl)) (joinOk0 _ (by simp; (exact le_c ‹_› (by rfl))) (by simp))
 rw [h2, join0, flatten1]
theorem e_signsR {elt : E} {t : Nat} {es : List E} {fz : Bool} {m : Int} (g : Int -> Nat)
 (hi : evalEs C es ρ σ = .ok [.d (.int m)] σ₁) (hl : m <= 1000) (hl2 : -1000 <= m)
 (hg : ∀ i : Int, 0 <= i -> i < m -> evalE C elt ((ρ.set t none).set t (some (vi i))) σ₁ = .ok (vs [g i]) σ₁) :
 evalE C (.meth .join fz (.cst (.str (Str.ofString ""))) [.comp true elt [t] (.range es) []]) ρ σ = .ok (vs ((List.range m.toNat).map fun j : Nat => g (j : Int))) σ₁ :=
 e_signs (fun j : Nat => vi (j : Int)) (fun j : Nat => g (j : Int)) (it_range hi (by lia) (by lia)) (by simp; (with_reducible assumption)) (fun j hj => hg j (by (exact Int.natCast_nonneg _)) (by simp at hj; (with_reducible assumption)))
theorem e_compR {elt : E} {t : Nat} {es ifs : List E} {m : Int} (p : Int -> Bool) (g : Int -> PyData)
 (hi : evalEs C es ρ σ = .ok [.d (.int m)] σ₁) (hl : m <= 1000000) (hl2 : -1000000 <= m)
 (hp : ∀ i : Int, 0 <= i -> i < m -> evalIfs C ifs ((ρ.set t none).set t (some (vi i))) σ₁ = .ok (p i) σ₁)
 (hg : ∀ i : Int, 0 <= i -> i < m -> p i = true -> evalE C elt ((ρ.set t none).set t (some (vi i))) σ₁ = .ok (.d (g i)) σ₁) :
 evalE C (.comp true elt [t] (.range es) ifs) ρ σ = .ok (.d (.list (((List.range m.toNat).filter fun j : Nat => p (j : Int)).map fun j : Nat => g (j : Int)))) σ₁ :=
 e_compD (fun j : Nat => vi (j : Int)) (fun j : Nat => p (j : Int)) (fun j : Nat => g (j : Int)) (it_range hi hl hl2) (by simp [line]; lia) (fun j hj => hp j (by (exact Int.natCast_nonneg _)) (by simp at hj; (with_reducible assumption))) (fun j hj => hg j (by (exact Int.natCast_nonneg _)) (by simp at hj; (with_reducible assumption)))
theorem ar1 {n m k : Nat} (h : n <= m) (hk : m <= k := by decide) : n <= k := Nat.le_trans h hk
theorem ar2 {a : Int} {n k : Nat} (h : a < (n : Int) + 1) (hn : n <= k) (hk : k <= 1000 := by decide) : a <= 1000000 := by lia
theorem ar3 {a : Int} {n k : Nat} (h : a < (n : Int)) (hn : n <= k) (hk : k <= 1000 := by decide) : a <= 1000000 := by lia
theorem ar3' {a : Int} {n k : Nat} (h : a < (n : Int)) (hn : n <= k) (hk : k <= 1000 := by decide) : a + 1 <= 1000000 := by lia
theorem ar3s {a : Int} {n k : Nat} (h : a < (n : Int)) (hn : n <= k) (hk : k <= 1000000 := by decide) : a < 9223372036854775808 := by lia
theorem ar4 {a : Int} {n : Nat} (h0 : 0 <= a) (h : a < (n : Int)) : a.toNat < n := by lia
theorem ar5 {a : Int} {n : Nat} (h0 : 0 <= a) (h : a < (n : Int) + 1) : a.toNat <= n := by lia
theorem ar6 {a : Int} {n : Nat} (h0 : 0 <= a) (hn : 0 < n) : 0 <= min a ((n : Int) - 1) ∧ (min a ((n : Int) - 1)).toNat = min a.toNat (n - 1) := by
 rcases Int.le_total a ((n : Int) - 1) with h | h
 ·rw [Int.min_eq_left h, Nat.min_eq_left (by omega)]; exact ⟨h0, rfl⟩
 ·rw [Int.min_eq_right h, Nat.min_eq_right (by omega)]; exact ⟨by lia, by omega⟩
theorem ar7 {a : Int} {n : Nat} (hn : n <= 1000) : min a ((n : Int) - 1) < 9223372036854775808 := by omega
theorem ar8 {a n : Nat} (hn : 0 < n) : min a (n - 1) < n := by omega
theorem arp {n : Nat} : (0 : Int) < (n : Int) + 1 := by lia
theorem arq {n : Nat} : (n : Int) + 1 ≠ 0 := by lia
theorem arr {n : Nat} (h : 0 < n) : (0 : Int) < (n : Int) := by (exact Int.ofNat_le.mpr ‹_›)
theorem ars {n : Nat} (h : 0 < n) : (n : Int) ≠ 0 := by lia
theorem ar9 {a : Int} (h : 0 <= a) : 0 <= a + 1 := by lia
section
variable {β : Type}
theorem ln_map {f : α -> β} {l : List α} {k : Nat} (h : l.length <= k) (hk : k <= 16777216 := by decide) : (l.map f).length <= line := by
 rw [List.length_map]; exact Nat.le_trans h hk
theorem ln_ins {l : List α} {x : α} {i j k : Nat} (h : l.length <= k) : (l.take i ++ [x] ++ l.drop j).length <= 2 * k + 1 := by simp; omega
theorem ln_app {l : List α} {x : α} {k : Nat} (h : l.length <= k) : (l ++ [x]).length <= k + 1 := by simp; (with_reducible assumption)
theorem ln_cat1 {f : α -> β} {l : List α} {y : β} {i k : Nat} (h : l.length <= k) (hk : k + 1 <= 16777216 := by decide) : ((l.take i).map f).length + [y].length <= line := by simp [line]; lia
theorem ln_cat2 {f : α -> β} {l : List α} {x : α} {i j k : Nat} (h : l.length <= k) (hk : 2 * k + 1 <= 16777216 := by decide) : ((l.take i ++ [x]).map f).length + ((l.drop j).map f).length <= line := by simp [line]; omega
theorem ln_cat3 {f : α -> β} {l : List α} {y : β} {k : Nat} (h : l.length <= k) (hk : k + 1 <= 16777216 := by decide) : (l.map f).length + [y].length <= line := by simp [line]; lia
theorem ln_t1 {l : List α} {y : α} {i k : Nat} (h : l.length <= k) (hk : k + 1 <= 16777216 := by decide) : (l.take i).length + [y].length <= line := by simp [line]; lia
theorem ln_t2 {l : List α} {x : α} {i j k : Nat} (h : l.length <= k) (hk : 2 * k + 1 <= 16777216 := by decide) : (l.take i ++ [x]).length + (l.drop j).length <= line := by simp [line]; omega
theorem ln_t3 {l m : List α} {k j : Nat} (h : l.length <= k) (hm : m.length <= j) (hk : k + j <= 16777216 := by decide) : l.length + m.length <= line := by simp [line]; lia
theorem ln_l {l : List α} {k : Nat} (h : l.length <= k) (hk : k <= 16777216 := by decide) : l.length <= line := Nat.le_trans h hk
end
theorem pigeon {β : Type} [DecidableEq β] : ∀ (l m : List β), l.Nodup -> (∀ x ∈ l, x ∈ m) -> l.length <= m.length
 | [], m, _, _ => by exact Nat.zero_le _
 | a :: l, m, hn, hs => by
  have ha : a ∈ m := hs a (by exact .head _)
  rw [List.nodup_cons] at hn
  have := pigeon l (m.erase a) hn.2 (by
   intro x hx
   have hne : x ≠ a := fun e => hn.1 (e ▸ hx)
   exact (List.mem_erase_of_ne hne).mpr (hs x (by exact .tail _ hx)))
  rw [List.length_erase_of_mem ha] at this
  have h0 : 0 < m.length := List.length_pos_iff.mpr (fun e => by simp [e] at ha)
  simp; omega
end
end Mine.Internal
namespace Mine.Internal
set_option tactic.hygienic true
noncomputable def kadd : List Nat := [97, 100, 100]
noncomputable def kset : List Nat := [115, 101, 116]
set_option genInjectivity true in
structure Deed where
 word : List Nat
 mark : Option (List Nat × Int)
 text : Option (List Nat)
abbrev Ch := List Nat × List (List Nat) × List Deed
abbrev Mk := List Nat × Int
noncomputable def aft (m x : Mk) : List Mk -> List Mk
 | [] => [x]
 | y :: r => if y = m then y :: x :: r else y :: aft m x r
theorem aft_eq (m x : Mk) (r : List Mk) : aft m x (m :: r) = m :: x :: r := if_pos rfl
theorem aft_ne {m x y : Mk} {r : List Mk} (h : y ≠ m) : aft m x (y :: r) = y :: aft m x r := if_neg h
noncomputable def insM (o : Option Mk) (x : Mk) (r : List Mk) : List Mk := match o with | none => x :: r | some m => aft m x r
noncomputable def isAdd (d : Deed) : Bool := decide (d.word = kadd)
noncomputable def adds : List Deed -> Nat
 | [] => 0
 | d :: ds => (if isAdd d then 1 else 0) + adds ds
noncomputable def rowD (nm : List Nat) : List Deed -> Nat -> List Mk -> List Mk
 | [], _, r => r
 | d :: ds, k, r => if isAdd d then rowD nm ds (k + 1) (insM d.mark (nm, (k : Int)) r) else rowD nm ds k r
noncomputable def rowOf : List Ch -> List Mk -> List Mk
 | [], r => r
 | c :: cs, r => rowOf cs (rowD c.1 c.2.2 0 r)
noncomputable def ownM (nm : List Nat) (k : Nat) : Nat -> List Mk
 | 0 => []
 | n + 1 => (nm, (k : Int)) :: ownM nm (k + 1) n
theorem ownM_mem {nm : List Nat} {k n : Nat} {m : Mk} : m ∈ ownM nm k n ↔ m.1 = nm ∧ (k : Int) <= m.2 ∧ m.2 < (k : Int) + n := by
 induction n generalizing k with
 | zero =>
  refine ⟨fun h => (nomatch h), fun h => ?_⟩
  have h2 := h.2.2
  have h1 := h.2.1
  exact absurd h2 (by simp; omega)
 | succ n ih =>
  obtain ⟨a, b⟩ := m
  simp only [ownM, List.mem_cons, ih, Prod.mk.injEq]
  constructor
  ·rintro (⟨rfl, rfl⟩ | ⟨rfl, h1, h2⟩)
   ·exact ⟨rfl, by omega, by omega⟩
   ·exact ⟨rfl, by omega, by omega⟩
  ·rintro ⟨rfl, h1, h2⟩
   by_cases e : b = k
   ·exact .inl ⟨rfl, e⟩
   ·exact .inr ⟨rfl, by omega, by omega⟩
theorem ownM_nodup (nm : List Nat) (k n : Nat) : (ownM nm k n).Nodup := by
 induction n generalizing k with
 | zero => exact .nil
 | succ n ih =>
  refine List.nodup_cons.mpr ⟨fun h => ?_, ih (k + 1)⟩
  have h2 := (ownM_mem.mp h).2.1
  have h3 : ((k + 1 : Nat) : Int) <= (k : Int) := h2
  omega
theorem aft_perm (m x : Mk) (r : List Mk) : (aft m x r).Perm (x :: r) := by
 induction r with
 | nil => exact .refl _
 | cons y r ih =>
  unfold aft
  split
  ·exact .swap ..
  ·exact (ih.cons y).trans (.swap ..)
theorem insM_perm (o : Option Mk) (x : Mk) (r : List Mk) : (insM o x r).Perm (x :: r) := by
 cases o with
 | none => exact .refl _
 | some m => exact aft_perm m x r
theorem rowD_perm (nm : List Nat) (ds : List Deed) (k : Nat) (r : List Mk) : (rowD nm ds k r).Perm (ownM nm k (adds ds) ++ r) := by
 induction ds generalizing k r with
 | nil => exact .refl _
 | cons d ds ih =>
  unfold rowD adds
  split
  ·rw [Nat.add_comm 1]
   exact (ih (k + 1) _).trans (((insM_perm ..).append_left _).trans List.perm_middle)
  ·rw [Nat.zero_add]; exact ih k r
theorem rowOf_perm (cs : List Ch) (r : List Mk) : (rowOf cs r).Perm ((cs.flatMap fun c => ownM c.1 0 (adds c.2.2)) ++ r) := by
 induction cs generalizing r with
 | nil => exact .refl _
 | cons c cs ih =>
  refine (ih _).trans (((rowD_perm c.1 c.2.2 0 r).append_left _).trans ?_)
  rw [List.flatMap_cons, <- List.append_assoc]
  exact (List.perm_append_comm).append_right _
theorem flat_nodup (cs : List Ch) (h : (cs.map (·.1)).Nodup) : (cs.flatMap fun c => ownM c.1 0 (adds c.2.2)).Nodup := by
 induction cs with
 | nil => exact .nil
 | cons c cs ih =>
  have h1 := List.nodup_cons.mp h
  rw [List.flatMap_cons, List.nodup_append]
  refine ⟨ownM_nodup .., ih h1.2, fun a ha b hb e => h1.1 ?_⟩
  obtain ⟨c', h2, h3⟩ := List.mem_flatMap.mp hb
  have q : c.1 = c'.1 := by rw [<- (ownM_mem.mp ha).1, e, (ownM_mem.mp h3).1]
  show c.1 ∈ _
  rw [q]
  exact List.mem_map_of_mem h2
theorem rowOf_nodup (cs : List Ch) (h : (cs.map (·.1)).Nodup) : (rowOf cs []).Nodup := by
 have := rowOf_perm cs []
 rw [List.append_nil] at this
 exact this.nodup_iff.mpr (flat_nodup cs h)
theorem rowOf_app (a b : List Ch) (r : List Mk) : rowOf (a ++ b) r = rowOf b (rowOf a r) := by
 induction a generalizing r with
 | nil => rfl
 | cons c a ih => exact ih _
section
variable {p : Mk -> Bool}
theorem aft_out (m x : Mk) (r : List Mk) (hx : p x = false) : (aft m x r).filter p = r.filter p := by
 induction r with
 | nil => simp [aft, hx]
 | cons y r ih =>
  unfold aft
  split
  ·rw [List.filter_cons, List.filter_cons (x := x), hx, if_neg Bool.false_ne_true, <- List.filter_cons]
  ·rw [List.filter_cons, List.filter_cons, ih]
theorem aft_in (m x : Mk) (r : List Mk) (hx : p x = true) (hm : p m = true) (h : m ∈ r) : (aft m x r).filter p = aft m x (r.filter p) := by
 induction r with
 | nil => cases h
 | cons y r ih =>
  by_cases e : y = m
  ·subst e
   rw [aft_eq, List.filter_cons_of_pos hm, List.filter_cons_of_pos hx, List.filter_cons_of_pos hm, aft_eq]
  ·have h' : m ∈ r := (List.mem_cons.mp h).resolve_left fun q => e q.symm
   rw [aft_ne e]
   cases hy : p y with
   | true => rw [List.filter_cons_of_pos hy, List.filter_cons_of_pos hy, aft_ne e, ih h']
   | false => rw [List.filter_cons_of_neg (by simp [hy]), List.filter_cons_of_neg (by simp [hy])]; exact ih h'
theorem insM_out (o : Option Mk) (x : Mk) (r : List Mk) (hx : p x = false) : (insM o x r).filter p = r.filter p := by
 cases o with
 | none => exact List.filter_cons_of_neg (by simp [hx])
 | some m => exact aft_out m x r hx
theorem insM_in (o : Option Mk) (x : Mk) (r : List Mk) (hx : p x = true) (ho : ∀ m, o = some m -> p m = true ∧ m ∈ r) : (insM o x r).filter p = insM o x (r.filter p) := by
 cases o with
 | none => exact List.filter_cons_of_pos hx
 | some m => exact aft_in m x r hx (ho m rfl).1 (ho m rfl).2
end
noncomputable def FitD (q : Mk -> Bool) (nm : List Nat) : List Deed -> Nat -> List Mk -> Prop
 | [], _, _ => True
 | d :: ds, k, r => if isAdd d then (∀ m, d.mark = some m -> q m = true ∧ m ∈ r) ∧ FitD q nm ds (k + 1) (insM d.mark (nm, (k : Int)) r) else FitD q nm ds k r
theorem rowD_out {p : Mk -> Bool} {nm : List Nat} (ds : List Deed) (k : Nat) (r : List Mk) (h : ∀ i : Int, p (nm, i) = false) : (rowD nm ds k r).filter p = r.filter p := by
 induction ds generalizing k r with
 | nil => rfl
 | cons d ds ih =>
  unfold rowD
  split
  ·rw [ih, insM_out _ _ _ (h _)]
  ·exact ih k r
theorem rowD_in {p : Mk -> Bool} {nm : List Nat} (ds : List Deed) (k : Nat) (r : List Mk) (h : ∀ i : Int, p (nm, i) = true) (hf : FitD p nm ds k r) : (rowD nm ds k r).filter p = rowD nm ds k (r.filter p) := by
 induction ds generalizing k r with
 | nil => rfl
 | cons d ds ih =>
  unfold FitD at hf
  unfold rowD
  split
  ·rename_i e
   rw [if_pos e] at hf
   rw [ih _ _ hf.2, insM_in _ _ _ (h _) hf.1]
  ·rename_i e
   rw [if_neg e] at hf
   exact ih k r hf
noncomputable def DOk (nm : List Nat) (ms : List Mk) : List Deed -> Nat -> Prop
 | [], _ => True
 | d :: ds, k => (∀ m, d.mark = some m -> m ∈ ms ∨ (m.1 = nm ∧ 0 <= m.2 ∧ m.2 < (k : Int))) ∧ DOk nm ms ds (if isAdd d then k + 1 else k)
theorem fit_of {q : Mk -> Bool} {nm : List Nat} {ms : List Mk} (ds : List Deed) (k : Nat) (r : List Mk) (h : DOk nm ms ds k) (hq : ∀ m ∈ ms, q m = true) (hn : ∀ i : Int, q (nm, i) = true) (hm : ∀ m ∈ ms, m ∈ r) (ho : ∀ m : Mk, m.1 = nm -> 0 <= m.2 -> m.2 < (k : Int) -> m ∈ r) : FitD q nm ds k r := by
 induction ds generalizing k r with
 | nil => exact trivial
 | cons d ds ih =>
  unfold DOk at h
  unfold FitD
  split
  ·rename_i e
   rw [if_pos e] at h
   have sub : ∀ m, m ∈ r -> m ∈ insM d.mark (nm, (k : Int)) r := fun m hm => (insM_perm ..).mem_iff.mpr (.tail _ hm)
   refine ⟨fun m e1 => ?_, ih (k + 1) _ h.2 (fun m hm' => sub m (hm m hm')) fun m h1 h2 h3 => ?_⟩
   ·rcases h.1 m e1 with h2 | h2
    ·exact ⟨hq m h2, hm m h2⟩
    ·obtain ⟨a, b⟩ := m
     have : a = nm := h2.1
     subst this
     exact ⟨hn b, ho _ rfl h2.2.1 h2.2.2⟩
   ·by_cases e2 : m.2 = (k : Int)
    ·obtain ⟨a, b⟩ := m
     have q1 : a = nm := h1
     have q2 : b = (k : Int) := e2
     rw [q1, q2]
     exact (insM_perm ..).mem_iff.mpr (.head _)
    ·exact sub m (ho m h1 h2 (by omega))
  ·rename_i e
   rw [if_neg e] at h
   exact ih k r h.2 hm ho
end Mine.Internal
namespace Mine.Internal
set_option tactic.hygienic true
section
variable {κ β : Type} [DecidableEq κ] {h t : List (κ × β)} {k : κ} {v : β}
theorem get_cons (q : κ × β) (h : List (κ × β)) (k : κ) : getK (q :: h) k = if q.1 = k then some q.2 else getK h k := by
 unfold getK
 rw [List.find?_cons]
 by_cases e : q.1 = k
 ·rw [decide_eq_true e, if_pos e]; rfl
 ·rw [decide_eq_false e, if_neg e]
theorem get_left (e : getK h k = some v) : getK (h ++ t) k = some v := by
 induction h with
 | nil => cases e
 | cons q h ih =>
  rw [List.cons_append, get_cons] at *
  split at e
  ·rename_i q1; rw [if_pos q1]; exact e
  ·rename_i q1; rw [if_neg q1]; exact ih e
theorem get_right (e : getK h k = none) : getK (h ++ t) k = getK t k := by
 induction h with
 | nil => rfl
 | cons q h ih =>
  rw [get_cons] at e
  rw [List.cons_append, get_cons]
  split at e
  ·cases e
  ·rename_i q1; rw [if_neg q1]; exact ih e
theorem get_mem : getK h k = none ↔ k ∉ h.map (·.1) := by
 induction h with
 | nil => simp [getK]
 | cons q h ih =>
  rw [get_cons, List.map_cons, List.mem_cons]
  by_cases e : q.1 = k
  ·rw [if_pos e]; exact ⟨(fun q => by cases q), fun q => (q (.inl e.symm)).elim⟩
  ·rw [if_neg e, ih]; exact ⟨fun q1 q2 => q2.elim (fun q3 => e q3.symm) q1, fun q1 q2 => q1 (.inr q2)⟩
theorem get_some_iff : (∃ v, getK h k = some v) ↔ k ∈ h.map (·.1) := by
 cases e : getK h k with
 | none => exact ⟨(fun ⟨v, q⟩ => by cases q), fun q => (get_mem.mp e q).elim⟩
 | some v =>
  refine ⟨fun _ => ?_, fun _ => ⟨v, rfl⟩⟩
  by_cases q : k ∈ h.map (·.1)
  ·exact q
  ·rw [get_mem.mpr q] at e; cases e
theorem get_filter {p : κ -> Bool} (hk : p k = true) : getK (h.filter fun q => p q.1) k = getK h k := by
 induction h with
 | nil => rfl
 | cons q h ih =>
  by_cases e : p q.1 = true
  ·rw [List.filter_cons_of_pos (by exact e), get_cons, get_cons, ih]
  ·rw [List.filter_cons_of_neg (by exact e), get_cons, ih, if_neg fun q1 => e (by rw [q1]; exact hk)]
theorem any_get : (h.any fun p => p.1 = k) = (getK h k).isSome := by
 induction h with
 | nil => rfl
 | cons q h ih =>
  rw [List.any_cons, get_cons, ih]
  by_cases e : q.1 = k
  ·rw [if_pos e, decide_eq_true e]; rfl
  ·rw [if_neg e, decide_eq_false e]; rfl
theorem put_new (e : getK h k = none) : putK h k v = h ++ [(k, v)] := by
 unfold putK
 rw [any_get, e]; rfl
theorem put_keys (k' : κ) : k' ∈ (putK h k v).map (·.1) ↔ k' = k ∨ k' ∈ h.map (·.1) := by
 unfold putK
 rw [any_get]
 cases e : getK h k with
 | none => simp [or_comm]
 | some d =>
  have hk : k ∈ h.map (·.1) := get_some_iff.mp ⟨d, e⟩
  have q1 : (h.map fun p => if p.1 = k then (p.1, v) else p).map (·.1) = h.map (·.1) := by
   rw [List.map_map]
   refine List.map_congr_left fun p _ => ?_
   show (if p.1 = k then (p.1, v) else p).1 = p.1
   split <;> rfl
  show k' ∈ (h.map fun p => if p.1 = k then (p.1, v) else p).map (·.1) ↔ _
  rw [q1]
  exact ⟨.inr, fun q => q.elim (fun q => q ▸ hk) id⟩
end
theorem foldl_max (l : List Int) (x : Int) : x <= l.foldl (fun a b => if a < b then b else a) x ∧ ∀ y ∈ l, y <= l.foldl (fun a b => if a < b then b else a) x := by
 induction l generalizing x with
 | nil => exact ⟨Int.le_refl _, fun y h => by cases h⟩
 | cons z l ih =>
  have h := ih (if x < z then z else x)
  rw [List.foldl_cons]
  have hx : x <= (if x < z then z else x) ∧ z <= (if x < z then z else x) := by split <;> omega
  refine ⟨Int.le_trans hx.1 h.1, fun y hy => ?_⟩
  rcases List.mem_cons.mp hy with rfl | hy
  ·exact Int.le_trans hx.2 h.1
  ·exact h.2 y hy
theorem max_ge (z : Int) (l : List Int) : ∀ y ∈ l, y <= maxOf z l := by
 cases l with
 | nil => intro y h; cases h
 | cons x r =>
  intro y hy
  rcases List.mem_cons.mp hy with rfl | hy
  ·exact (foldl_max r y).1
  ·exact (foldl_max r x).2 y hy
noncomputable def hv (h : List (List Nat × Int)) (ls : List (List Nat)) : Int := maxOf 0 (ls.map fun l => (getK h l).getD 0 + 1)
noncomputable def hts : List (List Nat × Int) -> List Ch -> List (List Nat × Int)
 | h, [] => h
 | h, c :: cs => hts (h ++ [(c.1, hv h c.2.1)]) cs
noncomputable def hgt (cs : List Ch) (n : List Nat) : Int := (getK (hts [] cs) n).getD 0
theorem hts_app (h : List (List Nat × Int)) (a b : List Ch) : hts h (a ++ b) = hts (hts h a) b := by
 induction a generalizing h with
 | nil => rfl
 | cons c a ih => exact ih _
theorem hts_keys (h : List (List Nat × Int)) (cs : List Ch) : (hts h cs).map (·.1) = h.map (·.1) ++ cs.map (·.1) := by
 induction cs generalizing h with
 | nil => simp [hts]
 | cons c cs ih => rw [hts, ih]; simp
theorem hts_old {h : List (List Nat × Int)} {cs : List Ch} {k : List Nat} {v : Int} (e : getK h k = some v) : getK (hts h cs) k = some v := by
 induction cs generalizing h with
 | nil => exact e
 | cons c cs ih => exact ih (get_left e)
theorem hts_filter (p : List Nat -> Bool) (h : List (List Nat × Int)) (cs : List Ch) (hc : ∀ c ∈ cs, p c.1 = true -> ∀ l ∈ c.2.1, p l = true) :
 hts (h.filter fun q => p q.1) (cs.filter fun c => p c.1) = (hts h cs).filter fun q => p q.1 := by
 induction cs generalizing h with
 | nil => rfl
 | cons c cs ih =>
  have hc' := fun d hd => hc d (List.mem_cons_of_mem _ hd)
  by_cases e : p c.1 = true
  ·rw [List.filter_cons_of_pos (by exact e), hts, hts, <- ih _ hc', List.filter_append, List.filter_cons_of_pos (by exact e), List.filter_nil]
   congr 4
   unfold hv
   congr 1
   exact List.map_congr_left fun l hl => by rw [get_filter (hc c (.head _) e l hl)]
  ·rw [List.filter_cons_of_neg (by exact e), hts, <- ih _ hc', List.filter_append, List.filter_cons_of_neg (by exact e), List.filter_nil, List.append_nil]
theorem hgt_filter {p : List Nat -> Bool} {cs : List Ch} (hc : ∀ c ∈ cs, p c.1 = true -> ∀ l ∈ c.2.1, p l = true) {n : List Nat} (hn : p n = true) : hgt (cs.filter fun c => p c.1) n = hgt cs n := by
 unfold hgt
 have := hts_filter p [] cs hc
 rw [List.filter_nil] at this
 rw [this, get_filter hn]
noncomputable def lmarks (pre : List Ch) (ls : List (List Nat)) : List Mk := (pre.filter fun c => decide (c.1 ∈ ls)).flatMap fun c => ownM c.1 0 (adds c.2.2)
structure ChsOk (cs : List Ch) : Prop where
 nd : (cs.map (·.1)).Nodup
 ok : ∀ pre c post, cs = pre ++ c :: post -> (∀ l ∈ c.2.1, l ∈ pre.map (·.1)) ∧ DOk c.1 (lmarks pre c.2.1) c.2.2 0
theorem ChsOk.filter {cs : List Ch} (H : ChsOk cs) {p : List Nat -> Bool} (hc : ∀ c ∈ cs, p c.1 = true -> ∀ l ∈ c.2.1, p l = true) : ChsOk (cs.filter fun c => p c.1) := by
 refine ⟨(List.Sublist.map _ List.filter_sublist).nodup H.nd, fun pre c post e => ?_⟩
 obtain ⟨a, b, e1, rfl, e2⟩ := List.filter_eq_append_iff.mp e
 obtain ⟨a', b', e3, e4, e5, rfl⟩ := List.filter_eq_cons_iff.mp e2
 have e6 : cs = (a ++ a') ++ c :: b' := by rw [e1, e3, List.append_assoc]
 obtain ⟨h1, h2⟩ := H.ok _ _ _ e6
 have hp : ∀ l ∈ c.2.1, p l = true := hc c (by rw [e6]; simp) e5
 have fa : (a ++ a').filter (fun c => p c.1) = a.filter fun c => p c.1 := by
  rw [List.filter_append, List.filter_eq_nil_iff.mpr (fun x hx => e4 x hx), List.append_nil]
 refine ⟨fun l hl => ?_, ?_⟩
 ·obtain ⟨d, hd, rfl⟩ := List.mem_map.mp (h1 l hl)
  rw [<- fa]
  exact List.mem_map_of_mem (List.mem_filter.mpr ⟨hd, hp _ hl⟩)
 ·have : lmarks (a.filter fun c => p c.1) c.2.1 = lmarks (a ++ a') c.2.1 := by
   unfold lmarks
   rw [<- fa, List.filter_filter]
   congr 1
   refine List.filter_congr fun x _ => ?_
   by_cases q : x.1 ∈ c.2.1
   ·rw [hp _ q, decide_eq_true q]; rfl
   ·rw [decide_eq_false q]; rfl
  rw [this]; exact h2
theorem ChsOk.lower {cs : List Ch} (H : ChsOk cs) {c : Ch} (hc : c ∈ cs) {l : List Nat} (hl : l ∈ c.2.1) : hgt cs l < hgt cs c.1 := by
 obtain ⟨pre, post, e⟩ := List.append_of_mem hc
 obtain ⟨h1, _⟩ := H.ok _ _ _ e
 have hk := hts_keys [] pre
 obtain ⟨v, hv'⟩ := get_some_iff.mpr (show l ∈ (hts [] pre).map (·.1) by rw [hk]; exact List.mem_append.mpr (.inr (h1 l hl)))
 have hnew : getK (hts [] pre) c.1 = none := by
  refine get_mem.mpr ?_
  rw [hk]
  have hn := H.nd
  rw [e, List.map_append, List.nodup_append] at hn
  exact fun q => hn.2.2 c.1 (by simpa using q) c.1 (.head _) rfl
 have a1 : getK (hts [] cs) l = some v := by rw [e, hts_app]; exact hts_old hv'
 have a2 : getK (hts [] cs) c.1 = some (hv (hts [] pre) c.2.1) := by
  rw [e, hts_app, hts]
  refine hts_old ?_
  rw [get_right hnew, get_cons, if_pos rfl]
 unfold hgt
 rw [a1, a2]
 have := max_ge 0 (c.2.1.map fun l => (getK (hts [] pre) l).getD 0 + 1) (v + 1) (List.mem_map.mpr ⟨l, hl, by rw [hv']; rfl⟩)
 show v < hv (hts [] pre) c.2.1
 unfold hv
 omega
noncomputable def Bf (H : List Nat -> Int) (a b : Ch) : Prop := H a.1 < H b.1 ∨ (H a.1 = H b.1 ∧ b.1 < a.1)
structure IsOrd (H : List Nat -> Int) (cs O : List Ch) : Prop where
 perm : O.Perm cs
 bf : O.Pairwise (Bf H)
theorem bf_asym (H : List Nat -> Int) (a b : Ch) (h : Bf H a b) (h' : Bf H b a) : False := by
 rcases h with h | h <;> rcases h' with h' | h'
 ·omega
 ·omega
 ·omega
 ·exact List.lt_irrefl _ (List.lt_trans h.2 h'.2)
theorem IsOrd.uniq {H : List Nat -> Int} {cs O O' : List Ch} (h : IsOrd H cs O) (h' : IsOrd H cs O') : O = O' := pair_unique (bf_asym H) h.bf h'.bf (h.perm.trans h'.perm.symm)
theorem IsOrd.filter {H : List Nat -> Int} {cs O : List Ch} (h : IsOrd H cs O) (p : Ch -> Bool) : IsOrd H (cs.filter p) (O.filter p) := ⟨h.perm.filter p, h.bf.filter p⟩
theorem ord_row {cs O : List Ch} (H : ChsOk cs) (ho : IsOrd (hgt cs) cs O) {A B : List Ch} {c : Ch} (e : O = A ++ c :: B) {q : Mk -> Bool} (hq : ∀ m : Mk, m.1 ∈ c.2.1 -> q m = true) (hn : ∀ i : Int, q (c.1, i) = true) : FitD q c.1 c.2.2 0 (rowOf A []) := by
 have hc : c ∈ cs := ho.perm.mem_iff.mp (by rw [e]; simp)
 obtain ⟨pre, post, e1⟩ := List.append_of_mem hc
 obtain ⟨h1, h2⟩ := H.ok _ _ _ e1
 have lm : ∀ m ∈ lmarks pre c.2.1, ∃ d ∈ pre, d.1 ∈ c.2.1 ∧ m ∈ ownM d.1 0 (adds d.2.2) := fun m hm => by
  obtain ⟨d, hd, hm'⟩ := List.mem_flatMap.mp hm
  have := List.mem_filter.mp hd
  exact ⟨d, this.1, by simpa using this.2, hm'⟩
 refine fit_of c.2.2 0 _ h2 (fun m hm => ?_) hn (fun m hm => ?_) fun m _ h3 h4 => by omega
 ·obtain ⟨d, _, h3, h4⟩ := lm m hm
  exact hq m (by rw [(ownM_mem.mp h4).1]; exact h3)
 ·obtain ⟨d, h3, h4, h5⟩ := lm m hm
  have hd : d ∈ O := ho.perm.mem_iff.mpr (by rw [e1]; exact List.mem_append_left _ h3)
  have low := H.lower hc h4
  have hA : d ∈ A := by
   rw [e] at hd
   rcases List.mem_append.mp hd with hd | hd
   ·exact hd
   ·rcases List.mem_cons.mp hd with rfl | hd
    ·omega
    ·have hb := ho.bf
     rw [e, List.pairwise_append] at hb
     rcases (List.pairwise_cons.mp hb.2.1).1 d hd with h6 | h6 <;> omega
  have := rowOf_perm A []
  rw [List.append_nil] at this
  exact this.mem_iff.mpr (List.mem_flatMap.mpr ⟨d, hA, h5⟩)
theorem row_filter {cs O : List Ch} (H : ChsOk cs) (ho : IsOrd (hgt cs) cs O) {p : List Nat -> Bool} (hc : ∀ c ∈ cs, p c.1 = true -> ∀ l ∈ c.2.1, p l = true) :
 ∀ B A : List Ch, O = A ++ B -> (rowOf A []).filter (fun m => p m.1) = rowOf (A.filter fun c => p c.1) [] -> (rowOf (A ++ B) []).filter (fun m => p m.1) = rowOf ((A ++ B).filter fun c => p c.1) []
 | [], A, _, h => by rw [List.append_nil]; exact h
 | c :: B, A, e, h => by
  have hcs : c ∈ cs := ho.perm.mem_iff.mp (by rw [e]; simp)
  have e' : A ++ c :: B = (A ++ [c]) ++ B := by rw [List.append_assoc]; rfl
  rw [e']
  refine row_filter H ho hc B (A ++ [c]) (e.trans e') ?_
  rw [rowOf_app, List.filter_append]
  by_cases q : p c.1 = true
  ·rw [List.filter_cons_of_pos (by exact q), List.filter_nil, rowOf_app, <- h]
   exact rowD_in _ _ _ (fun i => q) (ord_row H ho e (fun m hm => hc c hcs q _ hm) fun i => q)
  ·rw [List.filter_cons_of_neg (by exact q), List.filter_nil, List.append_nil, <- h]
   exact rowD_out _ _ _ fun i => by simpa using q
theorem row_part {cs O O' : List Ch} (H : ChsOk cs) (ho : IsOrd (hgt cs) cs O) {p : List Nat -> Bool} (hc : ∀ c ∈ cs, p c.1 = true -> ∀ l ∈ c.2.1, p l = true) (ho' : IsOrd (hgt (cs.filter fun c => p c.1)) (cs.filter fun c => p c.1) O') :
 (rowOf O' []).Sublist (rowOf O []) := by
 have k : IsOrd (hgt cs) (cs.filter fun c => p c.1) O' := by
  refine ⟨ho'.perm, ho'.bf.imp_of_mem fun {a b} ha hb h => ?_⟩
  have pa : p a.1 = true := by simpa using (List.mem_filter.mp (ho'.perm.mem_iff.mp ha)).2
  have pb : p b.1 = true := by simpa using (List.mem_filter.mp (ho'.perm.mem_iff.mp hb)).2
  unfold Bf at h ⊢
  rw [hgt_filter hc pa, hgt_filter hc pb] at h
  exact h
 rw [k.uniq (ho.filter fun c => p c.1)]
 have e := row_filter H ho hc O [] rfl rfl
 rw [List.nil_append] at e
 rw [<- e]
 exact List.filter_sublist
end Mine.Internal
namespace Mine.Internal
set_option tactic.hygienic true
abbrev Pr := Mk × List Nat
inductive Stp where
 | out (i : Nat)
 | put (i : Nat) (l : List Nat)
 | say (i : Nat) (l : List Nat)
noncomputable def act (ls : List (List Nat)) (s : Stp) : Option (List (List Nat)) :=
 match s with
 | .out i => if i < ls.length then some (ls.eraseIdx i) else none
 | .put i l => if i <= ls.length then some (ls.take i ++ l :: ls.drop i) else none
 | .say i l => if i < ls.length then some (ls.set i l) else none
noncomputable def acts : List Stp -> List (List Nat) -> Option (List (List Nat))
 | [], ls => some ls
 | s :: r, ls => match act ls s with | some ls' => acts r ls' | none => none
noncomputable def outAt (q : Pr -> Bool) (T : List Pr) (n : Nat) : List Stp := match T[n]? with | some x => if q x then [] else [.out n] | none => []
noncomputable def outs (q : Pr -> Bool) (T : List Pr) : Nat -> List Stp
 | 0 => []
 | n + 1 => outAt q T n ++ outs q T n
noncomputable def putAt1 (T : List Pr) (x : Pr) (k : Nat) : List Stp := match getK T x.1 with | none => [.put k x.2] | some l => if l = x.2 then [] else [.say k x.2]
noncomputable def puts (T : List Pr) : List Pr -> Nat -> List Stp
 | [], _ => []
 | x :: r, k => putAt1 T x k ++ puts T r (k + 1)
noncomputable def stepsL (T0 T1 : List Pr) : List Stp := outs (fun x => decide (x.1 ∈ T1.map (·.1))) T0 T0.length ++ puts T0 T1 0
theorem acts_app (a b : List Stp) (ls : List (List Nat)) : acts (a ++ b) ls = (acts a ls).bind (acts b) := by
 induction a generalizing ls with
 | nil => rfl
 | cons s a ih =>
  show (match act ls s with | some ls' => acts (a ++ b) ls' | none => none) = (match act ls s with | some ls' => acts a ls' | none => none).bind _
  cases act ls s with
  | none => rfl
  | some l => exact ih l
theorem outs_ok (q : Pr -> Bool) (T : List Pr) : ∀ n, n <= T.length -> acts (outs q T n) ((T.take n ++ (T.drop n).filter q).map (·.2)) = some ((T.filter q).map (·.2))
 | 0, _ => by simp [outs, acts]
 | n + 1, h => by
  have hn : n < T.length := h
  have e1 : T.take (n + 1) = T.take n ++ [T[n]] := by rw [List.take_add_one, List.getElem?_eq_getElem hn]; rfl
  have e2 : T.drop n = T[n] :: T.drop (n + 1) := List.drop_eq_getElem_cons hn
  have ih := outs_ok q T n (Nat.le_of_lt hn)
  rw [outs, acts_app]
  unfold outAt
  rw [List.getElem?_eq_getElem hn]
  dsimp only
  by_cases hq : q T[n] = true
  ·rw [if_pos hq, e1, List.append_assoc]
   show acts (outs q T n) _ = _
   rw [e2, List.filter_cons_of_pos hq] at ih
   exact ih
  ·rw [if_neg hq, e1, List.append_assoc]
   rw [e2, List.filter_cons_of_neg hq] at ih
   have hl : n < ((T.take n ++ ([T[n]] ++ (T.drop (n + 1)).filter q)).map (·.2)).length := by
    rw [List.length_map, List.length_append, List.length_take]; simp; omega
   have e3 : ((T.take n ++ ([T[n]] ++ (T.drop (n + 1)).filter q)).map (·.2)).eraseIdx n = (T.take n ++ (T.drop (n + 1)).filter q).map (·.2) := by
    rw [List.map_append, List.eraseIdx_append_of_length_le (by rw [List.length_map, List.length_take]; omega), List.length_map, List.length_take, Nat.min_eq_left (Nat.le_of_lt hn), Nat.sub_self, List.map_append, List.map_append]
    rfl
   show (match (if n < _ then some _ else none) with | some ls' => acts [] ls' | none => none).bind _ = _
   rw [if_pos hl, e3]
   exact ih
theorem puts_ok (T : List Pr) : ∀ (suf pre C : List Pr), C.map (·.1) = (suf.filter fun x => decide (x.1 ∈ T.map (·.1))).map (·.1) -> (∀ x ∈ C, getK T x.1 = some x.2) ->
 acts (puts T suf pre.length) (pre.map (·.2) ++ C.map (·.2)) = some ((pre ++ suf).map (·.2))
 | [], pre, C, h, _ => by
  have : C = [] := by simpa using h
  subst this
  simp [puts, acts]
 | x :: r, pre, C, h, hC => by
  have ih := puts_ok T r (pre ++ [x])
  have lp : (pre.map (·.2)).length = pre.length := by simp
  rw [puts, acts_app]
  unfold putAt1
  by_cases hx : x.1 ∈ T.map (·.1)
  ·rw [List.filter_cons_of_pos (by simpa using hx)] at h
   cases C with
   | nil => cases h
   | cons c C =>
    have h1 := (List.cons.inj h).1
    have h2 := (List.cons.inj h).2
    have hc := hC c (.head _)
    have h1 : c.1 = x.1 := h1
    rw [h1] at hc
    rw [hc]
    dsimp only
    have ih' := ih C h2 fun y hy => hC y (.tail _ hy)
    rw [List.map_append, List.append_assoc, List.append_assoc, List.length_append] at ih'
    by_cases e : c.2 = x.2
    ·rw [if_pos e]
     show acts _ _ = _
     rw [List.map_cons, e]
     exact ih'
    ·rw [if_neg e]
     have hl : pre.length < (pre.map (·.2) ++ (c :: C).map (·.2)).length := by simp
     have e3 : (pre.map (·.2) ++ (c :: C).map (·.2)).set pre.length x.2 = pre.map (·.2) ++ (x.2 :: C.map (·.2)) := by
      rw [List.set_append_right _ _ (by rw [lp]; exact Nat.le_refl _), lp, Nat.sub_self]; rfl
     show (match (if pre.length < _ then some _ else none) with | some ls' => acts [] ls' | none => none).bind _ = _
     rw [if_pos hl, e3]
     exact ih'
  ·rw [List.filter_cons_of_neg (by simpa using hx)] at h
   rw [get_mem.mpr hx]
   dsimp only
   have ih' := ih C h hC
   rw [List.map_append, List.append_assoc, List.append_assoc, List.length_append] at ih'
   have hl : pre.length <= (pre.map (·.2) ++ C.map (·.2)).length := by simp
   have e3 : (pre.map (·.2) ++ C.map (·.2)).take pre.length ++ x.2 :: (pre.map (·.2) ++ C.map (·.2)).drop pre.length = pre.map (·.2) ++ (x.2 :: C.map (·.2)) := by
    rw [List.take_append_of_le_length (by rw [lp]; exact Nat.le_refl _), List.drop_append_of_le_length (by rw [lp]; exact Nat.le_refl _), List.take_of_length_le (by rw [lp]; exact Nat.le_refl _), List.drop_of_length_le (by rw [lp]; exact Nat.le_refl _)]; rfl
   show (match (if pre.length <= _ then some _ else none) with | some ls' => acts [] ls' | none => none).bind _ = _
   rw [if_pos hl, e3]
   exact ih'
theorem sub_filter {l R : List Mk} (h : l.Sublist R) (hn : R.Nodup) : l = R.filter fun x => decide (x ∈ l) := by
 induction h with
 | slnil => rfl
 | @cons l R a hs ih =>
  have h1 := List.nodup_cons.mp hn
  rw [List.filter_cons_of_neg (by simpa using fun q => h1.1 (hs.subset q))]
  exact ih h1.2
 | @cons_cons l R a hs ih =>
  have h1 := List.nodup_cons.mp hn
  rw [List.filter_cons_of_pos (by simp)]
  congr 1
  refine (ih h1.2).trans (List.filter_congr fun x hx => ?_)
  have : x ≠ a := fun q => h1.1 (q ▸ hx)
  simp [this]
theorem get_nodup {κ β : Type} [DecidableEq κ] {T : List (κ × β)} (hn : (T.map (·.1)).Nodup) : ∀ x ∈ T, getK T x.1 = some x.2 := by
 induction T with
 | nil => intro x h; cases h
 | cons y T ih =>
  have h1 := List.nodup_cons.mp hn
  intro x hx
  rw [get_cons]
  rcases List.mem_cons.mp hx with rfl | hx
  ·rw [if_pos rfl]
  ·rw [if_neg fun q => h1.1 (by show y.1 ∈ _; rw [q]; exact List.mem_map_of_mem hx)]
   exact ih h1.2 x hx
theorem steps_ok {T0 T1 : List Pr} {R : List Mk} (hR : R.Nodup) (h0 : (T0.map (·.1)).Sublist R) (h1 : (T1.map (·.1)).Sublist R) : acts (stepsL T0 T1) (T0.map (·.2)) = some (T1.map (·.2)) := by
 unfold stepsL
 rw [acts_app]
 have k := outs_ok (fun x => decide (x.1 ∈ T1.map (·.1))) T0 T0.length (Nat.le_refl _)
 rw [List.take_length, List.drop_length, List.filter_nil, List.append_nil] at k
 rw [k]
 show acts (puts T0 T1 0) _ = _
 have c := puts_ok T0 T1 [] (T0.filter fun x => decide (x.1 ∈ T1.map (·.1))) ?_ fun x hx => get_nodup (h0.nodup hR) x (List.mem_filter.mp hx).1
 ·exact c
 ·have m0 : (T0.filter fun x => decide (x.1 ∈ T1.map (·.1))).map (·.1) = (T0.map (·.1)).filter fun m => decide (m ∈ T1.map (·.1)) := by rw [List.filter_map]; rfl
  have m1 : (T1.filter fun x => decide (x.1 ∈ T0.map (·.1))).map (·.1) = (T1.map (·.1)).filter fun m => decide (m ∈ T0.map (·.1)) := by rw [List.filter_map]; rfl
  rw [m0, m1]
  have s0 := sub_filter h0 hR
  have s1 := sub_filter h1 hR
  generalize T0.map (·.1) = M0 at *
  generalize T1.map (·.1) = M1 at *
  have a0 : M0.filter (fun m => decide (m ∈ M1)) = R.filter fun m => decide (m ∈ M1) && decide (m ∈ M0) := by
   conv => lhs; rw [s0]
   rw [List.filter_filter]
  have a1 : M1.filter (fun m => decide (m ∈ M0)) = R.filter fun m => decide (m ∈ M0) && decide (m ∈ M1) := by
   conv => lhs; rw [s1]
   rw [List.filter_filter]
  rw [a0, a1]
  exact List.filter_congr fun x _ => Bool.and_comm _ _
end Mine.Internal
namespace Mine.Internal
set_option tactic.hygienic true
theorem sortBy_mapN {κ κ' α α' : Type} {lt : κ -> κ -> Bool} {lt' : κ' -> κ' -> Bool} (f : κ × α -> κ' × α') (h : ∀ p q, lt' (f p).1 (f q).1 = lt p.1 q.1) (l : List (κ × α)) : sortBy lt' (l.map f) = (sortBy lt l).map f := by
 have ins : ∀ (p : κ × α) (l : List (κ × α)), insBy lt' (f p) (l.map f) = (insBy lt p l).map f := by
  intro p l
  induction l with
  | nil => rfl
  | cons q r ih =>
   show (if lt' (f q).1 (f p).1 then f q :: insBy lt' (f p) (r.map f) else f p :: f q :: r.map f) = (if lt q.1 p.1 then q :: insBy lt p r else p :: q :: r).map f
   rw [h, ih]
   split <;> rfl
 induction l with
 | nil => rfl
 | cons p r ih =>
  show insBy lt' (f p) (sortBy lt' (r.map f)) = (insBy lt p (sortBy lt r)).map f
  rw [ih, ins]
noncomputable def ltN (a b : List Nat) : Bool := decide (a < b)
theorem linN : LinB ltN := ⟨fun a => decide_eq_false (List.lt_irrefl a), fun a b c h h' => decide_eq_true (List.lt_trans (of_decide_eq_true h) (of_decide_eq_true h')), fun a b h h' => List.le_antisymm (List.not_lt.mp (of_decide_eq_false h')) (List.not_lt.mp (of_decide_eq_false h))⟩
theorem linI : LinB ltI := ⟨fun a => decide_eq_false (Int.lt_irrefl a), fun a b c h h' => decide_eq_true (Int.lt_trans (of_decide_eq_true h) (of_decide_eq_true h')), fun a b h h' => by have := of_decide_eq_false h; have := of_decide_eq_false h'; omega⟩
noncomputable def byName (cs : List Ch) : List Ch := ((sortBy ltN (cs.map fun c => (c.1, c)).reverse).reverse).map (·.2)
noncomputable def ordOf (cs : List Ch) : List Ch := (sortBy ltI ((byName cs).map fun c => (hgt cs c.1, c))).map (·.2)
theorem byName_perm (cs : List Ch) : (byName cs).Perm cs := by
 have h := ((List.reverse_perm _).trans ((sortBy_perm (lt := ltN) (cs.map fun c => (c.1, c)).reverse).trans (List.reverse_perm _))).map (·.2)
 rw [List.map_map, show ((fun x : List Nat × Ch => x.2) ∘ fun c : Ch => (c.1, c)) = id from rfl, List.map_id] at h
 exact h
theorem byName_falls {cs : List Ch} (hn : (cs.map (·.1)).Nodup) : (byName cs).Pairwise fun a b => b.1 < a.1 := by
 have h0 : (cs.map fun c => (c.1, c)).reverse.Pairwise fun a b : List Nat × Ch => a.1 ≠ b.1 := by
  rw [List.pairwise_reverse, List.pairwise_map]
  have := hn
  rw [List.Nodup, List.pairwise_map] at this
  exact this.imp fun h e => h e.symm
 have h1 := sortBy_stab linN _ h0
 unfold byName
 rw [List.pairwise_map, List.pairwise_reverse]
 refine h1.imp_of_mem fun {a b} ha hb h => ?_
 have key : ∀ x : List Nat × Ch, x ∈ sortBy ltN (cs.map fun c => (c.1, c)).reverse -> x.1 = x.2.1 := fun x hx => by
  have := List.mem_reverse.mp ((sortBy_perm _).mem_iff.mp hx)
  obtain ⟨c, _, rfl⟩ := List.mem_map.mp this
  rfl
 rcases h with h | h
 ·rw [<- key a ha, <- key b hb]; exact of_decide_eq_true h
 ·exact (h.2 h.1).elim
theorem ord_ok {cs : List Ch} (hn : (cs.map (·.1)).Nodup) : IsOrd (hgt cs) cs (ordOf cs) := by
 have h0 : ((byName cs).map fun c => (hgt cs c.1, c)).Pairwise fun a b : Int × Ch => b.2.1 < a.2.1 := by
  rw [List.pairwise_map]; exact byName_falls hn
 refine ⟨?_, ?_⟩
 ·have h := (sortBy_perm (lt := ltI) ((byName cs).map fun c => (hgt cs c.1, c))).map (·.2)
  rw [List.map_map, show ((fun x : Int × Ch => x.2) ∘ fun c : Ch => (hgt cs c.1, c)) = id from rfl, List.map_id] at h
  have h2 : (ordOf cs).Perm (byName cs) := h
  exact h2.trans (byName_perm cs)
 ·have h1 := sortBy_stab linI _ h0
  unfold ordOf
  rw [List.pairwise_map]
  refine h1.imp_of_mem fun {a b} ha hb h => ?_
  have key : ∀ x : Int × Ch, x ∈ sortBy ltI ((byName cs).map fun c => (hgt cs c.1, c)) -> x.1 = hgt cs x.2.1 := fun x hx => by
   obtain ⟨c, _, rfl⟩ := List.mem_map.mp ((sortBy_perm _).mem_iff.mp hx)
   rfl
  unfold Bf
  rw [<- key a ha, <- key b hb]
  exact h.imp of_decide_eq_true id
noncomputable def wt (cs : List Ch) (f : List (List Nat)) : Nat := ((cs.filter fun c => decide (c.1 ∉ f)).map fun c => c.2.1.length).sum
theorem wt_out {cs : List Ch} {f : List (List Nat)} {x : List Nat} (h : x ∉ cs.map (·.1)) : wt cs (f ++ [x]) = wt cs f := by
 unfold wt
 congr 2
 refine List.filter_congr fun c hc => ?_
 have : c.1 ≠ x := fun q => h (q ▸ List.mem_map_of_mem hc)
 simp [this]
theorem wt_in {cs : List Ch} (hn : (cs.map (·.1)).Nodup) {c : Ch} (hc : c ∈ cs) {f : List (List Nat)} (hf : c.1 ∉ f) : wt cs (f ++ [c.1]) + c.2.1.length = wt cs f := by
 induction cs with
 | nil => cases hc
 | cons d cs ih =>
  have h1 := List.nodup_cons.mp hn
  rcases List.mem_cons.mp hc with rfl | hc
  ·have h2 := wt_out (f := f) (show c.1 ∉ cs.map (·.1) from h1.1)
   unfold wt at h2 ⊢
   rw [List.filter_cons_of_neg (by simp), List.filter_cons_of_pos (by simpa using hf), List.map_cons, List.sum_cons, h2]
   omega
  ·have h2 := ih h1.2 hc
   have hd : d.1 ≠ c.1 := fun q => h1.1 (by show d.1 ∈ _; rw [q]; exact List.mem_map_of_mem hc)
   unfold wt at h2 ⊢
   by_cases q : d.1 ∈ f
   ·rw [List.filter_cons_of_neg (by simp [q]), List.filter_cons_of_neg (by simp [q])]; exact h2
   ·rw [List.filter_cons_of_pos (by simp [q, hd]), List.filter_cons_of_pos (by simp [q]), List.map_cons, List.map_cons, List.sum_cons, List.sum_cons]
    omega
end Mine.Internal
namespace Mine.Internal
open PySem
noncomputable def signs : List Nat := [97,98,99,100,101,102,103,104,105,106,107,108,109,110,111,112,113,114,115,116,117,118,119,120,121,122,48,49,50,51,52,53,54,55,56,57]
noncomputable def isName (t : List Nat) : Bool := !(decide ((t.length : Int) < 1) || decide ((t.length : Int) > 12)) && t.all fun c => decide (c ∈ signs)
theorem k_signs : Str.ofString "abcdefghijklmnopqrstuvwxyz0123456789" = Tx signs := by decide +kernel
theorem k_add : Str.ofString "add" = Tx kadd := by decide +kernel
noncomputable def kcut : List Nat := [99, 117, 116]
theorem k_cut : Str.ofString "cut" = Tx kcut := by decide +kernel
theorem k_set : Str.ofString "set" = Tx kset := by decide +kernel
noncomputable abbrev dl (l : List (List Nat)) : PyData := .list (l.map fun t => .str (Tx t))
noncomputable def markD : Option (List Nat × Int) -> PyData
 | none => .none
 | some m => .tuple [.str (Tx m.1), .int m.2]
noncomputable def Deed.data (d : Deed) : PyData := .tuple ([.str (Tx d.word), markD d.mark] ++ (match d.text with | none => [] | some l => [.str (Tx l)]))
section
variable {σ : Store}
theorem sub_word (d : Deed) : subscr (.d d.data) (vi 0) σ = some (vs d.word) := by
 unfold Deed.data; exact at_tup 0 (by decide) (by decide) rfl
theorem sub_mark (d : Deed) : subscr (.d d.data) (vi 1) σ = some (.d (markD d.mark)) := by
 unfold Deed.data; exact at_tup 1 (by decide) (by decide) rfl
theorem sub_text (d : Deed) {l : List Nat} (h : d.text = some l) : subscr (.d d.data) (vi 2) σ = some (vs l) := by
 unfold Deed.data; exact at_tup 2 (by decide) (by decide) (by rw [h]; rfl)
theorem is_mark (m : Option (List Nat × Int)) : isV (.d (markD m)) (.d .none) = some m.isNone := by
 cases m <;> rfl
noncomputable abbrev change (t : List Nat) (ls : List (List Nat)) (ds : List Deed) : PyData := .tuple [.str (Tx t), dl ls, .list (ds.map Deed.data)]
noncomputable abbrev Ch.data (c : Ch) : PyData := change c.1 c.2.1 c.2.2
end
noncomputable def cellOf (sc : List Int) (k : Nat) : Int := sc.getD k 0
noncomputable def mixed (c k : Int) : Int := ((c + 7919 * k) * 48271).fmod 2147483647
section
variable {fuel n : Nat} {σ : Store}
theorem P2 : P14 2 = some Flaw_cell := rfl
theorem P3 : P14 3 = some Flaw_mixed := rfl
theorem P4 : P14 4 = some Flaw_name := rfl
theorem sm1 (i : Int) : (small 7919 || small i) = true := by rw [show small 7919 = true by decide]; rfl
theorem sm2 (i : Int) : (small i || small 48271) = true := by rw [show small 48271 = true by decide]; simp
noncomputable abbrev scD (sc : List Int) : PyData := .list (sc.map .int)
theorem ev_cell (sc : List Int) (k : Int) (h0 : 0 <= k) (hk : k < 1000) : callF P14 fuel (n + 1) .frz 2 [.d (scD sc), vi k] σ = .ok (vi (cellOf sc k.toNat)) σ := by
 refine frz_ok (v := vi (cellOf sc k.toNat)) (σ₁ := []) P2 rfl (run_ret rfl ?_) rfl
 generalize hC : (⟨callF P14 fuel n, fuel⟩ : Cfg) = C
 show Ends (fun r => r = _) (execSs C [_, _] [some (.d (scD sc)), some (vi k)] [])
 refine go_ite (t := decide (k < sc.length)) (σ₁ := []) (by simp only [eA_5, eA_10, eA_17, eB_1, eB_2, ok_bind, gz, gs, bc_len_l, c_lt, lt_i, List.length_map] <;> rfl) (fun h => ?_) (fun h => ?_)
 ·simp at h
  refine go_ret (v := vi (cellOf sc k.toNat)) (σ₁ := []) ?_ rfl
  have h1 : subscr (.d (scD sc)) (vi k) [] = some (vi (cellOf sc k.toNat)) := at_list (y := .int (cellOf sc k.toNat)) k (by (with_reducible assumption)) (by lia) (by
   have : k.toNat < sc.length := by lia
   simp [cellOf, List.getD, this])
  simp only [eA_5, eA_15, ok_bind, gz, gs, h1]
 ·simp at h
  refine go_ret rfl ?_
  rw [show cellOf sc k.toNat = 0 by
   have : sc.length <= k.toNat := by lia
   simp [cellOf, List.getD, this]]
theorem ev_mixed (c k : Int) : callF P14 fuel (n + 1) .frz 3 [vi c, vi k] σ = .ok (vi (mixed c k)) σ := by
 refine frz_ok (v := vi (mixed c k)) (σ₁ := []) P3 rfl (run_ret rfl ?_) rfl
 generalize hC : (⟨callF P14 fuel n, fuel⟩ : Cfg) = C
 show Ends (fun r => r = _) (execSs C [_] [some (vi c), some (vi k)] [])
 refine go_ret (v := vi (mixed c k)) (σ₁ := []) ?_ rfl
 simp only [eA_1, eA_5, eA_6, ok_bind, gz, gs, b_add, b_mul (sm1 _), b_mul (sm2 _), b_mod (show (2147483647 : Int) ≠ 0 by decide), mixed]
theorem name_iff (t : List Nat) : isName t = true ↔ 1 <= t.length ∧ t.length <= 12 ∧ ∀ c ∈ t, c ∈ signs := by
 simp only [isName, Bool.and_eq_true, Bool.not_eq_true', Bool.or_eq_false_iff, decide_eq_false_iff_not, List.all_eq_true, decide_eq_true_eq]
 constructor
 ·rintro ⟨⟨h1, h2⟩, h3⟩; exact ⟨by lia, by lia, h3⟩
 ·rintro ⟨h1, h2, h3⟩; exact ⟨⟨by lia, by lia⟩, h3⟩
noncomputable def sg (i : Int) : Nat := signs.getD i.toNat 0
theorem sg_at (i : Int) (h0 : 0 <= i) (h : i < 36) : signs[i.toNat]? = some (sg i) := by
 have : i.toNat < signs.length := by simp [signs]; (with_reducible assumption)
 simp [sg, List.getD, this]
theorem sg_mem (i : Int) (h0 : 0 <= i) (h : i < 36) : sg i ∈ signs := List.mem_of_getElem? (sg_at i h0 h)
theorem sub_sg {i : Int} (h0 : 0 <= i) (h : i < 36) : subscr (vs signs) (vi i) σ = some (vs [sg i]) := at_text i h0 (by lia) (sg_at i h0 h)
noncomputable def num (j : Nat) : List Nat := (strOf (j : Int)).cps.toList
theorem num_name : ∀ j : Nat, j < 130 -> isName (num j) = true := by decide +kernel
theorem num_nodup : ((List.range 130).map num).Nodup := by decide +kernel
theorem num_str {j : Nat} (h : j < 130) : bcall .str true [vi j] σ = .ok (vs (num j)) σ := by
 have : (j : Int).natAbs < 1000000000000 := by (exact le_c ‹_› (by rfl))
 refine (if_pos this).trans ?_
 simp only [num, vs, Tx_eta]
theorem num_free (l : List (List Nat)) (hl : l.length < 130) : ∃ j, j <= l.length ∧ num j ∉ l := by
 apply Classical.byContradiction
 intro hno
 have h1 : ((List.range (l.length + 1)).map num).Nodup := by
  have : (List.range (l.length + 1)).map num = ((List.range 130).map num).take (l.length + 1) := by
   rw [<- List.map_take, List.take_range]; congr 2; lia
  rw [this]
  exact List.Sublist.nodup (List.take_sublist _ _) num_nodup
 have := pigeon _ l h1 (by
  intro x hx
  simp only [List.mem_map, List.mem_range] at hx
  obtain ⟨j, h2, rfl⟩ := hx
  apply Classical.byContradiction
  intro h3; exact hno ⟨j, by (exact Nat.le_of_lt_succ ‹_›), h3⟩)
 simp at this
 (exact Nat.lt_irrefl _ ‹_›)
end
end Mine.Internal
namespace Mine.Internal
open PySem
section
variable {fuel n : Nat} {σ : Store}
theorem mixed_lt (c k : Int) : 0 <= mixed c k ∧ mixed c k < 2147483647 := fmod_lt _ (by decide)
theorem name_base (m : Nat) (g : Nat -> Int) (h1 : 1 <= m) (h2 : m <= 12) (hg : ∀ j, 0 <= g j ∧ g j < 36) : isName ((List.range m).map fun j => sg (g j)) = true := by
 rw [name_iff]
 refine ⟨by simpa using h1, by simpa using h2, ?_⟩
 intro x hx
 simp only [List.mem_map] at hx
 obtain ⟨j, _, rfl⟩ := hx
 exact sg_mem _ (hg j).1 (hg j).2
theorem nm1 {q : Int} (h : 0 <= q ∧ q < 12) : 1 + q <= 1000000 ∧ -1000000 <= 1 + q ∧ (1 + q).toNat <= 1000 ∧ 1 <= (1 + q).toNat ∧ (1 + q).toNat <= 12 := by lia
theorem nm2 {q : Int} (h : 0 <= q ∧ q < 130) : q.toNat < 130 ∧ ((q.toNat : Nat) : Int) = q := by lia
theorem nm3 {u : List Nat} {x : Nat} (h : u.length <= 12) : (u.take 11 ++ [x]).length <= 12 := by simp; (exact Nat.min_le_left _ _)
theorem nm4 {u : List Nat} {x : Nat} {a : Int} (h2 : u.length <= 12) (h0 : 0 <= a) (ha : a < u.length) : 1 <= (u.take a.toNat ++ [x] ++ u.drop (a + 1).toNat).length ∧ (u.take a.toNat ++ [x] ++ u.drop (a + 1).toNat).length <= 12 := by
 obtain ⟨k, rfl⟩ := Int.eq_ofNat_of_zero_le h0
 have hk : k < u.length := Int.ofNat_lt.mp ha
 have e : (u.take (k : Int).toNat ++ [x] ++ u.drop ((k : Int) + 1).toNat).length = u.length := by
  show (u.take k ++ [x] ++ u.drop (k + 1)).length = _
  have h := List.set_eq_take_append_cons_drop (l := u) (i := k) (a := x)
  rw [if_pos hk] at h
  rw [List.append_assoc]
  exact (congrArg List.length h).symm.trans List.length_set
 rw [e]
 exact ⟨Nat.lt_of_le_of_lt (Nat.zero_le _) hk, h2⟩
theorem nm5 {j n : Nat} (h : j < n + 1) (hn : n < 100) : j < 130 := by lia
theorem nm6 {n : Nat} (h : n < 100) : (n : Int) + 1 <= 1000000 ∧ -1000000 <= (n : Int) + 1 ∧ ((n : Int) + 1).toNat = n + 1 := by lia
theorem run_name {C : Cfg} (hm : ∀ c k σ, C.cf .frz 3 [vi c, vi k] σ = .ok (vi (mixed c k)) σ) (c : Int) (tk : List (List Nat)) (hg : ∀ x ∈ tk, isName x = true) (hl : tk.length < 100) :
 Ends (fun r => ∃ x, isName x = true ∧ x ∉ tk ∧ r = .ok (.ret (vs x)) []) (execSs C Flaw_name.body [some (vi c), some (.d (dl tk)), none, none, none, none, none] []) := by
 show Ends _ (execSs C [_, _, _, _, _, _, _, _] _ [])
 refine go_asg (v := vs signs) (σ₁ := []) (by simp only [eA_1, k_signs] <;> rfl) ?_
 refine go_asg (v := vi (mixed c 5)) (σ₁ := []) (by simp only [eA_1, eA_5, eA_18, eB_1, eB_2, ok_bind, gz, sz, sy, hm] <;> rfl) ?_
 have hL := mixed_lt c 5
 generalize mixed c 5 = L at hL
 have h12 := fmod_lt L (j := 12) (by decide)
 have h36 := fmod_lt L (j := 36) (by decide)
 have hr : evalIt C (.range [.bin true .Add (.cst (.int 1)) (.bin true .Mod (.var 3) (.cst (.int 12)))]) [some (vi c), some (.d (dl tk)), some (vs signs), some (vi L), none, none, none] [] = .ok (.items ((List.range (1 + L.fmod 12).toNat).map fun j : Nat => vi (j : Int))) [] :=
  it_range (by simp only [eA_1, eA_5, eA_6, eB_1, eB_2, ok_bind, gz, gs, b_add, b_mod (show (12 : Int) ≠ 0 by decide)] <;> rfl) (nm1 h12).1 (nm1 h12).2.1
 refine go_asg (v := vs ((List.range (1 + L.fmod 12).toNat).map fun j : Nat => sg ((mixed c j).fmod 36))) (σ₁ := []) (e_signs (fun j : Nat => vi (j : Int)) (fun j : Nat => sg ((mixed c j).fmod 36)) hr (by rw [List.length_range]; exact (nm1 h12).2.2.1) (by
  intro j _
  have h := fmod_lt (mixed c j) (j := 36) (by decide)
  simp only [eA_1, eA_5, eA_6, eA_15, eA_18, eB_1, eB_2, ok_bind, gz, gs, sz, sy, hm, b_mod (show (36 : Int) ≠ 0 by decide), sub_sg h.1 h.2])) ?_
 have hf : isName ((List.range (1 + L.fmod 12).toNat).map fun j : Nat => sg ((mixed c j).fmod 36)) = true := name_base _ (fun j => (mixed c j).fmod 36) (nm1 h12).2.2.2.1 (nm1 h12).2.2.2.2 (fun j => fmod_lt _ (by decide))
 generalize ((List.range (1 + L.fmod 12).toNat).map fun j : Nat => sg ((mixed c j).fmod 36)) = f at hf
 let K : List Nat -> Option V -> Vars := fun f z => [some (vi c), some (.d (dl tk)), some (vs signs), some (vi L), some (vs f), none, z]
 let M : Vars -> Store -> Prop := fun ρ σ => (∃ f z, isName f = true ∧ ρ = K f z) ∧ σ = []
 show Ends _ (execSs C [_, _, _, _, _] (K f none) [])
 refine go_mid (M := M) ?_ ?_
 ·refine go_ite (t := decide (c.fmod 8 = 1)) (σ₁ := []) (by simp only [eA_1, eA_5, eA_6, eA_10, ok_bind, gz, c_eq, eq_int, b_mod (show (8 : Int) ≠ 0 by decide), K] <;> rfl) (fun h => ?_) (fun h => ?_)
  ·have hx := fmod_lt L (j := 130) (by decide)
   refine go_asg (v := vs (num (L.fmod 130).toNat)) (σ₁ := []) ?_ (go_nil ⟨_, _, ⟨⟨num (L.fmod 130).toNat, none, num_name _ (nm2 hx).1, rfl⟩, rfl⟩, rfl⟩)
   have := num_str (σ := []) (j := (L.fmod 130).toNat) (nm2 hx).1
   rw [(nm2 hx).2] at this
   simp only [eA_1, eA_5, eA_6, eA_7, eA_8, eA_9, eA_10, eA_12, eA_13, eA_15, eA_16, eA_17, eA_18, eA_19, eA_20, eB_1, eB_2, ok_bind, K, gz, gs, b_mod (show (130 : Int) ≠ 0 by decide), this]
  ·exact go_nil ⟨_, _, ⟨⟨f, none, hf, rfl⟩, rfl⟩, rfl⟩
 rintro _ _ ⟨⟨f, z, hf, rfl⟩, rfl⟩
 have htk : truth [] (.d (dl tk)) = some (!(tk.map fun t => PyData.str (Tx t)).isEmpty) := rfl
 refine go_mid (M := M) ?_ ?_
 ·refine go_iteV (t := decide (c.fmod 8 = 2) && !(tk.map fun t => PyData.str (Tx t)).isEmpty) (σ₁ := []) (e_and2v (y := .d (dl tk)) (by simp only [eA_1, eA_5, eA_6, eA_10, ok_bind, gz, c_eq, eq_int, b_mod (show (8 : Int) ≠ 0 by decide), K] <;> rfl) (fun _ => ⟨(by simp only [eA_5, gz, gs, K] <;> rfl), htk⟩)) (fun h => ?_) (fun h => ?_)
  ·simp only [Bool.and_eq_true] at h
   have hne : tk ≠ [] := by
    intro e; simp [e] at h
   have hlast := List.getLast?_eq_some_getLast hne
   have hgl := (name_iff _).mp (hg _ (List.getLast_mem hne))
   generalize tk.getLast hne = u at hlast hgl
   have h1 : subscr (.d (dl tk)) (vi (-1)) [] = some (vs u) := at_last (y := .str (Tx u)) (by rw [List.length_map]; exact Nat.lt_trans hl (by decide)) (by simp [List.getLast?_map, hlast])
   have h2 : slice true (vs u) none (some (vi 11)) [] = .ok (vs (u.take 11)) [] := sl_to (k := 11) (by decide)
   have h3 := b_cat (fz := true) (σ := []) (u.take 11) [sg (L.fmod 36)] (ln_t1 hgl.2.1)
   refine go_asg (v := vs (u.take 11 ++ [sg (L.fmod 36)])) (σ₁ := []) (by simp only [eA_1, eA_5, eA_6, eA_7, eA_15, eA_16, eO_1, eO_2, ok_bind, gz, gs, K, h1, h2, b_mod (show (36 : Int) ≠ 0 by decide), sub_sg h36.1 h36.2, h3] <;> rfl) (go_nil ⟨_, _, ⟨⟨_, z, ?_, rfl⟩, rfl⟩, rfl⟩)
   rw [name_iff]
   refine ⟨by simp, nm3 hgl.2.1, ?_⟩
   intro x hx
   simp only [List.mem_append, List.mem_singleton] at hx
   rcases hx with hx | rfl
   ·exact hgl.2.2 x (List.mem_of_mem_take hx)
   ·exact sg_mem _ h36.1 h36.2
  ·exact go_nil ⟨_, _, ⟨⟨f, z, hf, rfl⟩, rfl⟩, rfl⟩
 clear hf f z
 rintro _ _ ⟨⟨f, z, hf, rfl⟩, rfl⟩
 refine go_mid (M := M) ?_ ?_
 ·refine go_iteV (t := decide (c.fmod 8 > 4) && !(tk.map fun t => PyData.str (Tx t)).isEmpty) (σ₁ := []) (e_and2v (y := .d (dl tk)) (by simp only [eA_1, eA_5, eA_6, eA_10, ok_bind, gz, c_gt, gt_i, b_mod (show (8 : Int) ≠ 0 by decide), K] <;> rfl) (fun _ => ⟨(by simp only [eA_5, gz, gs, K] <;> rfl), htk⟩)) (fun h => ?_) (fun h => ?_)
  ·simp only [Bool.and_eq_true] at h
   have hne : tk ≠ [] := by
    intro e; simp [e] at h
   have hpos : 0 < tk.length := List.length_pos_iff.mpr hne
   have hlt := fmod_lt L (j := tk.length) (arr hpos)
   obtain ⟨u, hu⟩ : ∃ u, tk[(L.fmod tk.length).toNat]? = some u := ⟨_, List.getElem?_eq_getElem (ar4 hlt.1 hlt.2)⟩
   have h1 : subscr (.d (dl tk)) (vi (L.fmod tk.length)) [] = some (vs u) := at_list (y := .str (Tx u)) _ hlt.1 (ar3s hlt.2 (Nat.le_of_lt hl)) (by simp [hu])
   have hgu := (name_iff _).mp (hg u (List.mem_of_getElem? hu))
   have h0 : (tk.length : Int) ≠ 0 := ars hpos
   refine go_asg (v := vs u) (σ₁ := []) (by simp only [eA_5, eA_6, eA_15, eA_17, eB_1, eB_2, ok_bind, gz, gs, bc_len_l, K, List.length_map, b_mod h0, h1] <;> rfl) ?_
   have h0 : (u.length : Int) ≠ 0 := ars hgu.1
   have hat := fmod_lt (L.fdiv 60) (j := u.length) (arr hgu.1)
   refine go_asg (v := vi ((L.fdiv 60).fmod u.length)) (σ₁ := []) (by simp only [eA_1, eA_5, eA_6, eA_17, eB_1, eB_2, ok_bind, gz, gs, sz, sy, bc_len_s, Tx_size, K, List.length_map, b_mod h0, b_div (show (60 : Int) ≠ 0 by decide)] <;> rfl) ?_
   generalize (L.fdiv 60).fmod u.length = a at hat
   have hs := fmod_lt (L.fdiv 720) (j := 36) (by decide)
   have h2 : slice true (vs u) none (some (vi a)) [] = .ok (vs (u.take a.toNat)) [] := sl_toZ hat.1 (ar3 hat.2 hgu.2.1)
   have h3 : slice true (vs u) (some (vi (a + 1))) none [] = .ok (vs (u.drop (a + 1).toNat)) [] := sl_fromZ (ar9 hat.1) (ar3' hat.2 hgu.2.1)
   have h4 := b_cat (fz := true) (σ := []) (u.take a.toNat) [sg ((L.fdiv 720).fmod 36)] (ln_t1 hgu.2.1)
   have h5 := b_cat (fz := true) (σ := []) (u.take a.toNat ++ [sg ((L.fdiv 720).fmod 36)]) (u.drop (a + 1).toNat) (ln_t2 hgu.2.1)
   refine go_asg (v := vs (u.take a.toNat ++ [sg ((L.fdiv 720).fmod 36)] ++ u.drop (a + 1).toNat)) (σ₁ := []) (by simp only [eA_1, eA_5, eA_6, eA_15, eA_16, eO_1, eO_2, ok_bind, gz, gs, sz, sy, b_add, K, h2, h3, b_mod (show (36 : Int) ≠ 0 by decide), b_div (show (720 : Int) ≠ 0 by decide), sub_sg hs.1 hs.2, h4, h5] <;> rfl) (go_nil ⟨_, _, ⟨⟨_, some (vi a), ?_, rfl⟩, rfl⟩, rfl⟩)
   rw [name_iff]
   refine ⟨(nm4 hgu.2.1 hat.1 hat.2).1, (nm4 hgu.2.1 hat.1 hat.2).2, ?_⟩
   intro x hx
   simp only [List.mem_append, List.mem_singleton] at hx
   rcases hx with (hx | rfl) | hx
   ·exact hgu.2.2 x (List.mem_of_mem_take hx)
   ·exact sg_mem _ hs.1 hs.2
   ·exact hgu.2.2 x (List.mem_of_mem_drop hx)
  ·exact go_nil ⟨_, _, ⟨⟨f, z, hf, rfl⟩, rfl⟩, rfl⟩
 clear hf f z
 rintro _ _ ⟨⟨f, z, hf, rfl⟩, rfl⟩
 refine go_ite (t := !decide (f ∈ tk)) (σ₁ := []) (by simp only [eA_5, eA_10, ok_bind, gz, gs, c_nin, no_s, in_strs, K] <;> rfl) (fun h => ?_) (fun h => ?_)
 ·exact go_ret (v := vs f) (σ₁ := []) (by simp only [eA_5, gz, gs, K] <;> rfl) ⟨f, hf, by simpa using h, rfl⟩
 ·have hnl : ∀ (j : Nat), j < tk.length + 1 -> bcall .str true [vi j] [] = .ok (vs (num j)) [] := fun j hj => num_str (nm5 hj hl)
  have hc : evalE C (.comp true (.bcall .str true [.var 5]) [5] (.range [.bin true .Add (.bcall .len true [.var 1]) (.cst (.int 1))]) [.cmp .NotIn (.bcall .str true [.var 5]) (.var 1)]) (K f z) [] = .ok (.d (.list (((List.range ((tk.length : Int) + 1).toNat).filter fun j => !decide (num j ∈ tk)).map fun j => .str (Tx (num j))))) [] := by
   refine e_compD (fun j : Nat => vi (j : Int)) (fun j => !decide (num j ∈ tk)) (fun j => .str (Tx (num j))) (it_range (by simp only [eA_1, eA_5, eA_6, eA_17, eB_1, eB_2, ok_bind, gz, gs, bc_len_l, b_add, K, List.length_map] <;> rfl) (nm6 hl).1 (nm6 hl).2.1) (by rw [List.length_range, (nm6 hl).2.2]; exact Nat.le_trans hl (by decide)) ?_ ?_
   ·intro j hj
    have hj : j < tk.length + 1 := by rw [List.mem_range, (nm6 hl).2.2] at hj; exact hj
    have := hnl j hj
    simp only [eF_1, eF_2, eA_1, eA_5, eA_6, eA_7, eA_8, eA_9, eA_10, eA_12, eA_13, eA_15, eA_16, eA_17, eA_18, eA_19, eA_20, eB_1, eB_2, ok_bind, K, gz, gs, sz, sy, this, c_eq, c_ne, c_in, c_nin, c_is, c_isn, c_lt, c_gt, c_ge, in_strs, notO, tr_b]
    cases decide (num j ∈ tk) <;> rfl
   ·intro j hj _
    have hj : j < tk.length + 1 := by rw [List.mem_range, (nm6 hl).2.2] at hj; exact hj
    have := hnl j hj
    simp only [eA_1, eA_5, eA_6, eA_7, eA_8, eA_9, eA_10, eA_12, eA_13, eA_15, eA_16, eA_17, eA_18, eA_19, eA_20, eB_1, eB_2, ok_bind, K, gz, gs, sz, sy, this]
  obtain ⟨j, hj1, hj2⟩ := num_free tk (Nat.lt_trans hl (by decide))
  have hmem : j ∈ (List.range ((tk.length : Int) + 1).toNat).filter fun j => !decide (num j ∈ tk) := by
   simp only [List.mem_filter, List.mem_range]
   exact ⟨by rw [(nm6 hl).2.2]; exact Nat.lt_succ_of_le hj1, by simpa using hj2⟩
  induction hfl : (List.range ((tk.length : Int) + 1).toNat).filter fun j => !decide (num j ∈ tk) with
  | nil => rw [hfl] at hmem; simp at hmem
  | cons i rest =>
   have hi : i ∈ (List.range ((tk.length : Int) + 1).toNat).filter fun j => !decide (num j ∈ tk) := by rw [hfl]; simp
   simp only [List.mem_filter, List.mem_range] at hi
   rw [hfl] at hc
   have h0 : subscr (.d (.list ((i :: rest).map fun j => .str (Tx (num j))))) (vi 0) [] = some (vs (num i)) := at_list 0 (by decide) (by decide) rfl
   refine go_ret (v := vs (num i)) (σ₁ := []) ?_ ⟨num i, num_name i (nm5 (by rw [(nm6 hl).2.2] at hi; exact hi.1) hl), by simpa using hi.2, rfl⟩
   rw [eA_15, hc]
   simp only [eA_1, eA_5, eA_6, eA_7, eA_8, eA_9, eA_10, eA_12, eA_13, eA_15, eA_16, eA_17, eA_18, eA_19, eA_20, ok_bind, h0]
end
section
variable {fuel n : Nat} {σ : Store}
theorem snapL_d (l : List PyData) (k : Nat) : snapL (snap σ (k + 1)) (l.map .d) = some l := by
 induction l with
 | nil => rfl
 | cons a l ih =>
  show (match snapL (snap σ (k + 1)) (l.map .d) with | some xs => some (a :: xs) | none => none) = _
  rw [ih]
theorem snap_ref {k : Nat} {l : List PyData} (h : σ[k]? = some (.list (l.map .d))) : snap σ 8 (.ref k) = some (.list l) := by
 show snapO (snap σ 7) σ[k]? = _
 rw [h]
 show (match snapL (snap σ 7) (l.map .d) with | some xs => some (PyData.list xs) | none => none) = _
 rw [snapL_d]
theorem ev_name (c : Int) (tk : List (List Nat)) (hg : ∀ x ∈ tk, isName x = true) (hl : tk.length < 100) :
 ∃ x, isName x = true ∧ x ∉ tk ∧ (∀ σ, callF P14 fuel (n + 2) .frz 4 [vi c, .d (dl tk)] σ = .ok (vs x) σ) ∧
  (∀ σ k, σ[k]? = some (.list (tk.map vs)) -> callF P14 fuel (n + 2) .frz 4 [vi c, .ref k] σ = .ok (vs x) σ) := by
 obtain ⟨x, h1, h2, h3⟩ := run_name (C := ⟨callF P14 fuel (n + 1), fuel⟩) (fun c k σ => ev_mixed c k) c tk hg hl
 refine ⟨x, h1, h2, fun σ => frz_ok P4 rfl (run_ret rfl h3) rfl, fun σ k hk => ?_⟩
 refine frz_lent (xs := [vi c, .d (dl tk)]) P4 rfl ?_ (run_ret rfl h3) rfl
 have : snap σ 8 (.ref k) = some (dl tk) := snap_ref (by rw [hk, List.map_map]; rfl)
 have e : snap σ 8 (vi c) = some (.int c) := rfl
 show (match snap σ 8 (vi c), (match snap σ 8 (.ref k), lent σ [] with | some x, some xs => some (V.d x :: xs) | _, _ => none) with | some x, some xs => some (V.d x :: xs) | _, _ => none) = _
 rw [e, this]; rfl
noncomputable def insL (x : List Nat) : List (List Nat) -> List (List Nat)
 | [] => [x]
 | y :: r => if decide (x < y) then x :: y :: r else y :: insL x r
noncomputable def isort : List (List Nat) -> List (List Nat)
 | [] => []
 | x :: r => insL x (isort r)
theorem insStr_Tx (x : List Nat) (l : List (List Nat)) : insStr (Tx x) (l.map Tx) = (insL x l).map Tx := by
 induction l with
 | nil => rfl
 | cons y l ih =>
  show (if ltStr (Tx x) (Tx y) = true then Tx x :: Tx y :: l.map Tx else Tx y :: insStr (Tx x) (l.map Tx)) = (if decide (x < y) = true then x :: y :: l else y :: insL x l).map Tx
  rw [Tx_lt, ih]
  cases decide (x < y) <;> rfl
theorem sortStr_Tx (l : List (List Nat)) : sortStr (l.map Tx) = (isort l).map Tx := by
 induction l with
 | nil => rfl
 | cons y l ih =>
  show insStr (Tx y) (sortStr (l.map Tx)) = (insL y (isort l)).map Tx
  rw [ih, insStr_Tx]
theorem insL_mem (x z : List Nat) (l : List (List Nat)) : z ∈ insL x l ↔ z = x ∨ z ∈ l := by
 induction l with
 | nil => simp [insL]
 | cons y l ih =>
  simp only [insL]
  split
  ·simp
  ·simp [ih]; constructor <;> (rintro (h | h | h) <;> simp [h])
theorem isort_mem (z : List Nat) (l : List (List Nat)) : z ∈ isort l ↔ z ∈ l := by
 induction l with
 | nil => simp [isort]
 | cons y l ih => simp [isort, insL_mem, ih]
theorem insL_len (x : List Nat) (l : List (List Nat)) : (insL x l).length = l.length + 1 := by
 induction l with
 | nil => rfl
 | cons y l ih => simp only [insL]; split <;> simp [ih]
theorem isort_len (l : List (List Nat)) : (isort l).length = l.length := by
 induction l with
 | nil => rfl
 | cons y l ih => simp [isort, insL_len, ih]
theorem strsV_vs (l : List (List Nat)) : strsV (l.map vs) = some (l.map Tx) := by
 induction l with
 | nil => rfl
 | cons a l ih => show (match strsV (l.map vs) with | some xs => some (Tx a :: xs) | none => none) = _; rw [ih]; rfl
end
end Mine.Internal
namespace Mine.Internal
open PySem
section
variable {fuel n : Nat} {σ : Store}
theorem P5 : P14 5 = some Flaw_line := rfl
noncomputable def someA : List Nat := [32,33,34,35,36,38,39,40,41,42,43,44,45,46,47,48,49,50,51,52,53,54,55,56,57,58,59,60,61,62,63,64,65,66,67,68,69,70,71,72,73,74,75,76,77,78,79,80,81,82,83,84,85,86,87,88,89,90,91,92,93,94,95,96]
noncomputable def someB : List Nat := [97,98,99,100,101,102,103,104,105,106,107,108,109,110,111,112,113,114,115,116,117,118,119,120,121,122,123,124,125,126]
noncomputable def someS : List Nat := someA ++ someB
theorem k_someA : Str.ofString " !\"#$&'()*+,-./0123456789:;<=>?@ABCDEFGHIJKLMNOPQRSTUVWXYZ[\\]^_`" = Tx someA := by decide +kernel
theorem k_someB : Str.ofString "abcdefghijklmnopqrstuvwxyz{|}~" = Tx someB := by decide +kernel
theorem k_col : Str.ofString ": " = Tx [58, 32] := by decide +kernel
noncomputable def so (i : Int) : Nat := someS.getD i.toNat 0
theorem so_at (i : Int) (h0 : 0 <= i) (h : i < 94) : someS[i.toNat]? = some (so i) := by
 have : i.toNat < someS.length := Int.toNat_lt h0 |>.mpr h
 simp [so, List.getD, this]
theorem sub_so {i : Int} (h0 : 0 <= i) (h : i < 94) : subscr (vs someS) (vi i) σ = some (vs [so i]) := at_text i h0 (by lia) (so_at i h0 h)
theorem ev_line (c : Int) : ∃ l, ∀ σ, callF P14 fuel (n + 1) .frz 5 [vi c] σ = .ok (vs l) σ := by
 have key : Ends (fun r => ∃ l, r = .ok (.ret (vs l)) []) (execSs ⟨callF P14 fuel n, fuel⟩ Flaw_line.body [some (vi c), none, none, none, none] []) := by
  generalize hC : (⟨callF P14 fuel n, fuel⟩ : Cfg) = C
  show Ends _ (execSs C [_, _, _, _, _, _, _] _ [])
  refine go_asg (v := vs someA) (σ₁ := []) (by simp only [eA_1, k_someA] <;> rfl) ?_
  have hcat := b_cat (fz := true) (σ := []) someA someB (by decide)
  refine go_asg (v := vs someS) (σ₁ := []) (by simp only [eA_1, eA_5, eA_6, ok_bind, gz, gs, sz, sy, k_someB, hcat] <;> rfl) ?_
  have h4 := fmod_lt c (j := 4) (by decide)
  refine go_asg (v := vi (c.fmod 4)) (σ₁ := []) (by simp only [eA_1, eA_5, eA_6, ok_bind, gz, sz, sy, b_mod (show (4 : Int) ≠ 0 by decide)] <;> rfl) ?_
  refine go_mid (M := fun ρ σ => (∃ s : Int, 0 <= s ∧ s <= 200 ∧ ρ = [some (vi c), some (vs someS), some (vi s), none, none]) ∧ σ = []) ?_ ?_
  ·refine go_ite (t := decide ((c.fdiv 4).fmod 9 = 1)) (σ₁ := []) (by simp only [eA_1, eA_5, eA_6, eA_10, ok_bind, gz, sz, sy, c_eq, eq_int, b_mod (show (9 : Int) ≠ 0 by decide), b_div (show (4 : Int) ≠ 0 by decide)] <;> rfl) (fun h => ?_) (fun h => ?_)
   ·have h5 := fmod_lt (c.fdiv 36) (j := 201) (by decide)
    exact go_asg (v := vi ((c.fdiv 36).fmod 201)) (σ₁ := []) (by simp only [eA_1, eA_5, eA_6, ok_bind, gz, sz, sy, b_mod (show (201 : Int) ≠ 0 by decide), b_div (show (36 : Int) ≠ 0 by decide)] <;> rfl) (go_nil ⟨_, _, ⟨⟨_, h5.1, by omega, rfl⟩, rfl⟩, rfl⟩)
   ·exact go_nil ⟨_, _, ⟨⟨_, h4.1, by omega, rfl⟩, rfl⟩, rfl⟩
  rintro _ _ ⟨⟨s, hs0, hs1, rfl⟩, rfl⟩
  have h5 := fmod_lt c (j := 5) (by decide)
  have hsm : ∀ i, (small i || small (1 + c.fmod 5)) = true := fun i => by rw [small_of (i := 1 + c.fmod 5) (by omega) (by omega)]; simp
  refine go_asg (v := vs ((List.range s.toNat).map fun j : Nat => so ((c.fdiv 7 + j * (1 + c.fmod 5)).fmod 94))) (σ₁ := []) (e_signsR (m := s) (fun i => so ((c.fdiv 7 + i * (1 + c.fmod 5)).fmod 94)) rfl (by omega) (by lia) (by
   intro i _ _
   have h := fmod_lt (c.fdiv 7 + i * (1 + c.fmod 5)) (j := 94) (by decide)
   simp only [eA_1, eA_5, eA_6, eA_15, ok_bind, gz, gs, sz, sy, b_add, b_div (show (7 : Int) ≠ 0 by decide), b_mod (show (5 : Int) ≠ 0 by decide), b_mul (hsm _), b_mod (show (94 : Int) ≠ 0 by decide), sub_so h.1 h.2])) ?_
  have hf1 : ((List.range s.toNat).map fun j : Nat => so ((c.fdiv 7 + j * (1 + c.fmod 5)).fmod 94)).length = s.toNat := by simp
  generalize ((List.range s.toNat).map fun j : Nat => so ((c.fdiv 7 + j * (1 + c.fmod 5)).fmod 94)) = f at hf1
  refine go_ite (t := decide ((c.fdiv 3).fmod 8 = 1) && decide (s < 199)) (σ₁ := []) (e_and2 (by simp only [eA_1, eA_5, eA_6, eA_10, ok_bind, gz, sz, sy, c_eq, eq_int, b_mod (show (8 : Int) ≠ 0 by decide), b_div (show (3 : Int) ≠ 0 by decide)] <;> rfl) (fun _ => rfl)) (fun h => ?_) (fun h => ?_)
  ·simp only [Bool.and_eq_true, decide_eq_true_eq] at h
   have h1 : slice true (vs f) none (some (vi 1)) [] = .ok (vs (f.take 1)) [] := sl_to (k := 1) (by (exact Nat.succ_pos _))
   have h2 : slice true (vs f) (some (vi 1)) none [] = .ok (vs (f.drop 1)) [] := sl_from (k := 1) (by (exact Nat.succ_pos _))
   have h3 := b_cat (fz := true) (σ := []) (f.take 1) [58, 32] (by simp [line]; omega)
   have h4 := b_cat (fz := true) (σ := []) (f.take 1 ++ [58, 32]) (f.drop 1) (by simp [line]; omega)
   refine go_ret (v := vs (f.take 1 ++ [58, 32] ++ f.drop 1)) (σ₁ := []) (by simp only [eA_1, eA_5, eA_6, eA_16, eO_1, eO_2, ok_bind, gz, gs, sz, sy, h1, h2, k_col, h3, h4] <;> rfl) ⟨_, rfl⟩
  ·exact go_ret (v := vs f) (σ₁ := []) rfl ⟨f, rfl⟩
 obtain ⟨l, h2⟩ := key
 exact ⟨l, fun σ => frz_ok P5 rfl (run_ret rfl h2) rfl⟩
end
section
variable {fuel n : Nat} {σ : Store}
theorem P6 : P14 6 = some Flaw_leans := rfl
theorem P7 : P14 7 = some Flaw_marks := rfl
theorem P8 : P14 8 = some Flaw_deeds := rfl
theorem k_nil : Str.ofString "" = Tx [] := by decide +kernel
theorem tup2 (a b : PyData) : mkTup [.d a, .d b] = .d (.tuple [a, b]) := rfl
theorem tup3 (a b c : PyData) : mkTup [.d a, .d b, .d c] = .d (.tuple [a, b, c]) := rfl
theorem len2 {α : Type} (a b : α) : [a, b].length <= line := by simp [line]
theorem len3 {α : Type} (a b c : α) : [a, b, c].length <= line := by simp [line]
theorem sub_ch0 (t : List Nat) (ls : List (List Nat)) (ds : List Deed) : subscr (.d (change t ls ds)) (vi 0) σ = some (vs t) := at_tup 0 (by decide) (by decide) rfl
theorem sub_ch1 (t : List Nat) (ls : List (List Nat)) (ds : List Deed) : subscr (.d (change t ls ds)) (vi 1) σ = some (.d (dl ls)) := at_tup 1 (by decide) (by decide) rfl
theorem sub_ch2 (t : List Nat) (ls : List (List Nat)) (ds : List Deed) : subscr (.d (change t ls ds)) (vi 2) σ = some (.d (.list (ds.map Deed.data))) := at_tup 2 (by decide) (by decide) rfl
theorem adds_eq : ∀ ds : List Deed, (ds.filter fun d => decide (d.word = kadd)).length = adds ds
 | [] => rfl
 | d :: ds => by
  rw [List.filter_cons]
  show _ = (if isAdd d then 1 else 0) + adds ds
  rw [<- adds_eq ds]
  unfold isAdd
  split
  ·rw [List.length_cons, Nat.add_comm]
  ·rw [Nat.zero_add]
theorem run_marks {C : Cfg} (t : List Nat) (ls : List (List Nat)) (ds : List Deed) (hds : ds.length <= 100) :
 Ends (fun r => r = .ok (.ret (.d (.list ((List.range (adds ds)).map fun j : Nat => markD (some (t, (j : Int))))))) []) (execSs C Flaw_marks.body [some (.d (change t ls ds)), none, none, none] []) := by
 show Ends _ (execSs C [_, _] _ [])
 have c1 := e_compD (C := C) (elt := .var 2) (t := 2) (it := .of (.sub (.var 0) (.cst (.int 2)))) (ifs := [.cmp .Eq (.sub (.var 2) (.cst (.int 0))) (.cst (.str (Str.ofString "add")))]) (ρ := [some (.d (change t ls ds)), none, none, none]) (σ := []) (σ₁ := []) (l := ds)
  (fun d => .d d.data) (fun d => decide (d.word = kadd)) Deed.data (it_of (v := .d (.list (ds.map Deed.data))) (by simp only [eA_1, eA_5, eA_15, ok_bind, gz, sub_ch2] <;> rfl) (it_map _ _)) (by simp [line]; (exact le_c ‹_› (by rfl))) (fun d _ => by
   simp only [eA_1, eA_5, eA_10, eA_15, ok_bind, gz, gs, sz, sy, c_eq, eq_str, tr_b, eF_1, eF_2, sub_word, k_add]
   cases h : decide (d.word = kadd) <;> rfl) (fun d _ _ => rfl)
 refine go_asg (v := vi ((ds.filter fun d => decide (d.word = kadd)).map Deed.data).length) (σ₁ := []) (by simp only [eA_17, eB_1, eB_2, ok_bind, bc_len_l, c1]) ?_
 rw [show ((ds.filter fun d => decide (d.word = kadd)).map Deed.data).length = adds ds by rw [List.length_map]; exact adds_eq ds]
 have hk : adds ds <= ds.length := by rw [<- adds_eq]; exact List.length_filter_le _ _
 generalize adds ds = k at hk
 have c2 := e_compR (C := C) (elt := .tup [.sub (.var 0) (.cst (.int 0)), .var 3]) (t := 3) (es := [.var 1]) (ifs := []) (ρ := [some (.d (change t ls ds)), some (vi k), none, none]) (σ := []) (σ₁ := []) (m := k) (fun _ => true) (fun i => markD (some (t, i))) rfl (by lia) (by (exact Int.natCast_nonneg _)) (fun i _ _ => by simp only [eF_1, eF_2]) (fun i _ _ _ => by
  simp only [eA_1, eA_5, eA_12, eA_15, eB_1, eB_2, ok_bind, gz, gs, sz, sy, sub_ch0, if_pos (len2 _ _), tup2]; rfl)
 rw [show (List.range (k : Int).toNat).filter (fun j : Nat => (fun _ : Int => true) (j : Int)) = List.range k from List.filter_eq_self.mpr (fun _ _ => rfl)] at c2
 exact go_ret c2 rfl
theorem ev_marks (t : List Nat) (ls : List (List Nat)) (ds : List Deed) (hds : ds.length <= 100) :
 callF P14 fuel (n + 1) .frz 7 [.d (change t ls ds)] σ = .ok (.d (.list ((List.range (adds ds)).map fun j : Nat => markD (some (t, (j : Int)))))) σ :=
 frz_ok P7 rfl (run_ret rfl (run_marks (C := ⟨callF P14 fuel n, fuel⟩) t ls ds hds)) rfl
end
end Mine.Internal
namespace Mine.Internal
open PySem
noncomputable def Shp (d : Deed) : Prop := (d.word = kadd ∧ ∃ l, d.text = some l) ∨ (d.word = kset ∧ ∃ m l, d.mark = some m ∧ d.text = some l) ∨ (d.word = kcut ∧ ∃ m, d.mark = some m)
theorem adds_snoc : ∀ (ds : List Deed) (d : Deed), adds (ds ++ [d]) = adds ds + (if isAdd d then 1 else 0)
 | [], d => by show (if isAdd d then 1 else 0) + 0 = 0 + _; rw [Nat.add_comm]
 | e :: ds, d => by show (if isAdd e then 1 else 0) + adds (ds ++ [d]) = (if isAdd e then 1 else 0) + adds ds + _; rw [adds_snoc ds d, Nat.add_assoc]
theorem DOk_snoc {nm : List Nat} {ms : List Mk} {d : Deed} : ∀ (ds : List Deed) (k : Nat), DOk nm ms ds k -> (∀ m, d.mark = some m -> m ∈ ms ∨ (m.1 = nm ∧ 0 <= m.2 ∧ m.2 < ((k + adds ds : Nat) : Int))) -> DOk nm ms (ds ++ [d]) k
 | [], k, _, h => ⟨h, trivial⟩
 | e :: ds, k, ⟨h1, h2⟩, h => by
  refine ⟨h1, DOk_snoc ds _ h2 fun m hm => ?_⟩
  have := h m hm
  have e1 : (if isAdd e then k + 1 else k) + adds ds = k + adds (e :: ds) := by
   show _ = k + ((if isAdd e then 1 else 0) + adds ds)
   split <;> omega
  rw [e1]; exact this
section
variable {fuel n : Nat} {σ : Store}
theorem run_deeds {C : Cfg} (hm : ∀ c k σ, C.cf .frz 3 [vi c, vi k] σ = .ok (vi (mixed c k)) σ) (hl : ∀ c, ∃ l, ∀ σ, C.cf .frz 5 [vi c] σ = .ok (vs l) σ)
 (t : List Nat) (c many : Int) (ms : List (List Nat × Int)) (h0 : 0 <= many) (h1 : many <= 100) (hml : ms.length <= 10000) :
 Ends (fun r => ∃ ds : List Deed, ds.length = many.toNat ∧ DOk t ms ds 0 ∧ (∀ d ∈ ds, Shp d) ∧ r = .ok (.ret (.ref 0)) [.list (ds.map fun d => .d d.data)])
  (execSs C Flaw_deeds.body [some (vs t), some (vi c), some (vi many), some (.d (.list (ms.map fun m => markD (some m)))), none, none, none, none, none, none, none, none, none] []) := by
 show Ends _ (execSs C [_, _, _, _] _ [])
 refine go_asg (v := .ref 0) (σ₁ := [.list []]) (by simp only [eA_13, eB_1, ok_bind, mkList] <;> rfl) ?_
 refine go_asg (v := vi 0) (σ₁ := [.list []]) rfl ?_
 refine go_foldl (l := List.range many.toNat) (w := fun j : Nat => vi (j : Int)) (σ₁ := [.list []])
  (fun pre (s : List Deed × Nat) => s.2 = adds s.1 ∧ s.1.length = pre.length ∧ DOk t ms s.1 0 ∧ ∀ d ∈ s.1, Shp d)
  (fun (s : List Deed × Nat) ρ σ => (∃ z6 z7 z8 z9 z10 z11 z12, ρ = [some (vs t), some (vi c), some (vi many), some (.d (.list (ms.map fun m => markD (some m)))), some (.ref 0), some (vi s.2), z6, z7, z8, z9, z10, z11, z12]) ∧ σ = [.list (s.1.map fun d => .d d.data)]) ([], 0)
  (it_range rfl (by lia) (by lia)) ⟨rfl, rfl, trivial, by simp⟩ ⟨⟨none, none, none, none, none, none, none, rfl⟩, rfl⟩ ?_ ?_
 ·rintro p j q ⟨ds, own⟩ ρ σ hp ⟨g0, g1, g2, g3⟩ ⟨⟨z6, z7, z8, z9, z10, z11, z12, rfl⟩, rfl⟩
  have hlen : ds.length < 100 ∧ own <= 100 := by
   have := congrArg List.length hp
   have h2 : adds ds <= ds.length := by rw [<- adds_eq]; exact List.length_filter_le _ _
   simp at this g0 g1; omega
  have put : ∀ d : Deed, methcall .append true (.ref 0) [.d d.data] [.list (ds.map fun d => .d d.data)] = .ok (.d .none) [.list ((ds ++ [d]).map fun d => .d d.data)] := by
   intro d
   have hll : (ds.map fun d => V.d d.data).length < line := by simp [line]; lia
   refine (if_pos hll).trans ?_
   rw [List.map_append]; rfl
  have hpre : methPre .append (.ref 0) [.list (ds.map fun d => V.d d.data)] = true := rfl
  have fin : ∀ (d : Deed) (own' : Nat) (ρ : Vars), own' = adds (ds ++ [d]) -> Shp d -> (∀ m, d.mark = some m -> m ∈ ms ∨ (m.1 = t ∧ 0 <= m.2 ∧ m.2 < (own : Int))) -> (∃ z6 z7 z8 z9 z10 z11 z12, ρ = [some (vs t), some (vi c), some (vi many), some (.d (.list (ms.map fun m => markD (some m)))), some (.ref 0), some (vi own'), z6, z7, z8, z9, z10, z11, z12]) ->
   ∃ (s' : List Deed × Nat) (ρ' : Vars) (σ' : Store), (s'.2 = adds s'.1 ∧ s'.1.length = (p ++ [j]).length ∧ DOk t ms s'.1 0 ∧ ∀ d ∈ s'.1, Shp d) ∧ ((∃ z6 z7 z8 z9 z10 z11 z12, ρ' = [some (vs t), some (vi c), some (vi many), some (.d (.list (ms.map fun m => markD (some m)))), some (.ref 0), some (vi s'.2), z6, z7, z8, z9, z10, z11, z12]) ∧ σ' = [.list (s'.1.map fun d => .d d.data)]) ∧ Res.ok (Fl.next ρ) [.list ((ds ++ [d]).map fun d => .d d.data)] = .ok (.next ρ') σ' := by
   intro d own' ρ ho hd hm hρ
   have g0 : own = adds ds := g0
   refine ⟨(ds ++ [d], own'), ρ, _, ⟨ho, by simp at g1 ⊢; (with_reducible assumption), DOk_snoc ds 0 g2 (fun m e => by rw [Nat.zero_add, <- g0]; exact hm m e), ?_⟩, ⟨hρ, rfl⟩, rfl⟩
   intro e he
   simp only [List.mem_append, List.mem_singleton] at he
   rcases he with he | rfl
   ·exact g3 e he
   ·exact hd
  show Ends (fun r => ∃ (s' : List Deed × Nat) (ρ' : Vars) (σ' : Store), (s'.2 = adds s'.1 ∧ s'.1.length = (p ++ [j]).length ∧ DOk t ms s'.1 0 ∧ ∀ d ∈ s'.1, Shp d) ∧ ((∃ z6 z7 z8 z9 z10 z11 z12, ρ' = [some (vs t), some (vi c), some (vi many), some (.d (.list (ms.map fun m => markD (some m)))), some (.ref 0), some (vi s'.2), z6, z7, z8, z9, z10, z11, z12]) ∧ σ' = [.list (s'.1.map fun d => .d d.data)]) ∧ r = .ok (.next ρ') σ') (execSs C [_, _, _, _, _] _ _)
  have c1 := e_compR (C := C) (elt := .tup [.var 0, .var 12]) (t := 12) (es := [.var 5]) (ifs := []) (ρ := [some (vs t), some (vi c), some (vi many), some (.d (.list (ms.map fun m => markD (some m)))), some (.ref 0), some (vi own), some (vi j), z7, z8, z9, z10, z11, z12]) (σ := [.list (ds.map fun d => .d d.data)]) (σ₁ := [.list (ds.map fun d => .d d.data)]) (m := own) (fun _ => true) (fun i => markD (some (t, i))) rfl (by lia) (by lia) (fun i _ _ => by simp only [eF_1, eF_2]) (fun i _ _ _ => by
   simp only [eA_5, eA_12, eB_1, eB_2, ok_bind, gz, gs, sz, sy, if_pos (len2 _ _), tup2]; rfl)
  rw [show (List.range (own : Int).toNat).filter (fun j : Nat => (fun _ : Int => true) (j : Int)) = List.range own from List.filter_eq_self.mpr (fun _ _ => rfl)] at c1
  obtain ⟨ks, hks, hks1, hks2⟩ : ∃ ks : List (List Nat × Int), evalE C (.bin true .Add (.var 3) (.comp true (.tup [.var 0, .var 12]) [12] (.range [.var 5]) [])) [some (vs t), some (vi c), some (vi many), some (.d (.list (ms.map fun m => markD (some m)))), some (.ref 0), some (vi own), some (vi j), z7, z8, z9, z10, z11, z12] [.list (ds.map fun d => .d d.data)] = .ok (.d (.list (ks.map fun m => markD (some m)))) [.list (ds.map fun d => .d d.data)] ∧ (∀ m ∈ ks, m ∈ ms ∨ (m.1 = t ∧ 0 <= m.2 ∧ m.2 < (own : Int))) ∧ ks.length <= 10100 := by
   refine ⟨ms ++ (List.range own).map (fun j : Nat => (t, (j : Int))), ?_, ?_, ?_⟩
   ·have hv : evalE C (.var 3) [some (vs t), some (vi c), some (vi many), some (.d (.list (ms.map fun m => markD (some m)))), some (.ref 0), some (vi own), some (vi j), z7, z8, z9, z10, z11, z12] [.list (ds.map fun d => .d d.data)] = .ok (.d (.list (ms.map fun m => markD (some m)))) [.list (ds.map fun d => .d d.data)] := rfl
    rw [e_bin hv c1, b_catL _ _ (by simp [line]; lia), List.map_append, List.map_map]
    rfl
   ·intro m hm
    simp only [List.mem_append, List.mem_map, List.mem_range] at hm
    rcases hm with hm | ⟨i, hi, rfl⟩
    ·exact .inl hm
    ·exact .inr ⟨rfl, by show (0 : Int) <= i; lia, by show (i : Int) < _; lia⟩
   ·simp; lia
  refine go_asg hks ?_
  refine go_asg (v := vi (mixed c j)) (σ₁ := [.list (ds.map fun d => .d d.data)]) (by simp only [eA_5, eA_18, eB_1, eB_2, ok_bind, gz, gs, sz, sy, hm] <;> rfl) ?_
  generalize mixed c j = L
  have hat := fmod_lt (L.fdiv 5) (j := (ks.length : Int) + 1) arp
  refine go_asg (v := vi ((L.fdiv 5).fmod ((ks.length : Int) + 1))) (σ₁ := [.list (ds.map fun d => .d d.data)]) (by simp only [eA_1, eA_5, eA_6, eA_17, eB_1, eB_2, ok_bind, gz, gs, sz, sy, bc_len_l, b_add, List.length_map, b_div (show (5 : Int) ≠ 0 by decide), b_mod (arq (n := ks.length))] <;> rfl) ?_
  generalize (L.fdiv 5).fmod ((ks.length : Int) + 1) = a at hat
  obtain ⟨l, hl2⟩ := hl (L.fdiv 365)
  refine go_asg (v := vs l) (σ₁ := [.list (ds.map fun d => .d d.data)]) (by simp only [eA_1, eA_5, eA_6, eA_18, eB_1, eB_2, ok_bind, gz, gs, sz, sy, hl2, b_div (show (365 : Int) ≠ 0 by decide)] <;> rfl) ?_
  have hL5 := fmod_lt L (j := 5) (by decide)
  have pick : ∀ i : Int, 0 <= i -> i < ks.length -> ∃ m, m ∈ ks ∧ ∀ σ, subscr (.d (.list (ks.map fun m => markD (some m)))) (vi i) σ = some (.d (markD (some m))) := fun i i0 i1 => by
   obtain ⟨m, hm1⟩ : ∃ m, ks[i.toNat]? = some m := ⟨_, List.getElem?_eq_getElem (by lia)⟩
   exact ⟨m, List.mem_of_getElem? hm1, fun σ => at_list _ i0 (by lia) (by simp [hm1])⟩
  have hn : evalE C (.not (.var 7)) [some (vs t), some (vi c), some (vi many), some (.d (.list (ms.map fun m => markD (some m)))), some (.ref 0), some (vi own), some (vi j), some (.d (.list (ks.map fun m => markD (some m)))), some (vi L), some (vi a), some (vs l), z11, z12] [.list (ds.map fun d => .d d.data)] = .ok (vb ks.isEmpty) [.list (ds.map fun d => .d d.data)] := by
   rw [eA_8]
   simp only [eA_5, ok_bind, gz, gs]
   show Res.ok (V.d (.bool (!(!(ks.map fun m => markD (some m)).isEmpty)))) _ = _
   rw [Bool.not_not, List.isEmpty_map]
  refine go_ite (t := decide (L.fmod 5 < 3) || ks.isEmpty) (σ₁ := [.list (ds.map fun d => .d d.data)]) (e_or2 (by simp only [eA_1, eA_5, eA_6, eA_10, ok_bind, gz, gs, c_lt, lt_i, b_mod (show (5 : Int) ≠ 0 by decide)] <;> rfl) (fun _ => hn)) (fun h => ?_) (fun h => ?_)
  ·refine go_asg (v := .d .none) (σ₁ := [.list (ds.map fun d => .d d.data)]) rfl ?_
   refine go_mid (M := fun ρ σ => (∃ o : Option (List Nat × Int), (∀ m, o = some m -> m ∈ ks) ∧ ρ = [some (vs t), some (vi c), some (vi many), some (.d (.list (ms.map fun m => markD (some m)))), some (.ref 0), some (vi own), some (vi j), some (.d (.list (ks.map fun m => markD (some m)))), some (vi L), some (vi a), some (vs l), some (.d (markD o)), z12]) ∧ σ = [.list (ds.map fun d => .d d.data)]) ?_ ?_
   ·refine go_ite (t := decide (a > 0)) (σ₁ := [.list (ds.map fun d => .d d.data)]) rfl (fun h => ?_) (fun h => ?_)
    ·simp only [decide_eq_true_eq] at h
     obtain ⟨m, hm1, hm2⟩ := pick (a - 1) (by lia) (by lia)
     exact go_asg (v := .d (markD (some m))) (σ₁ := [.list (ds.map fun d => .d d.data)]) (by simp only [eA_1, eA_5, eA_6, eA_15, ok_bind, gz, gs, sz, sy, b_sub, hm2] <;> rfl) (go_nil ⟨_, _, ⟨⟨some m, (fun m' e => by cases e; exact hm1), rfl⟩, rfl⟩, rfl⟩)
    ·exact go_nil ⟨_, _, ⟨⟨none, (fun m' e => by exact none_ne e), rfl⟩, rfl⟩, rfl⟩
   rintro _ _ ⟨⟨o, ho, rfl⟩, rfl⟩
   have hput := put ⟨kadd, o, some l⟩
   refine go_exp (v := .d .none) (σ₁ := [.list ((ds ++ [(⟨kadd, o, some l⟩ : Deed)]).map fun d : Deed => V.d d.data)]) ?_ ?_
   ·simp only [eA_1, eA_5, eA_12, eA_19, eB_1, eB_2, ok_bind, gz, gs, hpre, if_true, if_pos (len3 _ _ _), tup3, k_add]
    exact hput
   ·refine go_asg (v := vi ((own : Int) + 1)) (σ₁ := [.list ((ds ++ [(⟨kadd, o, some l⟩ : Deed)]).map fun d : Deed => V.d d.data)]) rfl (go_nil (fin ⟨kadd, o, some l⟩ (own + 1) _ (by rw [adds_snoc]; exact congrArg (· + 1) g0) (.inl ⟨rfl, l, rfl⟩) (fun m e => hks1 m (ho m e)) ⟨_, _, _, _, _, _, _, rfl⟩))
  ·simp only [Bool.or_eq_false_iff, decide_eq_false_iff_not] at h
   have hpos : 0 < ks.length := by
    induction ks with
    | nil => cases h.2
    | cons _ _ => simp
   have hi := fmod_lt a (j := (ks.length : Int)) (by lia)
   obtain ⟨m, hm1, hm2⟩ := pick (a.fmod ks.length) hi.1 hi.2
   refine go_ite (t := decide (L.fmod 5 = 3)) (σ₁ := [.list (ds.map fun d => .d d.data)]) (by simp only [eA_1, eA_5, eA_6, eA_10, ok_bind, gz, gs, sz, sy, c_eq, eq_int, b_mod (show (5 : Int) ≠ 0 by decide)] <;> rfl) (fun h => ?_) (fun h => ?_)
   ·have hput := put ⟨kcut, some m, none⟩
    refine go_exp (v := .d .none) (σ₁ := [.list ((ds ++ [(⟨kcut, some m, none⟩ : Deed)]).map fun d : Deed => V.d d.data)]) ?_ (go_nil (fin ⟨kcut, some m, none⟩ own [some (vs t), some (vi c), some (vi many), some (.d (.list (ms.map fun m => markD (some m)))), some (.ref 0), some (vi own), some (vi j), some (.d (.list (ks.map fun m => markD (some m)))), some (vi L), some (vi a), some (vs l), z11, z12] (by rw [adds_snoc]; exact g0) (.inr (.inr ⟨rfl, m, rfl⟩)) (fun m' e => by cases e; exact hks1 m hm1) ⟨_, _, _, _, _, _, _, rfl⟩))
    simp only [eA_1, eA_5, eA_6, eA_12, eA_15, eA_17, eA_19, eB_1, eB_2, ok_bind, gz, gs, sz, sy, bc_len_l, hpre, if_true, if_pos (len2 _ _), tup2, k_cut, List.length_map, b_mod (ars hpos), hm2]
    exact hput
   ·have hput := put ⟨kset, some m, some l⟩
    refine go_exp (v := .d .none) (σ₁ := [.list ((ds ++ [(⟨kset, some m, some l⟩ : Deed)]).map fun d : Deed => V.d d.data)]) ?_ (go_nil (fin ⟨kset, some m, some l⟩ own [some (vs t), some (vi c), some (vi many), some (.d (.list (ms.map fun m => markD (some m)))), some (.ref 0), some (vi own), some (vi j), some (.d (.list (ks.map fun m => markD (some m)))), some (vi L), some (vi a), some (vs l), z11, z12] (by rw [adds_snoc]; exact g0) (.inr (.inl ⟨rfl, m, l, rfl, rfl⟩)) (fun m' e => by cases e; exact hks1 m hm1) ⟨_, _, _, _, _, _, _, rfl⟩))
    simp only [eA_1, eA_5, eA_6, eA_12, eA_15, eA_17, eA_19, eB_1, eB_2, ok_bind, gz, gs, sz, sy, bc_len_l, hpre, if_true, if_pos (len3 _ _ _), tup3, k_set, List.length_map, b_mod (ars hpos), hm2]
    exact hput
 ·rintro ⟨ds, own⟩ ρ σ ⟨g0, g1, g2, g3⟩ ⟨⟨z6, z7, z8, z9, z10, z11, z12, rfl⟩, rfl⟩
  exact go_ret (v := .ref 0) (σ₁ := [.list (ds.map fun d => .d d.data)]) rfl ⟨ds, by rw [g1]; simp, g2, g3, rfl⟩
theorem ev_deeds (t : List Nat) (c many : Int) (ms : List (List Nat × Int)) (h0 : 0 <= many) (h1 : many <= 100) (hml : ms.length <= 10000) :
 ∃ ds : List Deed, ds.length = many.toNat ∧ DOk t ms ds 0 ∧ (∀ d ∈ ds, Shp d) ∧ ∀ σ, callF P14 fuel (n + 2) .frz 8 [vs t, vi c, vi many, .d (.list (ms.map fun m => markD (some m)))] σ = .ok (.d (.list (ds.map Deed.data))) σ := by
 obtain ⟨ds, k1, k2, k4, k3⟩ := run_deeds (C := ⟨callF P14 fuel (n + 1), fuel⟩) (fun c k σ => ev_mixed c k) (fun c => ev_line c) t c many ms h0 h1 hml
 exact ⟨ds, k1, k2, k4, fun σ => frz_ok P8 rfl (run_ret rfl k3) (snap_ref (by rw [List.map_map]; rfl))⟩
end
end Mine.Internal
namespace Mine.Internal
open PySem
section
variable {α : Type} {C : Cfg} {ρ : Vars} {σ σ₁ : Store} {e : E} {it : It} {body r : List S} {l : List α} {Q : Res Fl -> Prop} {x y : Nat}
theorem enumV_d (a : List PyData) (k : Nat) : enumV k (a.map .d) = (a.zipIdx k).map fun p => V.d (.tuple [.int (p.2 : Int), p.1]) := by
 induction a generalizing k with
 | nil => rfl
 | cons x a ih => show _ :: enumV (k + 1) (a.map .d) = _; rw [ih]; rfl
theorem it_enum {xs : List PyData} (h : evalE C e ρ σ = .ok (.d (.list xs)) σ₁) : evalIt C (.enum e) ρ σ = .ok (.items ((xs.zipIdx).map fun p => V.d (.tuple [.int (p.2 : Int), p.1]))) σ₁ := by
 rw [eI_3, h, ok_bind]
 have e : dlist (.d (.list xs)) = some (xs.map .d) := rfl
 rw [e, <- enumV_d]
theorem go_foldT {γ : Type} (u v : α -> PyData) (R : List α -> γ -> Prop) (I : γ -> Vars -> Store -> Prop) (s : γ) (hit : evalIt C it ρ σ = .ok (.items (l.map fun a => V.d (.tuple [u a, v a]))) σ₁) (hR : R [] s) (hI : I s ρ σ₁)
 (hf : ∀ p a q s ρ σ, l = p ++ a :: q -> R p s -> I s ρ σ -> ∃ s' ρ' σ', R (p ++ [a]) s' ∧ I s' ρ' σ' ∧ execSs C body ((ρ.set x (some (.d (u a)))).set y (some (.d (v a)))) σ = .ok (.next ρ') σ')
 (k : ∀ s' ρ' σ', R l s' -> I s' ρ' σ' -> Ends Q (execSs C r ρ' σ')) : Ends Q (execSs C (.for_ [x, y] it body :: r) ρ σ) := by
 have hs : ∀ a ρ σ, forStep [x, y] (fun ρ σ => execSs C body ρ σ) (V.d (.tuple [u a, v a])) ρ σ = execSs C body ((ρ.set x (some (.d (u a)))).set y (some (.d (v a)))) σ := by
  intro a ρ σ; rfl
 obtain ⟨s', ρ', σ', h1, h2, h3⟩ := forGo_fold (f := forStep [x, y] (fun ρ σ => execSs C body ρ σ)) I (fun a => V.d (.tuple [u a, v a])) l R [] s ρ σ₁ hR hI (by
  intro p a q s ρ σ he hR hI
  rw [hs]
  exact hf p a q s ρ σ (by exact he) hR hI)
 rw [x_for hit, h3, ok_bind]
 exact k s' ρ' σ' (by exact h1) h2
end
section
variable {fuel n : Nat} {σ : Store}
theorem idx_fst : ∀ (l : List Ch) (k : Nat), (l.zipIdx k).map (·.1.1) = l.map (·.1)
 | [], _ => rfl
 | _ :: l, k => by rw [List.zipIdx_cons, List.map_cons, List.map_cons, idx_fst l (k + 1)]
theorem sort_ref (l : List (List Nat)) (h : l.length < 64) : bcall .sorted false [.ref 0] [.list (l.map vs)] = .ok (.ref 1) [.list (l.map vs), .list ((isort l).map vs)] := by
 have h2 : (l.map Tx).length < 64 := by simpa using h
 show bSort false (.ref 0) [.list (l.map vs)] = _
 have hl : lstOf [.list (l.map vs)] (.ref 0) = some (l.map vs) := rfl
 have hm : (((isort l).map Tx).map fun s => V.d (.str s)).length <= line := by simp [isort_len, line]; lia
 simp only [bSort, hl, strsV_vs, if_pos h2, sortStr_Tx, mkList, if_pos hm]
 simp [List.map_map, Function.comp_def]
theorem run_leans {C : Cfg} (hm : ∀ c k σ, C.cf .frz 3 [vi c, vi k] σ = .ok (vi (mixed c k)) σ) (c : Int) (cs : List Ch) (hcs : cs.length <= 60) :
 Ends (fun r => ∃ fs : List (List Nat), fs.Sublist (cs.map (·.1)) ∧ r = .ok (.ret (.ref 1)) [.list (fs.map vs), .list ((isort fs).map vs)])
  (execSs C Flaw_leans.body [some (vi c), some (.d (.list (cs.map Ch.data))), none, none, none, none, none] []) := by
 show Ends _ (execSs C [_, _, _, _] _ [])
 refine go_asg (v := vi (mixed c 1)) (σ₁ := []) (by simp only [eA_1, eA_5, eA_18, eB_1, eB_2, ok_bind, gz, hm] <;> rfl) ?_
 refine go_asg (v := .ref 0) (σ₁ := [.list []]) (by simp only [eA_13, eB_1, ok_bind, sz, sy, mkList] <;> rfl) ?_
 have hit := it_enum (C := C) (e := .var 1) (ρ := [some (vi c), some (.d (.list (cs.map Ch.data))), some (vi (mixed c 1)), some (.ref 0), none, none, none]) (σ := [.list []]) (σ₁ := [.list []]) (xs := cs.map Ch.data) rfl
 have hz : (cs.map Ch.data).zipIdx.map (fun p => V.d (.tuple [.int (p.2 : Int), p.1])) = cs.zipIdx.map fun p => V.d (.tuple [.int (p.2 : Int), Ch.data p.1]) := by
  rw [List.zipIdx_map, List.map_map]; rfl
 rw [hz] at hit
 refine go_foldT (l := cs.zipIdx) (σ₁ := [.list []]) (fun p => .int (p.2 : Int)) (fun p => Ch.data p.1) (fun pre (fs : List (List Nat)) => fs.Sublist (pre.map (·.1.1)))
  (fun (fs : List (List Nat)) ρ σ => (∃ L : Int, ∃ z4 z5 z6, ρ = [some (vi c), some (.d (.list (cs.map Ch.data))), some (vi L), some (.ref 0), z4, z5, z6]) ∧ σ = [.list (fs.map vs)]) [] hit (List.Sublist.refl _) ⟨⟨_, none, none, none, rfl⟩, rfl⟩ ?_ ?_
 ·rintro p ⟨ch, i⟩ q fs ρ σ hp g1 ⟨⟨L, z4, z5, z6, rfl⟩, rfl⟩
  have hlen : fs.length < 100 := by
   have h1 := g1.length_le
   have h2 := congrArg List.length hp
   simp at h1 h2; lia
  show Ends (fun r => ∃ (s' : List (List Nat)) (ρ' : Vars) (σ' : Store), s'.Sublist ((p ++ [(ch, i)]).map (·.1.1)) ∧ ((∃ L : Int, ∃ z4 z5 z6, ρ' = [some (vi c), some (.d (.list (cs.map Ch.data))), some (vi L), some (.ref 0), z4, z5, z6]) ∧ σ' = [.list (s'.map vs)]) ∧ r = .ok (.next ρ') σ') (execSs C [_, _, _, _] _ _)
  have h3 := fmod_lt c (j := 3) (by decide)
  have hne : (2 : Int) + c.fmod 3 ≠ 0 := by omega
  have ha : evalE C (.bop .And [.cmp .Eq (.var 4) (.bin true .Sub (.bcall .len true [.var 1]) (.cst (.int 1))), .cmp .Eq (.bin true .Mod (.var 0) (.cst (.int 7))) (.cst (.int 3))]) [some (vi c), some (.d (.list (cs.map Ch.data))), some (vi L), some (.ref 0), some (vi i), some (.d (Ch.data ch)), z6] [.list (fs.map vs)] = .ok (vb (decide ((i : Int) = (cs.map Ch.data).length - 1) && decide (c.fmod 7 = 3))) [.list (fs.map vs)] :=
   e_and2 (by simp only [eA_1, eA_5, eA_6, eA_10, eA_17, eB_1, eB_2, ok_bind, gz, gs, bc_len_l, c_eq, eq_int, b_sub] <;> rfl) (fun _ => (by simp only [eA_1, eA_5, eA_6, eA_10, ok_bind, gz, c_eq, eq_int, b_mod (show (7 : Int) ≠ 0 by decide)] <;> rfl))
  refine go_asg (v := vb (decide ((i : Int) = (cs.map Ch.data).length - 1) && decide (c.fmod 7 = 3))) (σ₁ := [.list (fs.map vs)]) ha ?_
  generalize (decide ((i : Int) = (cs.map Ch.data).length - 1) && decide (c.fmod 7 = 3)) = last
  refine go_mid (M := fun ρ σ => ∃ fs' : List (List Nat), fs'.Sublist ((p ++ [(ch, i)]).map (·.1.1)) ∧ ρ = [some (vi c), some (.d (.list (cs.map Ch.data))), some (vi L), some (.ref 0), some (vi i), some (.d (Ch.data ch)), some (vb last)] ∧ σ = [.list (fs'.map vs)]) ?_ ?_
  ·refine go_ite (t := last || (decide (L.fmod (2 + c.fmod 3) = 0) && (decide (((cs.map Ch.data).length : Int) < 20) || decide ((i : Int).fmod 7 = (L.fdiv 4).fmod 7)))) (σ₁ := [.list (fs.map vs)])
    (e_or2 (by simp only [eA_5, gz, gs, sz, sy] <;> rfl) (fun _ => e_and2 (by simp only [eA_1, eA_5, eA_6, eA_10, ok_bind, gz, gs, sz, sy, c_eq, eq_int, b_add, b_mod (show (3 : Int) ≠ 0 by decide), b_mod hne] <;> rfl) (fun _ => e_or2 (by simp only [eA_1, eA_5, eA_10, eA_17, eB_1, eB_2, ok_bind, gz, gs, sz, sy, bc_len_l, c_lt, lt_i] <;> rfl) (fun _ => (by simp only [eA_1, eA_5, eA_6, eA_10, ok_bind, gz, gs, sz, sy, c_eq, eq_int, b_mod (show (7 : Int) ≠ 0 by decide), b_div (show (4 : Int) ≠ 0 by decide)] <;> rfl))))) (fun _ => ?_) (fun _ => ?_)
   ·have hll : (fs.map vs).length < line := by simp [line]; (exact le_c ‹_› (by rfl))
    have hput : methcall .append true (.ref 0) [vs ch.1] [.list (fs.map vs)] = .ok (.d .none) [.list ((fs ++ [ch.1]).map vs)] := by
     show (if _ then _ else _) = _; rw [if_pos hll]
     simp
    have hpre : methPre .append (.ref 0) [.list (fs.map vs)] = true := rfl
    refine go_exp (v := .d .none) (σ₁ := [.list ((fs ++ [ch.1]).map vs)]) ?_ (go_nil ⟨_, _, ⟨fs ++ [ch.1], by simpa using g1.append (List.Sublist.refl [ch.1]), rfl, rfl⟩, rfl⟩)
    simp only [eA_1, eA_5, eA_15, eA_19, eB_1, eB_2, ok_bind, gz, gs, sz, sy, hpre, if_true, sub_ch0]
    exact hput
   ·exact go_nil ⟨_, _, ⟨fs, by simpa using g1.trans (List.sublist_append_left _ [ch.1]), rfl, rfl⟩, rfl⟩
  rintro _ _ ⟨fs', k1, rfl, rfl⟩
  refine go_asg (v := vi (L.fdiv 3)) (σ₁ := [.list (fs'.map vs)]) (by simp only [eA_1, eA_5, eA_6, ok_bind, gz, gs, b_div (show (3 : Int) ≠ 0 by decide)] <;> rfl) ?_
  refine go_ite (t := decide (L.fdiv 3 < 100)) (σ₁ := [.list (fs'.map vs)]) rfl (fun _ => ?_) (fun _ => ?_)
  ·exact go_asg (v := vi (mixed c ((i : Int) + 2))) (σ₁ := [.list (fs'.map vs)]) (by simp only [eA_1, eA_5, eA_6, eA_18, eB_1, eB_2, ok_bind, gz, gs, sz, sy, b_add, hm] <;> rfl) (go_nil ⟨fs', _, _, k1, ⟨⟨_, _, _, _, rfl⟩, rfl⟩, rfl⟩)
  ·exact go_nil ⟨fs', _, _, k1, ⟨⟨_, _, _, _, rfl⟩, rfl⟩, rfl⟩
 ·rintro fs ρ σ g1 ⟨⟨L, z4, z5, z6, rfl⟩, rfl⟩
  have g2 : fs.Sublist (cs.map (·.1)) := by
   have e : cs.zipIdx.map (·.1.1) = cs.map (·.1) := idx_fst cs 0
   rw [<- e]; exact g1
  have hl := g2.length_le
  refine go_ret (v := .ref 1) (σ₁ := [.list (fs.map vs), .list ((isort fs).map vs)]) ?_ ⟨fs, g2, rfl⟩
  simp only [eA_5, eA_17, eB_1, eB_2, ok_bind, gz, gs]
  exact sort_ref fs (by simp at hl; lia)
end
section
variable {fuel n : Nat} {σ : Store}
theorem snapL_fresh (l : List (List Nat)) (k : Nat) : snapL (fresh σ (k + 1)) (l.map vs) = some (l.map fun t => .str (Tx t)) := by
 induction l with
 | nil => rfl
 | cons a l ih =>
  show (match snapL (fresh σ (k + 1)) (l.map vs) with | some xs => some (PyData.str (Tx a) :: xs) | none => none) = _
  rw [ih]; rfl
theorem fresh_ref {k : Nat} {l : List (List Nat)} (h : σ[k]? = some (.list (l.map vs))) : fresh σ 8 (.ref k) = some (dl l) := by
 show snapO (fresh σ 7) σ[k]? = _
 rw [h]
 show (match snapL (fresh σ 7) (l.map vs) with | some xs => some (PyData.list xs) | none => none) = _
 rw [snapL_fresh]
theorem ev_leans (c : Int) (cs : List Ch) (hcs : cs.length <= 60) : ∃ fs : List (List Nat), fs.Sublist (cs.map (·.1)) ∧ ∀ σ k, σ[k]? = some (.list (cs.map fun x => V.d x.data)) -> callF P14 fuel (n + 2) .frz 6 [vi c, .ref k] σ = .ok (.d (dl (isort fs))) σ := by
 obtain ⟨fs, h1, h2⟩ := run_leans (C := ⟨callF P14 fuel (n + 1), fuel⟩) (fun c k σ => ev_mixed c k) c cs hcs
 refine ⟨fs, h1, fun σ k hk => ?_⟩
 refine frz_lent (xs := [vi c, .d (.list (cs.map Ch.data))]) P6 rfl ?_ (run_ret rfl h2) (fresh_ref rfl)
 have e1 : snap σ 8 (.ref k) = some (.list (cs.map Ch.data)) := snap_ref (by rw [hk, List.map_map]; rfl)
 have e : snap σ 8 (vi c) = some (.int c) := rfl
 have e2 : lent σ [.ref k] = some [.d (.list (cs.map Ch.data))] := by
  show (match snap σ 8 (.ref k), lent σ [] with | some x, some xs => some (V.d x :: xs) | _, _ => none) = _
  rw [e1]; rfl
 show (match snap σ 8 (vi c), lent σ [.ref k] with | some x, some xs => some (V.d x :: xs) | _, _ => none) = _
 rw [e2]; rfl
end
section
variable {α : Type} {C : Cfg} {ρ : Vars} {σ : Store} {it : It} {body r : List S} {cs : List α} {Q : Res Fl -> Prop} {x k : Nat}
theorem forS_fold {γ : Type} {f : V -> Vars -> Store -> Res Fl} (w : α -> V) (R : List α -> γ -> Prop) (I : γ -> Vars -> Prop) (hk : σ[k]? = some (.list (cs.map w)))
 (hf : ∀ p a q s ρ, cs = p ++ a :: q -> R p s -> I s ρ -> ∃ s' ρ', R (p ++ [a]) s' ∧ I s' ρ' ∧ f (w a) ρ σ = .ok (.next ρ') σ) :
 ∀ (l pre : List α) (s : γ) (ρ : Vars), cs = pre ++ l -> R pre s -> I s ρ -> ∃ s' ρ', R cs s' ∧ I s' ρ' ∧ forS f (l.length + 1) (.lref k pre.length) ρ σ = .ok (.next ρ') σ
 | [], pre, s, ρ, he, hR, hI => by
  refine ⟨s, ρ, by rw [he, List.append_nil]; exact hR, hI, ?_⟩
  show forOne _ f ρ σ (nextAt k pre.length σ[k]?) = _
  rw [hk]
  have e : (cs.map w)[pre.length]? = none := by rw [he]; simp
  show forOne _ f ρ σ (match (cs.map w)[pre.length]? with | some v => some (some (v, Src.lref k (pre.length + 1))) | none => some none) = _
  rw [e]; rfl
 | a :: l, pre, s, ρ, he, hR, hI => by
  obtain ⟨s', ρ', h1, h2, h3⟩ := hf pre a l s ρ he hR hI
  obtain ⟨s2, ρ2, k1, k2, k3⟩ := forS_fold w R I hk hf l (pre ++ [a]) s' ρ' (by simp [he]) h1 h2
  refine ⟨s2, ρ2, k1, k2, ?_⟩
  show forOne (forS f (l.length + 1)) f ρ σ (nextAt k pre.length σ[k]?) = _
  rw [hk]
  have e : (cs.map w)[pre.length]? = some (w a) := by rw [he]; simp
  show forOne (forS f (l.length + 1)) f ρ σ (match (cs.map w)[pre.length]? with | some v => some (some (v, Src.lref k (pre.length + 1))) | none => some none) = _
  rw [e]
  show (f (w a) ρ σ).bind _ = _
  rw [h3, ok_bind]
  rw [List.length_append] at k3
  exact k3
theorem go_foldR {γ : Type} (w : α -> V) (R : List α -> γ -> Prop) (I : γ -> Vars -> Prop) (s : γ) (hk : σ[k]? = some (.list (cs.map w))) (hit : evalIt C it ρ σ = .ok (.lref k 0) σ) (hR : R [] s) (hI : I s ρ)
 (hf : ∀ p a q s ρ, cs = p ++ a :: q -> R p s -> I s ρ -> ∃ s' ρ', R (p ++ [a]) s' ∧ I s' ρ' ∧ execSs C body (ρ.set x (some (w a))) σ = .ok (.next ρ') σ)
 (kk : ∀ s' ρ', R cs s' -> I s' ρ' -> Ends Q (execSs C r ρ' σ)) : Ends Q (execSs C (.for_ [x] it body :: r) ρ σ) := by
 have hs : ∀ v ρ σ, forStep [x] (fun ρ σ => execSs C body ρ σ) v ρ σ = execSs C body (ρ.set x (some v)) σ := by intro v ρ σ; rfl
 obtain ⟨s', ρ', h1, h2, h3⟩ := forS_fold (f := forStep [x] (fun ρ σ => execSs C body ρ σ)) w R I hk (by
  intro p a q s ρ he hR hI
  rw [hs]
  exact hf p a q s ρ he hR hI) cs [] s ρ rfl hR hI
 have h3 : forS (forStep [x] (fun ρ σ => execSs C body ρ σ)) (cs.length + 1) (.lref k 0) ρ σ = .ok (.next ρ') σ := h3
 have hfu : (Src.lref k 0).fuel σ = cs.length + 1 := by
  have e : lstOf σ (.ref k) = some (cs.map w) := by
   show (match σ[k]? with | some (.list vs) => some vs | _ => none) = _
   rw [hk]
  show (match lstOf σ (.ref k) with | some ws => ws.length + 1 | none => 0) = _
  rw [e, <- List.length_map (f := w) (as := cs)]
 rw [xB_2, xA_8, hit, ok_bind, hfu, h3, ok_bind]
 exact kk s' ρ' h1 h2
end
end Mine.Internal
namespace Mine.Internal
open PySem
structure GenCh (c : Ch) : Prop where
 name : isName c.1 = true
 few : c.2.1.length <= 60
 deeds : c.2.2.length <= 20
 shp : ∀ d ∈ c.2.2, Shp d
theorem ownM_range (nm : List Nat) (n k : Nat) : ownM nm k n = (List.range n).map fun j : Nat => (nm, ((k + j : Nat) : Int)) := by
 induction n generalizing k with
 | zero => rfl
 | succ n ih =>
  rw [List.range_succ_eq_map, List.map_cons, List.map_map]
  show (nm, (k : Int)) :: ownM nm (k + 1) n = _
  rw [ih]
  congr 1
  refine List.map_congr_left fun j _ => ?_
  show (nm, ((k + 1 + j : Nat) : Int)) = (nm, ((k + (j + 1) : Nat) : Int))
  rw [show k + 1 + j = k + (j + 1) by omega]
theorem ownM_zero (nm : List Nat) (n : Nat) : ownM nm 0 n = (List.range n).map fun j : Nat => (nm, (j : Int)) := by
 rw [ownM_range]; simp
theorem lmarks_snoc (pre : List Ch) (c : Ch) (ls : List (List Nat)) : lmarks (pre ++ [c]) ls = lmarks pre ls ++ (if c.1 ∈ ls then ownM c.1 0 (adds c.2.2) else []) := by
 unfold lmarks
 rw [List.filter_append, List.flatMap_append]
 congr 1
 by_cases h : c.1 ∈ ls
 ·rw [if_pos h, List.filter_cons_of_pos (by exact decide_eq_true h)]; simp
 ·rw [if_neg h, List.filter_cons_of_neg (by simpa using h)]; rfl
theorem ChsOk.snoc {cs : List Ch} {c : Ch} (H : ChsOk cs) (hn : c.1 ∉ cs.map (·.1)) (hl : ∀ l ∈ c.2.1, l ∈ cs.map (·.1)) (hd : DOk c.1 (lmarks cs c.2.1) c.2.2 0) : ChsOk (cs ++ [c]) := by
 refine ⟨?_, fun pre x post e => ?_⟩
 ·rw [List.map_append, List.nodup_append]
  refine ⟨H.nd, by simp, fun a ha b hb e => hn ?_⟩
  have : b = c.1 := by simpa using hb
  rw [<- this, <- e]; exact ha
 ·rcases List.eq_nil_or_concat post with rfl | ⟨post', y, rfl⟩
  ·have e' : cs ++ [c] = pre ++ [x] := e
   obtain ⟨rfl, e2⟩ := List.append_inj' e' rfl
   cases e2
   exact ⟨hl, hd⟩
  ·have e' : cs ++ [c] = (pre ++ x :: post') ++ [y] := by rw [e]; simp
   obtain ⟨e1, _⟩ := List.append_inj' e' rfl
   exact H.ok _ _ _ e1
section
variable {fuel n : Nat} {σ : Store}
theorem P9 : P14 9 = some Flaw_changes := rfl
theorem k_zero : Str.ofString "0" = Tx [48] := by decide +kernel
theorem zero_name : isName [48] = true := by decide
theorem sm4 (i : Int) : (small 4 || small i) = true := by rw [show small 4 = true by decide]; rfl
theorem sub_sc {ns : List Int} (i : Int) (h0 : 0 <= i) (h : i < ns.length) (hn : ns.length <= 1000) : subscr (.d (scD ns)) (vi i) σ = some (vi (cellOf ns i.toNat)) := by
 have hi : i.toNat < ns.length := by lia
 refine at_list i h0 (by lia) ?_
 rw [List.getElem?_map, List.getElem?_eq_getElem hi]
 show some (PyData.int ns[i.toNat]) = some (.int (cellOf ns i.toNat))
 rw [cellOf, List.getD_eq_getElem?_getD, List.getElem?_eq_getElem hi]; rfl
theorem ch1 {k m : Int} (h0 : 0 <= k) (h : 4 * (k + 1) <= m) : 0 <= 4 * k ∧ 4 * k < m ∧ 0 <= 4 * k + 1 ∧ 4 * k + 1 < m ∧ 0 <= 4 * k + 2 ∧ 4 * k + 2 < m ∧ 0 <= 4 * k + 3 ∧ 4 * k + 3 < m := by
 have a : 0 <= 4 * k := Int.mul_nonneg (by decide) h0
 have b : 4 * k + 4 <= m := by rw [Int.mul_add] at h; exact h
 have c : ∀ j : Int, j < 4 -> 4 * k + j < m := fun j hj => Int.lt_of_lt_of_le (Int.add_lt_add_left hj _) b
 exact ⟨a, Int.lt_of_lt_of_le (Int.lt_add_of_pos_right _ (by decide)) b, Int.add_nonneg a (by decide), c 1 (by decide), Int.add_nonneg a (by decide), c 2 (by decide), Int.add_nonneg a (by decide), c 3 (by decide)⟩
theorem turn_changes {C : Cfg}
 (hname : ∀ (c : Int) (tk : List (List Nat)), (∀ x ∈ tk, isName x = true) -> tk.length < 100 -> ∃ x, isName x = true ∧ x ∉ tk ∧ ∀ σ k, σ[k]? = some (.list (tk.map vs)) -> C.cf .frz 4 [vi c, .ref k] σ = .ok (vs x) σ)
 (hleans : ∀ (c : Int) (cs : List Ch), cs.length <= 60 -> ∃ fs : List (List Nat), fs.Sublist (cs.map (·.1)) ∧ ∀ σ k, σ[k]? = some (.list (cs.map fun x => V.d x.data)) -> C.cf .frz 6 [vi c, .ref k] σ = .ok (.d (dl (isort fs))) σ)
 (hmarks : ∀ (c : Ch), c.2.2.length <= 100 -> ∀ σ, C.cf .frz 7 [.d c.data] σ = .ok (.d (.list ((List.range (adds c.2.2)).map fun j : Nat => markD (some (c.1, (j : Int)))))) σ)
 (hdeeds : ∀ (t : List Nat) (c many : Int) (ms : List (List Nat × Int)), 0 <= many -> many <= 100 -> ms.length <= 10000 ->
  ∃ ds : List Deed, ds.length = many.toNat ∧ DOk t ms ds 0 ∧ (∀ d ∈ ds, Shp d) ∧ ∀ σ, C.cf .frz 8 [vs t, vi c, vi many, .d (.list (ms.map fun m => markD (some m)))] σ = .ok (.d (.list (ds.map Deed.data))) σ)
 (ns : List Int) (most k : Int) (hns : ns.length <= 1000) (h0 : 0 <= k) (hk : 4 * (k + 1) <= ns.length) (cs : List Ch) (hcs : cs.length < 60) (hg : ∀ c ∈ cs, GenCh c) (hok : ChsOk cs) (hnd : ([48] :: cs.map (·.1)).Nodup) (z5 z6 z7 z8 z9 : Option V) :
 Ends (fun r => ∃ (c : Ch) (z5 z6 z7 z8 z9 : Option V), GenCh c ∧ ChsOk (cs ++ [c]) ∧ ([48] :: (cs ++ [c]).map (·.1)).Nodup ∧ r = .ok (.next [some (.d (scD ns)), some (vi most), some (.ref 0), some (.ref 1), some (vi k), z5, z6, z7, z8, z9]) [.list ((cs ++ [c]).map fun x => V.d x.data), .list (([48] :: (cs ++ [c]).map (·.1)).map vs)])
  (execSs C (match Flaw_changes.body with | [_, _, .for_ _ _ b, _] => b | _ => []) [some (.d (scD ns)), some (vi most), some (.ref 0), some (.ref 1), some (vi k), z5, z6, z7, z8, z9] [.list (cs.map fun x => V.d x.data), .list (([48] :: cs.map (·.1)).map vs)]) := by
 show Ends _ (execSs C [_, _, _, _, _, _, _, _] _ _)
 have q_z := ch1 h0 hk
 have b1 := q_z.1
 have b2 := q_z.2.1
 have b3 := q_z.2.2.1
 have b4 := q_z.2.2.2.1
 have b5 := q_z.2.2.2.2.1
 have b6 := q_z.2.2.2.2.2.1
 have b7 := q_z.2.2.2.2.2.2.1
 have b8 := q_z.2.2.2.2.2.2.2
 have hnm : ∀ x ∈ ([48] :: cs.map (·.1)), isName x = true := by
  intro x hx
  rcases List.mem_cons.mp hx with rfl | hx
  ·exact zero_name
  ·obtain ⟨c, hc, rfl⟩ := List.mem_map.mp hx
   exact (hg c hc).name
 have hc3 := fun σ => sub_sc (σ := σ) (4 * k + 3) b7 b8 hns
 obtain ⟨t, t1, t2, t3⟩ := hname (cellOf ns (4 * k).toNat) ([48] :: cs.map (·.1)) hnm (by simp; (exact lt_c ‹_› (by rfl)))
 have t3 := t3 [.list (cs.map fun x => V.d x.data), .list (([48] :: cs.map (·.1)).map vs)] 1 rfl
 refine go_asg (v := vs t) (σ₁ := [.list (cs.map fun x => V.d x.data), .list (([48] :: cs.map (·.1)).map vs)]) (by simp only [eA_1, eA_5, eA_6, eA_15, eA_18, eB_1, eB_2, ok_bind, gz, gs, b_mul (sm4 k), sub_sc (4 * k) b1 b2 hns, t3] <;> rfl) ?_
 have hap : methcall .append true (.ref 1) [vs t] [.list (cs.map fun x => V.d x.data), .list (([48] :: cs.map (·.1)).map vs)] = .ok (.d .none) [.list (cs.map fun x => V.d x.data), .list (([48] :: cs.map (·.1) ++ [t]).map vs)] := by
  have hll : (([48] :: cs.map (·.1)).map vs).length < line := by simp [line]; (exact lt_c ‹_› (by rfl))
  refine (if_pos hll).trans ?_
  simp
 have hpre : methPre .append (.ref 1) [.list (cs.map fun x => V.d x.data), .list (([48] :: cs.map (·.1)).map vs)] = true := rfl
 refine go_exp (v := .d .none) (σ₁ := [.list (cs.map fun x => V.d x.data), .list (([48] :: cs.map (·.1) ++ [t]).map vs)]) (by simp only [eA_5, eA_19, eB_1, eB_2, ok_bind, gz, gs, sz, sy, hpre, if_true]; exact hap) ?_
 obtain ⟨fs, f1, f2⟩ := hleans (cellOf ns (4 * k + 1).toNat) cs (by (exact Nat.le_of_lt ‹_›))
 have f2 := f2 [.list (cs.map fun x => V.d x.data), .list (([48] :: cs.map (·.1) ++ [t]).map vs)] 0 rfl
 refine go_asg (v := .d (dl (isort fs))) (σ₁ := [.list (cs.map fun x => V.d x.data), .list (([48] :: cs.map (·.1) ++ [t]).map vs)]) (by simp only [eA_1, eA_5, eA_6, eA_15, eA_18, eB_1, eB_2, ok_bind, gz, gs, sz, sy, b_add, b_mul (sm4 k), sub_sc (4 * k + 1) b3 b4 hns, f2] <;> rfl) ?_
 refine go_asg (v := .d (.list [])) (σ₁ := [.list (cs.map fun x => V.d x.data), .list (([48] :: cs.map (·.1) ++ [t]).map vs)]) (by simp only [eA_13, eB_1, ok_bind, sz, sy, mkList, allD] <;> rfl) ?_
 have hfl : (isort fs).length <= 60 := by rw [isort_len]; have := f1.length_le; simp at this; lia
 refine go_foldR (k := 0) (cs := cs) (fun x => V.d x.data) (fun pre (ms : List (List Nat × Int)) => ms = lmarks pre (isort fs) ∧ ms.length <= 20 * pre.length)
  (fun (ms : List (List Nat × Int)) ρ => ∃ z8, ρ = [some (.d (scD ns)), some (vi most), some (.ref 0), some (.ref 1), some (vi k), some (vs t), some (.d (dl (isort fs))), some (.d (.list (ms.map fun m => markD (some m)))), z8, z9]) [] rfl (it_of (v := .ref 0) rfl rfl) ⟨rfl, by exact Nat.zero_le _⟩ ⟨_, rfl⟩ ?_ ?_
 ·rintro p c q ms ρ hp ⟨m1, m2⟩ ⟨z8, rfl⟩
  have hc : GenCh c := hg c (by rw [hp]; simp)
  have hpl : p.length < 60 := by have := congrArg List.length hp; simp at this; lia
  have j2 := hmarks c (by have := hc.deeds; (exact le_c ‹_› (by rfl)))
  have hjd := hc.deeds
  have j1 : adds c.2.2 <= c.2.2.length := by rw [<- adds_eq]; exact List.length_filter_le _ _
  have hsn := lmarks_snoc p c (isort fs)
  rw [ownM_zero] at hsn
  generalize adds c.2.2 = j at j1 j2 hsn
  show Ends (fun r => ∃ (s' : List (List Nat × Int)) (ρ' : Vars), (s' = lmarks (p ++ [c]) (isort fs) ∧ s'.length <= 20 * (p ++ [c]).length) ∧ (∃ z8, ρ' = [some (.d (scD ns)), some (vi most), some (.ref 0), some (.ref 1), some (vi k), some (vs t), some (.d (dl (isort fs))), some (.d (.list (s'.map fun m => markD (some m)))), z8, z9]) ∧ r = .ok (.next ρ') _) (execSs C [_] _ _)
  refine go_ite (t := decide (c.1 ∈ isort fs)) (σ₁ := [.list (cs.map fun x => V.d x.data), .list (([48] :: cs.map (·.1) ++ [t]).map vs)]) (by simp only [eA_1, eA_5, eA_10, eA_15, ok_bind, gz, gs, sz, sy, c_in, in_strs, sub_ch0] <;> rfl) (fun h => ?_) (fun h => ?_)
  ·simp only [decide_eq_true_eq] at h
   have hcat := b_catL (σ := [.list (cs.map fun x => V.d x.data), .list (([48] :: cs.map (·.1) ++ [t]).map vs)]) (ms.map fun m => markD (some m)) ((List.range j).map fun i : Nat => markD (some (c.1, (i : Int)))) (by simp [line]; lia)
   refine go_asg (v := .d (.list ((ms ++ (List.range j).map fun i : Nat => (c.1, (i : Int))).map fun m => markD (some m)))) (σ₁ := [.list (cs.map fun x => V.d x.data), .list (([48] :: cs.map (·.1) ++ [t]).map vs)]) (by simp only [eA_5, eA_6, eA_18, eB_1, eB_2, ok_bind, gz, gs, sz, sy, j2, hcat]; simp [List.map_map, Function.comp_def]) (go_nil ⟨ms ++ (List.range j).map fun i : Nat => (c.1, (i : Int)), _, ⟨?_, ?_⟩, ⟨_, rfl⟩, rfl⟩)
   ·rw [hsn, if_pos h, m1]
   ·simp; lia
  ·exact go_nil ⟨ms, _, ⟨by rw [hsn, if_neg (by simpa using h), List.append_nil]; exact m1, by simp; lia⟩, ⟨_, rfl⟩, rfl⟩
 rintro ms _ ⟨m1, m2⟩ ⟨z8, rfl⟩
 generalize cellOf ns (4 * k + 3).toNat = c3 at hc3
 have g5 := fmod_lt c3 (j := 5) (by decide)
 refine go_asg (v := vi (c3.fmod 5)) (σ₁ := [.list (cs.map fun x => V.d x.data), .list (([48] :: cs.map (·.1) ++ [t]).map vs)]) (by simp only [eA_1, eA_5, eA_6, eA_15, ok_bind, gz, gs, b_add, b_mul (sm4 k), hc3, b_mod (show (5 : Int) ≠ 0 by decide)] <;> rfl) ?_
 refine go_mid (M := fun ρ σ => (∃ q : Int, 0 <= q ∧ q <= 20 ∧ ρ = [some (.d (scD ns)), some (vi most), some (.ref 0), some (.ref 1), some (vi k), some (vs t), some (.d (dl (isort fs))), some (.d (.list (ms.map fun m => markD (some m)))), z8, some (vi q)]) ∧ σ = [.list (cs.map fun x => V.d x.data), .list (([48] :: cs.map (·.1) ++ [t]).map vs)]) ?_ ?_
 ·refine go_ite (t := decide ((c3.fdiv 5).fmod 16 = 1)) (σ₁ := [.list (cs.map fun x => V.d x.data), .list (([48] :: cs.map (·.1) ++ [t]).map vs)]) (by simp only [eA_1, eA_5, eA_6, eA_10, eA_15, ok_bind, gz, gs, sz, sy, c_eq, eq_int, b_add, b_mul (sm4 k), hc3, b_mod (show (16 : Int) ≠ 0 by decide), b_div (show (5 : Int) ≠ 0 by decide)] <;> rfl) (fun h => ?_) (fun h => ?_)
  ·have g6 := fmod_lt (c3.fdiv 80) (j := 16) (by decide)
   exact go_asg (v := vi (20 - (c3.fdiv 80).fmod 16)) (σ₁ := [.list (cs.map fun x => V.d x.data), .list (([48] :: cs.map (·.1) ++ [t]).map vs)]) (by simp only [eA_1, eA_5, eA_6, eA_15, ok_bind, gz, gs, sz, sy, b_add, b_sub, b_mul (sm4 k), hc3, b_mod (show (16 : Int) ≠ 0 by decide), b_div (show (80 : Int) ≠ 0 by decide)] <;> rfl) (go_nil ⟨_, _, ⟨⟨_, by lia, by lia, rfl⟩, rfl⟩, rfl⟩)
  ·exact go_nil ⟨_, _, ⟨⟨_, g5.1, by lia, rfl⟩, rfl⟩, rfl⟩
 rintro _ _ ⟨⟨q, q0, q1, rfl⟩, rfl⟩
 obtain ⟨ds, d1, d2, d4, d3⟩ := hdeeds t (cellOf ns (4 * k + 2).toNat) q ms q0 (by lia) (by lia)
 have hlc : (cs.map fun x => V.d x.data).length < line := by simp [line]; (exact le_c ‹_› (by rfl))
 have hput : methcall .append true (.ref 0) [.d (change t (isort fs) ds)] [.list (cs.map fun x => V.d x.data), .list (([48] :: cs.map (·.1) ++ [t]).map vs)] = .ok (.d .none) [.list ((cs ++ [(t, isort fs, ds)]).map fun x => V.d x.data), .list (([48] :: (cs ++ [(t, isort fs, ds)]).map (·.1)).map vs)] := by
  refine (if_pos hlc).trans ?_
  simp
 have hpre0 : methPre .append (.ref 0) [.list (cs.map fun x => V.d x.data), .list (([48] :: cs.map (·.1) ++ [t]).map vs)] = true := rfl
 refine go_exp (v := .d .none) (σ₁ := [.list ((cs ++ [(t, isort fs, ds)]).map fun x => V.d x.data), .list (([48] :: (cs ++ [(t, isort fs, ds)]).map (·.1)).map vs)]) ?_ (go_nil ⟨(t, isort fs, ds), _, _, _, _, _, ⟨t1, hfl, ?_, d4⟩, hok.snoc (fun h => t2 (List.mem_cons_of_mem _ h)) (fun l h => f1.subset ((isort_mem l fs).mp h)) (m1 ▸ d2), ?_, rfl⟩)
 ·simp only [eA_1, eA_5, eA_6, eA_12, eA_15, eA_18, eA_19, eB_1, eB_2, ok_bind, gz, gs, b_add, hpre0, if_true, b_mul (sm4 k), sub_sc (4 * k + 2) b5 b6 hns, d3, if_pos (len3 _ _ _), tup3]
  exact hput
 ·show ds.length <= 20
  lia
 ·rw [List.map_append, <- List.cons_append]
  rw [List.nodup_append]
  refine ⟨hnd, by simp, ?_⟩
  intro a ha b hb e
  simp only [List.map_cons, List.map_nil, List.mem_singleton] at hb
  exact t2 (by rw [<- hb, <- e]; exact ha)
end
end Mine.Internal
namespace Mine.Internal
open PySem
section
variable {fuel n : Nat} {σ : Store}
theorem bc_min {fz : Bool} {i j : Int} : bcall .min fz [vi i, vi j] σ = .ok (vi (if j < i then j else i)) σ := rfl
theorem min1 (m : Nat) (most : Int) (hm : m <= 1000) (h0 : 0 <= most) (h1 : most <= 60) : 0 <= (if most < (m : Int).fdiv 4 then most else (m : Int).fdiv 4) ∧ (if most < (m : Int).fdiv 4 then most else (m : Int).fdiv 4) <= 60 ∧ 4 * (if most < (m : Int).fdiv 4 then most else (m : Int).fdiv 4) <= m := by
 rw [Int.fdiv_eq_ediv_of_nonneg _ (by decide)]
 split <;> lia
theorem run_changes {C : Cfg}
 (hname : ∀ (c : Int) (tk : List (List Nat)), (∀ x ∈ tk, isName x = true) -> tk.length < 100 -> ∃ x, isName x = true ∧ x ∉ tk ∧ ∀ σ k, σ[k]? = some (.list (tk.map vs)) -> C.cf .frz 4 [vi c, .ref k] σ = .ok (vs x) σ)
 (hleans : ∀ (c : Int) (cs : List Ch), cs.length <= 60 -> ∃ fs : List (List Nat), fs.Sublist (cs.map (·.1)) ∧ ∀ σ k, σ[k]? = some (.list (cs.map fun x => V.d x.data)) -> C.cf .frz 6 [vi c, .ref k] σ = .ok (.d (dl (isort fs))) σ)
 (hmarks : ∀ (c : Ch), c.2.2.length <= 100 -> ∀ σ, C.cf .frz 7 [.d c.data] σ = .ok (.d (.list ((List.range (adds c.2.2)).map fun j : Nat => markD (some (c.1, (j : Int)))))) σ)
 (hdeeds : ∀ (t : List Nat) (c many : Int) (ms : List (List Nat × Int)), 0 <= many -> many <= 100 -> ms.length <= 10000 ->
  ∃ ds : List Deed, ds.length = many.toNat ∧ DOk t ms ds 0 ∧ (∀ d ∈ ds, Shp d) ∧ ∀ σ, C.cf .frz 8 [vs t, vi c, vi many, .d (.list (ms.map fun m => markD (some m)))] σ = .ok (.d (.list (ds.map Deed.data))) σ)
 (ns : List Int) (most : Int) (hns : ns.length <= 1000) (h0 : 0 <= most) (h1 : most <= 60) :
 Ends (fun r => ∃ (cs : List Ch) (o : O), cs.length <= 60 ∧ (∀ c ∈ cs, GenCh c) ∧ ChsOk cs ∧ r = .ok (.ret (.ref 0)) [.list (cs.map fun x => V.d x.data), o])
  (execSs C Flaw_changes.body [some (.d (scD ns)), some (vi most), none, none, none, none, none, none, none, none] []) := by
 show Ends _ (execSs C [_, _, _, _] _ [])
 refine go_asg (v := .ref 0) (σ₁ := [.list []]) (by simp only [eA_13, eB_1, ok_bind, mkList] <;> rfl) ?_
 refine go_asg (v := .ref 1) (σ₁ := [.list [], .list [vs [48]]]) (by simp only [eA_1, eA_13, eB_1, eB_2, ok_bind, sz, sy, mkList, k_zero] <;> rfl) ?_
 obtain ⟨m0, m1, m2⟩ := min1 ns.length most hns h0 h1
 have hr : evalEs C [.bcall .min true [.bin true .FloorDiv (.bcall .len true [.var 0]) (.cst (.int 4)), .var 1]] [some (.d (scD ns)), some (vi most), some (.ref 0), some (.ref 1), none, none, none, none, none, none] [.list [], .list [vs [48]]] = .ok [vi (if most < (ns.length : Int).fdiv 4 then most else (ns.length : Int).fdiv 4)] [.list [], .list [vs [48]]] := by
  simp only [eA_1, eA_5, eA_6, eA_17, eB_1, eB_2, ok_bind, gz, gs, bc_len_l, List.length_map, b_div (show (4 : Int) ≠ 0 by decide), bc_min]
 generalize (if most < (ns.length : Int).fdiv 4 then most else (ns.length : Int).fdiv 4) = m at m0 m1 m2 hr
 refine go_foldl (l := List.range m.toNat) (w := fun j : Nat => vi (j : Int)) (σ₁ := [.list [], .list [vs [48]]])
  (fun pre (cs : List Ch) => cs.length = pre.length ∧ (∀ c ∈ cs, GenCh c) ∧ ChsOk cs ∧ ([48] :: cs.map (·.1)).Nodup)
  (fun (cs : List Ch) ρ σ => (∃ z4 z5 z6 z7 z8 z9, ρ = [some (.d (scD ns)), some (vi most), some (.ref 0), some (.ref 1), z4, z5, z6, z7, z8, z9]) ∧ σ = [.list (cs.map fun x => V.d x.data), .list (([48] :: cs.map (·.1)).map vs)]) []
  (it_range hr (by lia) (by lia)) ⟨rfl, by simp, ⟨List.nodup_nil, fun pre c post e => by simp at e⟩, by simp⟩ ⟨⟨none, none, none, none, none, none, rfl⟩, rfl⟩ ?_ ?_
 ·rintro p j q cs ρ σ hp ⟨g0, g1, g4, g2⟩ ⟨⟨z4, z5, z6, z7, z8, z9, rfl⟩, rfl⟩
  have hj : j < m.toNat := by
   have : j ∈ List.range m.toNat := by rw [hp]; simp
   simpa using this
  have hl : p.length < 60 := by
   have := congrArg List.length hp
   simp at this; lia
  obtain ⟨c, y5, y6, y7, y8, y9, k1, k4, k2, k3⟩ := turn_changes hname hleans hmarks hdeeds ns most (j : Int) hns (by (exact Int.natCast_nonneg _)) (by lia) cs (by lia) g1 g4 g2 z5 z6 z7 z8 z9
  refine ⟨cs ++ [c], _, _, ⟨by simp [g0], ?_, k4, k2⟩, ⟨⟨_, _, _, _, _, _, rfl⟩, rfl⟩, k3⟩
  intro x hx
  simp only [List.mem_append, List.mem_singleton] at hx
  rcases hx with hx | rfl
  ·exact g1 x hx
  ·exact k1
 ·rintro cs ρ σ ⟨g0, g1, g4, g2⟩ ⟨⟨z4, z5, z6, z7, z8, z9, rfl⟩, rfl⟩
  refine go_ret (v := .ref 0) (σ₁ := _) rfl ⟨cs, _, ?_, g1, g4, rfl⟩
  simp at g0; lia
theorem ev_changes (ns : List Int) (most : Int) (hns : ns.length <= 1000) (h0 : 0 <= most) (h1 : most <= 60) :
 ∃ cs : List Ch, cs.length <= 60 ∧ (∀ c ∈ cs, GenCh c) ∧ ChsOk cs ∧ ∀ σ, callF P14 fuel (n + 3) .frz 9 [.d (scD ns), vi most] σ = .ok (.d (.list (cs.map Ch.data))) σ := by
 obtain ⟨cs, o, k1, k2, k4, k3⟩ := run_changes (C := ⟨callF P14 fuel (n + 2), fuel⟩) (fun c tk h1 h2 => by
  obtain ⟨x, e1, e2, _, e4⟩ := ev_name (fuel := fuel) (n := n) c tk h1 h2
  exact ⟨x, e1, e2, e4⟩) (fun c cs h => ev_leans c cs h) (fun c h σ => ev_marks c.1 c.2.1 c.2.2 h) (fun t c many ms h0 h1 h3 => ev_deeds t c many ms h0 h1 h3) ns most hns h0 h1
 exact ⟨cs, k1, k2, k4, fun σ => frz_ok P9 rfl (run_ret rfl k3) (snap_ref (by rw [List.map_map]; rfl))⟩
end
end Mine.Internal
namespace Mine.Internal
open PySem
section
variable {κ κ' α β : Type} [DecidableEq κ] [DecidableEq κ'] (φ : κ -> κ') (f : α -> β)
noncomputable def mapK (kvs : List (κ × α)) : List (κ' × β) := kvs.map fun p => (φ p.1, f p.2)
theorem mapK_len (kvs : List (κ × α)) : (mapK φ f kvs).length = kvs.length := List.length_map ..
theorem mapK_app (a b : List (κ × α)) : mapK φ f (a ++ b) = mapK φ f a ++ mapK φ f b := List.map_append ..
variable {φ} (hφ : ∀ a b, φ a = φ b -> a = b)
include hφ
theorem get_mapK (kvs : List (κ × α)) (k : κ) : getK (mapK φ f kvs) (φ k) = (getK kvs k).map f := by
 induction kvs with
 | nil => rfl
 | cons q r ih =>
  show getK ((φ q.1, f q.2) :: mapK φ f r) (φ k) = _
  rw [get_cons, get_cons, ih]
  by_cases e : q.1 = k
  ·rw [if_pos e, if_pos (congrArg φ e)]; rfl
  ·rw [if_neg e, if_neg (fun h => e (hφ _ _ h))]
theorem put_mapK (kvs : List (κ × α)) (k : κ) (v : α) : putK (mapK φ f kvs) (φ k) (f v) = mapK φ f (putK kvs k v) := by
 unfold putK
 have h : ((mapK φ f kvs).any fun p => p.1 = φ k) = kvs.any fun p => p.1 = k := by
  rw [any_get, any_get, get_mapK f hφ]; cases getK kvs k <;> rfl
 rw [h]
 split
 ·unfold mapK
  rw [List.map_map, List.map_map]
  refine List.map_congr_left fun p _ => ?_
  show (if (φ p.1) = φ k then (φ p.1, f v) else (φ p.1, f p.2)) = (φ (if p.1 = k then (p.1, v) else p).1, f (if p.1 = k then (p.1, v) else p).2)
  by_cases e : p.1 = k
  ·rw [if_pos e, if_pos (congrArg φ e)]
  ·rw [if_neg e, if_neg (fun h => e (hφ _ _ h))]
 ·rw [mapK_app]; rfl
end
theorem putK_len {κ β : Type} [DecidableEq κ] (h : List (κ × β)) (k : κ) (v : β) : (putK h k v).length <= h.length + 1 := by
 unfold putK
 split <;> simp
noncomputable def mk2 (m : Mk) : Str × Int := (Tx m.1, m.2)
theorem Tx_in : ∀ a b : List Nat, Tx a = Tx b -> a = b := fun _ _ => Tx_inj
theorem mk2_in : ∀ a b : Mk, mk2 a = mk2 b -> a = b := fun ⟨a, i⟩ ⟨b, j⟩ h => by
 have h1 := congrArg Prod.fst h
 have h2 := congrArg Prod.snd h
 rw [Tx_inj (show Tx a = Tx b from h1), (show i = j from h2)]
noncomputable abbrev vm (m : Mk) : V := .d (markD (some m))
section
variable {C : Cfg} {ρ : Vars} {σ σ₁ : Store} {Q : Res Fl -> Prop} {r : List S} {k : Nat} {x y z : V} {o i v : E} {ws : List V}
theorem go_set (h1 : evalE C v ρ σ = .ok x σ) (h2 : evalE C o ρ σ = .ok y σ) (h3 : evalE C i ρ σ = .ok z σ) (h4 : setItemV y z x σ = .ok (.next []) σ₁) (k : Ends Q (execSs C r ρ σ₁)) : Ends Q (execSs C (.set o i v :: r) ρ σ) := by
 rw [xB_2, xA_4, h1, ok_bind, h2, ok_bind, h3, ok_bind, h4, ok_bind, ok_bind]; exact k
theorem set_list {j : Int} (hk : σ[k]? = some (.list ws)) (h0 : 0 <= j) (hj : j < ws.length) : setItemV (.ref k) (vi j) x σ = .ok (.next []) (σ.set k (.list (ws.set j.toNat x))) := by
 show setAt k (vi j) x σ σ[k]? = _
 rw [hk]; exact if_pos ⟨h0, hj⟩
theorem set_dS {kvs : List (Str × PyData)} {a : List Nat} {d : PyData} (hk : σ[k]? = some (.dictS kvs)) (hl : kvs.length < line) : setItemV (.ref k) (vs a) (.d d) σ = .ok (.next []) (σ.set k (.dictS (putK kvs (Tx a) d))) := by
 show setAt k (vs a) (.d d) σ σ[k]? = _
 rw [hk]; exact if_pos hl
theorem set_dP {kvs : List ((Str × Int) × PyData)} {m : Mk} {d : PyData} (hk : σ[k]? = some (.dictP kvs)) (hl : kvs.length < line) : setItemV (.ref k) (vm m) (.d d) σ = .ok (.next []) (σ.set k (.dictP (putK kvs (mk2 m) d))) := by
 show setAt k (vm m) (.d d) σ σ[k]? = _
 rw [hk]; exact if_pos hl
theorem sub_dS {kvs : List (Str × PyData)} {a : List Nat} {d : PyData} (hk : σ[k]? = some (.dictS kvs)) (h : getK kvs (Tx a) = some d) : subscr (.ref k) (vs a) σ = some (.d d) := by
 have e : dictOf σ (.ref k) = some (.dictS kvs) := by show dictO σ[k]? = _; rw [hk]; rfl
 unfold subscr
 rw [e]
 show (match getK kvs (Tx a) with | some d => some (V.d d) | none => none) = _
 rw [h]
theorem sub_dP {kvs : List ((Str × Int) × PyData)} {m : Mk} {d : PyData} (hk : σ[k]? = some (.dictP kvs)) (h : getK kvs (mk2 m) = some d) : subscr (.ref k) (vm m) σ = some (.d d) := by
 have e : dictOf σ (.ref k) = some (.dictP kvs) := by show dictO σ[k]? = _; rw [hk]; rfl
 unfold subscr
 rw [e]
 show (match getK kvs (mk2 m) with | some d => some (V.d d) | none => none) = _
 rw [h]
theorem in_dP {kvs : List ((Str × Int) × PyData)} {m : Mk} (hk : σ[k]? = some (.dictP kvs)) : inV σ (vm m) (.ref k) = some (getK kvs (mk2 m)).isSome := by
 have e : dictOf σ (.ref k) = some (.dictP kvs) := by show dictO σ[k]? = _; rw [hk]; rfl
 unfold inV
 rw [e]; rfl
theorem at_ref {j : Int} (hk : σ[k]? = some (.list ws)) (h0 : 0 <= j) (hs : j < 9223372036854775808) (h : ws[j.toNat]? = some x) : subscr (.ref k) (vi j) σ = some x := by
 have e : dictOf σ (.ref k) = none := by show dictO σ[k]? = _; rw [hk]; rfl
 have h1 : j.toNat < ws.length := by rw [List.getElem?_eq_some_iff] at h; exact h.1
 have h2 : small j = true := by simp [small]; lia
 have h3 : seqIndex? j ws.length = some j.toNat := seqI h0 (by lia)
 have h4 : seqOf σ (.ref k) = some ws := by show (match σ[k]? with | some (.list vs) => some vs | _ => none) = _; rw [hk]
 unfold subscr
 rw [e]
 refine (if_pos h2).trans ?_
 show (match seqOf σ (.ref k) with | some vs => (match seqIndex? j vs.length with | some j => vs[j]? | none => none) | none => none) = _
 rw [h4]
 dsimp only
 rw [h3]; exact h
theorem ap_ref (hk : σ[k]? = some (.list ws)) (hl : ws.length < line) : methcall .append true (.ref k) [x] σ = .ok (.d .none) (σ.set k (.list (ws ++ [x]))) := by
 show appendTo k x σ σ[k]? = _
 rw [hk]; exact if_pos hl
theorem pre_ref {m : Meth} (hm : m ≠ .join) (hk : σ[k]? = some (.list ws)) : methPre m (.ref k) σ = true := by
 cases m <;> first | exact absurd rfl hm | (show isListO σ[k]? = true; rw [hk]; rfl)
theorem e_append {a : E} (ho : evalE C o ρ σ = .ok (.ref k) σ) (ha : evalE C a ρ σ = .ok x σ) (hk : σ[k]? = some (.list ws)) (hl : ws.length < line) : evalE C (.meth .append true o [a]) ρ σ = .ok (.d .none) (σ.set k (.list (ws ++ [x]))) := by
 rw [eA_19, ho, ok_bind, if_pos (pre_ref (by exact fun h => nomatch h) hk), eB_2, ha, ok_bind, eB_1, ok_bind, ok_bind]
 exact ap_ref hk hl
theorem eq_markD (a b : Mk) : eqN eqDepth (markD (some a)) (markD (some b)) = some (decide (a = b)) := by
 obtain ⟨a, i⟩ := a
 obtain ⟨b, j⟩ := b
 show (match some (Tx a == Tx b), (match some (i == j), some true with | some p, some q => some (p && q) | _, _ => none) with | some p, some q => some (p && q) | _, _ => none) = _
 show some ((Tx a == Tx b) && ((i == j) && true)) = _
 rw [Tx_beq, Bool.and_true]
 congr 1
 by_cases h1 : a = b
 ·subst h1
  by_cases h2 : i = j
  ·subst h2; simp
  ·simp [h2]
 ·simp [h1]
theorem inD_mark (a : Mk) (l : List Mk) : inD (markD (some a)) (l.map fun m => markD (some m)) = some (decide (a ∈ l)) := by
 induction l with
 | nil => rfl
 | cons b l ih =>
  show (match eqN eqDepth (markD (some b)) (markD (some a)), inD (markD (some a)) (l.map fun m => markD (some m)) with | some p, some q => some (p || q) | _, _ => none) = _
  rw [ih, eq_markD]
  show some (decide (b = a) || decide (a ∈ l)) = _
  rw [<- Bool.decide_or]
  congr 1
  exact decide_eq_decide.mpr (by rw [List.mem_cons, eq_comm])
theorem in_marks (a : Mk) (l : List Mk) : inV σ (vm a) (.d (.list (l.map fun m => markD (some m)))) = some (decide (a ∈ l)) := inD_mark a l
theorem snap_list (l : List PyData) {n : Nat} (h : σ[k]? = some (.list (l.map .d))) : snap σ (n + 2) (.ref k) = some (.list l) := by
 show snapO (snap σ (n + 1)) σ[k]? = _
 rw [h]
 show (match snapL (snap σ (n + 1)) (l.map .d) with | some xs => some (PyData.list xs) | none => none) = _
 rw [snapL_d]
theorem in_marksR (a : Mk) (l : List Mk) (hk : σ[k]? = some (.list (l.map vm))) : inV σ (vm a) (.ref k) = some (decide (a ∈ l)) := by
 have e : dictOf σ (.ref k) = none := by show dictO σ[k]? = _; rw [hk]; rfl
 have e2 : snap σ eqDepth (.ref k) = some (.list (l.map fun m => markD (some m))) := snap_list (n := 38) _ (by rw [hk, List.map_map]; rfl)
 unfold inV
 rw [e]
 show (match snap σ eqDepth (vm a) with | some x => (match snap σ eqDepth (.ref k) with | some d => inSeqD x d | none => none) | none => none) = _
 rw [e2]
 exact inD_mark a l
theorem in_strsR (a : List Nat) (l : List (List Nat)) (hk : σ[k]? = some (.list (l.map vs))) : inV σ (vs a) (.ref k) = some (decide (a ∈ l)) := by
 have e : dictOf σ (.ref k) = none := by show dictO σ[k]? = _; rw [hk]; rfl
 have e2 : snap σ eqDepth (.ref k) = some (dl l) := snap_list (n := 38) _ (by rw [hk, List.map_map]; rfl)
 unfold inV
 rw [e]
 show (match snap σ eqDepth (vs a) with | some x => (match snap σ eqDepth (.ref k) with | some d => inSeqD x d | none => none) | none => none) = _
 rw [e2]
 exact inD_str a l
end
end Mine.Internal
namespace Mine.Internal
open PySem
section
variable {fuel n : Nat} {σ : Store}
theorem P10 : P14 10 = some Flaw_heights := rfl
theorem P14_ : P14 14 = some Flaw_some := rfl
theorem P18 : P14 18 = some Flaw_wide := rfl
theorem sm7 (i : Int) : (small i || small 7) = true := by rw [show small 7 = true by decide]; simp
theorem e61 : (61 : Int) - 10 = 51 := by decide
theorem ev_set7 {C : Cfg} {a b c : Option V} {j x : Int} (h : subscr (.ref 0) (vi j) σ = some (vi x)) :
 evalE C (.bin true .Add (.bin true .Mult (.bin true .FloorDiv (.sub (.var 3) (.var 4)) (.cst (.int 7))) (.cst (.int 7))) (.cst (.int 3))) [a, b, c, some (.ref 0), some (vi j)] σ = .ok (vi (x.fdiv 7 * 7 + 3)) σ := by
 have h1 : evalE C (.sub (.var 3) (.var 4)) [a, b, c, some (.ref 0), some (vi j)] σ = .ok (vi x) σ := by
  simp only [eA_5, eA_15, ok_bind, gz, gs, h]
 have h2 : evalE C (.bin true .FloorDiv (.sub (.var 3) (.var 4)) (.cst (.int 7))) [a, b, c, some (.ref 0), some (vi j)] σ = .ok (vi (x.fdiv 7)) σ := by
  rw [e_bin h1 eA_1]; exact b_div (by decide)
 have h3 : evalE C (.bin true .Mult (.bin true .FloorDiv (.sub (.var 3) (.var 4)) (.cst (.int 7))) (.cst (.int 7))) [a, b, c, some (.ref 0), some (vi j)] σ = .ok (vi (x.fdiv 7 * 7)) σ := by
  rw [e_bin h2 eA_1]; exact b_mul (sm7 _)
 rw [e_bin h3 eA_1]; exact b_add
theorem run_wide {C : Cfg} (hm : ∀ c k σ, C.cf .frz 3 [vi c, vi k] σ = .ok (vi (mixed c k)) σ) (ns : List Int) (c : Int) (hns : ns.length <= 63) :
 Ends (fun r => ∃ (ns' : List Int) (v : V) (σ' : Store), ns'.length <= 1000 ∧ snap σ' 8 v = some (scD ns') ∧ r = .ok (.ret v) σ') (execSs C Flaw_wide.body [some (.d (scD ns)), some (vi c), some (vi 10), none, none] []) := by
 show Ends _ (execSs C [_, _, _, _] _ [])
 refine go_ite (t := decide ((ns.length : Int) < 4) || !decide (c.fmod 12 = 5)) (σ₁ := []) (e_or2 (by simp only [eA_1, eA_5, eA_10, eA_17, eB_1, eB_2, ok_bind, gz, bc_len_l, c_lt, lt_i, List.length_map] <;> rfl) (fun _ => by simp only [eA_1, eA_5, eA_6, eA_10, ok_bind, gz, gs, c_ne, eq_int, no_s, b_mod (show (12 : Int) ≠ 0 by decide)])) (fun h => ?_) (fun h => ?_)
 ·exact go_ret (v := .d (scD ns)) (σ₁ := []) rfl ⟨ns, .d (scD ns), [], by omega, rfl, rfl⟩
 simp only [Bool.or_eq_false_iff, decide_eq_false_iff_not] at h
 have hpos : 0 < ns.length := by omega
 refine go_asg (v := .ref 0) (σ₁ := [.list []]) (by simp only [eA_13, eB_1, ok_bind, mkList] <;> rfl) ?_
 have h51 := fmod_lt (c.fdiv 12) (j := 51) (by decide)
 have hr : evalEs C [.bin true .Mult (.cst (.int 4)) (.bin true .Add (.var 2) (.bin true .Mod (.bin true .FloorDiv (.var 1) (.cst (.int 12))) (.bin true .Sub (.cst (.int 61)) (.var 2))))] [some (.d (scD ns)), some (vi c), some (vi 10), some (.ref 0), none] [.list []] = .ok [vi (4 * (10 + (c.fdiv 12).fmod 51))] [.list []] := by
  simp only [eA_1, eA_5, eA_6, eB_1, eB_2, ok_bind, gz, gs, b_add, b_sub, e61, b_div (show (12 : Int) ≠ 0 by decide), b_mod (show (51 : Int) ≠ 0 by decide), b_mul (sm4 _)]
 generalize hN : 4 * (10 + (c.fdiv 12).fmod 51) = N at hr
 have hN0 : 0 <= N ∧ N <= 240 := by omega
 refine go_foldl (l := List.range N.toNat) (w := fun j : Nat => vi (j : Int)) (σ₁ := [.list []])
  (fun pre (ms : List Int) => ms.length = pre.length)
  (fun (ms : List Int) ρ σ => (∃ z4, ρ = [some (.d (scD ns)), some (vi c), some (vi 10), some (.ref 0), z4]) ∧ σ = [.list (ms.map vi)]) []
  (it_range hr (by omega) (by omega)) rfl ⟨⟨none, rfl⟩, rfl⟩ ?_ ?_
 ·rintro p j q ms ρ σ hp g0 ⟨⟨z4, rfl⟩, rfl⟩
  have hpj : p.length = j := by
   have h1 := congrArg (·[p.length]?) hp
   simp only [List.getElem?_append_right (Nat.le_refl _), Nat.sub_self, gz] at h1
   rw [List.getElem?_eq_some_iff] at h1
   obtain ⟨_, h1⟩ := h1
   simpa using h1
  have hj : j < 240 := by
   have := congrArg List.length hp
   simp at this; omega
  have hml : (ms.map vi).length < line := by simp [line]; omega
  show Ends (fun r => ∃ (s' : List Int) (ρ' : Vars) (σ' : Store), s'.length = (p ++ [j]).length ∧ ((∃ z4, ρ' = [some (.d (scD ns)), some (vi c), some (vi 10), some (.ref 0), z4]) ∧ σ' = [.list (s'.map vi)]) ∧ r = .ok (.next ρ') σ') (execSs C [_, _] _ _)
  have hmod := fmod_lt (j : Int) (j := (ns.length : Int)) (by omega)
  have hcell := sub_sc (σ := [.list (ms.map vi)]) (ns := ns) ((j : Int).fmod ns.length) hmod.1 hmod.2 (by omega)
  refine go_exp (v := .d .none) (σ₁ := [.list ((ms ++ [mixed (cellOf ns ((j : Int).fmod ns.length).toNat) j]).map vi)]) ?_ ?_
  ·rw [e_append (k := 0) (x := vi (mixed (cellOf ns ((j : Int).fmod ns.length).toNat) j)) (ws := ms.map vi) rfl (by simp only [eA_5, eA_6, eA_15, eA_17, eA_18, eB_1, eB_2, ok_bind, gz, gs, sz, sy, bc_len_l, List.length_map, b_mod (ars hpos), hcell, hm]) rfl hml]
   rw [List.map_append]; rfl
  generalize mixed (cellOf ns ((j : Int).fmod ns.length).toNat) j = x
  refine go_ite (t := decide ((j : Int).fmod 4 = 1) && decide ((c.fdiv 12).fmod 2 = 1)) (σ₁ := [.list ((ms ++ [x]).map vi)]) (e_and2 (by simp only [eA_1, eA_5, eA_6, eA_10, ok_bind, gz, gs, sz, sy, c_eq, eq_int, b_mod (show (4 : Int) ≠ 0 by decide)] <;> rfl) (fun _ => by simp only [eA_1, eA_5, eA_6, eA_10, ok_bind, gz, gs, sz, sy, c_eq, eq_int, b_div (show (12 : Int) ≠ 0 by decide), b_mod (show (2 : Int) ≠ 0 by decide)] <;> rfl)) (fun h => ?_) (fun h => ?_)
  ·have hat : subscr (.ref 0) (vi (j : Int)) [.list ((ms ++ [x]).map vi)] = some (vi x) := at_ref (ws := (ms ++ [x]).map vi) rfl (by omega) (by omega) (by
    rw [List.getElem?_map, List.getElem?_append_right (by simp [g0, hpj]), Int.toNat_natCast, g0, hpj, Nat.sub_self]; rfl)
   refine go_set (x := vi (x.fdiv 7 * 7 + 3)) (y := .ref 0) (z := vi (j : Int)) (ev_set7 hat) rfl rfl (set_list (ws := (ms ++ [x]).map vi) rfl (by omega) (by simp [g0, hpj]; omega)) ?_
   refine go_nil ⟨(ms ++ [x]).set j (x.fdiv 7 * 7 + 3), _, _, by simp [g0], ⟨⟨_, rfl⟩, ?_⟩, rfl⟩
   rw [Int.toNat_natCast, <- List.map_set]; rfl
  ·exact go_nil ⟨ms ++ [x], _, _, by simp [g0], ⟨⟨_, rfl⟩, rfl⟩, rfl⟩
 ·rintro ms ρ σ g0 ⟨⟨z4, rfl⟩, rfl⟩
  have hl : ms.length <= 1000 := by simp at g0; omega
  exact go_ret (v := .ref 0) (σ₁ := [.list (ms.map vi)]) rfl ⟨ms, .ref 0, [.list (ms.map vi)], hl, snap_ref (l := ms.map .int) (by rw [List.map_map]; rfl), rfl⟩
theorem ev_wide (ns : List Int) (c : Int) (hns : ns.length <= 63) : ∃ ns' : List Int, ns'.length <= 1000 ∧ ∀ σ, callF P14 fuel (n + 2) .frz 18 [.d (scD ns), vi c, vi 10] σ = .ok (.d (scD ns')) σ := by
 obtain ⟨ns', v, σ', h1, h2, h3⟩ := run_wide (C := ⟨callF P14 fuel (n + 1), fuel⟩) (fun c k σ => ev_mixed c k) ns c hns
 exact ⟨ns', h1, fun σ => frz_ok P18 rfl (run_ret rfl h3) h2⟩
theorem run_some {C : Cfg} (hm : ∀ c k σ, C.cf .frz 3 [vi c, vi k] σ = .ok (vi (mixed c k)) σ) (c : Int) (cs : List Ch) (hcs : cs.length <= 60) :
 Ends (fun r => ∃ fs : List (List Nat), fs.Sublist (cs.map (·.1)) ∧ r = .ok (.ret (.ref 0)) [.list (fs.map vs)])
  (execSs C Flaw_some.body [some (.d (.list (cs.map Ch.data))), some (vi c), none, none, none, none] []) := by
 show Ends _ (execSs C [_, _, _, _] _ [])
 refine go_asg (v := vi (mixed c 3)) (σ₁ := []) (by simp only [eA_1, eA_5, eA_18, eB_1, eB_2, ok_bind, gz, gs, hm] <;> rfl) ?_
 refine go_asg (v := .ref 0) (σ₁ := [.list []]) (by simp only [eA_13, eB_1, ok_bind, sz, sy, mkList] <;> rfl) ?_
 have hit := it_enum (C := C) (e := .var 0) (ρ := [some (.d (.list (cs.map Ch.data))), some (vi c), some (vi (mixed c 3)), some (.ref 0), none, none]) (σ := [.list []]) (σ₁ := [.list []]) (xs := cs.map Ch.data) rfl
 have hz : (cs.map Ch.data).zipIdx.map (fun p => V.d (.tuple [.int (p.2 : Int), p.1])) = cs.zipIdx.map fun p => V.d (.tuple [.int (p.2 : Int), Ch.data p.1]) := by
  rw [List.zipIdx_map, List.map_map]; rfl
 rw [hz] at hit
 refine go_foldT (l := cs.zipIdx) (σ₁ := [.list []]) (fun p => .int (p.2 : Int)) (fun p => Ch.data p.1) (fun pre (fs : List (List Nat)) => fs.Sublist (pre.map (·.1.1)))
  (fun (fs : List (List Nat)) ρ σ => (∃ L : Int, ∃ z4 z5, ρ = [some (.d (.list (cs.map Ch.data))), some (vi c), some (vi L), some (.ref 0), z4, z5]) ∧ σ = [.list (fs.map vs)]) [] hit (List.Sublist.refl _) ⟨⟨_, none, none, rfl⟩, rfl⟩ ?_ ?_
 ·rintro p ⟨ch, i⟩ q fs ρ σ hp g1 ⟨⟨L, z4, z5, rfl⟩, rfl⟩
  have hlen : fs.length < 100 := by
   have h1 := g1.length_le
   have h2 := congrArg List.length hp
   simp at h1 h2; lia
  show Ends (fun r => ∃ (s' : List (List Nat)) (ρ' : Vars) (σ' : Store), s'.Sublist ((p ++ [(ch, i)]).map (·.1.1)) ∧ ((∃ L : Int, ∃ z4 z5, ρ' = [some (.d (.list (cs.map Ch.data))), some (vi c), some (vi L), some (.ref 0), z4, z5]) ∧ σ' = [.list (s'.map vs)]) ∧ r = .ok (.next ρ') σ') (execSs C [_, _, _] _ _)
  refine go_mid (M := fun ρ σ => ∃ fs' : List (List Nat), fs'.Sublist ((p ++ [(ch, i)]).map (·.1.1)) ∧ ρ = [some (.d (.list (cs.map Ch.data))), some (vi c), some (vi L), some (.ref 0), some (vi i), some (.d (Ch.data ch))] ∧ σ = [.list (fs'.map vs)]) ?_ ?_
  ·refine go_ite (t := decide (L.fmod 3 = 0)) (σ₁ := [.list (fs.map vs)]) (by simp only [eA_1, eA_5, eA_6, eA_10, ok_bind, gz, gs, sz, sy, c_eq, eq_int, b_mod (show (3 : Int) ≠ 0 by decide)] <;> rfl) (fun _ => ?_) (fun _ => ?_)
   ·refine go_exp (v := .d .none) (σ₁ := [.list ((fs ++ [ch.1]).map vs)]) ?_ (go_nil ⟨_, _, ⟨fs ++ [ch.1], by simpa using g1.append (List.Sublist.refl [ch.1]), rfl, rfl⟩, rfl⟩)
    rw [e_append (k := 0) (x := vs ch.1) (ws := fs.map vs) rfl (by simp only [eA_1, eA_5, eA_15, ok_bind, gz, gs, sz, sy, sub_ch0]) rfl (by simp [line]; omega)]
    rw [List.map_append]; rfl
   ·exact go_nil ⟨_, _, ⟨fs, by simpa using g1.trans (List.sublist_append_left _ [ch.1]), rfl, rfl⟩, rfl⟩
  rintro _ _ ⟨fs', k1, rfl, rfl⟩
  refine go_asg (v := vi (L.fdiv 3)) (σ₁ := [.list (fs'.map vs)]) (by simp only [eA_1, eA_5, eA_6, ok_bind, gz, gs, b_div (show (3 : Int) ≠ 0 by decide)] <;> rfl) ?_
  refine go_ite (t := decide (L.fdiv 3 < 3)) (σ₁ := [.list (fs'.map vs)]) rfl (fun _ => ?_) (fun _ => ?_)
  ·exact go_asg (v := vi (mixed c ((i : Int) + 4))) (σ₁ := [.list (fs'.map vs)]) (by simp only [eA_1, eA_5, eA_6, eA_18, eB_1, eB_2, ok_bind, gz, gs, sz, sy, b_add, hm] <;> rfl) (go_nil ⟨fs', _, _, k1, ⟨⟨_, _, _, rfl⟩, rfl⟩, rfl⟩)
  ·exact go_nil ⟨fs', _, _, k1, ⟨⟨_, _, _, rfl⟩, rfl⟩, rfl⟩
 ·rintro fs ρ σ g1 ⟨⟨L, z4, z5, rfl⟩, rfl⟩
  have g2 : fs.Sublist (cs.map (·.1)) := by
   have e : cs.zipIdx.map (·.1.1) = cs.map (·.1) := idx_fst cs 0
   rw [<- e]; exact g1
  exact go_ret (v := .ref 0) (σ₁ := [.list (fs.map vs)]) rfl ⟨fs, g2, rfl⟩
theorem ev_some (c : Int) (cs : List Ch) (hcs : cs.length <= 60) : ∃ fs : List (List Nat), fs.Sublist (cs.map (·.1)) ∧ ∀ σ, callF P14 fuel (n + 2) .frz 14 [.d (.list (cs.map Ch.data)), vi c] σ = .ok (.d (dl fs)) σ := by
 obtain ⟨fs, h1, h2⟩ := run_some (C := ⟨callF P14 fuel (n + 1), fuel⟩) (fun c k σ => ev_mixed c k) c cs hcs
 exact ⟨fs, h1, fun σ => frz_ok P14_ rfl (run_ret rfl h2) (snap_ref (by rw [List.map_map]; rfl))⟩
end
end Mine.Internal
namespace Mine.Internal
open PySem
section
variable {fuel n : Nat} {σ : Store}
theorem ints_map {α : Type} (f : α -> Int) : ∀ l : List α, intsV ((l.map fun a => PyData.int (f a)).map V.d) = some (l.map f)
 | [] => rfl
 | a :: l => by
  show (match intsV ((l.map fun a => PyData.int (f a)).map V.d) with | some xs => some (f a :: xs) | none => none) = _
  rw [ints_map f l]; rfl
theorem max_map {α : Type} (f : α -> Int) (l : List α) : bMax 0 (.d (.list (l.map fun a => PyData.int (f a)))) σ = .ok (vi (maxOf 0 (l.map f))) σ := by
 show (match intsV ((l.map fun a => PyData.int (f a)).map V.d) with | some is => Res.ok (V.d (.int (maxOf 0 is))) σ | none => .bad) = _
 rw [ints_map]
theorem sh_ok {f : Nat} {fn : Fn} {ws : List V} {v : V} {σ₁ : Store} (hP : P14 f = some fn) (h : runFn ⟨callF P14 fuel n, fuel⟩ fn ws σ = .ok v σ₁) : callF P14 fuel (n + 1) .shared f ws σ = .ok v σ₁ := by
 show (match P14 f with | none => .bad | some fn => runFn ⟨callF P14 fuel n, fuel⟩ fn ws σ : Res V) = _
 rw [hP]; exact h
theorem run_heights {C : Cfg} (cs : List Ch) (hcs : cs.length <= 60) (hg : ∀ c ∈ cs, GenCh c) (H : ChsOk cs) :
 Ends (fun r => r = .ok (.ret (.ref 0)) [.dictS (mapK Tx PyData.int (hts [] cs))]) (execSs C Flaw_heights.body [some (.d (.list (cs.map Ch.data))), none, none, none] []) := by
 show Ends _ (execSs C [_, _, _] _ [])
 refine go_asg (v := .ref 0) (σ₁ := [.dictS []]) rfl ?_
 refine go_foldl (l := cs) (w := fun c => V.d c.data) (σ₁ := [.dictS []]) (fun pre (s : List Ch) => pre = s)
  (fun (s : List Ch) ρ σ => (∃ z2 z3, ρ = [some (.d (.list (cs.map Ch.data))), some (.ref 0), z2, z3]) ∧ σ = [.dictS (mapK Tx PyData.int (hts [] s))]) []
  (it_of (v := .d (.list (cs.map Ch.data))) rfl (it_map _ _)) rfl ⟨⟨none, none, rfl⟩, rfl⟩ ?_ ?_
 ·rintro p c q _ ρ σ hp rfl ⟨⟨z2, z3, rfl⟩, rfl⟩
  obtain ⟨hl, _⟩ := H.ok p c q hp
  have hlen : (hts [] p).length <= 60 := by
   have := congrArg List.length (hts_keys [] p)
   have h2 := congrArg List.length hp
   simp at this h2; omega
  have hnew : getK (hts [] p) c.1 = none := by
   refine get_mem.mpr fun h => ?_
   rw [hts_keys] at h
   have hn := H.nd
   rw [hp, List.map_append, List.map_cons, List.nodup_append] at hn
   exact hn.2.2 _ (by simpa using h) _ (by simp) rfl
  have hin : ∀ l ∈ c.2.1, ∃ v, getK (hts [] p) l = some v := fun l h => get_some_iff.mpr (by rw [hts_keys]; exact List.mem_append.mpr (.inr (hl l h)))
  have hf : c.2.1.length <= 60 := (hg c (by rw [hp]; simp)).few
  show Ends (fun r => ∃ (s' : List Ch) (ρ' : Vars) (σ' : Store), p ++ [c] = s' ∧ ((∃ z2 z3, ρ' = [some (.d (.list (cs.map Ch.data))), some (.ref 0), z2, z3]) ∧ σ' = [.dictS (mapK Tx PyData.int (hts [] s'))]) ∧ r = .ok (.next ρ') σ') (execSs C [_] _ _)
  have c1 := e_comp1D (C := C) (elt := .bin true .Add (.sub (.var 1) (.var 3)) (.cst (.int 1))) (t := 3) (it := .of (.sub (.var 2) (.cst (.int 1)))) (ρ := [some (.d (.list (cs.map Ch.data))), some (.ref 0), some (.d c.data), z3]) (σ := [.dictS (mapK Tx PyData.int (hts [] p))]) (σ₁ := [.dictS (mapK Tx PyData.int (hts [] p))]) (l := c.2.1)
   vs (fun l => .int ((getK (hts [] p) l).getD 0 + 1)) (it_of (v := .d (dl c.2.1)) (by simp only [eA_1, eA_5, eA_15, ok_bind, gz, gs, sub_ch1]) (it_map _ _)) (ln_l hf) (fun l hl' => by
    obtain ⟨v, hv'⟩ := hin l hl'
    have hs : subscr (.ref 0) (vs l) [.dictS (mapK Tx PyData.int (hts [] p))] = some (vi v) := sub_dS rfl (by rw [get_mapK _ Tx_in, hv']; rfl)
    simp only [eA_1, eA_5, eA_6, eA_15, ok_bind, gz, gs, sz, sy, hs, b_add, hv', Option.getD])
  refine go_set (x := vi (hv (hts [] p) c.2.1)) (y := .ref 0) (z := vs c.1) (by rw [eA_22, show ([some (.d (.list (cs.map Ch.data))), some (.ref 0), z2, z3] : Vars).set 2 (some (.d c.data)) = [some (.d (.list (cs.map Ch.data))), some (.ref 0), some (.d c.data), z3] from rfl, c1, ok_bind, max_map]; rfl) rfl (by simp only [eA_1, eA_5, eA_15, ok_bind, gz, gs, sz, sy, sub_ch0]) (set_dS rfl (by rw [mapK_len]; exact lt_c hlen (by rfl))) ?_
  refine go_nil ⟨p ++ [c], _, _, rfl, ⟨⟨_, _, rfl⟩, ?_⟩, rfl⟩
  rw [hts_app, put_mapK PyData.int Tx_in, put_new hnew]; rfl
 ·rintro _ ρ σ rfl ⟨⟨z2, z3, rfl⟩, rfl⟩
  exact go_ret rfl rfl
theorem ev_heights (cs : List Ch) (hcs : cs.length <= 60) (hg : ∀ c ∈ cs, GenCh c) (H : ChsOk cs) : callF P14 fuel (n + 1) .shared 10 [.d (.list (cs.map Ch.data))] [] = .ok (.ref 0) [.dictS (mapK Tx PyData.int (hts [] cs))] :=
 sh_ok P10 (run_ret rfl (run_heights (C := ⟨callF P14 fuel n, fuel⟩) cs hcs hg H))
end
section
variable {C : Cfg} {ρ : Vars} {σ σ₁ : Store} {Q : Res Fl -> Prop} {r : List S}
theorem go_while {c : E} {body : List S} {ρ' : Vars} (h : execS C (.while_ c body) ρ σ = .ok (.next ρ') σ₁) (k : Ends Q (execSs C r ρ' σ₁)) : Ends Q (execSs C (.while_ c body :: r) ρ σ) := by
 rw [xB_2, h, ok_bind]; exact k
theorem e_meth1 {m : Meth} {o a : E} {y x : V} (ho : evalE C o ρ σ = .ok y σ) (ha : evalE C a ρ σ = .ok x σ) (hp : methPre m y σ = true) : evalE C (.meth m true o [a]) ρ σ = methcall m true y [x] σ := by
 rw [eA_19, ho, ok_bind, if_pos hp, eB_2, ha, ok_bind, eB_1, ok_bind, ok_bind]
theorem e_meth2 {m : Meth} {o a b : E} {y x z : V} (ho : evalE C o ρ σ = .ok y σ) (ha : evalE C a ρ σ = .ok x σ) (hb : evalE C b ρ σ = .ok z σ) (hp : methPre m y σ = true) : evalE C (.meth m true o [a, b]) ρ σ = methcall m true y [x, z] σ := by
 rw [eA_19, ho, ok_bind, if_pos hp, eB_2, ha, ok_bind, eB_2, hb, ok_bind, eB_1, ok_bind, ok_bind, ok_bind]
end
noncomputable def groundB : List S := [
 .asg 6 (.meth .pop true (.var 5) []),
 .ite (.cmp .NotIn (.var 6) (.var 4))
  [
   .exp (.meth .append true (.var 4) [.var 6]),
   .exp (.meth .extend true (.var 5) [.sub (.var 2) (.var 6)])]
  []]
noncomputable abbrev leanK (cs : List Ch) : List (List Nat × List (List Nat)) := cs.map fun c => (c.1, c.2.1)
theorem leanK_get {cs : List Ch} (hn : (cs.map (·.1)).Nodup) {c : Ch} (hc : c ∈ cs) : getK (leanK cs) c.1 = some c.2.1 :=
 get_nodup (T := leanK cs) (by rw [List.map_map]; exact hn) (c.1, c.2.1) (List.mem_map.mpr ⟨c, hc, rfl⟩)
structure Gnd (cs : List Ch) (f w : List (List Nat)) : Prop where
 nd : f.Nodup
 fin : ∀ y ∈ f, y ∈ cs.map (·.1)
 win : ∀ y ∈ w, y ∈ cs.map (·.1)
 cl : ∀ c ∈ cs, c.1 ∈ f -> ∀ l ∈ c.2.1, l ∈ f ∨ l ∈ w
section
variable {C : Cfg}
theorem ground_loop {cs : List Ch} (hcs : cs.length <= 60) (hg : ∀ c ∈ cs, GenCh c) (H : ChsOk cs) (a0 a1 : V) : ∀ (k : Nat) (f w : List (List Nat)) (z3 z6 : Option V), Gnd cs f w -> wt cs f + w.length < k -> wt cs f + w.length <= 4000 ->
 ∃ f' ρ', Gnd cs f' [] ∧ (∃ z3 z6, ρ' = [some a0, some a1, some (.ref 0), z3, some (.ref 1), some (.ref 2), z6]) ∧
  whileGo (fun ρ σ => (evalE C (.var 5) ρ σ).bind fun v σ => (match truth σ v with | some b => .ok b σ | none => .bad)) (fun ρ σ => execSs C groundB ρ σ) k
   [some a0, some a1, some (.ref 0), z3, some (.ref 1), some (.ref 2), z6] [.dictS (mapK Tx dl (leanK cs)), .list (f.map vs), .list (w.map vs)] = .ok (.next ρ') [.dictS (mapK Tx dl (leanK cs)), .list (f'.map vs), .list []]
 | 0, _, _, _, _, _, h, _ => absurd h (Nat.not_lt_zero _)
 | k + 1, f, w, z3, z6, hG, hk, hb => by
  rcases List.eq_nil_or_concat w with rfl | ⟨u, x, rfl⟩
  ·exact ⟨f, _, hG, ⟨z3, z6, rfl⟩, rfl⟩
  rw [List.concat_eq_append] at *
  have hx : x ∈ cs.map (·.1) := hG.win x (by simp)
  obtain ⟨c, hc, hcx⟩ := List.mem_map.mp hx
  have hfl : f.length <= 60 := by
   have := pigeon f (cs.map (·.1)) hG.nd hG.fin
   rw [List.length_map] at this; omega
  have hul : u.length <= 4000 := by simp at hb; omega
  have key : ∃ f1 w1 z6', Gnd cs f1 w1 ∧ wt cs f1 + w1.length < k ∧ wt cs f1 + w1.length <= 4000 ∧ execSs C groundB [some a0, some a1, some (.ref 0), z3, some (.ref 1), some (.ref 2), z6] [.dictS (mapK Tx dl (leanK cs)), .list (f.map vs), .list ((u ++ [x]).map vs)] = .ok (.next [some a0, some a1, some (.ref 0), z3, some (.ref 1), some (.ref 2), z6']) [.dictS (mapK Tx dl (leanK cs)), .list (f1.map vs), .list (w1.map vs)] := by
   show Ends (fun r => ∃ f1 w1 z6', Gnd cs f1 w1 ∧ wt cs f1 + w1.length < k ∧ wt cs f1 + w1.length <= 4000 ∧ r = .ok (.next [some a0, some a1, some (.ref 0), z3, some (.ref 1), some (.ref 2), z6']) [.dictS (mapK Tx dl (leanK cs)), .list (f1.map vs), .list (w1.map vs)]) (execSs C [_, _] _ _)
   have hpop : evalE C (.meth .pop true (.var 5) []) [some a0, some a1, some (.ref 0), z3, some (.ref 1), some (.ref 2), z6] [.dictS (mapK Tx dl (leanK cs)), .list (f.map vs), .list ((u ++ [x]).map vs)] = .ok (vs x) [.dictS (mapK Tx dl (leanK cs)), .list (f.map vs), .list (u.map vs)] := by
    have h1 : ((u ++ [x]).map vs)[((u ++ [x]).map vs).length - 1]? = some (vs x) := by simp
    have h2 : ((u ++ [x]).map vs).eraseIdx (((u ++ [x]).map vs).length - 1) = u.map vs := by rw [List.eraseIdx_length_sub_one]; simp
    have h3 : ((u ++ [x]).map vs).length <= line := by simp [line]; omega
    show popOf 2 (((u ++ [x]).map vs).length - 1) ((u ++ [x]).map vs) [.dictS (mapK Tx dl (leanK cs)), .list (f.map vs), .list ((u ++ [x]).map vs)] = _
    unfold popOf
    rw [h1]
    refine (if_pos h3).trans ?_
    rw [h2]; rfl
   refine go_asg hpop ?_
   refine go_ite (t := !decide (x ∈ f)) (σ₁ := [.dictS (mapK Tx dl (leanK cs)), .list (f.map vs), .list (u.map vs)]) (by
    have := in_strsR (σ := [.dictS (mapK Tx dl (leanK cs)), .list (f.map vs), .list (u.map vs)]) (k := 1) x f rfl
    simp only [eA_5, eA_10, ok_bind, gz, gs, sz, sy, c_nin, this, no_s]) (fun h => ?_) (fun h => ?_)
   ·have hnf : x ∉ f := by simpa using h
    refine go_exp (v := .d .none) (σ₁ := [.dictS (mapK Tx dl (leanK cs)), .list ((f ++ [x]).map vs), .list (u.map vs)]) (by
     rw [e_append (k := 1) (x := vs x) (ws := f.map vs) rfl rfl rfl (by simp [line]; omega), List.map_append]; rfl) ?_
    have hs : subscr (.ref 0) (vs x) [.dictS (mapK Tx dl (leanK cs)), .list ((f ++ [x]).map vs), .list (u.map vs)] = some (.d (dl c.2.1)) := sub_dS rfl (by rw [get_mapK _ Tx_in, <- hcx, leanK_get H.nd hc]; rfl)
    have hcl := (hg c hc).few
    have hext : methcall .extend true (.ref 2) [.d (dl c.2.1)] [.dictS (mapK Tx dl (leanK cs)), .list ((f ++ [x]).map vs), .list (u.map vs)] = .ok (.d .none) [.dictS (mapK Tx dl (leanK cs)), .list ((f ++ [x]).map vs), .list ((u ++ c.2.1).map vs)] := by
     have e1 : (c.2.1.map fun t => PyData.str (Tx t)).map V.d = c.2.1.map vs := by rw [List.map_map]; rfl
     have e2 : (u.map vs).length + ((c.2.1.map fun t => PyData.str (Tx t)).map V.d).length <= line := by simp [line]; omega
     refine (if_pos e2).trans ?_
     rw [e1, <- List.map_append]; rfl
    refine go_exp (v := .d .none) (σ₁ := [.dictS (mapK Tx dl (leanK cs)), .list ((f ++ [x]).map vs), .list ((u ++ c.2.1).map vs)]) (by
     rw [e_meth1 (y := .ref 2) (x := .d (dl c.2.1)) rfl (by simp only [eA_5, eA_15, ok_bind, gz, gs, sz, sy, hs]) rfl]
     exact hext) (go_nil ⟨f ++ [x], u ++ c.2.1, _, ?_, ?_, ?_, rfl⟩)
    ·refine ⟨?_, fun y hy => ?_, fun y hy => ?_, fun d hd hdf l hl => ?_⟩
     ·rw [List.nodup_append]; exact ⟨hG.nd, by simp, fun a ha b hb e => hnf (by rw [<- List.mem_singleton.mp hb, <- e]; exact ha)⟩
     ·rcases List.mem_append.mp hy with h | h
      ·exact hG.fin y h
      ·rw [List.mem_singleton.mp h]; exact hx
     ·rcases List.mem_append.mp hy with h | h
      ·exact hG.win y (by simp [h])
      ·obtain ⟨pre, post, e⟩ := List.append_of_mem hc
       have := (H.ok pre c post e).1 y h
       rw [e, List.map_append]; exact List.mem_append.mpr (.inl this)
     ·rcases List.mem_append.mp hdf with h | h
      ·rcases hG.cl d hd h l hl with q | q
       ·exact .inl (by simp [q])
       ·rcases List.mem_append.mp q with q | q
        ·exact .inr (by simp [q])
        ·exact .inl (by simp at q; simp [q])
      ·have e : d.1 = c.1 := by rw [List.mem_singleton.mp h, hcx]
       have e2 := leanK_get H.nd hd
       rw [e, leanK_get H.nd hc] at e2
       rw [<- Option.some.inj e2] at hl
       exact .inr (by simp [hl])
    all_goals
     have := wt_in H.nd hc (f := f) (by rw [hcx]; exact hnf)
     rw [hcx] at this
     rw [List.length_append] at *
     simp at hk hb
     omega
   ·have hnf : x ∈ f := by simpa using h
    refine go_nil ⟨f, u, some (vs x), ⟨hG.nd, hG.fin, fun y hy => hG.win y (by simp [hy]), fun d hd hdf l hl => ?_⟩, ?_, ?_, rfl⟩
    ·rcases hG.cl d hd hdf l hl with q | q
     ·exact .inl q
     ·rcases List.mem_append.mp q with q | q
      ·exact .inr q
      ·rw [List.mem_singleton.mp q]; exact .inl hnf
    ·simp at hk; omega
    ·simp at hb; omega
  obtain ⟨f1, w1, z6', k1, k2, k3, k4⟩ := key
  obtain ⟨f2, ρ', r1, r2, r3⟩ := ground_loop hcs hg H a0 a1 k f1 w1 z3 z6' k1 k2 k3
  refine ⟨f2, ρ', r1, r2, ?_⟩
  have ht : truth [.dictS (mapK Tx dl (leanK cs)), .list (f.map vs), .list ((u ++ [x]).map vs)] (.ref 2) = some true := by
   show some (!((u ++ [x]).map vs).isEmpty) = _
   simp
  unfold whileGo
  simp only [eA_5, gz, gs, ok_bind, ht]
  rw [k4, ok_bind]
  exact r3
end
end Mine.Internal
namespace Mine.Internal
open PySem
theorem wt_le {cs : List Ch} (hg : ∀ c ∈ cs, GenCh c) (f : List (List Nat)) : wt cs f <= 60 * cs.length := by
 unfold wt
 have : ∀ l : List Ch, (∀ c ∈ l, GenCh c) -> (l.map fun c => c.2.1.length).sum <= 60 * l.length := by
  intro l
  induction l with
  | nil => intro _; exact Nat.le_refl _
  | cons c l ih =>
   intro h
   have h1 := (h c (by simp)).few
   have h2 := ih fun x hx => h x (by simp [hx])
   simp only [List.map_cons, List.sum_cons, List.length_cons]
   omega
 have h1 := this (cs.filter fun c => decide (c.1 ∉ f)) fun c hc => hg c (List.mem_filter.mp hc).1
 have h2 := List.length_filter_le (fun c : Ch => decide (c.1 ∉ f)) cs
 omega
section
variable {fuel n : Nat} {σ : Store}
theorem P12 : P14 12 = some Flaw_ground := rfl
theorem P13 : P14 13 = some Flaw_closed := rfl
theorem run_ground {C : Cfg} (hfu : 4000 < C.fuel) (cs : List Ch) (hcs : cs.length <= 60) (hg : ∀ c ∈ cs, GenCh c) (H : ChsOk cs) (nm : List (List Nat)) (hnm : nm.Sublist (cs.map (·.1))) :
 Ends (fun r => ∃ f : List (List Nat), (∀ c ∈ cs, c.1 ∈ f -> ∀ l ∈ c.2.1, l ∈ f) ∧ r = .ok (.ret (.ref 1)) [.dictS (mapK Tx dl (leanK cs)), .list (f.map vs), .list []])
  (execSs C Flaw_ground.body [some (.d (.list (cs.map Ch.data))), some (.d (dl nm)), none, none, none, none, none] []) := by
 show Ends _ (execSs C [_, _, _, _, .while_ (.var 5) groundB, _] _ [])
 refine go_asg (v := .ref 0) (σ₁ := [.dictS []]) rfl ?_
 refine go_foldl (l := cs) (w := fun c => V.d c.data) (σ₁ := [.dictS []]) (fun pre (s : List Ch) => pre = s)
  (fun (s : List Ch) ρ σ => (∃ z3, ρ = [some (.d (.list (cs.map Ch.data))), some (.d (dl nm)), some (.ref 0), z3, none, none, none]) ∧ σ = [.dictS (mapK Tx dl (leanK s))]) []
  (it_of (v := .d (.list (cs.map Ch.data))) rfl (it_map _ _)) rfl ⟨⟨none, rfl⟩, rfl⟩ ?_ ?_
 ·rintro p c q _ ρ σ hp rfl ⟨⟨z3, rfl⟩, rfl⟩
  have hnew : getK (leanK p) c.1 = none := by
   refine get_mem.mpr fun h => ?_
   rw [List.map_map] at h
   have hn := H.nd
   rw [hp, List.map_append, List.map_cons, List.nodup_append] at hn
   exact hn.2.2 _ h _ (by simp) rfl
  have hlen : (leanK p).length <= 60 := by
   have h2 := congrArg List.length hp
   simp at h2 ⊢; omega
  show Ends (fun r => ∃ (s' : List Ch) (ρ' : Vars) (σ' : Store), p ++ [c] = s' ∧ ((∃ z3, ρ' = [some (.d (.list (cs.map Ch.data))), some (.d (dl nm)), some (.ref 0), z3, none, none, none]) ∧ σ' = [.dictS (mapK Tx dl (leanK s'))]) ∧ r = .ok (.next ρ') σ') (execSs C [_] _ _)
  refine go_set (x := .d (dl c.2.1)) (y := .ref 0) (z := vs c.1) (by simp only [eA_1, eA_5, eA_15, ok_bind, gz, gs, sz, sy, sub_ch1]) rfl (by simp only [eA_1, eA_5, eA_15, ok_bind, gz, gs, sz, sy, sub_ch0]) (set_dS rfl (by rw [mapK_len]; exact lt_c hlen (by rfl))) ?_
  refine go_nil ⟨p ++ [c], _, _, rfl, ⟨⟨_, rfl⟩, ?_⟩, rfl⟩
  rw [put_mapK dl Tx_in, put_new hnew, show leanK (p ++ [c]) = leanK p ++ [(c.1, c.2.1)] from List.map_append]; rfl
 rintro _ ρ σ rfl ⟨⟨z3, rfl⟩, rfl⟩
 refine go_asg (v := .ref 1) (σ₁ := [.dictS (mapK Tx dl (leanK cs)), .list []]) (by simp only [eA_13, eB_1, ok_bind, mkList] <;> rfl) ?_
 have hnl : nm.length <= 60 := by have := hnm.length_le; rw [List.length_map] at this; omega
 refine go_asg (v := .ref 2) (σ₁ := [.dictS (mapK Tx dl (leanK cs)), .list [], .list (nm.map vs)]) (by
  have e1 : (nm.map fun t => PyData.str (Tx t)).map V.d = nm.map vs := by rw [List.map_map]; rfl
  have e2 : ((nm.map fun t => PyData.str (Tx t)).map V.d).length <= line := by simp [line]; omega
  show mkList false ((nm.map fun t => PyData.str (Tx t)).map V.d) _ = _
  refine (if_pos e2).trans ?_
  rw [e1]; rfl) ?_
 have hw := wt_le hg []
 obtain ⟨f, ρ', k1, ⟨y3, y6, rfl⟩, k3⟩ := ground_loop (C := C) hcs hg H (.d (.list (cs.map Ch.data))) (.d (dl nm)) C.fuel [] nm z3 none ⟨List.nodup_nil, (fun y h => by cases h), (fun y h => hnm.subset h), (fun c _ h => by cases h)⟩ (by omega) (by omega)
 refine go_while (xA_11.trans k3) ?_
 refine go_ret (v := .ref 1) (σ₁ := [.dictS (mapK Tx dl (leanK cs)), .list (f.map vs), .list []]) rfl ⟨f, fun c hc h l hl => ?_, rfl⟩
 rcases k1.cl c hc h l hl with q | q
 ·exact q
 ·cases q
theorem ev_closed (hfu : 4000 < fuel) (cs : List Ch) (hcs : cs.length <= 60) (hg : ∀ c ∈ cs, GenCh c) (H : ChsOk cs) (nm : List (List Nat)) (hnm : nm.Sublist (cs.map (·.1))) :
 ∃ p : List Nat -> Bool, (∀ c ∈ cs, p c.1 = true -> ∀ l ∈ c.2.1, p l = true) ∧ ∀ σ, callF P14 fuel (n + 2) .frz 13 [.d (.list (cs.map Ch.data)), .d (dl nm)] σ = .ok (.d (.list ((cs.filter fun c => p c.1).map Ch.data))) σ := by
 obtain ⟨f, h1, h2⟩ := run_ground (C := ⟨callF P14 fuel n, fuel⟩) hfu cs hcs hg H nm hnm
 have hcl : ∀ σ, callF P14 fuel (n + 1) .frz 12 [.d (.list (cs.map Ch.data)), .d (dl nm)] σ = .ok (.d (dl f)) σ := fun σ => frz_ok P12 rfl (run_ret rfl h2) (snap_ref (by rw [List.map_map]; rfl))
 refine ⟨fun x => decide (x ∈ f), fun c hc h l hl => decide_eq_true (h1 c hc (of_decide_eq_true h) l hl), fun σ => frz_ok (v := .d (.list ((cs.filter fun c => decide (c.1 ∈ f)).map Ch.data))) (σ₁ := []) P13 rfl (run_ret rfl ?_) rfl⟩
 ·show Ends (fun r => r = _) (execSs ⟨callF P14 fuel (n + 1), fuel⟩ [_, _] [some (.d (.list (cs.map Ch.data))), some (.d (dl nm)), none, none] [])
  refine go_asg (v := .d (dl f)) (σ₁ := []) (by simp only [eA_5, eA_18, eB_1, eB_2, ok_bind, gz, gs, hcl]) ?_
  refine go_ret (e_compD (fun c : Ch => V.d c.data) (fun c : Ch => decide (c.1 ∈ f)) Ch.data (it_of (v := .d (.list (cs.map Ch.data))) rfl (it_map _ _)) (ln_l hcs) (fun c _ => ?_) (fun c _ _ => rfl)) rfl
  simp only [eA_1, eA_5, eA_10, eA_15, ok_bind, gz, gs, sz, sy, c_in, in_strs, tr_b, eF_1, eF_2, sub_ch0]
  cases h : decide (c.1 ∈ f) <;> rfl
end
end Mine.Internal
namespace Mine.Internal
open PySem
section
variable {α : Type} {C : Cfg} {ρ : Vars} {σ : Store}
theorem keysGo_map {f : V -> Store -> Res V} (w k : α -> V) : ∀ (l : List α), (∀ a ∈ l, f (w a) σ = .ok (k a) σ) -> keysGo f (l.map w) σ = .ok (l.map k) σ
 | [], _ => rfl
 | a :: l, h => by
  show (f (w a) σ).bind (fun k σ => (keysGo f (l.map w) σ).bind fun ks σ => .ok (k :: ks) σ) = _
  rw [h a (.head _), ok_bind, keysGo_map w k l fun b hb => h b (.tail _ hb)]; rfl
theorem sortOut_map {κ κ' α α' : Type} {lt : κ -> κ -> Bool} {lt' : κ' -> κ' -> Bool} (φ : κ -> κ') (h : α -> α') (hl : ∀ a b, lt' (φ a) (φ b) = lt a b) (rev : Bool) (l : List (κ × α)) :
 sortOut rev lt' (l.map fun p => (φ p.1, h p.2)) = (sortOut rev lt l).map h := by
 have e : ∀ l : List (κ × α), sortBy lt' (l.map fun p => (φ p.1, h p.2)) = (sortBy lt l).map fun p => (φ p.1, h p.2) := sortBy_mapN (fun p => (φ p.1, h p.2)) (fun p q => hl p.1 q.1)
 cases rev with
 | false =>
  show (sortBy lt' (l.map fun p => (φ p.1, h p.2))).map (·.2) = ((sortBy lt l).map (·.2)).map h
  rw [e, List.map_map, List.map_map]; rfl
 | true =>
  show (sortBy lt' (l.map fun p => (φ p.1, h p.2)).reverse).reverse.map (·.2) = ((sortBy lt l.reverse).reverse.map (·.2)).map h
  rw [<- List.map_reverse, e, <- List.map_reverse, List.map_map, List.map_map]; rfl
theorem sortOut_len {κ : Type} (rev : Bool) (lt : κ -> κ -> Bool) (l : List (κ × α)) : (sortOut rev lt l).length = l.length := by
 cases rev with
 | false => show ((sortBy lt l).map (·.2)).length = _; rw [List.length_map, (sortBy_perm l).length_eq]
 | true => show ((sortBy lt l.reverse).reverse.map (·.2)).length = _; rw [List.length_map, List.length_reverse, (sortBy_perm l.reverse).length_eq, List.length_reverse]
noncomputable def nameD : PyData -> Str
 | .tuple (.str x :: _) => x
 | _ => Str.empty
theorem data_nodup {cs : List Ch} (h : (cs.map (·.1)).Nodup) : (cs.map Ch.data).Nodup := by
 refine List.pairwise_map.mpr ((List.pairwise_map.mp h).imp fun {a b} hab e => hab ?_)
 have := congrArg nameD e
 exact Tx_inj this
theorem strsV_names (l : List Ch) : strsV (l.map fun c => vs c.1) = some (l.map fun c => Tx c.1) := by
 have := strsV_vs (l.map (·.1))
 rw [List.map_map, List.map_map] at this; exact this
theorem intsV_vi (g : α -> Int) : ∀ l : List α, intsV (l.map fun c => vi (g c)) = some (l.map g)
 | [] => rfl
 | a :: l => by
  show (match intsV (l.map fun c => vi (g c)) with | some xs => some (g a :: xs) | none => none) = _
  rw [intsV_vi g l]; rfl
theorem sortK_eq {rev : Bool} {cs : List Ch} {ks : List V} (hn : (cs.map (·.1)).Nodup) (hl : cs.length < 64) : sortK true rev (cs.map fun c => V.d c.data) ks σ = sortKs true rev (cs.map Ch.data) ks σ := by
 have e : allD (cs.map fun c => V.d c.data) = some (cs.map Ch.data) := by
  have := allD_map (cs.map Ch.data)
  rw [List.map_map] at this; exact this
 unfold sortK
 rw [e]
 exact if_pos ⟨data_nodup hn, by rw [List.length_map]; exact hl⟩
theorem sortK_int {rev : Bool} {cs : List Ch} (g : Ch -> Int) (hn : (cs.map (·.1)).Nodup) (hl : cs.length < 64) : sortK true rev (cs.map fun c => V.d c.data) (cs.map fun c => vi (g c)) σ = .ok (.d (.list ((sortOut rev ltI (cs.map fun c => (g c, c))).map Ch.data))) σ := by
 rw [sortK_eq hn hl]
 unfold sortKs
 rw [intsV_vi]
 show mkList true ((sortOut rev ltI ((cs.map g).zip (cs.map Ch.data))).map .d) σ = _
 rw [List.zip_map', show (cs.map fun c => (g c, Ch.data c)) = (cs.map fun c => (g c, c)).map fun p => (id p.1, Ch.data p.2) by rw [List.map_map]; rfl, sortOut_map id Ch.data (fun _ _ => rfl)]
 exact mkListT _ (by rw [List.length_map, sortOut_len, List.length_map]; exact Nat.le_trans (Nat.le_of_lt hl) (by decide))
theorem sortK_str {rev : Bool} {cs : List Ch} (hn : (cs.map (·.1)).Nodup) (hl : cs.length < 64) : sortK true rev (cs.map fun c => V.d c.data) (cs.map fun c => vs c.1) σ = .ok (.d (.list ((sortOut rev ltN (cs.map fun c => (c.1, c))).map Ch.data))) σ := by
 cases cs with
 | nil => exact sortK_int (fun _ => 0) hn hl |>.trans (by cases rev <;> rfl)
 | cons c cs =>
  rw [sortK_eq hn hl]
  unfold sortKs
  have e : intsV ((c :: cs).map fun c => vs c.1) = none := rfl
  rw [e, strsV_names]
  show mkList true ((sortOut rev ltStr (((c :: cs).map fun c => Tx c.1).zip ((c :: cs).map Ch.data))).map .d) σ = _
  rw [List.zip_map', show ((c :: cs).map fun c => (Tx c.1, Ch.data c)) = ((c :: cs).map fun c => (c.1, c)).map fun p => (Tx p.1, Ch.data p.2) by rw [List.map_map]; rfl, sortOut_map Tx Ch.data (fun a b => Tx_lt a b)]
  exact mkListT _ (by rw [List.length_map, sortOut_len, List.length_map]; exact Nat.le_trans (Nat.le_of_lt hl) (by decide))
theorem e_sortk {a key : E} {i : Nat} {rev : Bool} {cs : List Ch} (k : Ch -> V) (ha : evalE C a ρ σ = .ok (.d (.list (cs.map Ch.data))) σ) (hk : ∀ c ∈ cs, evalE C.still key (ρ.set i (some (.d c.data))) σ = .ok (k c) σ) :
 evalE C (.sortk true rev a i key) ρ σ = sortK true rev (cs.map fun c => V.d c.data) (cs.map k) σ := by
 have e : lstOf σ (.d (.list (cs.map Ch.data))) = some (cs.map fun c => V.d c.data) := by
  show some ((cs.map Ch.data).map V.d) = _
  rw [List.map_map]; rfl
 rw [eA_23, ha, ok_bind, e]
 dsimp only
 rw [keysGo_map (fun c : Ch => V.d c.data) k cs hk, ok_bind]
theorem idx_aft (m x : Mk) : ∀ r : List Mk, m ∈ r -> ∃ j, idxD (markD (some m)) (r.map fun m => markD (some m)) = some j ∧ j < r.length ∧ r.take (j + 1) ++ x :: r.drop (j + 1) = aft m x r
 | [], h => by cases h
 | y :: r, h => by
  by_cases e : y = m
  ·subst e
   refine ⟨0, ?_, Nat.succ_pos _, ?_⟩
   ·show (match eqN eqDepth (markD (some y)) (markD (some y)) with | some b => (match b with | true => some 0 | false => _) | none => none) = _
    rw [eq_markD, decide_eq_true rfl]
   ·rw [aft_eq]; rfl
  ·obtain ⟨j, h1, h2, h3⟩ := idx_aft m x r (by
    rcases List.mem_cons.mp h with h | h
    ·exact absurd h.symm e
    ·exact h)
   refine ⟨j + 1, ?_, Nat.succ_lt_succ h2, ?_⟩
   ·show (match eqN eqDepth (markD (some y)) (markD (some m)) with | some b => (match b with | true => some 0 | false => (match idxD (markD (some m)) (r.map fun m => markD (some m)) with | some j => some (j + 1) | none => none)) | none => none) = _
    rw [eq_markD, decide_eq_false e]
    dsimp only
    rw [h1]
   ·rw [aft_ne e, <- h3]; rfl
theorem allD_marks (r : List Mk) : allD (r.map vm) = some (r.map fun m => markD (some m)) := by
 have := allD_map (r.map fun m => markD (some m))
 rw [List.map_map] at this; exact this
theorem idx_ref {k j : Nat} {r : List Mk} {m : Mk} (hk : σ[k]? = some (.list (r.map vm))) (hj : idxD (markD (some m)) (r.map fun m => markD (some m)) = some j) : methcall .index true (.ref k) [vm m] σ = .ok (vi j) σ := by
 show (match σ[k]? with | some ob => (match ob with | .list ws => idxIn (vm m) ws σ | _ => .bad) | none => .bad : Res V) = _
 rw [hk]
 show (match allD (r.map vm) with | some xs => (match inD (markD (some m)) xs with | some _ => (match idxD (markD (some m)) xs with | some j => Res.ok (V.d (.int j)) σ | none => .bad) | none => .bad) | none => .bad) = _
 rw [allD_marks]
 dsimp only
 rw [inD_mark]
 dsimp only
 rw [hj]
theorem ins_ref {k : Nat} {j : Int} {r : List V} {x : V} (hk : σ[k]? = some (.list r)) (h0 : 0 <= j) (h1 : j <= r.length) (h2 : r.length < line) : methcall .insert true (.ref k) [vi j, x] σ = .ok (.d .none) (σ.set k (.list (r.take j.toNat ++ x :: r.drop j.toNat))) := by
 show (match σ[k]? with | some ob => (match ob with | .list ws => insTo k (vi j) x ws σ | _ => .bad) | none => .bad : Res V) = _
 rw [hk]
 exact if_pos ⟨h0, h1, h2⟩
end
end Mine.Internal
namespace Mine.Internal
open PySem
noncomputable def modelD : List S := [
 .ite (.cmp .Eq (.sub (.var 8) (.cst (.int 0))) (.cst (.str (Str.ofString "add"))))
  [
   .asg 10 (.cst (.int 0)),
   .ite (.cmp .IsNot (.sub (.var 8) (.cst (.int 1))) (.cst .none))
    [
     .asg 10 (.bin true .Add (.meth .index true (.var 4) [.sub (.var 8) (.cst (.int 1))]) (.cst (.int 1)))]
    [],
   .exp (.meth .insert true (.var 4) [.var 10, .tup [.sub (.var 3) (.cst (.int 0)), .var 7]]),
   .set (.var 5) (.tup [.sub (.var 3) (.cst (.int 0)), .var 7]) (.sub (.var 8) (.cst (.int 2))),
   .asg 7 (.bin true .Add (.var 7) (.cst (.int 1)))]
  [
   .ite (.cmp .Eq (.sub (.var 8) (.cst (.int 0))) (.cst (.str (Str.ofString "set"))))
    [
     .set (.var 5) (.sub (.var 8) (.cst (.int 1))) (.sub (.var 8) (.cst (.int 2)))]
    [
     .set (.var 6) (.sub (.var 8) (.cst (.int 1))) (.cst (.bool true))]]]
noncomputable abbrev strT (l : List Nat) : PyData := .str (Tx l)
noncomputable abbrev mst (h : O) (row : List Mk) (wd : List (Mk × List Nat)) (gn : List (Mk × Bool)) : Store := [h, .list (row.map vm), .dictP (mapK mk2 strT wd), .dictP (mapK mk2 PyData.bool gn)]
theorem has_put {κ β : Type} [DecidableEq κ] {h : List (κ × β)} {k k' : κ} {v : β} (e : k' = k ∨ ∃ l, getK h k' = some l) : ∃ l, getK (putK h k v) k' = some l := by
 rw [get_some_iff, put_keys]
 rcases e with e | e
 ·exact .inl e
 ·exact .inr (get_some_iff.mp e)
theorem kne1 : kset ≠ kadd := by decide
theorem kne2 : kcut ≠ kadd := by decide
theorem kne3 : kcut ≠ kset := by decide
theorem turn_deed {C : Cfg} {h : O} {a0 a1 a2 : V} {c : Ch} {d : Deed} (hs : Shp d) {row : List Mk} {wd : List (Mk × List Nat)} {gn : List (Mk × Bool)} {own B : Nat} (hm : isAdd d = true -> ∀ m, d.mark = some m -> m ∈ row)
 (hw : ∀ m ∈ row, ∃ l, getK wd m = some l) (hB : B <= 10000) (h1 : row.length <= B) (h2 : wd.length <= B) (h3 : gn.length <= B) (z9 z10 z11 : Option V) :
 Ends (fun r => ∃ (row' : List Mk) (wd' : List (Mk × List Nat)) (gn' : List (Mk × Bool)) (own' : Nat) (z10 : Option V), row' = (if isAdd d then insM d.mark (c.1, (own : Int)) row else row) ∧ own' = own + (if isAdd d then 1 else 0) ∧
  (∀ m ∈ row', ∃ l, getK wd' m = some l) ∧ row'.length <= B + 1 ∧ wd'.length <= B + 1 ∧ gn'.length <= B + 1 ∧
  r = .ok (.next [some a0, some a1, some a2, some (.d c.data), some (.ref 1), some (.ref 2), some (.ref 3), some (vi own'), some (.d d.data), z9, z10, z11]) (mst h row' wd' gn'))
  (execSs C modelD [some a0, some a1, some a2, some (.d c.data), some (.ref 1), some (.ref 2), some (.ref 3), some (vi own), some (.d d.data), z9, z10, z11] (mst h row wd gn)) := by
 have hx : ∀ σ, subscr (.d d.data) (vi 1) σ = some (.d (markD d.mark)) := fun σ => sub_mark d
 refine go_ite (t := decide (d.word = kadd)) (σ₁ := mst h row wd gn) (by simp only [eA_1, eA_5, eA_10, eA_15, ok_bind, gz, gs, c_eq, eq_str, sub_word, k_add] <;> rfl) (fun ha => ?_) (fun ha => ?_)
 ·have ia : isAdd d = true := ha
  have ht : ∃ l, d.text = some l := by
   have ha := of_decide_eq_true ha
   rcases hs with ⟨_, e⟩ | ⟨e, _⟩ | ⟨e, _⟩
   ·exact e
   ·exact absurd (e.symm.trans ha) kne1
   ·exact absurd (e.symm.trans ha) kne2
  obtain ⟨l, hl⟩ := ht
  refine go_asg (v := vi 0) (σ₁ := mst h row wd gn) rfl ?_
  refine go_mid (M := fun ρ σ => (∃ a : Int, (0 <= a ∧ a <= row.length ∧ row.take a.toNat ++ (c.1, (own : Int)) :: row.drop a.toNat = insM d.mark (c.1, (own : Int)) row) ∧ ρ = [some a0, some a1, some a2, some (.d c.data), some (.ref 1), some (.ref 2), some (.ref 3), some (vi own), some (.d d.data), z9, some (vi a), z11]) ∧ σ = mst h row wd gn) ?_ ?_
  ·refine go_ite (t := !d.mark.isNone) (σ₁ := mst h row wd gn) (by simp only [eA_1, eA_5, eA_10, eA_15, ok_bind, gz, gs, sz, sy, c_isn, no_s, is_mark, hx]) (fun hn => ?_) (fun hn => ?_)
   ·cases hmk : d.mark with
    | none => rw [hmk] at hn; cases hn
    | some m =>
     obtain ⟨j, j1, j2, j3⟩ := idx_aft m (c.1, (own : Int)) row (hm ia m hmk)
     have hi := idx_ref (σ := mst h row wd gn) (k := 1) (r := row) rfl j1
     refine go_asg (v := vi ((j : Int) + 1)) (σ₁ := mst h row wd gn) (by
      rw [eA_6, e_meth1 (y := .ref 1) (x := vm m) rfl (by simp only [eA_1, eA_5, eA_15, ok_bind, gz, gs, sz, sy, hx, hmk]) rfl, hi, ok_bind, eA_1, ok_bind]; exact b_add) (go_nil ⟨_, _, ⟨⟨(j : Int) + 1, ⟨by omega, by omega, ?_⟩, rfl⟩, rfl⟩, rfl⟩)
     exact j3
   ·have hmk : d.mark = none := by
     cases hmk : d.mark with
     | none => rfl
     | some m => rw [hmk] at hn; cases hn
    exact go_nil ⟨_, _, ⟨⟨0, ⟨Int.le_refl _, by omega, by rw [hmk]; rfl⟩, rfl⟩, rfl⟩, rfl⟩
  rintro _ _ ⟨⟨a, ⟨a1', a2', a3'⟩, rfl⟩, rfl⟩
  have hins := ins_ref (σ := mst h row wd gn) (k := 1) (r := row.map vm) (x := vm (c.1, (own : Int))) rfl a1' (by rw [List.length_map]; exact a2') (by rw [List.length_map]; exact lt_c h1 (by simp [line]; omega))
  have htup : ∀ σ z10, evalE C (.tup [.sub (.var 3) (.cst (.int 0)), .var 7]) [some a0, some a1, some a2, some (.d c.data), some (.ref 1), some (.ref 2), some (.ref 3), some (vi own), some (.d d.data), z9, z10, z11] σ = .ok (vm (c.1, (own : Int))) σ := fun σ z10 => by
   simp only [eA_1, eA_5, eA_12, eA_15, eB_1, eB_2, ok_bind, gz, gs, sub_ch0, if_pos (len2 _ _), tup2]; rfl
  refine go_exp (v := .d .none) (σ₁ := mst h (insM d.mark (c.1, (own : Int)) row) wd gn) (by
   rw [e_meth2 (y := .ref 1) (x := vi a) (z := vm (c.1, (own : Int))) rfl rfl (htup _ _) rfl, hins, <- List.map_take, <- List.map_drop, <- List.map_cons, <- List.map_append, a3']; rfl) ?_
  have hset := set_dP (σ := mst h (insM d.mark (c.1, (own : Int)) row) wd gn) (k := 2) (kvs := mapK mk2 strT wd) (m := (c.1, (own : Int))) (d := strT l) rfl (by rw [mapK_len]; exact lt_c h2 (by simp [line]; omega))
  refine go_set (x := vs l) (y := .ref 2) (z := vm (c.1, (own : Int))) (by simp only [eA_1, eA_5, eA_15, ok_bind, gz, gs, sub_text d hl]) rfl (htup _ _) hset ?_
  refine go_asg (v := vi ((own : Int) + 1)) rfl (go_nil ⟨insM d.mark (c.1, (own : Int)) row, putK wd (c.1, (own : Int)) l, gn, own + 1, some (vi a), by rw [if_pos ia], by rw [if_pos ia], fun m hm' => ?_, ?_, ?_, Nat.le_succ_of_le h3, ?_⟩)
  ·rcases List.mem_cons.mp ((insM_perm ..).mem_iff.mp hm') with q | q
   ·exact has_put (.inl q)
   ·exact has_put (.inr (hw m q))
  ·rw [(insM_perm ..).length_eq, List.length_cons]; exact Nat.succ_le_succ h1
  ·exact Nat.le_trans (putK_len ..) (Nat.succ_le_succ h2)
  ·rw [put_mapK strT mk2_in]; rfl
 ·have ia : isAdd d = false := ha
  have hne := of_decide_eq_false ha
  refine go_ite (t := decide (d.word = kset)) (σ₁ := mst h row wd gn) (by simp only [eA_1, eA_5, eA_10, eA_15, ok_bind, gz, gs, c_eq, eq_str, sub_word, k_set] <;> rfl) (fun hb => ?_) (fun hb => ?_)
  ·have ht : ∃ m l, d.mark = some m ∧ d.text = some l := by
    have hb := of_decide_eq_true hb
    rcases hs with ⟨e, _⟩ | ⟨_, e⟩ | ⟨e, _⟩
    ·exact absurd e hne
    ·exact e
    ·exact absurd (e.symm.trans hb) kne3
   obtain ⟨m, l, hmk, hl⟩ := ht
   have hset := set_dP (σ := mst h row wd gn) (k := 2) (kvs := mapK mk2 strT wd) (m := m) (d := strT l) rfl (by rw [mapK_len]; exact lt_c h2 (by simp [line]; omega))
   refine go_set (x := vs l) (y := .ref 2) (z := vm m) (by simp only [eA_1, eA_5, eA_15, ok_bind, gz, gs, sub_text d hl]) rfl (by simp only [eA_1, eA_5, eA_15, ok_bind, gz, gs, hx, hmk]) hset ?_
   refine go_nil ⟨row, putK wd m l, gn, own, z10, by rw [if_neg (by rw [ia]; decide)], by rw [if_neg (by rw [ia]; decide)]; rfl, fun m hm' => has_put (.inr (hw m hm')), Nat.le_succ_of_le h1, Nat.le_trans (putK_len ..) (Nat.succ_le_succ h2), Nat.le_succ_of_le h3, ?_⟩
   rw [put_mapK strT mk2_in]; rfl
  ·have ht : ∃ m, d.mark = some m := by
    have hb := of_decide_eq_false hb
    rcases hs with ⟨e, _⟩ | ⟨e, _⟩ | ⟨_, e⟩
    ·exact absurd e hne
    ·exact absurd e hb
    ·exact e
   obtain ⟨m, hmk⟩ := ht
   have hset := set_dP (σ := mst h row wd gn) (k := 3) (kvs := mapK mk2 PyData.bool gn) (m := m) (d := .bool true) rfl (by rw [mapK_len]; exact lt_c h3 (by simp [line]; omega))
   refine go_set (x := vb true) (y := .ref 3) (z := vm m) rfl rfl (by simp only [eA_1, eA_5, eA_15, ok_bind, gz, gs, hx, hmk]) hset ?_
   refine go_nil ⟨row, wd, putK gn m true, own, z10, by rw [if_neg (by rw [ia]; decide)], by rw [if_neg (by rw [ia]; decide)]; rfl, hw, Nat.le_succ_of_le h1, Nat.le_succ_of_le h2, Nat.le_trans (putK_len ..) (Nat.succ_le_succ h3), ?_⟩
   rw [put_mapK PyData.bool mk2_in]; rfl
end Mine.Internal
namespace Mine.Internal
open PySem
section
variable {α : Type} {C : Cfg} {ρ : Vars} {σ : Store}
theorem compS_lref {f : V -> Store -> Res (Option V)} {w : α -> V} {k : Nat} {cs : List α} (hk : σ[k]? = some (.list (cs.map w))) (g : α -> Option V) (hf : ∀ a ∈ cs, f (w a) σ = .ok (g a) σ) :
 ∀ (l pre : List α), cs = pre ++ l -> compS f (l.length + 1) (.lref k pre.length) σ = .ok (l.filterMap g) σ
 | [], pre, he => by
  show compOne _ f σ (nextAt k pre.length σ[k]?) = _
  rw [hk]
  have e : (cs.map w)[pre.length]? = none := by rw [he]; simp
  show compOne _ f σ (match (cs.map w)[pre.length]? with | some v => some (some (v, Src.lref k (pre.length + 1))) | none => some none) = _
  rw [e]; rfl
 | a :: l, pre, he => by
  have ih := compS_lref hk g hf l (pre ++ [a]) (by simp [he])
  rw [List.length_append] at ih
  have ih : compS f (l.length + 1) (.lref k (pre.length + 1)) σ = .ok (l.filterMap g) σ := ih
  show compOne (compS f (l.length + 1)) f σ (nextAt k pre.length σ[k]?) = _
  rw [hk]
  have e : (cs.map w)[pre.length]? = some (w a) := by rw [he]; simp
  show compOne (compS f (l.length + 1)) f σ (match (cs.map w)[pre.length]? with | some v => some (some (v, Src.lref k (pre.length + 1))) | none => some none) = _
  rw [e]
  show (match f (w a) σ with | .ok x σ => (match compS f (l.length + 1) (.lref k (pre.length + 1)) σ with | .ok xs σ => Res.ok (match x with | some y => y :: xs | none => xs) σ | .bad => .bad) | .bad => .bad) = _
  rw [hf a (by rw [he]; simp)]
  dsimp only
  rw [ih, List.filterMap_cons]
  cases g a <;> rfl
theorem e_compL {elt e : E} {t k : Nat} {ifs : List E} {cs : List α} (w : α -> V) (p : α -> Bool) (g : α -> PyData) (he : evalE C e ρ σ = .ok (.ref k) σ) (hk : σ[k]? = some (.list (cs.map w))) (hl : cs.length <= line)
 (hp : ∀ a ∈ cs, evalIfs C ifs ((ρ.set t none).set t (some (w a))) σ = .ok (p a) σ)
 (hg : ∀ a ∈ cs, p a = true -> evalE C elt ((ρ.set t none).set t (some (w a))) σ = .ok (.d (g a)) σ) :
 evalE C (.comp true elt [t] (.of e) ifs) ρ σ = .ok (.d (.list ((cs.filter p).map g))) σ := by
 have hit : evalIt C (.of e) ρ σ = .ok (.lref k 0) σ := it_of he (by
  show (if isListO σ[k]? = true then some (Src.lref k 0) else none) = _
  rw [hk]; rfl)
 have hfu : (Src.lref k 0).fuel σ = cs.length + 1 := by
  have e : lstOf σ (.ref k) = some (cs.map w) := by
   show (match σ[k]? with | some (.list vs) => some vs | _ => none) = _
   rw [hk]
  show (match lstOf σ (.ref k) with | some ws => ws.length + 1 | none => 0) = _
  rw [e, <- List.length_map (f := w) (as := cs)]
 have hgo : compS (compStep ρ [t] (fun ρ σ => evalIfs C ifs ρ σ) (fun ρ σ => evalE C elt ρ σ)) (cs.length + 1) (.lref k 0) σ = .ok (cs.filterMap fun a => if p a then some (V.d (g a)) else none) σ := by
  refine compS_lref hk (fun a => if p a then some (V.d (g a)) else none) (fun a ha => ?_) cs [] rfl
  show (evalIfs C ifs ((ρ.set t none).set t (some (w a))) σ).bind _ = _
  rw [hp a ha, ok_bind]
  cases h : p a with
  | true =>
   show (evalE C elt ((ρ.set t none).set t (some (w a))) σ).bind _ = _
   rw [hg a ha h]; rfl
  | false => rfl
 rw [eA_20, hit, ok_bind, hfu, hgo]
 ·show mkList true (cs.filterMap fun a => if p a then some (V.d (g a)) else none) σ = _
  have e : (cs.filterMap fun a => if p a then some (V.d (g a)) else none) = ((cs.filter p).map g).map V.d := by
   clear hk hl hp hg hfu hgo
   induction cs with
   | nil => rfl
   | cons a l ih => cases h : p a <;> simp [List.filterMap_cons, List.filter_cons, h, ih, List.map_map]
  rw [e]
  exact mkListT _ (by rw [List.length_map]; exact Nat.le_trans (List.length_filter_le _ _) hl)
end
theorem rowD_snoc (nm : List Nat) (d : Deed) : ∀ (D : List Deed) (k : Nat) (r : List Mk), rowD nm (D ++ [d]) k r = if isAdd d then insM d.mark (nm, ((k + adds D : Nat) : Int)) (rowD nm D k r) else rowD nm D k r
 | [], k, r => rfl
 | e :: D, k, r => by
  show (if isAdd e then rowD nm (D ++ [d]) (k + 1) (insM e.mark (nm, (k : Int)) r) else rowD nm (D ++ [d]) k r) = if isAdd d then insM d.mark (nm, ((k + ((if isAdd e then 1 else 0) + adds D) : Nat) : Int)) (if isAdd e then rowD nm D (k + 1) (insM e.mark (nm, (k : Int)) r) else rowD nm D k r) else (if isAdd e then rowD nm D (k + 1) (insM e.mark (nm, (k : Int)) r) else rowD nm D k r)
  rw [rowD_snoc nm d D (k + 1), rowD_snoc nm d D k]
  by_cases he : isAdd e = true
  ·simp only [if_pos he]
   rw [show k + (1 + adds D) = k + 1 + adds D by omega]
  ·simp only [if_neg he]
   rw [Nat.zero_add]
theorem fit_at {q : Mk -> Bool} {nm : List Nat} {d : Deed} {D2 : List Deed} (hd : isAdd d = true) : ∀ (D1 : List Deed) (k : Nat) (r : List Mk), FitD q nm (D1 ++ d :: D2) k r -> ∀ m, d.mark = some m -> m ∈ rowD nm D1 k r
 | [], k, r, h, m, hm => by
  have h : (if isAdd d then (∀ m, d.mark = some m -> q m = true ∧ m ∈ r) ∧ FitD q nm D2 (k + 1) (insM d.mark (nm, (k : Int)) r) else FitD q nm D2 k r) := h
  rw [if_pos hd] at h
  exact (h.1 m hm).2
 | e :: D1, k, r, h, m, hm => by
  have h : (if isAdd e then (∀ m, e.mark = some m -> q m = true ∧ m ∈ r) ∧ FitD q nm (D1 ++ d :: D2) (k + 1) (insM e.mark (nm, (k : Int)) r) else FitD q nm (D1 ++ d :: D2) k r) := h
  show m ∈ if isAdd e then rowD nm D1 (k + 1) (insM e.mark (nm, (k : Int)) r) else rowD nm D1 k r
  by_cases he : isAdd e = true
  ·rw [if_pos he] at h ⊢
   exact fit_at hd D1 _ _ h.2 m hm
  ·rw [if_neg he] at h ⊢
   exact fit_at hd D1 _ _ h m hm
theorem rowOf_snoc (c : Ch) : ∀ (A : List Ch) (r : List Mk), rowOf (A ++ [c]) r = rowD c.1 c.2.2 0 (rowOf A r)
 | [], _ => rfl
 | _ :: A, r => rowOf_snoc c A _
noncomputable def prD (x : Pr) : PyData := .tuple [markD (some x.1), .str (Tx x.2)]
section
variable {fuel n : Nat} {σ : Store}
theorem P11 : P14 11 = some Flaw_model := rfl
theorem swp3 {C : Cfg} {ρ : Vars} {r : List S} {Q : Res Fl -> Prop} {xs : List Nat} {es : List E} {ws : List V} {σ₁ : Store} (h : evalEs C es ρ σ = .ok ws σ₁) (hl : ws.length = xs.length) (k : Ends Q (execSs C r (setTs ρ xs ws) σ₁)) : Ends Q (execSs C (.swp xs es :: r) ρ σ) := by
 rw [xB_2, xA_3, h, ok_bind, if_pos hl, ok_bind]; exact k
theorem turn_model {C : Cfg} {h : O} {a0 a1 a2 : V} {c : Ch} (hg : GenCh c) {r0 : List Mk} (hf : FitD (fun _ => true) c.1 c.2.2 0 r0) {wd : List (Mk × List Nat)} {gn : List (Mk × Bool)} {B : Nat}
 (hw : ∀ m ∈ r0, ∃ l, getK wd m = some l) (hB : B <= 1180) (h1 : r0.length <= B) (h2 : wd.length <= B) (h3 : gn.length <= B) (z7 z8 z9 z10 z11 : Option V) :
 Ends (fun r => ∃ (wd' : List (Mk × List Nat)) (gn' : List (Mk × Bool)) (z7 z8 z10 : Option V),
  (∀ m ∈ rowD c.1 c.2.2 0 r0, ∃ l, getK wd' m = some l) ∧ (rowD c.1 c.2.2 0 r0).length <= B + 20 ∧ wd'.length <= B + 20 ∧ gn'.length <= B + 20 ∧
  r = .ok (.next [some a0, some a1, some a2, some (.d c.data), some (.ref 1), some (.ref 2), some (.ref 3), z7, z8, z9, z10, z11]) (mst h (rowD c.1 c.2.2 0 r0) wd' gn'))
  (execSs C [.asg 7 (.cst (.int 0)), .for_ [8] (.of (.sub (.var 3) (.cst (.int 2)))) modelD] [some a0, some a1, some a2, some (.d c.data), some (.ref 1), some (.ref 2), some (.ref 3), z7, z8, z9, z10, z11] (mst h r0 wd gn)) := by
 refine go_asg (v := vi 0) (σ₁ := mst h r0 wd gn) rfl ?_
 refine go_foldl (l := c.2.2) (w := fun d => V.d d.data) (σ₁ := mst h r0 wd gn)
  (fun pre (s : List Mk × List (Mk × List Nat) × List (Mk × Bool) × Nat) => s.1 = rowD c.1 pre 0 r0 ∧ s.2.2.2 = adds pre ∧ (∀ m ∈ s.1, ∃ l, getK s.2.1 m = some l) ∧ s.1.length <= B + pre.length ∧ s.2.1.length <= B + pre.length ∧ s.2.2.1.length <= B + pre.length)
  (fun (s : List Mk × List (Mk × List Nat) × List (Mk × Bool) × Nat) ρ σ => (∃ z8 z10, ρ = [some a0, some a1, some a2, some (.d c.data), some (.ref 1), some (.ref 2), some (.ref 3), some (vi s.2.2.2), z8, z9, z10, z11]) ∧ σ = mst h s.1 s.2.1 s.2.2.1) (r0, wd, gn, 0)
  (it_of (v := .d (.list (c.2.2.map Deed.data))) (by simp only [eA_1, eA_5, eA_15, ok_bind, gz, gs, sz, sy, sub_ch2]) (it_map _ _)) ⟨rfl, rfl, hw, h1, h2, h3⟩ ⟨⟨z8, z10, rfl⟩, rfl⟩ ?_ ?_
 ·rintro p d q ⟨row, wd, gn, own⟩ ρ σ hp ⟨g1, g2, g3, g4, g5, g6⟩ ⟨⟨z8, z10, rfl⟩, rfl⟩
  dsimp only at g1 g2 g3 g4 g5 g6
  have hlen : p.length < 20 := by
   have := congrArg List.length hp
   have := hg.deeds
   simp at this ‹c.2.2.length = _›; omega
  obtain ⟨row', wd', gn', own', y10, k1, k2, k3, k4, k5, k6, k7⟩ := turn_deed (C := C) (h := h) (a0 := a0) (a1 := a1) (a2 := a2) (c := c) (d := d) (hg.shp d (by rw [hp]; simp)) (row := row) (wd := wd) (gn := gn) (own := own) (B := B + p.length)
   (fun ia m hm => by rw [g1]; exact fit_at ia p 0 r0 (hp ▸ hf) m hm) g3 (by omega) g4 g5 g6 z9 z10 z11
  refine ⟨(row', wd', gn', own'), _, _, ⟨?_, ?_, k3, ?_, ?_, ?_⟩, ⟨⟨_, _, rfl⟩, rfl⟩, k7⟩
  ·show row' = _
   rw [k1, rowD_snoc, g1, g2, Nat.zero_add]
  ·show own' = _
   rw [k2, adds_snoc, g2]
  all_goals rw [List.length_append]; assumption
 ·rintro ⟨row, wd, gn, own⟩ ρ σ ⟨g1, g2, g3, g4, g5, g6⟩ ⟨⟨z8, z10, rfl⟩, rfl⟩
  dsimp only at g1 g2 g3 g4 g5 g6
  subst g1
  have := hg.deeds
  exact go_nil ⟨wd, gn, _, _, _, g3, by omega, by omega, by omega, rfl⟩
theorem run_model {C : Cfg} (cs : List Ch) (hcs : cs.length <= 60) (hg : ∀ c ∈ cs, GenCh c) (H : ChsOk cs) (hh : C.cf .shared 10 [.d (.list (cs.map Ch.data))] [] = .ok (.ref 0) [.dictS (mapK Tx PyData.int (hts [] cs))]) :
 Ends (fun r => ∃ (T : List Pr) (x : PyData) (v : V) (σ' : Store), (T.map (·.1)).Sublist (rowOf (ordOf cs) []) ∧ T.length <= 1200 ∧ snap σ' 8 v = some (.tuple [x, .list (T.map prD)]) ∧ r = .ok (.ret v) σ')
  (execSs C Flaw_model.body [some (.d (.list (cs.map Ch.data))), none, none, none, none, none, none, none, none, none, none, none] []) := by
 show Ends _ (execSs C [_, _, _, .for_ [3] _ [.asg 7 (.cst (.int 0)), .for_ [8] (.of (.sub (.var 3) (.cst (.int 2)))) modelD], _] _ [])
 refine go_asg (v := .ref 0) (σ₁ := [.dictS (mapK Tx PyData.int (hts [] cs))]) (by simp only [eA_5, eA_18, eB_1, eB_2, ok_bind, gz, hh]) ?_
 have hl64 : cs.length < 64 := by omega
 refine go_asg (v := .d (.list ((byName cs).map Ch.data))) (σ₁ := [.dictS (mapK Tx PyData.int (hts [] cs))]) (by
  rw [e_sortk (cs := cs) (fun c => vs c.1) rfl (fun c _ => by simp only [eA_1, eA_5, eA_15, ok_bind, gz, gs, sz, sy, sub_ch0]), sortK_str H.nd hl64]; rfl) ?_
 refine swp3 (ws := [.ref 1, .ref 2, .ref 3]) (σ₁ := mst (.dictS (mapK Tx PyData.int (hts [] cs))) [] [] []) (by simp only [eA_13, eA_21, eB_1, eB_2, ok_bind, mkList] <;> rfl) rfl ?_
 have hbn : ((byName cs).map (·.1)).Nodup := ((byName_perm cs).map _).nodup_iff.mpr H.nd
 have hbl : (byName cs).length < 64 := by rw [(byName_perm cs).length_eq]; exact hl64
 have hkey : ∀ c ∈ byName cs, getK (hts [] cs) c.1 = some (hgt cs c.1) := fun c hc => by
  obtain ⟨v, hv'⟩ := get_some_iff.mpr (show c.1 ∈ (hts [] cs).map (·.1) by rw [hts_keys]; exact List.mem_append.mpr (.inr (List.mem_map.mpr ⟨c, (byName_perm cs).mem_iff.mp hc, rfl⟩)))
  rw [hv', hgt, hv']; rfl
 have hO := ord_ok H.nd
 have hol : (ordOf cs).length <= 60 := by rw [hO.perm.length_eq]; exact hcs
 generalize hh0 : (O.dictS (mapK Tx PyData.int (hts [] cs))) = h0
 show Ends _ (execSs C _ [some (.d (.list (cs.map Ch.data))), some (.ref 0), some (.d (.list ((byName cs).map Ch.data))), none, some (.ref 1), some (.ref 2), some (.ref 3), none, none, none, none, none] _)
 refine go_foldl (l := ordOf cs) (w := fun c => V.d c.data) (σ₁ := mst h0 [] [] [])
  (fun pre (s : List Mk × List (Mk × List Nat) × List (Mk × Bool)) => s.1 = rowOf pre [] ∧ (∀ m ∈ s.1, ∃ l, getK s.2.1 m = some l) ∧ s.1.length <= 20 * pre.length ∧ s.2.1.length <= 20 * pre.length ∧ s.2.2.length <= 20 * pre.length)
  (fun (s : List Mk × List (Mk × List Nat) × List (Mk × Bool)) ρ σ => (∃ z3 z7 z8 z9 z10 z11, ρ = [some (.d (.list (cs.map Ch.data))), some (.ref 0), some (.d (.list ((byName cs).map Ch.data))), z3, some (.ref 1), some (.ref 2), some (.ref 3), z7, z8, z9, z10, z11]) ∧ σ = mst h0 s.1 s.2.1 s.2.2) ([], [], [])
  (it_of (v := .d (.list ((ordOf cs).map Ch.data))) (by
   rw [e_sortk (cs := byName cs) (fun c => vi (hgt cs c.1)) rfl (fun c hc => by
    have hs : subscr (.ref 0) (vs c.1) (mst h0 [] [] []) = some (vi (hgt cs c.1)) := sub_dS (by rw [<- hh0]; rfl) (by rw [get_mapK _ Tx_in, hkey c hc]; rfl)
    simp only [eA_1, eA_5, eA_15, ok_bind, gz, gs, sz, sy, sub_ch0, hs]), sortK_int (fun c => hgt cs c.1) hbn hbl]; rfl) (it_map _ _)) ⟨rfl, (fun m hm => by cases hm), Nat.le_refl _, Nat.le_refl _, Nat.le_refl _⟩ ⟨⟨none, none, none, none, none, none, rfl⟩, rfl⟩ ?_ ?_
 ·rintro p c q ⟨row, wd, gn⟩ ρ σ hp ⟨g1, g3, g4, g5, g6⟩ ⟨⟨z3, z7, z8, z9, z10, z11, rfl⟩, rfl⟩
  dsimp only at g1 g3 g4 g5 g6
  subst g1
  have hpl : p.length < 60 := by
   have := congrArg List.length hp
   simp at this; omega
  have hc : c ∈ cs := hO.perm.mem_iff.mp (by rw [hp]; simp)
  obtain ⟨wd', gn', y7, y8, y10, k1, k2, k3, k4, k5⟩ := turn_model (C := C) (h := h0) (a0 := .d (.list (cs.map Ch.data))) (a1 := .ref 0) (a2 := .d (.list ((byName cs).map Ch.data))) (hg c hc) (ord_row H hO hp (q := fun _ => true) (fun _ _ => rfl) (fun _ => rfl)) g3 (B := 20 * p.length) (by omega) g4 g5 g6 z7 z8 z9 z10 z11
  refine ⟨(rowOf (p ++ [c]) [], wd', gn'), [some (.d (.list (cs.map Ch.data))), some (.ref 0), some (.d (.list ((byName cs).map Ch.data))), some (.d c.data), some (.ref 1), some (.ref 2), some (.ref 3), y7, y8, z9, y10, z11], _, ⟨rfl, ?_, ?_, ?_, ?_⟩, ⟨⟨_, _, _, _, _, _, rfl⟩, rfl⟩, ?_⟩
  ·dsimp only; rw [rowOf_snoc]; exact k1
  ·dsimp only; rw [rowOf_snoc, List.length_append, List.length_singleton, Nat.mul_add]; exact k2
  ·rw [List.length_append, List.length_singleton, Nat.mul_add]; exact k3
  ·rw [List.length_append, List.length_singleton, Nat.mul_add]; exact k4
  ·rw [rowOf_snoc]; exact k5
 rintro ⟨row, wd, gn⟩ ρ σ ⟨g1, g3, g4, g5, g6⟩ ⟨⟨z3, z7, z8, z9, z10, z11, rfl⟩, rfl⟩
 dsimp only at g1 g3 g4 g5 g6
 have hrl : row.length <= 1200 := by omega
 have hcomp := e_compL (C := C) (elt := .tup [.var 11, .sub (.var 5) (.var 11)]) (e := .var 4) (t := 11) (k := 1) (ifs := [.cmp .NotIn (.var 11) (.var 6)]) (cs := row) (ρ := [some (.d (.list (cs.map Ch.data))), some (.ref 0), some (.d (.list ((byName cs).map Ch.data))), z3, some (.ref 1), some (.ref 2), some (.ref 3), z7, z8, z9, z10, z11]) (σ := mst h0 row wd gn)
  vm (fun m => (getK gn m).isNone) (fun m => prD (m, (getK wd m).getD [])) rfl rfl (ln_l hrl) (fun m _ => by
   have h1 : inV (mst h0 row wd gn) (vm m) (.ref 3) = some (getK gn m).isSome := by rw [in_dP (k := 3) (kvs := mapK mk2 PyData.bool gn) rfl, get_mapK _ mk2_in]; cases getK gn m <;> rfl
   simp only [eA_5, eA_10, ok_bind, gz, gs, sz, sy, c_nin, h1, no_s, tr_b, eF_1, eF_2]
   cases getK gn m <;> rfl) (fun m hm _ => by
   obtain ⟨l, hl⟩ := g3 m hm
   have h1 : subscr (.ref 2) (vm m) (mst h0 row wd gn) = some (vs l) := sub_dP (kvs := mapK mk2 strT wd) rfl (by rw [get_mapK _ mk2_in, hl]; rfl)
   simp only [eA_5, eA_12, eA_15, eB_1, eB_2, ok_bind, gz, gs, sz, sy, h1, if_pos (len2 _ _), tup2, hl]; rfl)
 refine go_ret (v := .tup [.ref 1, .d (.list ((row.filter fun m => (getK gn m).isNone).map fun m => prD (m, (getK wd m).getD [])))]) (σ₁ := mst h0 row wd gn) (by
  rw [eA_12, eB_2, eA_5]
  simp only [gz, gs, ok_bind, eB_2, hcomp, eB_1]
  rw [if_pos (len2 _ _)]; rfl) ⟨(row.filter fun m => (getK gn m).isNone).map fun m => (m, (getK wd m).getD []), .list (row.map fun m => markD (some m)), _, _, ?_, ?_, ?_, rfl⟩
 ·rw [List.map_map, <- g1]
  show ((row.filter fun m => (getK gn m).isNone).map id).Sublist row
  rw [List.map_id]; exact List.filter_sublist
 ·rw [List.length_map]; exact Nat.le_trans (List.length_filter_le _ _) hrl
 ·have e : snap (mst h0 row wd gn) 7 (.ref 1) = some (.list (row.map fun m => markD (some m))) := snap_list (n := 5) _ (by rw [List.map_map]; rfl)
  rw [List.map_map]
  show (match (match snap (mst h0 row wd gn) 7 (.ref 1) with | some x => some [x, PyData.list ((row.filter fun m => (getK gn m).isNone).map fun m => prD (m, (getK wd m).getD []))] | none => none) with | some xs => some (PyData.tuple xs) | none => none) = _
  rw [e]; rfl
theorem ev_model (cs : List Ch) (hcs : cs.length <= 60) (hg : ∀ c ∈ cs, GenCh c) (H : ChsOk cs) :
 ∃ (T : List Pr) (x : PyData), (T.map (·.1)).Sublist (rowOf (ordOf cs) []) ∧ T.length <= 1200 ∧ ∀ σ, callF P14 fuel (n + 2) .frz 11 [.d (.list (cs.map Ch.data))] σ = .ok (.d (.tuple [x, .list (T.map prD)])) σ := by
 obtain ⟨T, x, v, σ', h1, h2, h3, h4⟩ := run_model (C := ⟨callF P14 fuel (n + 1), fuel⟩) cs hcs hg H (ev_heights cs hcs hg H)
 exact ⟨T, x, h1, h2, fun σ => frz_ok P11 rfl (run_ret rfl h4) h3⟩
end
end Mine.Internal
namespace Mine.Internal
open PySem
noncomputable def kout : List Nat := [111, 117, 116]
theorem k_out : Str.ofString "out" = Tx kout := by decide +kernel
noncomputable def kput : List Nat := [112, 117, 116]
theorem k_put : Str.ofString "put" = Tx kput := by decide +kernel
noncomputable def ksay : List Nat := [115, 97, 121]
theorem k_say : Str.ofString "say" = Tx ksay := by decide +kernel
noncomputable def Stp.data (s : Stp) : PyData :=
 match s with
 | .out i => .tuple [.str (Tx kout), .int i]
 | .put i l => .tuple [.str (Tx kput), .int i, .str (Tx l)]
 | .say i l => .tuple [.str (Tx ksay), .int i, .str (Tx l)]
theorem downV_eq : ∀ n : Nat, downV n = ((List.range n).reverse).map fun j : Nat => vi (j : Int)
 | 0 => rfl
 | n + 1 => by
  show V.d (.int n) :: downV n = _
  rw [downV_eq n, List.range_succ, List.reverse_append]; rfl
section
variable {C : Cfg} {ρ : Vars} {σ σ₁ : Store}
theorem it_down {es : List E} {n : Nat} (h : evalEs C es ρ σ = .ok [vi ((n : Int) - 1), vi (-1), vi (-1)] σ₁) (hn : n <= 1000000) : evalIt C (.range es) ρ σ = .ok (.items ((List.range n).reverse.map fun j : Nat => vi (j : Int))) σ₁ := by
 rw [eI_1, h, ok_bind]
 show (match (if (n : Int) - 1 <= 1000000 ∧ -1 <= (n : Int) - 1 ∧ (-1 : Int) = -1 ∧ (-1 : Int) = -1 then some (downV ((n : Int) - 1 + 1).toNat) else none) with | some xs => Res.ok (Src.items xs) σ₁ | none => .bad) = _
 rw [if_pos ⟨by omega, by omega, rfl, rfl⟩, show ((n : Int) - 1 + 1).toNat = n by omega, downV_eq]
theorem fst_at {σ0 : Store} {o : O} : (σ0 ++ [o])[σ0.length]? = some o := by simp
theorem set_at {σ0 : Store} {o o' : O} : (σ0 ++ [o]).set σ0.length o' = σ0 ++ [o'] := by simp
theorem sub_pr0 (x : Pr) : subscr (.d (prD x)) (vi 0) σ = some (vm x.1) := at_tup 0 (by decide) (by decide) rfl
theorem sub_pr1 (x : Pr) : subscr (.d (prD x)) (vi 1) σ = some (vs x.2) := at_tup 1 (by decide) (by decide) rfl
end
theorem puts_snoc (T : List Pr) (x : Pr) : ∀ (A : List Pr) (k : Nat), puts T (A ++ [x]) k = puts T A k ++ putAt1 T x (k + A.length)
 | [], k => by show putAt1 T x k ++ [] = [] ++ putAt1 T x (k + 0); rw [List.append_nil]; rfl
 | y :: A, k => by
  show putAt1 T y k ++ puts T (A ++ [x]) (k + 1) = putAt1 T y k ++ puts T A (k + 1) ++ putAt1 T x (k + (A.length + 1))
  rw [puts_snoc T x A (k + 1), List.append_assoc, show k + 1 + A.length = k + (A.length + 1) by omega]
noncomputable abbrev sv (s : Stp) : V := .d s.data
theorem walk_steps {C : Cfg} {T0 T1 : List Pr} (hl0 : T0.length <= 1200) (hl1 : T1.length <= 1200) (σ0 : Store) (b af : V) (e1 e2 e3 : E)
 (h1 : ∀ j x s z3, T0[j]? = some x -> evalE C e1 [some (.d (.list (T0.map prD))), some (.d (.list (T1.map prD))), some b, z3, some af, some (.ref σ0.length), some (vi (j : Nat))] (σ0 ++ [.list s]) = .ok (vb (!decide (x.1 ∈ T1.map (·.1)))) (σ0 ++ [.list s]))
 (h2 : ∀ (x : Pr) (i : Nat) s, evalE C e2 [some (.d (.list (T0.map prD))), some (.d (.list (T1.map prD))), some b, some (.d (prD x)), some af, some (.ref σ0.length), some (vi i)] (σ0 ++ [.list s]) = .ok (vb (getK T0 x.1).isNone) (σ0 ++ [.list s]))
 (h3 : ∀ (x : Pr) (l : List Nat) (i : Nat) s, getK T0 x.1 = some l -> evalE C e3 [some (.d (.list (T0.map prD))), some (.d (.list (T1.map prD))), some b, some (.d (prD x)), some af, some (.ref σ0.length), some (vi i)] (σ0 ++ [.list s]) = .ok (vb (!decide (l = x.2))) (σ0 ++ [.list s])) (z3 z6 : Option V) :
 Ends (fun r => r = .ok (.ret (.ref σ0.length)) (σ0 ++ [.list ((stepsL T0 T1).map sv)]))
  (execSs C [.for_ [6] (.range [.bin true .Sub (.bcall .len true [.var 0]) (.cst (.int 1)), .neg (.cst (.int 1)), .neg (.cst (.int 1))]) [.ite e1 [.exp (.meth .append true (.var 5) [.tup [.cst (.str (Str.ofString "out")), .var 6]])] []],
   .for_ [6, 3] (.enum (.var 1)) [.ite e2 [.exp (.meth .append true (.var 5) [.tup [.cst (.str (Str.ofString "put")), .var 6, .sub (.var 3) (.cst (.int 1))]])] [.ite e3 [.exp (.meth .append true (.var 5) [.tup [.cst (.str (Str.ofString "say")), .var 6, .sub (.var 3) (.cst (.int 1))]])] []]],
   .ret (.var 5)] [some (.d (.list (T0.map prD))), some (.d (.list (T1.map prD))), some b, z3, some af, some (.ref σ0.length), z6] (σ0 ++ [.list []])) := by
 refine go_foldl (l := (List.range T0.length).reverse) (w := fun j : Nat => vi (j : Int)) (σ₁ := σ0 ++ [.list []])
  (fun pre (s : List Stp) => s ++ outs (fun x => decide (x.1 ∈ T1.map (·.1))) T0 (T0.length - pre.length) = outs (fun x => decide (x.1 ∈ T1.map (·.1))) T0 T0.length ∧ s.length <= pre.length)
  (fun (s : List Stp) ρ σ => (∃ z6, ρ = [some (.d (.list (T0.map prD))), some (.d (.list (T1.map prD))), some b, z3, some af, some (.ref σ0.length), z6]) ∧ σ = σ0 ++ [.list (s.map sv)]) []
  (it_down (by
   simp only [eA_1, eA_5, eA_6, eA_7, eA_17, eB_1, eB_2, ok_bind, gz, bc_len_l, List.length_map, b_sub]) (by omega)) ⟨rfl, Nat.le_refl _⟩ ⟨⟨z6, rfl⟩, rfl⟩ ?_ ?_
 ·rintro p j q s ρ σ hp ⟨g1, g2⟩ ⟨⟨z6, rfl⟩, rfl⟩
  have hlen : p.length < T0.length := by
   have := congrArg List.length hp
   simp at this; omega
  have hj : j = T0.length - 1 - p.length := by
   have h := congrArg (·[p.length]?) hp
   simp only [List.getElem?_append_right (Nat.le_refl _), Nat.sub_self, gz] at h
   rw [List.getElem?_reverse (by simpa using hlen), List.length_range, List.getElem?_range (by omega)] at h
   exact (Option.some.inj h).symm
  have hjl : j < T0.length := by omega
  have hx : T0[j]? = some T0[j] := List.getElem?_eq_getElem hjl
  have ho : outs (fun x => decide (x.1 ∈ T1.map (·.1))) T0 (T0.length - p.length) = outAt (fun x => decide (x.1 ∈ T1.map (·.1))) T0 j ++ outs (fun x => decide (x.1 ∈ T1.map (·.1))) T0 (T0.length - (p ++ [j]).length) := by
   have e : T0.length - p.length = j + 1 := by omega
   have e' : T0.length - (p ++ [j]).length = j := by simp; omega
   rw [e, e']; rfl
  unfold outAt at ho
  rw [hx] at ho
  generalize T0[j] = x at hx ho
  dsimp only at ho
  show Ends (fun r => ∃ (s' : List Stp) (ρ' : Vars) (σ' : Store), (s' ++ outs (fun x => decide (x.1 ∈ T1.map (·.1))) T0 (T0.length - (p ++ [j]).length) = outs (fun x => decide (x.1 ∈ T1.map (·.1))) T0 T0.length ∧ s'.length <= (p ++ [j]).length) ∧ ((∃ z6, ρ' = [some (.d (.list (T0.map prD))), some (.d (.list (T1.map prD))), some b, z3, some af, some (.ref σ0.length), z6]) ∧ σ' = σ0 ++ [.list (s'.map sv)]) ∧ r = .ok (.next ρ') σ') (execSs C [_] _ _)
  refine go_ite (h1 j x (s.map sv) z3 hx) (fun h => ?_) (fun h => ?_)
  ·refine go_exp (v := .d .none) (σ₁ := σ0 ++ [.list ((s ++ [Stp.out j]).map sv)]) (by
    rw [e_append (k := σ0.length) (x := sv (.out j)) (ws := s.map sv) rfl (by simp only [eA_1, eA_5, eA_12, eB_1, eB_2, ok_bind, gz, gs, sz, sy, if_pos (len2 _ _), tup2, k_out]; rfl) fst_at (by rw [List.length_map]; exact Nat.lt_of_le_of_lt g2 (by simp [line]; omega)), set_at, List.map_append]; rfl) (go_nil ⟨s ++ [Stp.out j], _, _, ⟨?_, by simp; omega⟩, ⟨⟨_, rfl⟩, rfl⟩, rfl⟩)
   rw [if_neg (by simpa using h)] at ho
   rw [<- g1, ho, List.append_assoc]
  ·refine go_nil ⟨s, _, _, ⟨?_, by simp; omega⟩, ⟨⟨_, rfl⟩, rfl⟩, rfl⟩
   rw [if_pos (by simpa using h)] at ho
   rw [<- g1, ho]; rfl
 rintro s ρ σ ⟨g1, g2⟩ ⟨⟨z6, rfl⟩, rfl⟩
 have gs1 : s = outs (fun x => decide (x.1 ∈ T1.map (·.1))) T0 T0.length := by
  rw [<- g1, List.length_reverse, List.length_range, Nat.sub_self]
  exact (List.append_nil s).symm
 rw [List.length_reverse, List.length_range] at g2
 clear g1
 have hit := it_enum (C := C) (e := .var 1) (ρ := [some (.d (.list (T0.map prD))), some (.d (.list (T1.map prD))), some b, z3, some af, some (.ref σ0.length), z6]) (σ := σ0 ++ [.list (s.map sv)]) (σ₁ := σ0 ++ [.list (s.map sv)]) (xs := T1.map prD) rfl
 have hz : (T1.map prD).zipIdx.map (fun p => V.d (.tuple [.int (p.2 : Int), p.1])) = T1.zipIdx.map fun p => V.d (.tuple [.int (p.2 : Int), prD p.1]) := by
  rw [List.zipIdx_map, List.map_map]; rfl
 rw [hz] at hit
 refine go_foldT (l := T1.zipIdx) (σ₁ := σ0 ++ [.list (s.map sv)]) (fun p => .int (p.2 : Int)) (fun p => prD p.1) (fun pre (u : List Stp) => u = s ++ puts T0 (pre.map (·.1)) 0 ∧ u.length <= T0.length + pre.length)
  (fun (u : List Stp) ρ σ => (∃ z3 z6, ρ = [some (.d (.list (T0.map prD))), some (.d (.list (T1.map prD))), some b, z3, some af, some (.ref σ0.length), z6]) ∧ σ = σ0 ++ [.list (u.map sv)]) s hit ⟨(List.append_nil s).symm, g2⟩ ⟨⟨z3, z6, rfl⟩, rfl⟩ ?_ ?_
 ·rintro p ⟨x, i⟩ q u ρ σ hp ⟨k1, k2⟩ ⟨⟨z3, z6, rfl⟩, rfl⟩
  have hlen : p.length < 1200 := by
   have := congrArg List.length hp
   simp at this; omega
  have hi : i = p.length := by
   have h := congrArg (·[p.length]?) hp
   simp only [List.getElem?_append_right (Nat.le_refl _), Nat.sub_self, gz, List.getElem?_zipIdx] at h
   obtain ⟨y, _, e⟩ := Option.map_eq_some_iff.mp h
   have := congrArg Prod.snd e
   simpa using this.symm
  have hpl : (p.map (·.1)).length = i := by rw [List.length_map, hi]
  have hps : puts T0 ((p ++ [(x, i)]).map (·.1)) 0 = puts T0 (p.map (·.1)) 0 ++ putAt1 T0 x i := by
   rw [List.map_append]
   refine (puts_snoc T0 x (p.map (·.1)) 0).trans ?_
   rw [hpl, Nat.zero_add]
  unfold putAt1 at hps
  show Ends (fun r => ∃ (u' : List Stp) (ρ' : Vars) (σ' : Store), (u' = s ++ puts T0 ((p ++ [(x, i)]).map (·.1)) 0 ∧ u'.length <= T0.length + (p ++ [(x, i)]).length) ∧ ((∃ z3 z6, ρ' = [some (.d (.list (T0.map prD))), some (.d (.list (T1.map prD))), some b, z3, some af, some (.ref σ0.length), z6]) ∧ σ' = σ0 ++ [.list (u'.map sv)]) ∧ r = .ok (.next ρ') σ') (execSs C [_] _ _)
  have hul : (u.map sv).length < line := by rw [List.length_map]; exact Nat.lt_of_le_of_lt k2 (by simp [line]; omega)
  refine go_ite (h2 x i (u.map sv)) (fun h => ?_) (fun h => ?_)
  ·refine go_exp (v := .d .none) (σ₁ := σ0 ++ [.list ((u ++ [Stp.put i x.2]).map sv)]) (by
    rw [e_append (k := σ0.length) (x := sv (.put i x.2)) (ws := u.map sv) rfl (by simp only [eA_1, eA_5, eA_12, eA_15, eB_1, eB_2, ok_bind, gz, gs, sz, sy, sub_pr1, if_pos (len3 _ _ _), tup3, k_put]; rfl) fst_at hul, set_at, List.map_append]; rfl) (go_nil ⟨u ++ [Stp.put i x.2], _, _, ⟨?_, by simp; omega⟩, ⟨⟨_, _, rfl⟩, rfl⟩, rfl⟩)
   rw [hps, Option.isNone_iff_eq_none.mp h, k1, List.append_assoc]
  ·cases hgx : getK T0 x.1 with
   | none => rw [hgx] at h; cases h
   | some l =>
    rw [hgx] at hps
    dsimp only at hps
    refine go_ite (h3 x l i (u.map sv) hgx) (fun h => ?_) (fun h => ?_)
    ·refine go_exp (v := .d .none) (σ₁ := σ0 ++ [.list ((u ++ [Stp.say i x.2]).map sv)]) (by
      rw [e_append (k := σ0.length) (x := sv (.say i x.2)) (ws := u.map sv) rfl (by simp only [eA_1, eA_5, eA_12, eA_15, eB_1, eB_2, ok_bind, gz, gs, sz, sy, sub_pr1, if_pos (len3 _ _ _), tup3, k_say]; rfl) fst_at hul, set_at, List.map_append]; rfl) (go_nil ⟨u ++ [Stp.say i x.2], _, _, ⟨?_, by simp; omega⟩, ⟨⟨_, _, rfl⟩, rfl⟩, rfl⟩)
     rw [hps, if_neg (by simpa using h), k1, List.append_assoc]
    ·refine go_nil ⟨u, _, _, ⟨?_, by simp; omega⟩, ⟨⟨_, _, rfl⟩, rfl⟩, rfl⟩
     rw [hps, if_pos (by simpa using h), List.append_nil]; exact k1
 ·rintro u ρ σ ⟨k1, k2⟩ ⟨⟨z3, z6, rfl⟩, rfl⟩
  have e : u = stepsL T0 T1 := by
   rw [k1, gs1]
   have : T1.zipIdx.map (·.1) = T1 := List.zipIdx_map_fst 0 T1
   rw [this]; rfl
  subst e
  exact go_ret rfl rfl
end Mine.Internal
namespace Mine.Internal
open PySem
theorem get_isSome (h : List Pr) (k : Mk) : (getK h k).isSome = decide (k ∈ h.map (·.1)) := by
 cases e : getK h k with
 | none => exact (decide_eq_false (get_mem.mp e)).symm
 | some v => exact (decide_eq_true (get_some_iff.mp ⟨v, e⟩)).symm
theorem get_isNone (h : List Pr) (k : Mk) : (getK h k).isNone = !decide (k ∈ h.map (·.1)) := by
 rw [<- get_isSome]; cases getK h k <;> rfl
theorem e_sub {C : Cfg} {ρ : Vars} {σ : Store} {a i : E} {x y v : V} (h1 : evalE C a ρ σ = .ok x σ) (h2 : evalE C i ρ σ = .ok y σ) (h3 : subscr x y σ = some v) : evalE C (.sub a i) ρ σ = .ok v σ := by
 rw [eA_15, h1, ok_bind, h2, ok_bind, h3]
theorem idx_get (m : Mk) (l : List Nat) : ∀ T : List Pr, getK T m = some l -> ∃ j, idxD (markD (some m)) ((T.map (·.1)).map fun m => markD (some m)) = some j ∧ T[j]? = some (m, l)
 | [], h => by cases h
 | y :: T, h => by
  rw [get_cons] at h
  by_cases e : y.1 = m
  ·rw [if_pos e] at h
   refine ⟨0, ?_, ?_⟩
   ·show (match eqN eqDepth (markD (some y.1)) (markD (some m)) with | some b => (match b with | true => some 0 | false => _) | none => none) = _
    rw [eq_markD, decide_eq_true e]
   ·show some y = _
    rw [<- e, <- Option.some.inj h]
  ·rw [if_neg e] at h
   obtain ⟨j, h1, h2⟩ := idx_get m l T h
   refine ⟨j + 1, ?_, h2⟩
   show (match eqN eqDepth (markD (some y.1)) (markD (some m)) with | some b => (match b with | true => some 0 | false => (match idxD (markD (some m)) ((T.map fun (y : Pr) => y.1).map fun m => markD (some m)) with | some j => some (j + 1) | none => none)) | none => none) = _
   rw [eq_markD, decide_eq_false e]
   dsimp only
   rw [h1]
section
variable {fuel n : Nat} {σ : Store}
theorem P1 : P14 1 = some F_steps := rfl
theorem P15 : P14 15 = some Flaw_due := rfl
theorem at_T {T : List Pr} {j : Nat} {x : Pr} (h : T[j]? = some x) (hl : T.length <= 1200) : subscr (.d (.list (T.map prD))) (vi (j : Int)) σ = some (.d (prD x)) := by
 have hj : j < T.length := by rw [List.getElem?_eq_some_iff] at h; exact h.1
 exact at_list (y := prD x) (j : Int) (Int.natCast_nonneg _) (by omega) (by rw [Int.toNat_natCast, List.getElem?_map, h]; rfl)
theorem new_of {T : List Pr} {p q : List Pr} {x : Pr} (hn : (T.map (·.1)).Nodup) (hp : T = p ++ x :: q) : getK p x.1 = none := by
 refine get_mem.mpr fun h => ?_
 rw [hp, List.map_append, List.map_cons, List.nodup_append] at hn
 exact hn.2.2 _ h _ (by simp) rfl
theorem run_steps {C : Cfg} {T0 T1 : List Pr} (hl0 : T0.length <= 1200) (hl1 : T1.length <= 1200) (hn0 : (T0.map (·.1)).Nodup) (hn1 : (T1.map (·.1)).Nodup) :
 Ends (fun r => r = .ok (.ret (.ref 2)) ([.dictP (mapK mk2 strT T0), .dictP (mapK mk2 strT T1)] ++ [.list ((stepsL T0 T1).map sv)])) (execSs C F_steps.body [some (.d (.list (T0.map prD))), some (.d (.list (T1.map prD))), none, none, none, none, none] []) := by
 show Ends _ (execSs C [_, _, _, _, _, _, _, _] _ [])
 refine go_asg (v := .ref 0) (σ₁ := [.dictP []]) rfl ?_
 refine go_foldl (l := T0) (w := fun x => V.d (prD x)) (σ₁ := [.dictP []]) (fun pre (s : List Pr) => pre = s)
  (fun (s : List Pr) ρ σ => (∃ z3, ρ = [some (.d (.list (T0.map prD))), some (.d (.list (T1.map prD))), some (.ref 0), z3, none, none, none]) ∧ σ = [.dictP (mapK mk2 strT s)]) []
  (it_of (v := .d (.list (T0.map prD))) rfl (it_map _ _)) rfl ⟨⟨none, rfl⟩, rfl⟩ ?_ ?_
 ·rintro p x q _ ρ σ hp rfl ⟨⟨z3, rfl⟩, rfl⟩
  have hpl : p.length <= 1200 := by have := congrArg List.length hp; simp at this; omega
  show Ends (fun r => ∃ (s' : List Pr) (ρ' : Vars) (σ' : Store), p ++ [x] = s' ∧ ((∃ z3, ρ' = [some (.d (.list (T0.map prD))), some (.d (.list (T1.map prD))), some (.ref 0), z3, none, none, none]) ∧ σ' = [.dictP (mapK mk2 strT s')]) ∧ r = .ok (.next ρ') σ') (execSs C [_] _ _)
  refine go_set (x := vs x.2) (y := .ref 0) (z := vm x.1) (by simp only [eA_1, eA_5, eA_15, ok_bind, gz, gs, sz, sy, sub_pr1]) rfl (by simp only [eA_1, eA_5, eA_15, ok_bind, gz, gs, sz, sy, sub_pr0]) (set_dP rfl (by rw [mapK_len]; exact lt_c hpl (by rfl))) ?_
  refine go_nil ⟨p ++ [x], _, _, rfl, ⟨⟨_, rfl⟩, ?_⟩, rfl⟩
  rw [put_mapK strT mk2_in, put_new (new_of hn0 hp)]; rfl
 rintro _ ρ σ rfl ⟨⟨z3, rfl⟩, rfl⟩
 refine go_asg (v := .ref 1) (σ₁ := [.dictP (mapK mk2 strT T0), .dictP []]) rfl ?_
 refine go_foldl (l := T1) (w := fun x => V.d (prD x)) (σ₁ := [.dictP (mapK mk2 strT T0), .dictP []]) (fun pre (s : List Pr) => pre = s)
  (fun (s : List Pr) ρ σ => (∃ z3, ρ = [some (.d (.list (T0.map prD))), some (.d (.list (T1.map prD))), some (.ref 0), z3, some (.ref 1), none, none]) ∧ σ = [.dictP (mapK mk2 strT T0), .dictP (mapK mk2 strT s)]) []
  (it_of (v := .d (.list (T1.map prD))) rfl (it_map _ _)) rfl ⟨⟨z3, rfl⟩, rfl⟩ ?_ ?_
 ·rintro p x q _ ρ σ hp rfl ⟨⟨z3, rfl⟩, rfl⟩
  have hpl : p.length <= 1200 := by have := congrArg List.length hp; simp at this; omega
  show Ends (fun r => ∃ (s' : List Pr) (ρ' : Vars) (σ' : Store), p ++ [x] = s' ∧ ((∃ z3, ρ' = [some (.d (.list (T0.map prD))), some (.d (.list (T1.map prD))), some (.ref 0), z3, some (.ref 1), none, none]) ∧ σ' = [.dictP (mapK mk2 strT T0), .dictP (mapK mk2 strT s')]) ∧ r = .ok (.next ρ') σ') (execSs C [_] _ _)
  refine go_set (x := vs x.2) (y := .ref 1) (z := vm x.1) (by simp only [eA_1, eA_5, eA_15, ok_bind, gz, gs, sz, sy, sub_pr1]) rfl (by simp only [eA_1, eA_5, eA_15, ok_bind, gz, gs, sz, sy, sub_pr0]) (set_dP rfl (by rw [mapK_len]; exact lt_c hpl (by rfl))) ?_
  refine go_nil ⟨p ++ [x], _, _, rfl, ⟨⟨_, rfl⟩, ?_⟩, rfl⟩
  rw [put_mapK strT mk2_in, put_new (new_of hn1 hp)]; rfl
 clear z3
 rintro _ ρ σ rfl ⟨⟨z3, rfl⟩, rfl⟩
 refine go_asg (v := .ref 2) (σ₁ := [.dictP (mapK mk2 strT T0), .dictP (mapK mk2 strT T1)] ++ [.list []]) (by simp only [eA_13, eB_1, ok_bind, mkList] <;> rfl) ?_
 have hD0 : ∀ (x : Pr) s, inV ([.dictP (mapK mk2 strT T0), .dictP (mapK mk2 strT T1)] ++ [O.list s]) (vm x.1) (.ref 0) = some (getK T0 x.1).isSome := fun x s => by
  rw [in_dP (k := 0) (kvs := mapK mk2 strT T0) rfl, get_mapK _ mk2_in]; cases getK T0 x.1 <;> rfl
 have hD1 : ∀ (x : Pr) s, inV ([.dictP (mapK mk2 strT T0), .dictP (mapK mk2 strT T1)] ++ [O.list s]) (vm x.1) (.ref 1) = some (getK T1 x.1).isSome := fun x s => by
  rw [in_dP (k := 1) (kvs := mapK mk2 strT T1) rfl, get_mapK _ mk2_in]; cases getK T1 x.1 <;> rfl
 refine walk_steps hl0 hl1 [.dictP (mapK mk2 strT T0), .dictP (mapK mk2 strT T1)] (.ref 0) (.ref 1) _ _ _ (fun j x s z3 hx => ?_) (fun x i s => ?_) (fun x l i s hg => ?_) z3 none
 ·exact e_cmp (e_sub (e_sub rfl rfl (at_T hx hl0)) eA_1 (sub_pr0 x)) rfl (by rw [c_nin, hD1, no_s, get_isSome])
 ·exact e_cmp (e_sub rfl eA_1 (sub_pr0 x)) rfl (by rw [c_nin, hD0, no_s]; cases getK T0 x.1 <;> rfl)
 ·have hs : subscr (.ref 0) (vm x.1) ([.dictP (mapK mk2 strT T0), .dictP (mapK mk2 strT T1)] ++ [O.list s]) = some (vs l) := sub_dP (kvs := mapK mk2 strT T0) rfl (by rw [get_mapK _ mk2_in, hg]; rfl)
  exact e_cmp (e_sub rfl (e_sub rfl eA_1 (sub_pr0 x)) hs) (e_sub rfl eA_1 (sub_pr1 x)) (by rw [c_ne, eq_str, no_s])
theorem snap_sv {σ0 : Store} (l : List Stp) : snap (σ0 ++ [.list (l.map sv)]) 8 (.ref σ0.length) = some (.list (l.map Stp.data)) := snap_ref (by rw [fst_at, List.map_map]; rfl)
theorem ev_steps {T0 T1 : List Pr} (hl0 : T0.length <= 1200) (hl1 : T1.length <= 1200) (hn0 : (T0.map (·.1)).Nodup) (hn1 : (T1.map (·.1)).Nodup) :
 callF P14 fuel (n + 1) .frz 1 [.d (.list (T0.map prD)), .d (.list (T1.map prD))] σ = .ok (.d (.list ((stepsL T0 T1).map Stp.data))) σ :=
 frz_ok P1 rfl (run_ret rfl (run_steps (C := ⟨callF P14 fuel n, fuel⟩) hl0 hl1 hn0 hn1)) (snap_sv (σ0 := [.dictP (mapK mk2 strT T0), .dictP (mapK mk2 strT T1)]) _)
theorem run_due {C : Cfg} {T0 T1 : List Pr} (hl0 : T0.length <= 1200) (hl1 : T1.length <= 1200) :
 Ends (fun r => r = .ok (.ret (.ref 1)) ([.list ((T0.map (·.1)).map vm)] ++ [.list ((stepsL T0 T1).map sv)])) (execSs C Flaw_due.body [some (.d (.list (T0.map prD))), some (.d (.list (T1.map prD))), none, none, none, none, none] []) := by
 show Ends _ (execSs C [_, _, _, _, _, _] _ [])
 have c1 := e_comp1 (C := C) (elt := .sub (.var 3) (.cst (.int 0))) (t := 3) (it := .of (.var 0)) (fz := false) (ρ := [some (.d (.list (T0.map prD))), some (.d (.list (T1.map prD))), none, none, none, none, none]) (σ := []) (σ₁ := []) (l := T0) (fun x => V.d (prD x)) (fun x => vm x.1) (it_of (v := .d (.list (T0.map prD))) rfl (it_map _ _)) (fun x _ => by simp only [eA_1, eA_5, eA_15, ok_bind, gz, gs, sz, sy, sub_pr0])
 refine go_asg (v := .ref 0) (σ₁ := [.list ((T0.map (·.1)).map vm)]) (c1.trans (by
  have : (T0.map fun x => vm x.1).length <= line := by rw [List.length_map]; exact le_c hl0 (by rfl)
  refine (if_pos this).trans ?_
  rw [List.map_map]; rfl)) ?_
 have c2 := e_comp1D (C := C) (elt := .sub (.var 3) (.cst (.int 0))) (t := 3) (it := .of (.var 1)) (ρ := [some (.d (.list (T0.map prD))), some (.d (.list (T1.map prD))), some (.ref 0), none, none, none, none]) (σ := [.list ((T0.map (·.1)).map vm)]) (σ₁ := [.list ((T0.map (·.1)).map vm)]) (l := T1) (fun x => V.d (prD x)) (fun x => markD (some x.1)) (it_of (v := .d (.list (T1.map prD))) rfl (it_map _ _)) (ln_l hl1) (fun x _ => by simp only [eA_1, eA_5, eA_15, ok_bind, gz, gs, sz, sy, sub_pr0])
 refine go_asg (v := .d (.list ((T1.map (·.1)).map fun m => markD (some m)))) (σ₁ := [.list ((T0.map (·.1)).map vm)]) (c2.trans (by rw [show ((T1.map (·.1)).map fun m => markD (some m)) = T1.map fun x => markD (some x.1) from List.map_map ..])) ?_
 refine go_asg (v := .ref 1) (σ₁ := [.list ((T0.map (·.1)).map vm)] ++ [.list []]) (by simp only [eA_13, eB_1, ok_bind, mkList] <;> rfl) ?_
 refine walk_steps hl0 hl1 [.list ((T0.map (·.1)).map vm)] (.ref 0) (.d (.list ((T1.map (·.1)).map fun m => markD (some m)))) _ _ _ (fun j x s z3 hx => ?_) (fun x i s => ?_) (fun x l i s hg => ?_) none none
 ·have hj : j < T0.length := by rw [List.getElem?_eq_some_iff] at hx; exact hx.1
  have hs : subscr (.ref 0) (vi (j : Int)) ([O.list ((T0.map (·.1)).map vm)] ++ [O.list s]) = some (vm x.1) := at_ref (ws := (T0.map (·.1)).map vm) rfl (Int.natCast_nonneg _) (by omega) (by rw [Int.toNat_natCast, List.getElem?_map, List.getElem?_map, hx]; rfl)
  exact e_cmp (e_sub rfl rfl hs) rfl (by rw [c_nin, in_marks, no_s])
 ·have hi := in_marksR (σ := [O.list ((T0.map (·.1)).map vm)] ++ [O.list s]) (k := 0) x.1 (T0.map (·.1)) rfl
  exact e_cmp (e_sub rfl eA_1 (sub_pr0 x)) rfl (by rw [c_nin, hi, no_s, get_isNone])
 ·obtain ⟨j, j1, j2⟩ := idx_get x.1 l T0 hg
  have hi := idx_ref (σ := [O.list ((T0.map (·.1)).map vm)] ++ [O.list s]) (k := 0) (r := T0.map (·.1)) rfl j1
  have he : evalE C (.meth .index true (.var 2) [.sub (.var 3) (.cst (.int 0))]) [some (.d (.list (T0.map prD))), some (.d (.list (T1.map prD))), some (.ref 0), some (.d (prD x)), some (.d (.list ((T1.map (·.1)).map fun m => markD (some m)))), some (.ref 1), some (vi i)] ([O.list ((T0.map (·.1)).map vm)] ++ [O.list s]) = .ok (vi (j : Int)) ([O.list ((T0.map (·.1)).map vm)] ++ [O.list s]) := by
   rw [e_meth1 (y := .ref 0) (x := vm x.1) rfl (e_sub rfl eA_1 (sub_pr0 x)) rfl]; exact hi
  exact e_cmp (e_sub (e_sub rfl he (at_T j2 hl0)) eA_1 (sub_pr1 (x.1, l))) (e_sub rfl eA_1 (sub_pr1 x)) (by rw [c_ne, eq_str, no_s])
theorem ev_due {T0 T1 : List Pr} (hl0 : T0.length <= 1200) (hl1 : T1.length <= 1200) :
 callF P14 fuel (n + 1) .frz 15 [.d (.list (T0.map prD)), .d (.list (T1.map prD))] σ = .ok (.d (.list ((stepsL T0 T1).map Stp.data))) σ := by
 have h := run_due (C := ⟨callF P14 fuel n, fuel⟩) hl0 hl1
 have hs := snap_sv (σ0 := [.list ((T0.map (·.1)).map vm)]) (stepsL T0 T1)
 generalize [O.list ((T0.map (·.1)).map vm)] ++ [O.list ((stepsL T0 T1).map sv)] = σ1 at h hs
 exact frz_ok P15 rfl (run_ret rfl h) hs
end
end Mine.Internal
namespace Mine.Internal
open PySem
theorem eqN_int (n : Nat) (i : Int) : eqN n (.int i) (.int i) = some true := by
 cases n <;> (show some (i == i) = _; simp)
theorem eqN_str (n : Nat) (x : Str) : eqN n (.str x) (.str x) = some true := by
 cases n <;> (show some (x == x) = _; simp)
theorem eqNsW_refl (f : PyData -> PyData -> Option Bool) : ∀ l : List PyData, (∀ x ∈ l, f x x = some true) -> eqNsW f l l = some true
 | [], _ => rfl
 | x :: r, h => by
  have h1 := h x (.head _)
  have h2 := eqNsW_refl f r (fun y hy => h y (.tail _ hy))
  show (match f x x with | some a => (match eqNsW f r r with | some b => some (a && b) | none => none) | none => none) = _
  rw [h1, h2]; rfl
theorem eqN_tup (n : Nat) (l : List PyData) (h : ∀ x ∈ l, eqN n x x = some true) : eqN (n + 1) (.tuple l) (.tuple l) = some true := eqNsW_refl _ l h
theorem eqN_list (n : Nat) (l : List PyData) (h : ∀ x ∈ l, eqN n x x = some true) : eqN (n + 1) (.list l) (.list l) = some true := (if_pos rfl).trans (eqNsW_refl _ l h)
theorem eqN_pr (n : Nat) (x : Pr) : eqN (n + 2) (prD x) (prD x) = some true := by
 refine eqN_tup (n + 1) _ fun y hy => ?_
 rcases List.mem_cons.mp hy with rfl | hy
 ·refine eqN_tup n _ fun z hz => ?_
  rcases List.mem_cons.mp hz with rfl | hz
  ·exact eqN_str _ _
  ·rw [List.mem_singleton.mp hz]; exact eqN_int _ _
 ·rw [List.mem_singleton.mp hy]; exact eqN_str _ _
theorem eqN_T (n : Nat) (T : List Pr) : eqN (n + 3) (.list (T.map prD)) (.list (T.map prD)) = some true := by
 refine eqN_list (n + 2) _ fun y hy => ?_
 obtain ⟨x, _, rfl⟩ := List.mem_map.mp hy
 exact eqN_pr n x
theorem eqN_dl (n : Nat) (ls : List (List Nat)) : eqN (n + 1) (dl ls) (dl ls) = some true := by
 refine eqN_list n _ fun x hx => ?_
 obtain ⟨t, _, rfl⟩ := List.mem_map.mp hx
 exact eqN_str _ _
theorem data_stp (s : Stp) : ∃ (w : List Nat) (i : Nat) (r : List (List Nat)), r.length <= 1 ∧ s.data = .tuple (.str (Tx w) :: .int i :: r.map fun l => .str (Tx l)) := by
 cases s with
 | out i => exact ⟨kout, i, [], by decide, rfl⟩
 | put i l => exact ⟨kput, i, [l], by simp, rfl⟩
 | say i l => exact ⟨ksay, i, [l], by simp, rfl⟩
section
variable {σ σ₁ : Store} {fz : Bool} {C : Cfg} {ρ : Vars}
theorem isi_tup {l : List PyData} : bcall .isinstance fz [.d (.tuple l), .ty "tuple"] σ = .ok (vb true) σ := rfl
theorem isi_str {x : Str} : bcall .isinstance fz [.d (.str x), .ty "str"] σ = .ok (vb true) σ := rfl
theorem isi_list {l : List PyData} : bcall .isinstance fz [.d (.list l), .ty "list"] σ = .ok (vb true) σ := rfl
theorem isi_int {i : Int} : bcall .isinstance fz [.d (.int i), .ty "int"] σ = .ok (vb true) σ := rfl
theorem isi_bool {i : Int} : bcall .isinstance fz [.d (.int i), .ty "bool"] σ = .ok (vb false) σ := rfl
theorem e_or3 {p q r : Bool} {a b c : E} (h1 : evalE C a ρ σ = .ok (vb p) σ) (h2 : p = false -> evalE C b ρ σ = .ok (vb q) σ) (h3 : p = false -> q = false -> evalE C c ρ σ = .ok (vb r) σ) : evalE C (.bop .Or [a, b, c]) ρ σ = .ok (vb (p || q || r)) σ := by
 rw [eA_9, eC_3, h1, ok_bind]
 cases p with
 | true => rfl
 | false =>
  show evalB C .Or [b, c] ρ σ = _
  rw [eC_3, h2 rfl, ok_bind]
  cases q with
  | true => rfl
  | false => exact h3 rfl rfl
theorem bools_map {α : Type} (l : List α) : boolsV ((l.map fun _ => PyData.bool true).map V.d) = some (l.map fun _ => true) := by
 induction l with
 | nil => rfl
 | cons a l ih =>
  show (match boolsV ((l.map fun _ => PyData.bool true).map V.d) with | some bs => some (true :: bs) | none => none) = _
  rw [ih]; rfl
theorem e_all {α : Type} {l : List α} {e : E} (he : evalE C e ρ σ = .ok (.d (.list (l.map fun _ => .bool true))) σ₁) : evalE C (.bcall .all fz [e]) ρ σ = .ok (vb true) σ₁ := by
 rw [eA_17, eB_2, he, ok_bind, eB_1, ok_bind, ok_bind]
 show (match boolsV ((l.map fun _ => PyData.bool true).map V.d) with | some bs => Res.ok (V.d (.bool (bs.all id))) σ₁ | none => .bad) = _
 rw [bools_map]
 dsimp only
 rw [show (l.map fun _ => true).all id = true by rw [List.all_eq_true]; intro x hx; obtain ⟨_, _, rfl⟩ := List.mem_map.mp hx; rfl]
theorem e_comp2D {α : Type} {elt : E} {t u : Nat} {it : It} {l : List α} (a b g : α -> PyData)
 (hi : evalIt C it ρ σ = .ok (.items (l.map fun x => V.d (.tuple [a x, b x]))) σ₁) (hl : l.length <= line)
 (hg : ∀ x ∈ l, evalE C elt ((((ρ.set t none).set u none).set t (some (.d (a x)))).set u (some (.d (b x)))) σ₁ = .ok (.d (g x)) σ₁) :
 evalE C (.comp true elt [t, u] it []) ρ σ = .ok (.d (.list (l.map g))) σ₁ := by
 rw [eA_20, hi, ok_bind]
 show compEnd true (compS _ ((l.map fun x => V.d (.tuple [a x, b x])).length + 1) (.items (l.map fun x => V.d (.tuple [a x, b x]))) σ₁) = _
 rw [compS_items, compGo_map (fun x => V.d (.tuple [a x, b x])) (fun x => some (.d (g x))) l]
 ·show mkList true _ σ₁ = _
  have e : l.filterMap (fun x => some (V.d (g x))) = (l.map g).map V.d := by
   rw [List.map_map]; induction l with
   | nil => rfl
   | cons x r ih => simp
  rw [e]
  exact mkListT _ (by simpa using hl)
 ·intro x hx
  have hb : bindTs (clearTs ρ [t, u]) [t, u] (.d (.tuple [a x, b x])) = some ((((ρ.set t none).set u none).set t (some (.d (a x)))).set u (some (.d (b x)))) := rfl
  simp only [compStep, hb, eF_1, ok_bind, hg x hx]
theorem sl_tup {xs : List PyData} (h : 2 <= xs.length) : slice true (.d (.tuple xs)) (some (vi 2)) none σ = .ok (.d (.tuple (xs.drop 2))) σ := by
 have h1 : (1 : Int) <= 2 ∧ (2 : Int) <= xs.length := by lia
 show (match (if (1 : Int) <= 2 ∧ (2 : Int) <= xs.length then some (xs.drop (2 : Int).toNat) else none) with | some ys => Res.ok (V.d (.tuple ys)) σ | none => .bad) = _
 rw [if_pos h1]; rfl
theorem e_b1 {b : Bi} {a : E} {x : V} (h : evalE C a ρ σ = .ok x σ) : evalE C (.bcall b true [a]) ρ σ = bcall b true [x] σ := by
 rw [eA_17, eB_2, h, ok_bind, eB_1, ok_bind, ok_bind]
theorem e_b2 {b : Bi} {a c : E} {x y : V} (h : evalE C a ρ σ = .ok x σ) (h2 : evalE C c ρ σ = .ok y σ) : evalE C (.bcall b true [a, c]) ρ σ = bcall b true [x, y] σ := by
 rw [eA_17, eB_2, h, ok_bind, eB_2, h2, ok_bind, eB_1, ok_bind, ok_bind, ok_bind]
end
section
variable {fuel n : Nat} {σ : Store}
theorem P16 : P14 16 = some Flaw_step_like := rfl
theorem P17 : P14 17 = some Flaw_done := rfl
theorem ev_step_like (s : Stp) : callF P14 fuel (n + 1) .frz 16 [.d s.data, .d s.data] σ = .ok (vb true) σ := by
 obtain ⟨w, i, r, hr, e⟩ := data_stp s
 rw [e]
 refine frz_ok (v := vb true) (σ₁ := []) P16 rfl (run_ret rfl ?_) rfl
 generalize hC : (⟨callF P14 fuel n, fuel⟩ : Cfg) = C
 have heq : eqV [] (.d (.tuple (.str (Tx w) :: .int i :: r.map fun l => .str (Tx l)))) (.d (.tuple (.str (Tx w) :: .int i :: r.map fun l => .str (Tx l)))) = some true := eqN_tup 39 _ fun x hx => by
  rcases List.mem_cons.mp hx with rfl | hx
  ·exact eqN_str _ _
  rcases List.mem_cons.mp hx with rfl | hx
  ·exact eqN_int _ _
  ·obtain ⟨l, _, rfl⟩ := List.mem_map.mp hx
   exact eqN_str _ _
 have h0 : subscr (.d (.tuple (.str (Tx w) :: .int i :: r.map fun l => .str (Tx l)))) (vi 0) [] = some (vs w) := at_tup 0 (by decide) (by decide) rfl
 have h1 : subscr (.d (.tuple (.str (Tx w) :: .int i :: r.map fun l => .str (Tx l)))) (vi 1) [] = some (vi i) := at_tup 1 (by decide) (by decide) rfl
 have h2 : slice true (.d (.tuple (.str (Tx w) :: .int i :: r.map fun l => .str (Tx l)))) (some (vi 2)) none [] = .ok (.d (.tuple (r.map fun l => .str (Tx l)))) [] := sl_tup (by simp)
 obtain ⟨L, hlen⟩ : ∃ L : Int, bcall .len true [.d (.tuple (.str (Tx w) :: .int i :: r.map fun l => .str (Tx l)))] [] = .ok (vi L) [] := ⟨_, bc_len_t⟩
 have hty : bcall .isinstance true [.d (.tuple (.str (Tx w) :: .int i :: r.map fun l => .str (Tx l))), .ty "tuple"] [] = .ok (vb true) [] := isi_tup
 show Ends (fun r => r = _) (execSs C [_, _, _] [some (.d (.tuple (.str (Tx w) :: .int i :: r.map fun l => .str (Tx l)))), some (.d (.tuple (.str (Tx w) :: .int i :: r.map fun l => .str (Tx l)))), none] [])
 generalize PyData.tuple (.str (Tx w) :: .int i :: r.map fun l => .str (Tx l)) = X at heq h0 h1 h2 hlen hty
 refine go_ite (t := !true || !decide (L = L) || !true) (σ₁ := []) (e_or3 (e_not ((e_b2 rfl eA_3).trans hty)) (fun _ => e_cmp ((e_b1 rfl).trans hlen) ((e_b1 rfl).trans hlen) (by rw [c_ne, eq_int, no_s])) (fun _ _ => e_not ((e_b2 (e_sub rfl eA_1 h0) eA_3).trans isi_str))) (fun e => by simp at e) (fun _ => ?_)
 refine go_ite (t := !true || false) (σ₁ := []) (e_or2 (e_not ((e_b2 (e_sub rfl eA_1 h1) eA_3).trans isi_int)) (fun _ => (e_b2 (e_sub rfl eA_1 h1) eA_3).trans isi_bool)) (fun e => by simp at e) (fun _ => ?_)
 have hcomp := e_comp1D (C := C) (elt := .bcall .isinstance true [.var 2, .ty "str"]) (t := 2) (it := .of (.slc true (.var 0) (some (.cst (.int 2))) none)) (ρ := [some (.d X), some (.d X), none]) (σ := []) (σ₁ := []) (l := r) vs (fun _ => .bool true)
  (it_of (v := .d (.tuple (r.map fun l => .str (Tx l)))) (by simp only [eA_1, eA_5, eA_16, eO_1, eO_2, ok_bind, gz, h2]) (it_mapT _ _)) (le_c hr (by rfl)) (fun l _ => (e_b2 rfl eA_3).trans isi_str)
 exact go_ret (v := vb (true && true)) (σ₁ := []) (e_and2 (e_all hcomp) (fun _ => e_cmp rfl rfl heq)) rfl
theorem pop_ref {k j : Nat} {ws : List V} {v : V} (hk : σ[k]? = some (.list ws)) (hj : ws[j]? = some v) (hl : ws.length <= line) : methcall .pop true (.ref k) [vi (j : Int)] σ = .ok v (σ.set k (.list (ws.eraseIdx j))) := by
 show (match σ[k]? with | some ob => (match ob with | .list ws => (if 0 <= (j : Int) then popOf k (j : Int).toNat ws σ else .bad) | _ => .bad) | none => .bad : Res V) = _
 rw [hk]
 refine (if_pos (Int.natCast_nonneg _)).trans ?_
 rw [Int.toNat_natCast]
 unfold popOf
 rw [hj]
 exact if_pos hl
theorem erase_map {α β : Type} (f : α -> β) : ∀ (l : List α) (i : Nat), (l.map f).eraseIdx i = (l.eraseIdx i).map f
 | [], _ => rfl
 | _ :: _, 0 => rfl
 | a :: l, i + 1 => congrArg (f a :: ·) (erase_map f l i)
theorem kne4 : kput ≠ kout := by decide
theorem kne5 : ksay ≠ kout := by decide
theorem kne6 : ksay ≠ kput := by decide
theorem run_done {C : Cfg} {ls out : List (List Nat)} {ss : List Stp} (h : acts ss ls = some out) (hl : ls.length <= 1200) (hs : ss.length <= 3000) :
 Ends (fun r => r = .ok (.ret (.ref 0)) [.list (out.map vs)]) (execSs C Flaw_done.body [some (.d (dl ls)), some (.d (.list (ss.map Stp.data))), none] []) := by
 show Ends _ (execSs C [_, _, _] _ [])
 refine go_asg (v := .ref 0) (σ₁ := [.list (ls.map vs)]) (by
  have e1 : (ls.map fun t => PyData.str (Tx t)).map V.d = ls.map vs := by rw [List.map_map]; rfl
  have e2 : ((ls.map fun t => PyData.str (Tx t)).map V.d).length <= line := by rw [e1, List.length_map]; exact le_c hl (by rfl)
  show mkList false ((ls.map fun t => PyData.str (Tx t)).map V.d) _ = _
  refine (if_pos e2).trans ?_
  rw [e1]; rfl) ?_
 refine go_foldl (l := ss) (w := sv) (σ₁ := [.list (ls.map vs)]) (fun pre (s : List (List Nat)) => acts pre ls = some s ∧ s.length <= 1200 + pre.length)
  (fun (s : List (List Nat)) ρ σ => (∃ z2, ρ = [some (.ref 0), some (.d (.list (ss.map Stp.data))), z2]) ∧ σ = [.list (s.map vs)]) ls
  (it_of (v := .d (.list (ss.map Stp.data))) rfl (it_map _ _)) ⟨rfl, hl⟩ ⟨⟨none, rfl⟩, rfl⟩ ?_ ?_
 ·rintro p a q s ρ σ hp ⟨g1, g2⟩ ⟨⟨z2, rfl⟩, rfl⟩
  have hpl : p.length < 3000 := by have := congrArg List.length hp; simp at this; omega
  rw [hp, acts_app, g1] at h
  have h : (match act s a with | some ls' => acts q ls' | none => none) = some out := h
  obtain ⟨s', hs'⟩ : ∃ s', act s a = some s' := by
   cases e : act s a with
   | none => rw [e] at h; cases h
   | some s' => exact ⟨s', rfl⟩
  have hfin : acts (p ++ [a]) ls = some s' := by
   rw [acts_app, g1]
   show (match act s a with | some ls' => acts [] ls' | none => none) = _
   rw [hs']; rfl
  have hsl : (s.map vs).length < line := by rw [List.length_map]; exact Nat.lt_of_le_of_lt g2 (by simp [line]; omega)
  have fin : ∀ r : Res Fl, s'.length <= s.length + 1 -> r = .ok (.next [some (.ref 0), some (.d (.list (ss.map Stp.data))), some (sv a)]) [.list (s'.map vs)] -> ∃ (t : List (List Nat)) (ρ' : Vars) (σ' : Store), (acts (p ++ [a]) ls = some t ∧ t.length <= 1200 + (p ++ [a]).length) ∧ ((∃ z2, ρ' = [some (.ref 0), some (.d (.list (ss.map Stp.data))), z2]) ∧ σ' = [.list (t.map vs)]) ∧ r = .ok (.next ρ') σ' := fun r hl' hr =>
   ⟨s', _, _, ⟨hfin, by rw [List.length_append]; simp; omega⟩, ⟨⟨_, rfl⟩, rfl⟩, hr⟩
  show Ends (fun r => ∃ (t : List (List Nat)) (ρ' : Vars) (σ' : Store), (acts (p ++ [a]) ls = some t ∧ t.length <= 1200 + (p ++ [a]).length) ∧ ((∃ z2, ρ' = [some (.ref 0), some (.d (.list (ss.map Stp.data))), z2]) ∧ σ' = [.list (t.map vs)]) ∧ r = .ok (.next ρ') σ') (execSs C [_] [some (.ref 0), some (.d (.list (ss.map Stp.data))), some (sv a)] [.list (s.map vs)])
  cases a with
  | out i =>
   have h0 : ∀ σ, subscr (sv (.out i)) (vi 0) σ = some (vs kout) := fun σ => at_tup 0 (by decide) (by decide) rfl
   have h1 : ∀ σ, subscr (sv (.out i)) (vi 1) σ = some (vi i) := fun σ => at_tup 1 (by decide) (by decide) rfl
   have hi : i < s.length := by
    apply Classical.byContradiction; intro hc
    have : (if i < s.length then some (s.eraseIdx i) else none) = some s' := hs'
    rw [if_neg hc] at this; cases this
   have e : s' = s.eraseIdx i := by
    have : (if i < s.length then some (s.eraseIdx i) else none) = some s' := hs'
    rw [if_pos hi] at this; exact (Option.some.inj this).symm
   refine go_ite (t := decide (kout = kout)) (σ₁ := [.list (s.map vs)]) (e_cmp (e_sub rfl eA_1 (h0 _)) (by rw [k_out]; exact eA_1) (by rw [c_eq, eq_str])) (fun _ => ?_) (fun e => by simp at e)
   have hpop := pop_ref (σ := [.list (s.map vs)]) (k := 0) (ws := s.map vs) (j := i) (v := vs s[i]) rfl (by rw [List.getElem?_map, List.getElem?_eq_getElem hi]; rfl) (Nat.le_of_lt hsl)
   refine go_exp (v := vs s[i]) (σ₁ := [.list (s'.map vs)]) (by
    rw [e_meth1 (y := .ref 0) (x := vi i) rfl (e_sub rfl eA_1 (h1 _)) rfl, hpop, e, erase_map]; rfl) (go_nil (fin _ (by rw [e]; exact Nat.le_succ_of_le (List.length_eraseIdx_le _ _)) rfl))
  | put i l =>
   have h0 : ∀ σ, subscr (sv (.put i l)) (vi 0) σ = some (vs kput) := fun σ => at_tup 0 (by decide) (by decide) rfl
   have h1 : ∀ σ, subscr (sv (.put i l)) (vi 1) σ = some (vi i) := fun σ => at_tup 1 (by decide) (by decide) rfl
   have h2 : ∀ σ, subscr (sv (.put i l)) (vi 2) σ = some (vs l) := fun σ => at_tup 2 (by decide) (by decide) rfl
   have hi : i <= s.length := by
    apply Classical.byContradiction; intro hc
    have : (if i <= s.length then some (s.take i ++ l :: s.drop i) else none) = some s' := hs'
    rw [if_neg hc] at this; cases this
   have e : s' = s.take i ++ l :: s.drop i := by
    have : (if i <= s.length then some (s.take i ++ l :: s.drop i) else none) = some s' := hs'
    rw [if_pos hi] at this; exact (Option.some.inj this).symm
   refine go_ite (t := decide (kput = kout)) (σ₁ := [.list (s.map vs)]) (e_cmp (e_sub rfl eA_1 (h0 _)) (by rw [k_out]; exact eA_1) (by rw [c_eq, eq_str])) (fun e => absurd (of_decide_eq_true e) kne4) (fun _ => ?_)
   refine go_ite (t := decide (kput = kput)) (σ₁ := [.list (s.map vs)]) (e_cmp (e_sub rfl eA_1 (h0 _)) (by rw [k_put]; exact eA_1) (by rw [c_eq, eq_str])) (fun _ => ?_) (fun e => by simp at e)
   have hins := ins_ref (σ := [.list (s.map vs)]) (k := 0) (r := s.map vs) (j := (i : Int)) (x := vs l) rfl (Int.natCast_nonneg _) (by rw [List.length_map]; exact Int.ofNat_le.mpr hi) hsl
   refine go_exp (v := .d .none) (σ₁ := [.list (s'.map vs)]) (by
    rw [e_meth2 (y := .ref 0) (x := vi i) (z := vs l) rfl (e_sub rfl eA_1 (h1 _)) (e_sub rfl eA_1 (h2 _)) rfl, hins, e, Int.toNat_natCast, List.map_append, List.map_cons, List.map_take, List.map_drop]; rfl) (go_nil (fin _ (by rw [e]; simp; omega) rfl))
  | say i l =>
   have h0 : ∀ σ, subscr (sv (.say i l)) (vi 0) σ = some (vs ksay) := fun σ => at_tup 0 (by decide) (by decide) rfl
   have h1 : ∀ σ, subscr (sv (.say i l)) (vi 1) σ = some (vi i) := fun σ => at_tup 1 (by decide) (by decide) rfl
   have h2 : ∀ σ, subscr (sv (.say i l)) (vi 2) σ = some (vs l) := fun σ => at_tup 2 (by decide) (by decide) rfl
   have hi : i < s.length := by
    apply Classical.byContradiction; intro hc
    have : (if i < s.length then some (s.set i l) else none) = some s' := hs'
    rw [if_neg hc] at this; cases this
   have e : s' = s.set i l := by
    have : (if i < s.length then some (s.set i l) else none) = some s' := hs'
    rw [if_pos hi] at this; exact (Option.some.inj this).symm
   refine go_ite (t := decide (ksay = kout)) (σ₁ := [.list (s.map vs)]) (e_cmp (e_sub rfl eA_1 (h0 _)) (by rw [k_out]; exact eA_1) (by rw [c_eq, eq_str])) (fun e => absurd (of_decide_eq_true e) kne5) (fun _ => ?_)
   refine go_ite (t := decide (ksay = kput)) (σ₁ := [.list (s.map vs)]) (e_cmp (e_sub rfl eA_1 (h0 _)) (by rw [k_put]; exact eA_1) (by rw [c_eq, eq_str])) (fun e => absurd (of_decide_eq_true e) kne6) (fun _ => ?_)
   have hset := set_list (σ := [.list (s.map vs)]) (k := 0) (ws := s.map vs) (j := (i : Int)) (x := vs l) rfl (Int.natCast_nonneg _) (by rw [List.length_map]; exact Int.ofNat_lt.mpr hi)
   refine go_set (e_sub rfl eA_1 (h2 _)) rfl (e_sub rfl eA_1 (h1 _)) hset (go_nil (fin _ (by rw [e, List.length_set]; exact Nat.le_succ _) ?_))
   rw [e, List.map_set, Int.toNat_natCast]; rfl
 ·rintro s ρ σ ⟨g1, g2⟩ ⟨⟨z2, rfl⟩, rfl⟩
  rw [h] at g1
  rw [Option.some.inj g1]
  exact go_ret rfl rfl
theorem ev_done {ls out : List (List Nat)} {ss : List Stp} (h : acts ss ls = some out) (hl : ls.length <= 1200) (hs : ss.length <= 3000) : callF P14 fuel (n + 1) .frz 17 [.d (dl ls), .d (.list (ss.map Stp.data))] σ = .ok (.d (dl out)) σ :=
 frz_ok P17 rfl (run_ret rfl (run_done (C := ⟨callF P14 fuel n, fuel⟩) h hl hs)) (snap_ref (by rw [List.map_map]; rfl))
end
end Mine.Internal
namespace Mine.Internal
open PySem
theorem outs_len (q : Pr -> Bool) (T : List Pr) : ∀ n, (outs q T n).length <= n
 | 0 => Nat.le_refl _
 | n + 1 => by
  have h : (outAt q T n).length <= 1 := by
   unfold outAt
   split
   ·split <;> simp
   ·simp
  have := outs_len q T n
  show (outAt q T n ++ outs q T n).length <= _
  rw [List.length_append]; omega
theorem puts_len (T : List Pr) : ∀ (U : List Pr) (k : Nat), (puts T U k).length <= U.length
 | [], _ => Nat.le_refl _
 | x :: U, k => by
  have h : (putAt1 T x k).length <= 1 := by
   unfold putAt1
   split
   ·simp
   ·split <;> simp
  have := puts_len T U (k + 1)
  show (putAt1 T x k ++ puts T U (k + 1)).length <= _
  rw [List.length_append, List.length_cons]; omega
theorem steps_len {T0 T1 : List Pr} (h0 : T0.length <= 1200) (h1 : T1.length <= 1200) : (stepsL T0 T1).length <= 3000 := by
 have := outs_len (fun x => decide (x.1 ∈ T1.map (·.1))) T0 T0.length
 have := puts_len T0 T1 0
 show (outs _ T0 T0.length ++ puts T0 T1 0).length <= _
 rw [List.length_append]; omega
structure Told (R : List Mk) (T : List Pr) : Prop where
 sub : (T.map (·.1)).Sublist R
 len : T.length <= 1200
noncomputable abbrev tD (T : List Pr) : PyData := .list (T.map prD)
noncomputable abbrev tv (T : List Pr) : V := .d (tD T)
section
variable {fuel : Nat} {σ : Store}
theorem ev_told {n : Nat} (hfu : 4000 < fuel) {cs : List Ch} (hcs : cs.length <= 60) (hg : ∀ c ∈ cs, GenCh c) (H : ChsOk cs) (c : Int) :
 ∃ (nm : PyData) (cl : PyData) (x : PyData) (T : List Pr), Told (rowOf (ordOf cs) []) T ∧ (∀ σ, callF P14 fuel (n + 2) .frz 14 [.d (.list (cs.map Ch.data)), vi c] σ = .ok (.d nm) σ) ∧ (∀ σ, callF P14 fuel (n + 2) .frz 13 [.d (.list (cs.map Ch.data)), .d nm] σ = .ok (.d cl) σ) ∧ ∀ σ, callF P14 fuel (n + 2) .frz 11 [.d cl] σ = .ok (.d (.tuple [x, tD T])) σ := by
 obtain ⟨fs, f1, f2⟩ := ev_some (fuel := fuel) (n := n) c cs hcs
 obtain ⟨p, p1, p2⟩ := ev_closed (fuel := fuel) (n := n) hfu cs hcs hg H fs f1
 obtain ⟨T, x, t1, t2, t3⟩ := ev_model (fuel := fuel) (n := n) (cs.filter fun c => p c.1) (Nat.le_trans (List.length_filter_le _ _) hcs) (fun c hc => hg c (List.mem_filter.mp hc).1) (H.filter p1)
 exact ⟨_, _, x, T, ⟨t1.trans (row_part H (ord_ok H.nd) p1 (ord_ok (H.filter p1).nd)), t2⟩, f2, p2, t3⟩
theorem e_f1 {C : Cfg} {ρ : Vars} {f : Nat} {a : E} {x y : V} (h : evalE C a ρ σ = .ok x σ) (hf : C.cf .frz f [x] σ = .ok y σ) : evalE C (.fcall .frz f [a]) ρ σ = .ok y σ := by
 rw [eA_18, eB_2, h, ok_bind, eB_1, ok_bind, ok_bind]; exact hf
theorem e_f2 {C : Cfg} {ρ : Vars} {f : Nat} {a b : E} {x z y : V} (h : evalE C a ρ σ = .ok x σ) (h2 : evalE C b ρ σ = .ok z σ) (hf : C.cf .frz f [x, z] σ = .ok y σ) : evalE C (.fcall .frz f [a, b]) ρ σ = .ok y σ := by
 rw [eA_18, eB_2, h, ok_bind, eB_2, h2, ok_bind, eB_1, ok_bind, ok_bind, ok_bind]; exact hf
theorem e_f3 {C : Cfg} {ρ : Vars} {f : Nat} {a b c : E} {x z w y : V} (h : evalE C a ρ σ = .ok x σ) (h2 : evalE C b ρ σ = .ok z σ) (h3 : evalE C c ρ σ = .ok w σ) (hf : C.cf .frz f [x, z, w] σ = .ok y σ) : evalE C (.fcall .frz f [a, b, c]) ρ σ = .ok y σ := by
 rw [eA_18, eB_2, h, ok_bind, eB_2, h2, ok_bind, eB_2, h3, ok_bind, eB_1, ok_bind, ok_bind, ok_bind, ok_bind]; exact hf
theorem list_of {T : List Pr} (h : T.length <= 1200) : bcall .list true [tv T] σ = .ok (tv T) σ := mkListT _ (by rw [List.length_map]; exact le_c h (by rfl))
theorem run_law (hfu : 4000 < fuel) (ns : List Int) (hns : ns.length <= 63) :
 Ends (fun r => ∃ σ', r = .ok (.ret (vb true)) σ') (execSs ⟨callF P14 fuel 8, fuel⟩ FLaw.body [some (.d (scD ns)), none, none, none, none, none, none, none, none, none, none] []) := by
 have hcell : ∀ (k : Int) σ, 0 <= k -> k < 1000 -> callF P14 fuel 8 .frz 2 [.d (scD ns), vi k] σ = .ok (vi (cellOf ns k.toNat)) σ := fun k σ h0 h1 => ev_cell (fuel := fuel) (n := 7) ns k h0 h1
 obtain ⟨ns', w1, w2⟩ := ev_wide (fuel := fuel) (n := 6) (ns.drop 3) (cellOf ns (2 : Int).toNat) (by simp; omega)
 obtain ⟨cs, c1, c2, c3, c4⟩ := ev_changes (fuel := fuel) (n := 5) ns' 60 w1 (by decide) (by decide)
 have htold := fun c => ev_told (fuel := fuel) (n := 6) hfu c1 c2 c3 c
 have hRn : (rowOf (ordOf cs) []).Nodup := rowOf_nodup _ (((ord_ok c3.nd).perm.map _).nodup_iff.mpr c3.nd)
 have hsteps : ∀ (T0 T1 : List Pr) σ, Told (rowOf (ordOf cs) []) T0 -> Told (rowOf (ordOf cs) []) T1 -> callF P14 fuel 8 .frz 1 [tv T0, tv T1] σ = .ok (.d (.list ((stepsL T0 T1).map Stp.data))) σ := fun T0 T1 σ h0 h1 => ev_steps (n := 7) h0.len h1.len (h0.sub.nodup hRn) (h1.sub.nodup hRn)
 have hdue : ∀ (T0 T1 : List Pr) σ, Told (rowOf (ordOf cs) []) T0 -> Told (rowOf (ordOf cs) []) T1 -> callF P14 fuel 8 .frz 15 [tv T0, tv T1] σ = .ok (.d (.list ((stepsL T0 T1).map Stp.data))) σ := fun T0 T1 σ h0 h1 => ev_due (n := 7) h0.len h1.len
 have hlike : ∀ (s : Stp) σ, callF P14 fuel 8 .frz 16 [.d s.data, .d s.data] σ = .ok (vb true) σ := fun s σ => ev_step_like (n := 7) s
 have hdone : ∀ (T0 T1 : List Pr) σ, Told (rowOf (ordOf cs) []) T0 -> Told (rowOf (ordOf cs) []) T1 -> callF P14 fuel 8 .frz 17 [.d (dl (T0.map (·.2))), .d (.list ((stepsL T0 T1).map Stp.data))] σ = .ok (.d (dl (T1.map (·.2)))) σ := fun T0 T1 σ h0 h1 => ev_done (n := 7) (steps_ok hRn h0.sub h1.sub) (by rw [List.length_map]; exact h0.len) (steps_len h0.len h1.len)
 generalize rowOf (ordOf cs) [] = R at htold hsteps hdue hdone
 have hcs4 : ∀ σ, callF P14 fuel 8 .frz 9 [.d (scD ns'), vi 60] σ = .ok (.d (.list (cs.map Ch.data))) σ := c4
 have hw2 : ∀ σ, callF P14 fuel 8 .frz 18 [.d (scD (ns.drop 3)), vi (cellOf ns (2 : Int).toNat), vi 10] σ = .ok (.d (scD ns')) σ := w2
 generalize hC : (⟨callF P14 fuel 8, fuel⟩ : Cfg) = C
 have hcf : callF P14 fuel 8 = C.cf := by rw [<- hC]
 have htold : ∀ c, ∃ (nm : PyData) (cl : PyData) (x : PyData) (T : List Pr), Told R T ∧ (∀ σ, callF P14 fuel 8 .frz 14 [.d (.list (cs.map Ch.data)), vi c] σ = .ok (.d nm) σ) ∧ (∀ σ, callF P14 fuel 8 .frz 13 [.d (.list (cs.map Ch.data)), .d nm] σ = .ok (.d cl) σ) ∧ ∀ σ, callF P14 fuel 8 .frz 11 [.d cl] σ = .ok (.d (.tuple [x, tD T])) σ := htold
 rw [hcf] at hcell hsteps hdue hlike hdone hcs4 hw2 htold
 show Ends _ (execSs C [_, _, _, _, _, _, _, _, _, _] _ [])
 generalize hK : PyData.list (cs.map Ch.data) = K at hcs4 htold
 have hsl : slice true (.d (scD ns)) (some (vi 3)) none [] = .ok (.d (scD (ns.drop 3))) [] := by
  have := slL_from (σ := []) (l := ns.map PyData.int) (k := 3) (by decide) (by rw [List.length_map]; exact le_c hns (by rfl))
  rw [<- List.map_drop] at this
  exact this
 refine go_asg (v := .d K) (σ₁ := []) (e_f2 (e_f3 (x := .d (scD (ns.drop 3))) (by simp only [eA_1, eA_5, eA_16, eO_1, eO_2, ok_bind, gz, hsl]) (e_f2 rfl eA_1 (hcell 2 [] (by decide) (by decide))) eA_1 (hw2 [])) eA_1 (hcs4 [])) ?_
 refine go_asg (v := .ref 0) (σ₁ := [.list []]) (by simp only [eA_13, eB_1, ok_bind, mkList] <;> rfl) ?_
 refine go_foldl (l := List.range 2) (w := fun j : Nat => vi (j : Int)) (σ₁ := [.list []])
  (fun pre (s : List (List Pr)) => s.length = pre.length ∧ ∀ T ∈ s, Told R T)
  (fun (s : List (List Pr)) ρ σ => (∃ z3 z4, ρ = [some (.d (scD ns)), some (.d K), some (.ref 0), z3, z4, none, none, none, none, none, none]) ∧ σ = [.list (s.map tv)]) []
  (it_range (n := 2) (by simp only [eB_2, eA_1, ok_bind, eB_1]) (by decide) (by decide)) ⟨rfl, fun T h => by cases h⟩ ⟨⟨none, none, rfl⟩, rfl⟩ ?_ ?_
 ·rintro p j q s ρ σ hp ⟨g1, g2⟩ ⟨⟨z3, z4, rfl⟩, rfl⟩
  have hpl : p.length < 2 := by have := congrArg List.length hp; simp at this; omega
  have hj : j < 2 := by
   have : j ∈ List.range 2 := by rw [hp]; simp
   simpa using this
  obtain ⟨nm, cl, x, T, t1, t2, t3, t4⟩ := htold (cellOf ns (j : Int).toNat)
  show Ends (fun r => ∃ (s' : List (List Pr)) (ρ' : Vars) (σ' : Store), (s'.length = (p ++ [j]).length ∧ ∀ T ∈ s', Told R T) ∧ ((∃ z3 z4, ρ' = [some (.d (scD ns)), some (.d K), some (.ref 0), z3, z4, none, none, none, none, none, none]) ∧ σ' = [.list (s'.map tv)]) ∧ r = .ok (.next ρ') σ') (execSs C [_, _] [some (.d (scD ns)), some (.d K), some (.ref 0), some (vi j), z4, none, none, none, none, none, none] _)
  refine go_asg (v := .d nm) (σ₁ := [.list (s.map tv)]) (e_f2 rfl (e_f2 rfl rfl (hcell j _ (Int.natCast_nonneg _) (by omega))) (t2 _)) ?_
  refine go_exp (v := .d .none) (σ₁ := [.list ((s ++ [T]).map tv)]) (by
   have hsub : ∀ σ, subscr (.d (.tuple [x, tD T])) (vi 1) σ = some (tv T) := fun σ => at_tup 1 (by decide) (by decide) rfl
   rw [e_append (k := 0) (x := tv T) (ws := s.map tv) rfl (e_sub (e_f1 (e_f2 rfl rfl (t3 _)) (t4 _)) eA_1 (hsub _)) rfl (by rw [List.length_map, g1]; exact Nat.lt_trans hpl (by decide)), List.map_append]; rfl) (go_nil ⟨s ++ [T], _, _, ⟨by simp [g1], fun U hU => ?_⟩, ⟨⟨_, _, rfl⟩, rfl⟩, rfl⟩)
  rcases List.mem_append.mp hU with h | h
  ·exact g2 U h
  ·rw [List.mem_singleton.mp h]; exact t1
 rintro s ρ σ ⟨g1, g2⟩ ⟨⟨z3, z4, rfl⟩, rfl⟩
 obtain ⟨T0, T1, rfl⟩ : ∃ T0 T1, s = [T0, T1] := by
  match s, g1 with
  | [a, b], _ => exact ⟨a, b, rfl⟩
 have k0 := g2 T0 (by simp)
 have k1 := g2 T1 (by simp)
 clear g1 g2
 refine go_mid (M := fun ρ σ => ∃ T1, Told R T1 ∧ ρ = [some (.d (scD ns)), some (.d K), some (.ref 0), z3, z4, none, none, none, none, none, none] ∧ σ = [.list [tv T0, tv T1]]) ?_ ?_
 ·refine go_ite (t := decide ((cellOf ns (0 : Int).toNat).fmod 5 = 1)) (σ₁ := [.list [tv T0, tv T1]]) (e_cmp ((e_bin (e_f2 rfl eA_1 (hcell 0 _ (by decide) (by decide))) eA_1).trans (b_mod (by decide))) eA_1 (by rw [c_eq, eq_int])) (fun _ => ?_) (fun _ => ?_)
  ·refine go_set (x := tv T0) (y := .ref 0) (z := vi 1) (e_sub rfl eA_1 (at_ref (k := 0) (ws := [tv T0, tv T1]) rfl (by decide) (by decide) rfl)) rfl eA_1 (set_list (ws := [tv T0, tv T1]) rfl (by decide) (show (1 : Int) < 2 by decide)) (go_nil ⟨_, _, ⟨T0, k0, rfl, rfl⟩, rfl⟩)
  ·exact go_nil ⟨_, _, ⟨T1, k1, rfl, rfl⟩, rfl⟩
 clear k1 T1
 rintro _ _ ⟨T1, k1, rfl, rfl⟩
 have a0 : subscr (.ref 0) (vi 0) [.list [tv T0, tv T1]] = some (tv T0) := at_ref (ws := [tv T0, tv T1]) rfl (by decide) (by decide) rfl
 have a1 : subscr (.ref 0) (vi 1) [.list [tv T0, tv T1]] = some (tv T1) := at_ref (ws := [tv T0, tv T1]) rfl (by decide) (by decide) rfl
 have b0 : subscr (.d (.list [tD T0, tD T1])) (vi 0) [.list [tv T0, tv T1]] = some (tv T0) := at_list 0 (by decide) (by decide) rfl
 have b1 : subscr (.d (.list [tD T0, tD T1])) (vi 1) [.list [tv T0, tv T1]] = some (tv T1) := at_list 1 (by decide) (by decide) rfl
 have hne : eqV [.list [tv T0, tv T1]] (.d (.list [tD T0, tD T1])) (.ref 0) = some true := by
  have e : snap [.list [tv T0, tv T1]] eqDepth (.ref 0) = some (.list [tD T0, tD T1]) := snap_list (n := 38) [tD T0, tD T1] rfl
  show (match snap [.list [tv T0, tv T1]] eqDepth (.d (.list [tD T0, tD T1])), snap [.list [tv T0, tv T1]] eqDepth (.ref 0) with | some x, some y => eqN eqDepth x y | _, _ => none) = _
  rw [e]
  refine eqN_list 39 _ fun x hx => ?_
  rcases List.mem_cons.mp hx with rfl | hx
  ·exact eqN_T 36 T0
  ·rw [List.mem_singleton.mp hx]; exact eqN_T 36 T1
 generalize hσ : ([.list [tv T0, tv T1]] : Store) = σ at a0 a1 b0 b1 hne
 refine go_asg (v := .d (.list [tD T0, tD T1])) (σ₁ := σ) (by
  rw [eA_13, eB_2, (e_b1 (e_sub rfl eA_1 a0)).trans (list_of k0.len), ok_bind, eB_2, (e_b1 (e_sub rfl eA_1 a1)).trans (list_of k1.len), ok_bind, eB_1, ok_bind, ok_bind, ok_bind]; exact mkListT [tD T0, tD T1] (len2 _ _)) ?_
 have st := hsteps T0 T1 σ k0 k1
 have du := hdue T0 T1 σ k0 k1
 have dn := hdone T0 T1 σ k0 k1
 have sl := steps_len k0.len k1.len
 generalize stepsL T0 T1 = ss at st du dn sl
 refine go_asg (v := .d (.list (ss.map Stp.data))) (σ₁ := σ) (e_f2 (e_sub rfl eA_1 b0) (e_sub rfl eA_1 b1) st) ?_
 refine go_asg (v := .d (.list (ss.map Stp.data))) (σ₁ := σ) (e_f2 (e_sub rfl eA_1 a0) (e_sub rfl eA_1 a1) du) ?_
 refine go_ite (t := !true || !decide (((ss.map Stp.data).length : Int) = (ss.map Stp.data).length) || !true) (σ₁ := σ) (e_or3 (e_not ((e_b2 rfl eA_3).trans isi_list)) (fun _ => e_cmp ((e_b1 rfl).trans bc_len_l) ((e_b1 rfl).trans bc_len_l) (by rw [c_ne, eq_int, no_s])) (fun _ _ => e_cmp rfl rfl (by rw [c_ne, hne, no_s]))) (fun e => by simp at e) (fun _ => ?_)
 have hzip : evalIt C (.zip (.var 6) (.var 7)) [some (.d (scD ns)), some (.d K), some (.ref 0), z3, z4, some (.d (.list [tD T0, tD T1])), some (.d (.list (ss.map Stp.data))), some (.d (.list (ss.map Stp.data))), none, none, none] σ = .ok (.items (ss.map fun s => V.d (.tuple [s.data, s.data]))) σ := by
  rw [eI_2, eA_5]
  simp only [eA_5, ok_bind, gz, gs]
  show Res.ok (Src.items (zipV ((ss.map Stp.data).map V.d) ((ss.map Stp.data).map V.d))) σ = _
  rw [zipV_d, List.zip_map', List.map_map]; rfl
 have hcomp := e_comp2D (C := C) (elt := .fcall .frz 16 [.var 8, .var 9]) (t := 8) (u := 9) (it := .zip (.var 6) (.var 7)) (ρ := [some (.d (scD ns)), some (.d K), some (.ref 0), z3, z4, some (.d (.list [tD T0, tD T1])), some (.d (.list (ss.map Stp.data))), some (.d (.list (ss.map Stp.data))), none, none, none]) (σ := σ) (σ₁ := σ) (l := ss) Stp.data Stp.data (fun _ => .bool true) hzip (ln_l sl) (fun s _ => e_f2 rfl rfl (hlike s σ))
 refine go_ite (t := !true) (σ₁ := σ) (e_not (e_all hcomp)) (fun e => by simp at e) (fun _ => ?_)
 have hc0 := e_comp1D (C := C) (elt := .sub (.var 10) (.cst (.int 1))) (t := 10) (it := .of (.sub (.var 2) (.cst (.int 0)))) (ρ := [some (.d (scD ns)), some (.d K), some (.ref 0), z3, z4, some (.d (.list [tD T0, tD T1])), some (.d (.list (ss.map Stp.data))), some (.d (.list (ss.map Stp.data))), none, none, none]) (σ := σ) (σ₁ := σ) (l := T0) (fun x => V.d (prD x)) (fun x => strT x.2) (it_of (e_sub rfl eA_1 a0) (it_map _ _)) (ln_l k0.len) (fun x _ => e_sub rfl eA_1 (sub_pr1 x))
 have hc1 := e_comp1D (C := C) (elt := .sub (.var 10) (.cst (.int 1))) (t := 10) (it := .of (.sub (.var 2) (.cst (.int 1)))) (ρ := [some (.d (scD ns)), some (.d K), some (.ref 0), z3, z4, some (.d (.list [tD T0, tD T1])), some (.d (.list (ss.map Stp.data))), some (.d (.list (ss.map Stp.data))), none, none, none]) (σ := σ) (σ₁ := σ) (l := T1) (fun x => V.d (prD x)) (fun x => strT x.2) (it_of (e_sub rfl eA_1 a1) (it_map _ _)) (ln_l k1.len) (fun x _ => e_sub rfl eA_1 (sub_pr1 x))
 have m0 : ∀ T : List Pr, (PyData.list (T.map fun x => strT x.2)) = dl (T.map (·.2)) := fun T => congrArg PyData.list (by rw [List.map_map]; rfl)
 rw [m0] at hc0 hc1
 refine go_ret (v := vb true) (σ₁ := σ) (e_cmp (e_f2 hc0 rfl dn) hc1 (eqN_dl 39 _)) ⟨σ, rfl⟩
theorem run_law14 (ns : List Int) (hns : ns.length <= 63) : ∃ σe, runFn ⟨callF P14 5000 8, 5000⟩ FLaw [.d (.list (ns.map .int))] [] = .ok (.d (.bool true)) σe := by
 obtain ⟨σ', h⟩ := run_law (fuel := 5000) (by decide) ns hns
 exact ⟨σ', run_ret rfl h⟩
end
end Mine.Internal
namespace Mine.Internal
set_option tactic.hygienic true
set_option maxRecDepth 100000
open PySem PySem.Calls PyProof.Rows PySem.W
noncomputable def hide (h : Heap) (t : Addr) : Heap := h.update t fun o => { o with data := .freed }
theorem hide_other {h : Heap} {t a : Addr} (hab : a ≠ t) : (hide h t).get? a = h.get? a := Heap.get?_update_other h _ (Ne.symm hab)
theorem hide_self {h : Heap} {t : Addr} {o : Obj} (e : h.get? t = some o) : (hide h t).get? t = none := by
 have e1 : ∃ o', h.objs[t]? = some o' := by
  unfold Heap.get? at e
  cases hq : h.objs[t]? with
  | none => rw [hq] at e; cases e
  | some o' => exact ⟨o', rfl⟩
 obtain ⟨o', e1⟩ := e1
 have e2 : (hide h t).objs[t]? = some { o' with data := .freed } := by
  show (h.objs.modify t fun o => { o with data := .freed })[t]? = _
  rw [Array.getElem?_modify, if_pos rfl, e1]
  rfl
 unfold Heap.get?
 rw [e2]
section
variable {w : World} {s₁ : Shared} {mean : ExcName -> Option Value} {mg mb : Str -> Option Value}
noncomputable def top14 (w : World) (h : Heap) (mg : Str -> Option Value) (tab : Addr) : Mine.Internal.Top := ⟨PySem.Challenge.rw_uf010019_14.row.prog, w, hide h tab, fnsOf mg fns14, tab, (Str.ofString "_law_model" ++ (".<locals>." : Str)) ++ ("<lambda>" : Str)⟩
theorem hid14 (Tp : PyProof.Rows.Top view14 (looseW view14 []) mean mg mb s₁.heap) : ∃ tab, Hid (top14 w s₁.heap mg tab) s₁.heap mg (Str.ofString "_law_model") ∧ ∃ c, s₁.heap.TableAt c tab #[] := by
 obtain ⟨d, hd, hn⟩ := okFn_rec (okAll14 (fns14[10]'(by decide)) (List.getElem_mem _))
 have hn : d.name = Str.ofString "_law_model" := hn
 obtain ⟨a, o, fd, c, P, h1, h2, h3, h4, h5, h6⟩ := Tp.tab d hd
 have hd' := CodeHd.of h5 h6
 rw [hn] at h1
 refine ⟨P, ⟨h6.2, fun b ob e hb => by rw [<- e]; exact hide_other hb, fun a' o' fd' e1 e2 e3 => ?_, rfl⟩, c, h6⟩
 rw [h1] at e1; cases e1
 rw [h2] at e2; cases e2
 rw [h3] at e3; cases e3
 exact ⟨c, h4, hd'⟩
end
theorem ints_rep {f : Addr -> Option Obj} {vs : List Value} {ns : List Int} (h : IntsAre vs ns) : RepDs f (ns.map .int) vs := by
 induction h with
 | nil => exact trivial
 | cons n t r ih => exact ⟨⟨t, rfl⟩, ih⟩
theorem law14 {fuel : Nat} (run : ∀ ns : List Int, ns.length <= 63 -> ∃ σe, runFn ⟨callF P14 fuel 8, fuel⟩ FLaw [.d (.list (ns.map .int))] [] = .ok (.d (.bool true)) σe)
 {w : World} {s₁ : Shared} {mean : ExcName -> Option Value} {mg mb : Str -> Option Value} (Tp : PyProof.Rows.Top view14 (looseW view14 []) mean mg mb s₁.heap)
 {fa l : Addr} {vs : List Value} {ns : List Int} (hmg : mg (Str.ofString "law") = some (.ref fa)) (hL : s₁.heap.IsList l vs.toArray) (hI : IntsAre vs ns) (hn : ns.length <= 63) {Q : Value -> Shared -> Prop} {E : Value -> Shared -> Prop}
 (hQ : ∀ s', OldK s₁.heap s'.heap -> s'.gens = s₁.gens -> s'.os = s₁.os -> Q (.bool true) s') :
 wpAny (model PySem.Challenge.rw_uf010019_14.row.prog w) callerA (call (.ref fa) [.ref l]) Q E s₁ := by
 obtain ⟨tab, H, ct, htab⟩ := hid14 (w := w) Tp
 have rd := ready_of (T := top14 w s₁.heap mg tab) (ln := 11) (L := gll14) Tp H rfl okAll14 okGl14 (Tp.seer (by decide +kernel)) rfl
 have fns := fns_ok (T := top14 w s₁.heap mg tab) (gl := fun n => gll14.lookup n) Tp H rfl okAll14 okLn14 emAll14 okP14
 have cf : CallOk (top14 w s₁.heap mg tab) (callF P14 fuel 8) 9 := callF_ok fuel rd fns 8
 have hfa : (top14 w s₁.heap mg tab).fn 19 = some fa := by
  show fnsOf mg fns14 19 = some fa
  rw [fnsOf_some (show fns14.find? (·.1 == 19) = some (fns14[18]'(by decide)) from rfl)]
  show (mg (Str.ofString "law")).bind refOf = some fa
  rw [hmg]; rfl
 have fo := fns 19 FLaw fa rfl hfa
 obtain ⟨o, ho, hc, m, hd⟩ := hL
 have hlt : l ≠ tab := fun e => by
  subst e
  have := ho.symm.trans htab.2
  have := congrArg Obj.data (Option.some.inj this)
  rw [hd] at this
  cases this
 let g : G := ⟨fun a => if a = tab then none else s₁.heap.get? a, [tab]⟩
 have gne : ∀ {a : Addr}, a ≠ tab -> g.fz a = s₁.heap.get? a := fun h => if_neg h
 have geq : g.fz tab = none := if_pos rfl
 have st : St (top14 w s₁.heap mg tab) g [] s₁.heap := ⟨fun a o e => by
  by_cases q : a = tab
  ·subst q; rw [geq] at e; cases e
  ·rw [gne q] at e; exact e, rfl, by simp [g], fun a ha => by
  have : a = tab := by simpa [g] using ha
  subst this; exact geq, fun k a o _ e => by simp at e, fun a o e => by
  by_cases q : a = tab
  ·subst q
   have : (hide s₁.heap a).get? a = some o := e
   rw [hide_self htab.2] at this; cases this
  ·rw [gne q]
   have : (hide s₁.heap tab).get? a = some o := e
   rwa [hide_other q] at this, .mk #[] rfl htab.2 (by simp [TriplesOk]) (fun pos cv e => by cases e)⟩
 have r : RepVs (top14 w s₁.heap mg tab) g [.d (.list (ns.map .int))] [.ref l] := ⟨⟨l, o, vs.toArray, m, rfl, (gne hlt).trans ho, hc, hd, by simpa using ints_rep hI, by simp [line]; omega⟩, trivial⟩
 have sim := fn_sim (fe := []) (n := 9) (A := callerA) (C := ⟨callF P14 fuel 8, fuel⟩) rd fo cf (by decide) st trivial ⟨rfl, by decide, by decide, rfl⟩ r
 obtain ⟨σe, hrun⟩ := run ns hn
 rw [hrun] at sim
 refine wpAny_mono (sim (by simp)) ?_ ?_
 ·rintro x s' ⟨b, σ', g', e, stp, rv⟩
  cases e
  have hx : x = .bool true := rv
  subst hx
  obtain ⟨ps, _, hps, _⟩ := stp.st.tb
  have keep : ∀ b o, b ≠ tab -> s₁.heap.get? b = some o -> s'.heap.get? b = some o := fun b o q e => stp.kept.same b o e (by simpa [g] using q) (by simp [frsOf])
  refine hQ s' ⟨fun b o e => ?_, fun b o e => ?_⟩ stp.gens stp.os
  ·by_cases q : b = tab
   ·subst q
    have he : o = tabObj #[] := Option.some.inj (e.symm.trans htab.2)
    subst he
    exact .inr (.inl ⟨htab.isCodeTable, rfl, #[], ps, rfl, by rw [Array.empty_append]; exact hps⟩)
   ·exact .inl (keep b o q e)
  ·by_cases q : b = tab
   ·subst q; exact ⟨_, hps⟩
   ·exact ⟨o, keep b o q e⟩
 ·rintro x s' h
  exact h.elim
end Mine.Internal
open PySem PySem.W PyProof.Rows
set_option tactic.hygienic true in
set_option backward.match.sparseCases true in
set_option maxRecDepth 100000 in
set_option maxHeartbeats 8000000 in
theorem PySem.Challenge.cw_uf010019_14_holds : PySem.Challenge.rw_uf010019_14.Holds := by
 refine holds_law Mine.Internal.said14 fun said => ?_
 refine W.holds_open (q := Mine.Internal.view14) (loose := []) (Xt := fun s => xlAt Mine.Internal.view14 [] s && recOk (RowW.records (OpenRow.toRowW (PySem.Challenge.rw_uf010019_14.row))) s) (XP := XL Mine.Internal.view14 []) (Yf := Hook.obs Mine.Internal.hook14) (Ya := Hook.val Mine.Internal.hook14) (YP := Hook.says Mine.Internal.hook14) (N := 5300) Mine.Internal.left14 (Hook.of Mine.Internal.hook14) (Hook.keeps Mine.Internal.hook14) (fun s e => xl_of s (Bool.and_eq_true_iff.mp e).1) XL.keeps (by rfl) (by rfl) (by rfl) (fun s e => recFacts_of (Bool.and_eq_true_iff.mp e).2) (by rfl) said (by decide +kernel) ⟨rfl, rfl, rfl, rfl, rfl, by decide +kernel⟩ ?hw ?hc
 case hw => w_witness2
 intro w s₀ s₁ mg mb G Y fa o pm cd doc dV kV ho hd hcd hD hmg hg args vals as hpre hlay hrd hwl hlo
 have X := (Ground.X G).1
 have V := (Ground.X G).2
 refine Ground.open G ?_
 intro T B D TE TW
 clear hd hcd hD ho
 wrow_args hpre hlay hrd hwl hlo
 rename_i sc _ _ _ _ _ _ _ l vs _ hL _ _ _ hI _ hlen _
 refine Mine.Internal.law14 Mine.Internal.run_law14 (w := w) T hmg hL hI (by omega) ?_
 intro s' hk hgens hos
 refine ⟨.inl ⟨.bool true, .bool true, [], rfl, ?_, .bool true, ?_, ?_⟩, hk, hos, ?_⟩
 ·intro cls; rfl
 ·wrow_post
 ·exact fun _ => ⟨List.nodup_nil, fun a h => by cases h⟩
 ·exact AllBare.of_eq (hgens.trans hg)