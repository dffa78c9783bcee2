import PyProof.Rows.All
import Wide.Line
import Wide.Tac
import Wide.Loose
import Open.Line
import OpenK.KWalk
import KE.KIsAll
import KE.KIntText
import PySem.Challenge.RW_uf010019_03
set_option Elab.async false
set_option autoImplicit false
set_option genSizeOf false
set_option bootstrap.genMatcherCode false
set_option linter.all false
set_option tactic.hygienic false
set_option genInjectivity false
set_option genCtorIdx false
set_option backward.match.sparseCases false
set_option maxRecDepth 100000
namespace Mine.Internal
open PySem PySem.W PyProof.Rows
noncomputable def view03:Program:={ PySem.Challenge.pw_uf010019_03 with main:={ PySem.Challenge.pw_uf010019_03.main with body:=PySem.Challenge.pw_uf010019_03.main.body.filter fun st=>match st with | .Assign [.Name x _] _ _=>x != Str.ofString "__name__" | _=>true } }
theorem said03:PySem.Challenge.rw_uf010019_03.wellSaid=true:=by kernel_rfl
noncomputable def fragAt (as:List Addr) (h:Heap):Frag:=as.filterMap fun a=>(h.get? a).map fun o=>(a,o)
set_option tactic.hygienic true in
theorem fragAt_in (as:List Addr) (h:Heap):(fragAt as h).In h:=by
 intro a o e
 unfold fragAt at e
 induction as with
 | nil=>cases e
 | cons b l ih =>
  rw [List.filterMap_cons] at e
  cases hb:h.get? b with
  | none=>rw [hb] at e; exact ih e
  | some ob =>
   rw [hb] at e
   simp only [Option.map_some,List.lookup_cons] at e
   split at e
   ·rename_i he
    have:a=b:=by simpa using he
    rw [this,hb]; exact e
   ·exact ih e
noncomputable def W03:Nat->Value
 | 0=>.type "ValueError"
 | 1=>.ref 24
 | 2=>.ref 37
 | 3=>.ref 49
 | 4=>.ref 121
 | 5=>.ref 61
 | 6=>.ref 73
 | 7=>.ref 85
 | 8=>.ref 97
 | _=>.ref 109
noncomputable def cn03:List (Nat×Str):=[(1,Str.ofString "WeaveError"),(2,Str.ofString "BadChange"),(3,Str.ofString "NotLeaned"),(4,Str.ofString "NoNote"),(5,Str.ofString "Twice"),(6,Str.ofString "Missing"),(7,Str.ofString "NoLine"),(8,Str.ofString "Other"),(9,Str.ofString "Ring")]
noncomputable def isSome (a b:Option Bool):Bool:=match a,b with | some x,some y=>x == y | _,_=>false
theorem DT {a:Option Bool} {b:Bool} (h:isSome a (some b)=true):a=some b:=by
 cases a with
 | none=>cases h
 | some x=>rw [beq_iff_eq.mp (show (x == b)=true from h)]
noncomputable def isVal (a:Option (Option Value)) (b:Option Value):Bool:=match a,b with | some (some x),some y=>x == y | some none,none=>true | _,_=>false
theorem isVal_eq {a:Option (Option Value)} {b:Option Value} (h:isVal a b=true):a=some b:=by
 cases a with
 | none=>cases b <;> cases h
 | some x=>cases x with
  | none=>cases b with
   | none=>rfl
   | some y=>cases h
  | some x=>cases b with
   | none=>cases h
   | some y=>rw [beq_iff_eq.mp (show (x == y)=true from h)]
noncomputable def isBI (v:Value) (s:String):Bool:=match v with | .builtin x=>x == s | _=>false
theorem isBI_eq {v:Value} {s:String} (h:isBI v s=true):v=.builtin s:=by
 cases v with
 | builtin x=>rw [beq_iff_eq.mp (show (x == s)=true from h)]
 | _=>exact (Bool.false_ne_true h).elim
noncomputable def isBind (o:Option Builtin.ObjectAttr.Found):Bool:=match o with | some f=>(match f with | .bind g a=>isBI g "getset_descriptor.__get__" && isBI a "object.__class__" | _=>false) | none=>false
theorem isBind_eq {o:Option Builtin.ObjectAttr.Found} (h:isBind o=true):o=some (.bind (.builtin "getset_descriptor.__get__") (.builtin "object.__class__")):=by
 cases o with
 | none=>exact (Bool.false_ne_true h).elim
 | some f=>cases f with
  | bind g a =>
   have h:=(Bool.and_eq_true _ _).mp (show (isBI g "getset_descriptor.__get__" && isBI a "object.__class__")=true from h)
   rw [isBI_eq h.1,isBI_eq h.2]
  | _=>exact (Bool.false_ne_true h).elim
noncomputable def excOk (K:Frag) (D:Addr):Bool :=
 isVal (findIn K (.ref D) "__getattribute__") (some (.builtin "BaseException.__getattribute__"))&&isVal (findIn K (.ref D) "__getattr__") none &&
 isBind (findObj K D none "__class__") &&
 isSome (mroIn K D (.type "object")) (some true)&&isSome (mroIn K D (.type "BaseException")) (some true)&&(clsIn K D).isSome
noncomputable def G4 (W:Nat->Value) (cn:List (Nat×Str)) (cs:List Nat) (ps:List (Nat×Nat)) (K:Frag):Bool :=
 cn.all (fun e=>isVal (nsIn K mainGlobals e.2) (some (W e.1))) &&
 cs.all (fun c=>(match W c with | .ref D=>excOk K D | _=>false)) &&
 ps.all fun p=>isSome (kitOne K (W p.1) (W p.2)) (some (p.1 == p.2||p.2 == 1||p.2 == 0))&&isSome (kitCls K (W p.1) (W p.2)) (some (p.1 == p.2||p.2 == 1||p.2 == 0))&&isSome (kitCls K (W p.2) (.type "BaseException")) (some true)
noncomputable def ps03:List (Nat×Nat):=[(2,1),(3,1),(4,0),(4,1),(4,2),(4,3),(4,4),(4,5),(4,6),(4,7),(4,8),(4,9)]
noncomputable def hookOf (as:List Addr) (chk:Frag->Bool):Hook :=
 ⟨Bool,fun s=>chk (fragAt as s.heap),fun _=>true,fun _ h=>∃ K:Frag,K.In h/\chk K=true,fun _ s e=>⟨_,fragAt_in as s.heap,e⟩,fun _ _ _ ⟨K,hK,e⟩ hk=>⟨K,fun a o q=>hk a o (hK a o q),e⟩⟩
noncomputable def hook03:Hook:=hookOf (List.range 130) (G4 W03 cn03 [2,3,4] ps03)
theorem left03:LeftO PySem.Challenge.rw_uf010019_03.row.toRowW.prog view03 [] (fun s=>xlAt view03 [] s&&recOk (RowW.records (OpenRow.toRowW (PySem.Challenge.rw_uf010019_03.row))) s) (Hook.obs hook03) (Hook.val hook03) 5300:=by
 intro w; kernel_rfl
end Mine.Internal
namespace Mine.Internal
open PySem
theorem E7 {G:Prop} (h:∀ R:Prop,(G->R)->R):G:=h G id
set_option genCtorIdx true in
inductive V where
 | d (x:PyData)
 | ref (k:Nat)
 | tup (vs:List V)
 | ty (t:String)
 | cls (c:Nat)
 | exc (c:Nat)
set_option genCtorIdx true in
inductive O where
 | list (vs:List V)
 | dead
abbrev Store:=List O
abbrev Au:=List (Option V)
set_option genCtorIdx true in
inductive Res (α:Type) where
 | ok (a:α) (σ:Store)
 | exc (c:Nat) (σ:Store)
 | bad
section
variable {α:Type} {a b:α} {l:List α} {P:Prop} {σ τ:Store} {c d:Nat}
theorem Ab (h:none=some a):P:=nomatch h
theorem AT (h:some a=none):P:=nomatch h
theorem ff_ (h:false=true):P:=nomatch h
theorem tt_ (h:true=false):P:=nomatch h
theorem bad_ok (h:Res.bad=.ok a σ):P:=nomatch h
theorem ok_bad (h:Res.ok a σ=.bad):P:=nomatch h
theorem exc_ok (h:Res.exc c τ=.ok a σ):P:=nomatch h
theorem ok_exc (h:Res.ok a σ=.exc c τ):P:=nomatch h
theorem bad_exc (h:(Res.bad:Res α)=.exc c τ):P:=nomatch h
theorem exc_bad (h:(Res.exc c τ:Res α)=.bad):P:=nomatch h
theorem nil_ne (h:[]=a::l):P:=nomatch h
theorem ok_inj (h:Res.ok a σ=.ok b τ):a=b/\σ=τ:=by cases h; exact ⟨rfl,rfl⟩
theorem exc_inj (h:(Res.exc c σ:Res α)=.exc d τ):c=d/\σ=τ:=by cases h; exact ⟨rfl,rfl⟩
theorem cons_ne (h:a::l=[]):P:=nomatch h
theorem BV {m n:Nat} (h:m=n) (e:Nat.beq m n=false):P:=by rw [h,Nat.beq_refl] at e; cases e
end
noncomputable def Res.bind {α β:Type} (r:Res α) (f:α->Store->Res β):Res β :=
 match r with
 | .ok a σ=>f a σ
 | .exc c σ=>.exc c σ
 | .bad=>.bad
set_option genCtorIdx true in
inductive Meth where
 | append | join | partition | find | split
set_option genCtorIdx true in
inductive Bi where
 | len | ord | sorted | min | isinstance | str | all | int
set_option genCtorIdx true in
inductive Mode where
 | frz | shared
mutual
inductive E where
 | cst (x:PyData)
 | var (i:Nat)
 | ty (t:String)
 | cls (c:Nat)
 | glo (x:PyData)
 | bin (fz:Bool) (op:Operator) (a b:E)
 | neg (a:E)
 | not (a:E)
 | bop (op:BoolOp) (es:List E)
 | cmp (op:CmpOp) (a b:E)
 | cmp2 (op op':CmpOp) (a b c:E)
 | tup (es:List E)
 | lst (fz:Bool) (es:List E)
 | sub (a i:E)
 | slc (fz:Bool) (a:E) (lo hi:Option E)
 | bcall (b:Bi) (fz:Bool) (args:List E)
 | fcall (m:Mode) (f:Nat) (args:List E)
 | meth (m:Meth) (fz:Bool) (o:E) (args:List E)
 | comp (fz:Bool) (elt:E) (ts:List Nat) (it:It) (ifs:List E)
 | sset (fz:Bool) (a:E)
inductive It where
 | of (e:E)
 | range (args:List E)
 | zip (a b:E)
 | enum (a:E)
end
inductive S where
 | asg (x:Nat) (e:E)
 | unp (xs:List Nat) (e:E)
 | swp (xs:List Nat) (es:List E)
 | set (o i v:E)
 | exp (e:E)
 | ite (c:E) (a b:List S)
 | for_ (ts:List Nat) (it:It) (body:List S)
 | ret (e:E)
 | raise (c:Nat) (args:List E)
 | try_ (body:List S) (hs:List (Nat×Option Nat×List S))
noncomputable def EX:List V->Option (List PyData)
 | []=>some []
 | .d x::r=>match EX r with | some xs=>some (x::xs) | none=>none
 | _::_=>none
noncomputable def En (vs:List V):V:=match EX vs with | some xs=>.d (.tuple xs) | none=>.tup vs
noncomputable def line:Nat:=16777216
noncomputable def A2 (fz:Bool) (vs:List V) (σ:Store):Res V :=
 if vs.length<=line then
  (match fz with
   | true=>(match EX vs with | some xs=>.ok (.d (.list xs)) σ | none=>.bad)
   | false=>.ok (.ref σ.length) (σ++[.list vs]))
 else .bad
noncomputable def B5 (σ:Store):V->Option (List V)
 | .d (.list xs)=>some (xs.map .d)
 | .ref k=>match σ[k]? with | some (.list vs)=>some vs | _=>none
 | _=>none
noncomputable def Dt (σ:Store):V->Option (List V)
 | .d (.list xs)=>some (xs.map .d)
 | .d (.tuple xs)=>some (xs.map .d)
 | .tup vs=>some vs
 | .ref k=>match σ[k]? with | some (.list vs)=>some vs | _=>none
 | _=>none
noncomputable def Ca (f:V->Option PyData):List V->Option (List PyData)
 | []=>some []
 | v::r=>match f v with
  | some x=>(match Ca f r with | some xs=>some (x::xs) | none=>none)
  | none=>none
noncomputable def snapO (f:V->Option PyData) (o:Option O):Option PyData :=
 match o with
 | some o=>(match o with | .list vs=>(match Ca f vs with | some xs=>some (.list xs) | none=>none) | .dead=>none)
 | none=>none
noncomputable def Be (σ:Store):Nat->V->Option PyData
 | 0,v=>(match v with | .d x=>some x | _=>none)
 | n+1,v=>(match v with
  | .d x=>some x
  | .ref k=>snapO (Be σ n) σ[k]?
  | .tup vs=>(match Ca (Be σ n) vs with | some xs=>some (.tuple xs) | none=>none)
  | _=>none)
noncomputable def strOf (n:Int):Str:=Str.ofString (toString n)
noncomputable def eqLeaf (a b:PyData):Option Bool :=
 match a with
 | .none=>(match b with | .none=>some true | .str _=>some false | .tuple _=>some false | _=>none)
 | .bool x=>(match b with | .bool y=>some (x == y) | _=>none)
 | .int x=>(match b with | .int y=>some (x == y) | _=>none)
 | .str x=>(match b with | .str y=>some (x == y) | .none=>some false | _=>none)
 | .tuple _=>(match b with | .none=>some false | _=>none)
 | _=>none
noncomputable def CL (f:PyData->PyData->Option Bool):List PyData->List PyData->Option Bool
 | [],ys=>(match ys with | []=>some true | _::_=>some false)
 | x::xs,ys=>(match ys with
  | []=>some false
  | y::ys=>(match f x y with
   | some a=>(match CL f xs ys with | some b=>some (a&&b) | none=>none)
   | none=>none))
noncomputable def eqSeq (f:PyData->PyData->Option Bool) (a b:PyData):Option Bool :=
 match a with
 | .list xs=>(match b with | .list ys=>if xs.length=ys.length then CL f xs ys else some false | _=>none)
 | .tuple xs=>(match b with | .tuple ys=>CL f xs ys | _=>eqLeaf a b)
 | _=>eqLeaf a b
noncomputable def eqN:Nat->PyData->PyData->Option Bool
 | 0,a,b=>eqLeaf a b
 | n+1,a,b=>eqSeq (eqN n) a b
noncomputable def eqNs (n:Nat) (xs ys:List PyData):Option Bool:=CL (eqN n) xs ys
noncomputable def small (i:Int):Bool:=decide (-9223372036854775808 < i)&&decide (i < 9223372036854775808)
noncomputable def catS (a b:Str):Str:=a++b
noncomputable def BD {α:Type} (lo hi:Option Int) (xs:List α):List α :=
 (xs.drop (lo.elim 0 (clipAt xs.length))).take (hi.elim xs.length (clipAt xs.length)-lo.elim 0 (clipAt xs.length))
noncomputable def cutS (lo hi:Option Int) (x:Str):Str:=⟨(BD lo hi x.cps.toList).toArray⟩
noncomputable def chr1 (c:Nat):Str:=⟨#[c]⟩
noncomputable def truthD:PyData->Option Bool
 | .none=>some false
 | .bool b=>some b
 | .int i=>some (i != 0)
 | .str s=>some (s.cps.size != 0)
 | .list xs=>some (!xs.isEmpty)
 | .tuple xs=>some (!xs.isEmpty)
 | .dict _=>none
noncomputable def B2 (σ:Store):V->Option Bool
 | .d x=>truthD x
 | .ref k=>match σ[k]? with | some (.list vs)=>some (!vs.isEmpty) | _=>none
 | _=>none
noncomputable def Az:V->Option Int
 | .d (.int i)=>some i
 | _=>none
noncomputable def A3:V->Option Str
 | .d (.str x)=>some x
 | _=>none
noncomputable def Ef:V->Option (List PyData)
 | .d (.tuple xs)=>some xs
 | _=>none
noncomputable def lstAdd (fz:Bool) (a b:V) (σ:Store):Res V :=
 match B5 σ a with
 | some xs=>(match B5 σ b with | some ys=>A2 fz (xs++ys) σ | none=>.bad)
 | none=>.bad
noncomputable def binAdd (fz:Bool) (a b:V) (σ:Store):Res V :=
 match Az a with
 | some i=>(match Az b with | some j=>.ok (.d (.int (i+j))) σ | none=>.bad)
 | none=>(match A3 a with
  | some x=>(match A3 b with | some y=>if x.length+y.length<=line then .ok (.d (.str (x++y))) σ else .bad | none=>.bad)
  | none=>(match Ef a with
   | some xs=>(match Ef b with | some ys=>if xs.length+ys.length<=line then .ok (.d (.tuple (xs++ys))) σ else .bad | none=>.bad)
   | none=>lstAdd fz a b σ))
noncomputable def binMul (a:V) (j:Int) (σ:Store):Res V :=
 match Az a with
 | some i=>if small i||small j then .ok (.d (.int (i * j))) σ else .bad
 | none=>(match A3 a with
  | some x=>if 0<=j/\j<=1000/\x.length<=1000 then .ok (.d (.str (Txt.mul x j))) σ else .bad
  | none=>.bad)
noncomputable def Dm (fz:Bool) (op:Operator) (a b:V) (σ:Store):Res V :=
 match op with
 | .Add=>binAdd fz a b σ
 | .Sub=>(match Az a,Az b with | some i,some j=>.ok (.d (.int (i-j))) σ | _,_=>.bad)
 | .Mult=>(match Az b with | some j=>binMul a j σ | none=>.bad)
 | .FloorDiv=>(match Az a,Az b with | some i,some j=>if j=0 then .bad else .ok (.d (.int (i.fdiv j))) σ | _,_=>.bad)
 | .Mod=>(match Az a,Az b with | some i,some j=>if j=0 then .bad else .ok (.d (.int (i.fmod j))) σ | _,_=>.bad)
 | _=>.bad
noncomputable def Bn (a b:Str):Bool:=decide (a.cps.toList < b.cps.toList)
noncomputable def AM:Nat:=40
noncomputable def inD (x:PyData):List PyData->Option Bool
 | []=>some false
 | y::r=>match eqN AM y x,inD x r with | some a,some b=>some (a||b) | _,_=>none
noncomputable def FO:Option Bool->Option Bool
 | some b=>some (!b)
 | none=>none
noncomputable def eqV (σ:Store) (a b:V):Option Bool :=
 match Be σ AM a,Be σ AM b with
 | some x,some y=>eqN AM x y
 | _,_=>none
noncomputable def inSeqD (x d:PyData):Option Bool :=
 match d with
 | .list ys=>inD x ys
 | .tuple ys=>inD x ys
 | _=>none
noncomputable def inSeq (σ:Store) (a b:V):Option Bool :=
 match Be σ AM a with
 | some x=>(match Be σ AM b with | some d=>inSeqD x d | none=>none)
 | none=>none
noncomputable def inV (σ:Store) (a b:V):Option Bool :=
 match A3 a with
 | some x=>(match A3 b with | some y=>some (Txt.contains y x) | none=>inSeq σ a b)
 | none=>inSeq σ a b
noncomputable def isV:V->V->Option Bool
 | a,.d .none=>(match a with
  | .d .none=>some true
  | .d _=>some false
  | .ref _=>some false
  | .tup _=>some false
  | .exc _=>some false
  | .ty _=>none
  | .cls _=>none)
 | _,_=>none
noncomputable def ordV (f:Int->Int->Bool) (k:Str->Str->Bool) (a b:V):Option Bool :=
 match Az a with
 | some i=>(match Az b with | some j=>some (f i j) | none=>none)
 | none=>(match A3 a with
  | some x=>(match A3 b with | some y=>some (k x y) | none=>none)
  | none=>none)
noncomputable def ltV (a b:V):Option Bool:=ordV (fun i j=>decide (i < j)) (fun x y=>Bn x y) a b
noncomputable def leV (a b:V):Option Bool:=ordV (fun i j=>decide (i<=j)) (fun x y=>!Bn y x) a b
noncomputable def gtV (a b:V):Option Bool:=ordV (fun i j=>decide (i > j)) (fun x y=>Bn y x) a b
noncomputable def geV (a b:V):Option Bool:=ordV (fun i j=>decide (i ≥ j)) (fun x y=>!Bn x y) a b
noncomputable def Bo (op:CmpOp) (a b:V) (σ:Store):Option Bool :=
 match op with
 | .Eq=>eqV σ a b
 | .NotEq=>FO (eqV σ a b)
 | .In=>inV σ a b
 | .NotIn=>FO (inV σ a b)
 | .Is=>isV a b
 | .IsNot=>FO (isV a b)
 | .Lt=>ltV a b
 | .LtE=>leV a b
 | .Gt=>gtV a b
 | .GtE=>geV a b
noncomputable def DK (a:V) (k:Int) (σ:Store):Option V :=
 match A3 a with
 | some x=>(match Txt.charAt x k with | some c=>some (.d (.str (chr1 c))) | none=>none)
 | none=>(match Dt σ a with | some vs=>(match seqIndex? k vs.length with | some j=>vs[j]? | none=>none) | none=>none)
noncomputable def A4 (a i:V) (σ:Store):Option V :=
 match Az i with
 | some k=>if small k then DK a k σ else none
 | none=>none
noncomputable def Cm (o:Option V):Option (Option Int) :=
 match o with
 | none=>some none
 | some v=>(match Az v with | some i=>if small i then some (some i) else none | none=>none)
noncomputable def sliceTup (xs:List PyData) (l h:Option Int):Option (List PyData) :=
 match l with
 | some a=>(match h with | none=>if 1<=a/\a<=xs.length then some (xs.drop a.toNat) else none | some _=>none)
 | none=>none
noncomputable def Cq (fz:Bool) (a:V) (l h:Option Int) (σ:Store):Res V :=
 match A3 a with
 | some x=>.ok (.d (.str (cutS l h x))) σ
 | none=>(match Ef a with
  | some xs=>(match sliceTup xs l h with | some ys=>.ok (.d (.tuple ys)) σ | none=>.bad)
  | none=>(match B5 σ a with
   | some xs=>A2 fz (BD l h xs) σ
   | none=>.bad))
noncomputable def slice (fz:Bool) (a:V) (lo hi:Option V) (σ:Store):Res V :=
 match Cm lo with
 | some l=>(match Cm hi with | some h=>Cq fz a l h σ | none=>.bad)
 | none=>.bad
noncomputable def strsD:List PyData->Option (List Str)
 | []=>some []
 | .str x::r=>match strsD r with | some xs=>some (x::xs) | none=>none
 | _::_=>none
noncomputable def CJ:List V->Option (List Str)
 | []=>some []
 | v::r=>(match A3 v with
  | some x=>(match CJ r with | some xs=>some (x::xs) | none=>none)
  | none=>none)
noncomputable def Eg (x:Str):List Str->List Str
 | []=>[x]
 | y::r=>if Bn x y then x::y::r else y::Eg x r
noncomputable def CG:List Str->List Str
 | []=>[]
 | x::r=>Eg x (CG r)
noncomputable def Cr:List Str->List Str
 | []=>[]
 | x::r=>if r.contains x then Cr r else x::Cr r
noncomputable def EB (fz:Bool) (v:V) (σ:Store):Res V :=
 match B5 σ v with
 | some xs=>(match CJ xs with | some ss=>if ss.length < 64 then A2 fz ((CG (Cr ss)).map fun s=>.d (.str s)) σ else .bad | none=>.bad)
 | none=>.bad
noncomputable def isListO (o:Option O):Bool :=
 match o with
 | some o=>(match o with | .list _=>true | .dead=>false)
 | none=>false
noncomputable def isTyD (x:PyData) (t:String):Option Bool :=
 match x with
 | .tuple _=>if t = "tuple" then some true else none
 | .list _=>if t = "list" then some true else none
 | .str _=>if t = "str" then some true else none
 | .int _=>if t = "int" then some true else if t = "bool" then some false else none
 | .bool _=>if t = "bool" then some true else none
 | _=>none
noncomputable def isTy (σ:Store) (v:V) (t:String):Option Bool :=
 match v with
 | .d x=>isTyD x t
 | .tup _=>if t = "tuple" then some true else none
 | .ref k=>if isListO σ[k]? = true/\t = "list" then some true else none
 | _=>none
noncomputable def isBoolV:V->Option Bool
 | .d (.bool b)=>some b
 | _=>none
noncomputable def DG:List V->Option (List Bool)
 | []=>some []
 | v::r=>(match isBoolV v with
  | some b=>(match DG r with | some bs=>some (b::bs) | none=>none)
  | none=>none)
noncomputable def bAll (hd:Bool) (v:V) (σ:Store):Res V :=
 match B5 σ v with
 | some xs=>(match DG xs with | some bs=>if hd=false then .ok (.d (.bool (bs.all id))) σ else .bad | none=>.bad)
 | none=>.bad
noncomputable def bInt (v:V) (σ:Store):Res V :=
 match A3 v with
 | some x=>(match intText? x with | some n=>if x.length<=640 then .ok (.d (.int n)) σ else .bad | none=>.bad)
 | none=>.bad
noncomputable def bLen (v:V) (σ:Store):Res V :=
 match A3 v with
 | some x=>.ok (.d (.int x.cps.size)) σ
 | none=>(match Dt σ v with | some xs=>.ok (.d (.int xs.length)) σ | none=>.bad)
noncomputable def oneOf (l:List Nat) (σ:Store):Res V :=
 match l with
 | []=>.bad
 | c::r=>(match r with | []=>.ok (.d (.int c)) σ | _::_=>.bad)
noncomputable def bOrd (v:V) (σ:Store):Res V :=
 match A3 v with
 | some x=>oneOf x.cps.toList σ
 | none=>.bad
noncomputable def bSort (fz:Bool) (v:V) (σ:Store):Res V :=
 match B5 σ v with
 | some xs=>(match CJ xs with | some ss=>if ss.length < 64 then A2 fz ((CG ss).map fun s=>.d (.str s)) σ else .bad | none=>.bad)
 | none=>.bad
noncomputable def bIsi (isExc:Nat->Nat->Option Bool) (v w:V) (σ:Store):Res V :=
 match w with
 | .cls x=>(match v with | .exc c=>(match isExc c x with | some b=>.ok (.d (.bool b)) σ | none=>.bad) | _=>.bad)
 | .ty t=>(match isTy σ v t with | some b=>.ok (.d (.bool b)) σ | none=>.bad)
 | _=>.bad
noncomputable def bcall1 (hd:Bool) (b:Bi) (fz:Bool) (v:V) (σ:Store):Res V :=
 match b with
 | .len=>bLen v σ
 | .ord=>bOrd v σ
 | .str=>(match Az v with | some i=>if i.natAbs < 1000000000000 then .ok (.d (.str (strOf i))) σ else .bad | none=>.bad)
 | .sorted=>bSort fz v σ
 | .all=>bAll hd v σ
 | .int=>bInt v σ
 | _=>.bad
noncomputable def bcall2 (isExc:Nat->Nat->Option Bool) (hd:Bool) (b:Bi) (v w:V) (σ:Store):Res V :=
 match b with
 | .min=>(match Az v,Az w with | some i,some j=>if hd then .bad else .ok (.d (.int (if j < i then j else i))) σ | _,_=>.bad)
 | .isinstance=>bIsi isExc v w σ
 | _=>.bad
noncomputable def bcall (isExc:Nat->Nat->Option Bool) (hd:Bool) (b:Bi) (fz:Bool) (vs:List V) (σ:Store):Res V :=
 match vs with
 | [v]=>bcall1 hd b fz v σ
 | [v,w]=>bcall2 isExc hd b v w σ
 | _=>.bad
noncomputable def appendTo (k:Nat) (v:V) (σ:Store) (o:Option O):Res V :=
 match o with
 | some o=>(match o with
  | .list xs=>if xs.length < line then .ok (.d .none) (σ.set k (.list (xs++[v]))) else .bad
  | .dead=>.bad)
 | none=>.bad
noncomputable def joinBy (x:Str) (v:V) (σ:Store):Res V :=
 match B5 σ v with
 | some xs=>(match CJ xs with
  | some ss=>if JoinOk x ss then .ok (.d (.str (Txt.join x ss))) σ else .bad
  | none=>.bad)
 | none=>.bad
noncomputable def findIn2 (x y:Str) (σ:Store):Res V:=.ok (.d (.int (Txt.find x y))) σ
noncomputable def partIn (x y:Str) (σ:Store):Res V :=
 if (y.length == 0)=false then .ok (.d (.tuple [.str (Txt.partition x y).1,.str (Txt.partition x y).2.1,.str (Txt.partition x y).2.2])) σ else .bad
noncomputable def FC (fz:Bool) (x y:Str) (σ:Store):Res V :=
 if (y.length == 0)=false/\x.length+2<=line then A2 fz ((Txt.split x y).map fun p=>.d (.str p)) σ else .bad
noncomputable def strMeth (m:Meth) (fz:Bool) (x y:Str) (σ:Store):Res V :=
 match m with
 | .find=>findIn2 x y σ
 | .partition=>partIn x y σ
 | .split=>FC fz x y σ
 | _=>.bad
noncomputable def methcall1 (m:Meth) (fz:Bool) (o v:V) (σ:Store):Res V :=
 match m with
 | .append=>(match o with | .ref k=>appendTo k v σ σ[k]? | _=>.bad)
 | .join=>(match A3 o with | some x=>joinBy x v σ | none=>.bad)
 | m=>(match A3 o with | some x=>(match A3 v with | some y=>strMeth m fz x y σ | none=>.bad) | none=>.bad)
noncomputable def Bf (m:Meth) (fz:Bool) (o:V) (vs:List V) (σ:Store):Res V :=
 match vs with
 | [v]=>methcall1 m fz o v σ
 | _=>.bad
noncomputable def AK (m:Meth) (o:V) (σ:Store):Bool :=
 match m with
 | .append=>(match o with | .ref k=>isListO σ[k]? | _=>false)
 | _=>(match A3 o with | some _=>true | none=>false)
noncomputable def CO (lo:Int):Nat->List V
 | 0=>[]
 | n+1=>.d (.int lo)::CO (lo+1) n
noncomputable def rangeOf (hd:Bool) (vs:List V):Option (List V) :=
 match vs with
 | [v]=>(match Az v with
  | some n=>if n<=1000000/\-1000000<=n/\hd=false then some (CO 0 n.toNat) else none
  | none=>none)
 | _=>none
noncomputable def zipV:List V->List V->List V
 | x::xs,y::ys=>En [x,y]::zipV xs ys
 | _,_=>[]
noncomputable def FY (k:Nat):List V->List V
 | []=>[]
 | x::xs=>En [.d (.int k),x]::FY (k+1) xs
noncomputable def tupOf:V->Option (List V)
 | .d (.tuple xs)=>some (xs.map .d)
 | .tup vs=>some vs
 | _=>none
noncomputable def Cz:Au->List Nat->List V->Au
 | ρ,i::is,v::vs=>Cz (ρ.set i (some v)) is vs
 | ρ,_,_=>ρ
noncomputable def BG (hd:Bool) (ρ:Au) (ts:List Nat) (v:V):Option Au :=
 match ts with
 | [i]=>some (ρ.set i (some v))
 | ts=>if hd then none else match tupOf v with
  | some vs=>if vs.length=ts.length then some (Cz ρ ts vs) else none
  | none=>none
noncomputable def Bv (ρ:Au) (ts:List Nat):Au:=ts.foldl (fun r i=>r.set i none) ρ
set_option genCtorIdx true in
inductive Src where
 | items (vs:List V)
 | lref (k i:Nat)
noncomputable def Gu (k i:Nat) (o:Option O):Option (Option (V×Src)) :=
 match o with
 | some o=>(match o with
  | .list ws=>(match ws[i]? with | some v=>some (some (v,.lref k (i+1))) | none=>some none)
  | .dead=>none)
 | none=>none
noncomputable def Src.next (σ:Store) (s:Src):Option (Option (V×Src)) :=
 match s with
 | .items vs=>(match vs with | []=>some none | v::r=>some (some (v,.items r)))
 | .lref k i=>Gu k i σ[k]?
noncomputable def Src.fuel (σ:Store) (s:Src):Nat :=
 match s with
 | .items vs=>vs.length+1
 | .lref k _=>(match B5 σ (.ref k) with | some ws=>ws.length+1 | none=>0)
noncomputable def Dy (hd:Bool) (σ:Store):V->Option Src
 | .d (.list xs)=>some (.items (xs.map .d))
 | .d (.tuple xs)=>if hd then none else some (.items (xs.map .d))
 | .d (.str x)=>if hd then none else some (.items (x.cps.toList.map fun c=>.d (.str (chr1 c))))
 | .ref k=>if isListO σ[k]? = true then some (.lref k 0) else none
 | _=>none
noncomputable def Dl (hd:Bool):V->Option (List V)
 | .d (.list xs)=>if hd then none else some (xs.map .d)
 | _=>none
noncomputable def E8 (f:V->Store->Res (Option V)):List V->Store->Res (List V)
 | [],σ=>.ok [] σ
 | v::r,σ=>(match f v σ with
  | .ok x σ=>(match E8 f r σ with | .ok xs σ=>.ok (match x with | some y=>y::xs | none=>xs) σ | .exc c σ=>.exc c σ | .bad=>.bad)
  | .exc c σ=>.exc c σ
  | .bad=>.bad)
noncomputable def compOne (go:Src->Store->Res (List V)) (f:V->Store->Res (Option V)) (σ:Store) (o:Option (Option (V×Src))):Res (List V) :=
 match o with
 | some o=>(match o with
  | some p=>(match f p.1 σ with
   | .ok x σ=>(match go p.2 σ with | .ok xs σ=>.ok (match x with | some y=>y::xs | none=>xs) σ | .exc c σ=>.exc c σ | .bad=>.bad)
   | .exc c σ=>.exc c σ
   | .bad=>.bad)
  | none=>.ok [] σ)
 | none=>.bad
noncomputable def BQ (f:V->Store->Res (Option V)):Nat->Src->Store->Res (List V)
 | 0,_,_=>.bad
 | n+1,src,σ=>compOne (BQ f n) f σ (src.next σ)
noncomputable def BT (fz:Bool) (n:Nat) (r:Res (List V)):Res V :=
 match r with
 | .ok ys σ=>A2 fz ys σ
 | .exc c σ=>if n<=line then .exc c σ else .bad
 | .bad=>.bad
noncomputable def AP (hd:Bool) (ρ:Au) (ts:List Nat) (tests:Au->Store->Res Bool) (elt:Au->Store->Res V) (v:V) (σ:Store):Res (Option V) :=
 match BG hd (Bv ρ ts) ts v with
 | some ρ'=>(tests ρ' σ).bind fun b σ=>(match b with
  | true=>(elt ρ' σ).bind fun y σ=>.ok (some y) σ
  | false=>.ok none σ)
 | none=>.bad
abbrev CF:=Bool->Mode->Nat->List V->Store->Res V
structure Cfg where
 cf:CF
 isExc:Nat->Nat->Option Bool
 fuel:Nat
 hd:Bool
mutual
noncomputable def Ac (C:Cfg):E->Au->Store->Res V
 | .cst x,_,σ=>.ok (.d x) σ
 | .glo x,_,σ=>.ok (.d x) σ
 | .cls c,_,σ=>.ok (.cls c) σ
 | .ty t,_,σ=>.ok (.ty t) σ
 | .var i,ρ,σ=>(match ρ[i]? with | some (some v)=>.ok v σ | _=>.bad)
 | .bin fz op a b,ρ,σ=>(Ac C a ρ σ).bind fun x σ=>(Ac C b ρ σ).bind fun y σ=>Dm fz op x y σ
 | .neg a,ρ,σ=>(Ac C a ρ σ).bind fun x σ=>(match x with | .d (.int i)=>.ok (.d (.int (-i))) σ | _=>.bad)
 | .not a,ρ,σ=>(Ac C a ρ σ).bind fun x σ=>(match B2 σ x with | some b=>.ok (.d (.bool (!b))) σ | none=>.bad)
 | .bop op es,ρ,σ=>evalB C op es ρ σ
 | .cmp op a b,ρ,σ=>(Ac C a ρ σ).bind fun x σ=>(Ac C b ρ σ).bind fun y σ=>(match Bo op x y σ with | some b=>.ok (.d (.bool b)) σ | none=>.bad)
 | .cmp2 op op' a b c,ρ,σ=>(Ac C a ρ σ).bind fun x σ=>(Ac C b ρ σ).bind fun y σ =>
  (match Bo op x y σ with
   | some false=>.ok (.d (.bool false)) σ
   | some true=>(Ac C c ρ σ).bind fun z σ=>(match Bo op' y z σ with | some b=>.ok (.d (.bool b)) σ | none=>.bad)
   | none=>.bad)
 | .tup es,ρ,σ=>(evalEs C es ρ σ).bind fun vs σ=>if vs.length<=line then .ok (En vs) σ else .bad
 | .lst fz es,ρ,σ=>(evalEs C es ρ σ).bind fun vs σ=>A2 fz vs σ
 | .sub a i,ρ,σ=>(Ac C a ρ σ).bind fun x σ=>(Ac C i ρ σ).bind fun y σ=>(match A4 x y σ with | some v=>.ok v σ | none=>.bad)
 | .slc fz a lo hi,ρ,σ=>(Ac C a ρ σ).bind fun x σ=>(evalO C lo ρ σ).bind fun l σ=>(evalO C hi ρ σ).bind fun h σ=>slice fz x l h σ
 | .bcall b fz es,ρ,σ=>(evalEs C es ρ σ).bind fun vs σ=>bcall C.isExc C.hd b fz vs σ
 | .fcall m f es,ρ,σ=>(evalEs C es ρ σ).bind fun vs σ=>C.cf C.hd m f vs σ
 | .meth m fz o es,ρ,σ=>(Ac C o ρ σ).bind fun x σ=>if AK m x σ then (evalEs C es ρ σ).bind fun vs σ=>Bf m fz x vs σ else .bad
 | .comp fz elt ts it ifs,ρ,σ=>(evalIt C it ρ σ).bind fun vs σ =>
  BT fz (vs.fuel σ) (BQ (AP C.hd ρ ts (fun ρ σ=>evalIfs C ifs ρ σ) (fun ρ σ=>Ac C elt ρ σ)) (vs.fuel σ) vs σ)
 | .sset fz a,ρ,σ=>if C.hd then .bad else (Ac C a ρ σ).bind fun x σ=>EB fz x σ
noncomputable def evalEs (C:Cfg):List E->Au->Store->Res (List V)
 | [],_,σ=>.ok [] σ
 | e::r,ρ,σ=>(Ac C e ρ σ).bind fun v σ=>(evalEs C r ρ σ).bind fun vs σ=>.ok (v::vs) σ
noncomputable def evalO (C:Cfg):Option E->Au->Store->Res (Option V)
 | none,_,σ=>.ok none σ
 | some e,ρ,σ=>(Ac C e ρ σ).bind fun v σ=>.ok (some v) σ
noncomputable def evalB (C:Cfg) (op:BoolOp):List E->Au->Store->Res V
 | [],_,_=>.bad
 | [e],ρ,σ=>Ac C e ρ σ
 | e::e'::r,ρ,σ=>(Ac C e ρ σ).bind fun v σ=>(match B2 σ v,op with
  | some false,.And=>.ok v σ
  | some true,.Or=>.ok v σ
  | some _,_=>evalB C op (e'::r) ρ σ
  | none,_=>.bad)
noncomputable def evalIfs (C:Cfg):List E->Au->Store->Res Bool
 | [],_,σ=>.ok true σ
 | e::r,ρ,σ=>(Ac C e ρ σ).bind fun v σ=>(match B2 σ v with
  | some true=>evalIfs C r ρ σ
  | some false=>.ok false σ
  | none=>.bad)
noncomputable def evalIt (C:Cfg):It->Au->Store->Res Src
 | .range es,ρ,σ=>(evalEs C es ρ σ).bind fun vs σ=>(match rangeOf C.hd vs with | some xs=>.ok (.items xs) σ | none=>.bad)
 | .zip a b,ρ,σ=>(Ac C a ρ σ).bind fun x σ=>(Ac C b ρ σ).bind fun y σ=>(match Dl C.hd x,Dl C.hd y with | some xs,some ys=>.ok (.items (zipV xs ys)) σ | _,_=>.bad)
 | .enum a,ρ,σ=>(Ac C a ρ σ).bind fun x σ=>(match Dl C.hd x with | some xs=>.ok (.items (FY 0 xs)) σ | none=>.bad)
 | .of e,ρ,σ=>(Ac C e ρ σ).bind fun x σ=>(match Dy C.hd σ x with | some xs=>.ok xs σ | none=>.bad)
end
noncomputable def exNo (hd:Bool) (c:Nat):Nat:=match hd with | true=>c+1000 | false=>c
set_option genCtorIdx true in
inductive Fl where
 | next (ρ:Au)
 | ret (v:V)
noncomputable def AF (hd:Bool) (ts:List Nat) (body:Au->Store->Res Fl) (v:V) (ρ:Au) (σ:Store):Res Fl :=
 match BG hd ρ ts v with
 | some ρ'=>body ρ' σ
 | none=>.bad
noncomputable def D1 (f:V->Au->Store->Res Fl):List V->Au->Store->Res Fl
 | [],ρ,σ=>.ok (.next ρ) σ
 | v::r,ρ,σ=>(f v ρ σ).bind fun x σ=>(match x with | .next ρ=>D1 f r ρ σ | .ret y=>.ok (.ret y) σ)
noncomputable def Gz (go:Src->Au->Store->Res Fl) (f:V->Au->Store->Res Fl) (ρ:Au) (σ:Store) (o:Option (Option (V×Src))):Res Fl :=
 match o with
 | some o=>(match o with
  | some p=>(f p.1 ρ σ).bind fun x σ=>(match x with | .next ρ=>go p.2 ρ σ | .ret y=>.ok (.ret y) σ)
  | none=>.ok (.next ρ) σ)
 | none=>.bad
noncomputable def E4 (f:V->Au->Store->Res Fl):Nat->Src->Au->Store->Res Fl
 | 0,_,_,_=>.bad
 | n+1,src,ρ,σ=>Gz (E4 f n) f ρ σ (src.next σ)
noncomputable def setAt (k:Nat) (j:Int) (v:V) (σ:Store) (o:Option O):Res Fl :=
 match o with
 | some o=>(match o with
  | .list xs=>if 0<=j/\j < xs.length then .ok (.next []) (σ.set k (.list (xs.set j.toNat v))) else .bad
  | .dead=>.bad)
 | none=>.bad
noncomputable def Cb (o i v:V) (σ:Store):Res Fl :=
 match o with
 | .ref k=>(match Az i with | some j=>setAt k j v σ σ[k]? | none=>.bad)
 | _=>.bad
mutual
noncomputable def EW:S->List Nat
 | .asg x _=>[x]
 | .unp xs _=>xs
 | .swp xs _=>xs
 | .ite _ a b=>asgAll a++asgAll b
 | .for_ ts _ body=>ts++asgAll body
 | .try_ body hs=>asgAll body++asgHs hs
 | _=>[]
noncomputable def asgAll:List S->List Nat
 | []=>[]
 | s::r=>EW s++asgAll r
noncomputable def asgHs:List (Nat×Option Nat×List S)->List Nat
 | []=>[]
 | (_,n,body)::r=>(match n with | some x=>[x] | none=>[])++asgAll body++asgHs r
end
mutual
noncomputable def CK (C:Cfg):S->Au->Store->Res Fl
 | .asg x e,ρ,σ=>(Ac C e ρ σ).bind fun v σ=>.ok (.next (ρ.set x (some v))) σ
 | .unp xs e,ρ,σ=>(Ac C e ρ σ).bind fun v σ=>(match BG C.hd ρ xs v with | some ρ=>.ok (.next ρ) σ | none=>.bad)
 | .swp xs es,ρ,σ=>(evalEs C es ρ σ).bind fun vs σ =>
  if vs.length=xs.length/\C.hd=false then .ok (.next (Cz ρ xs vs)) σ else .bad
 | .set o i v,ρ,σ=>(Ac C v ρ σ).bind fun x σ=>(Ac C o ρ σ).bind fun y σ=>(Ac C i ρ σ).bind fun z σ=>(Cb y z x σ).bind fun _ σ=>.ok (.next ρ) σ
 | .exp e,ρ,σ=>(Ac C e ρ σ).bind fun _ σ=>.ok (.next ρ) σ
 | .ite c a b,ρ,σ=>(Ac C c ρ σ).bind fun v σ=>(match B2 σ v with
  | some true=>execSs C a ρ σ
  | some false=>execSs C b ρ σ
  | none=>.bad)
 | .for_ ts it body,ρ,σ=>(evalIt C it ρ σ).bind fun vs σ =>
  E4 (AF C.hd ts (fun ρ σ=>execSs C body ρ σ)) (vs.fuel σ) vs ρ σ
 | .ret e,ρ,σ=>(Ac C e ρ σ).bind fun v σ=>.ok (.ret v) σ
 | .raise c es,ρ,σ=>(evalEs C es ρ σ).bind fun _ σ=>.exc (exNo C.hd c) σ
 | .try_ body hs,ρ,σ=>(match execSs C body ρ σ with
  | .ok f σ=>.ok f σ
  | .bad=>.bad
  | .exc c σ=>handle C hs c (Bv ρ (asgAll body)) σ)
noncomputable def execSs (C:Cfg):List S->Au->Store->Res Fl
 | [],ρ,σ=>.ok (.next ρ) σ
 | s::r,ρ,σ=>(CK C s ρ σ).bind fun f σ=>(match f with | .next ρ=>execSs C r ρ σ | .ret v=>.ok (.ret v) σ)
noncomputable def handle (C:Cfg):List (Nat×Option Nat×List S)->Nat->Au->Store->Res Fl
 | [],c,_,σ=>.exc c σ
 | (k,n,body)::r,c,ρ,σ=>(match C.isExc c k with
  | some true=>(match n with
   | none=>execSs { C with hd:=true } body ρ σ
   | some x=>(match execSs { C with hd:=true } body (ρ.set x (some (.exc c))) σ with
    | .ok f σ=>.ok (match f with | .next ρ=>.next (ρ.set x none) | f=>f) σ
    | _=>.bad))
  | some false=>handle C r c ρ σ
  | none=>.bad)
end
structure Fn where
 nparams:Nat
 nvars:Nat
 body:List S
noncomputable def noList:PyData->Bool
 | .none=>true
 | .bool _=>true
 | .int _=>true
 | .str _=>true
 | _=>false
noncomputable def Bu (C:Cfg) (fn:Fn) (vs:List V) (σ:Store):Res V :=
 if vs.length=fn.nparams then
  (execSs C fn.body (vs.map some++List.replicate (fn.nvars-fn.nparams) none) σ).bind fun f σ=>(match f with | .ret v=>.ok v σ | .next _=>.ok (.d .none) σ)
 else .bad
noncomputable def fresh (σ:Store):Nat->V->Option PyData
 | 0,v=>(match v with | .d x=>if noList x=true then some x else none | _=>none)
 | n+1,v=>(match v with
  | .d x=>if noList x=true then some x else none
  | .ref k=>snapO (fresh σ n) σ[k]?
  | _=>none)
noncomputable def ansOf1 (flat:Bool) (σ:Store) (v:V):Option PyData:=match flat with | true=>fresh σ 8 v | false=>Be σ 8 v
noncomputable def BK (run:List V->Store->Res V) (xs:List V) (flat:Bool) (σ:Store):Res V :=
 match run xs [] with
 | .ok v σ'=>(match ansOf1 flat σ' v with | some y=>.ok (.d y) σ | none=>.bad)
 | .exc c _=>if c < 1000 then .exc c σ else .bad
 | .bad=>.bad
noncomputable def CR:List V->Bool
 | []=>true
 | .d _::r=>CR r
 | .exc _::r=>CR r
 | .cls _::r=>CR r
 | _::_=>false
noncomputable def DR (σ:Store):List V->Option (List V)
 | []=>some []
 | .exc c::r=>(match DR σ r with | some xs=>some (.exc c::xs) | none=>none)
 | v::r=>(match Be σ 8 v,DR σ r with | some x,some xs=>some (.d x::xs) | _,_=>none)
noncomputable def Ag (P:Nat->Option Fn) (isExc:Nat->Nat->Option Bool) (fuel:Nat):Nat->CF
 | 0,_,_,_,_,_=>.bad
 | n+1,hd,m,f,vs,σ=>(match P f with
  | none=>.bad
  | some fn=>(match m with
   | .shared=>Bu ⟨Ag P isExc fuel n,isExc,fuel,hd⟩ fn vs σ
   | .frz=>(match CR vs with
    | true=>BK (Bu ⟨Ag P isExc fuel n,isExc,fuel,hd⟩ fn) vs false σ
    | false=>(match DR σ vs with
     | some xs=>BK (Bu ⟨Ag P isExc fuel n,isExc,fuel,hd⟩ fn) xs true σ
     | none=>.bad))))
theorem Ah {C:Cfg} {x:_} {w1:_} {σ:_}:Ac C (.cst x) w1 σ=.ok (.d x) σ:=rfl
theorem eA_2 {C:Cfg} {x:_} {w1:_} {σ:_}:Ac C (.glo x) w1 σ=.ok (.d x) σ:=rfl
theorem G2 {C:Cfg} {x:_} {w1:_} {σ:_}:Ac C (.ty x) w1 σ=.ok (.ty x) σ:=rfl
theorem eA_4 {C:Cfg} {c:_} {w1:_} {σ:_}:Ac C (.cls c) w1 σ=.ok (.cls c) σ:=rfl
theorem Ad {C:Cfg} {i:_} {ρ:_} {σ:_}:Ac C (.var i) ρ σ=(match ρ[i]? with | some (some v)=>.ok v σ | _=>.bad):=rfl
theorem A5 {C:Cfg} {fz:_} {op:_} {a:_} {b:_} {ρ:_} {σ:_}:Ac C (.bin fz op a b) ρ σ=(Ac C a ρ σ).bind fun x σ=>(Ac C b ρ σ).bind fun y σ=>Dm fz op x y σ:=rfl
theorem eA_7 {C:Cfg} {a:_} {ρ:_} {σ:_}:Ac C (.neg a) ρ σ=(Ac C a ρ σ).bind fun x σ=>(match x with | .d (.int i)=>.ok (.d (.int (-i))) σ | _=>.bad):=rfl
theorem eA_8 {C:Cfg} {a:_} {ρ:_} {σ:_}:Ac C (.not a) ρ σ=(Ac C a ρ σ).bind fun x σ=>(match B2 σ x with | some b=>.ok (.d (.bool (!b))) σ | none=>.bad):=rfl
theorem Gb {C:Cfg} {op:_} {es:_} {ρ:_} {σ:_}:Ac C (.bop op es) ρ σ=evalB C op es ρ σ:=rfl
theorem Ao {C:Cfg} {op:_} {a:_} {b:_} {ρ:_} {σ:_}:Ac C (.cmp op a b) ρ σ=(Ac C a ρ σ).bind fun x σ=>(Ac C b ρ σ).bind fun y σ=>(match Bo op x y σ with | some b=>.ok (.d (.bool b)) σ | none=>.bad):=rfl
theorem eA_11 {C:Cfg} {op:_} {op':_} {a:_} {b:_} {c:_} {ρ:_} {σ:_}:Ac C (.cmp2 op op' a b c) ρ σ=(Ac C a ρ σ).bind fun x σ=>(Ac C b ρ σ).bind fun y σ =>
 (match Bo op x y σ with
  | some false=>.ok (.d (.bool false)) σ
  | some true=>(Ac C c ρ σ).bind fun z σ=>(match Bo op' y z σ with | some b=>.ok (.d (.bool b)) σ | none=>.bad)
  | none=>.bad):=rfl
theorem Bj {C:Cfg} {es:_} {ρ:_} {σ:_}:Ac C (.tup es) ρ σ=(evalEs C es ρ σ).bind fun vs σ=>if vs.length<=line then .ok (En vs) σ else .bad:=rfl
theorem Cn {C:Cfg} {fz:_} {es:_} {ρ:_} {σ:_}:Ac C (.lst fz es) ρ σ=(evalEs C es ρ σ).bind fun vs σ=>A2 fz vs σ:=rfl
theorem Am {C:Cfg} {a:_} {i:_} {ρ:_} {σ:_}:Ac C (.sub a i) ρ σ=(Ac C a ρ σ).bind fun x σ=>(Ac C i ρ σ).bind fun y σ=>(match A4 x y σ with | some v=>.ok v σ | none=>.bad):=rfl
theorem Bm {C:Cfg} {fz:_} {a:_} {lo:_} {hi:_} {ρ:_} {σ:_}:Ac C (.slc fz a lo hi) ρ σ=(Ac C a ρ σ).bind fun x σ=>(evalO C lo ρ σ).bind fun l σ=>(evalO C hi ρ σ).bind fun h σ=>slice fz x l h σ:=rfl
theorem A6 {C:Cfg} {b:_} {fz:_} {es:_} {ρ:_} {σ:_}:Ac C (.bcall b fz es) ρ σ=(evalEs C es ρ σ).bind fun vs σ=>bcall C.isExc C.hd b fz vs σ:=rfl
theorem A1 {C:Cfg} {m:_} {f:_} {es:_} {ρ:_} {σ:_}:Ac C (.fcall m f es) ρ σ=(evalEs C es ρ σ).bind fun vs σ=>C.cf C.hd m f vs σ:=rfl
theorem By {C:Cfg} {m:_} {fz:_} {o:_} {es:_} {ρ:_} {σ:_}:Ac C (.meth m fz o es) ρ σ=(Ac C o ρ σ).bind fun x σ=>if AK m x σ then (evalEs C es ρ σ).bind fun vs σ=>Bf m fz x vs σ else .bad:=rfl
theorem E6 {C:Cfg} {fz:_} {elt:_} {ts:_} {it:_} {ifs:_} {ρ:_} {σ:_}:Ac C (.comp fz elt ts it ifs) ρ σ=(evalIt C it ρ σ).bind fun vs σ =>
 BT fz (vs.fuel σ) (BQ (AP C.hd ρ ts (fun ρ σ=>evalIfs C ifs ρ σ) (fun ρ σ=>Ac C elt ρ σ)) (vs.fuel σ) vs σ):=rfl
theorem eA_21 {C:Cfg} {fz:_} {a:_} {ρ:_} {σ:_}:Ac C (.sset fz a) ρ σ=if C.hd then .bad else (Ac C a ρ σ).bind fun x σ=>EB fz x σ:=rfl
theorem An {C:Cfg} {w1:_} {σ:_}:evalEs C [] w1 σ=.ok [] σ:=rfl
theorem Ap {C:Cfg} {e:_} {r:_} {ρ:_} {σ:_}:evalEs C (e::r) ρ σ=(Ac C e ρ σ).bind fun v σ=>(evalEs C r ρ σ).bind fun vs σ=>.ok (v::vs) σ:=rfl
theorem CM {C:Cfg} {w1:_} {σ:_}:evalO C none w1 σ=.ok none σ:=rfl
theorem C8 {C:Cfg} {e:_} {ρ:_} {σ:_}:evalO C (some e) ρ σ=(Ac C e ρ σ).bind fun v σ=>.ok (some v) σ:=rfl
theorem eC_1 {C:Cfg} {op:BoolOp} {w1:_} {w2:_}:evalB C op [] w1 w2=.bad:=rfl
theorem eC_2 {C:Cfg} {op:BoolOp} {e:_} {ρ:_} {σ:_}:evalB C op [e] ρ σ=Ac C e ρ σ:=rfl
theorem F2 {C:Cfg} {op:BoolOp} {e:_} {e':_} {r:_} {ρ:_} {σ:_}:evalB C op (e::e'::r) ρ σ=(Ac C e ρ σ).bind fun v σ=>(match B2 σ v,op with
 | some false,.And=>.ok v σ
 | some true,.Or=>.ok v σ
 | some _,_=>evalB C op (e'::r) ρ σ
 | none,_=>.bad):=rfl
theorem eF_1 {C:Cfg} {w1:_} {σ:_}:evalIfs C [] w1 σ=.ok true σ:=rfl
theorem eF_2 {C:Cfg} {e:_} {r:_} {ρ:_} {σ:_}:evalIfs C (e::r) ρ σ=(Ac C e ρ σ).bind fun v σ=>(match B2 σ v with
 | some true=>evalIfs C r ρ σ
 | some false=>.ok false σ
 | none=>.bad):=rfl
theorem eI_1 {C:Cfg} {es:_} {ρ:_} {σ:_}:evalIt C (.range es) ρ σ=(evalEs C es ρ σ).bind fun vs σ=>(match rangeOf C.hd vs with | some xs=>.ok (.items xs) σ | none=>.bad):=rfl
theorem eI_2 {C:Cfg} {a:_} {b:_} {ρ:_} {σ:_}:evalIt C (.zip a b) ρ σ=(Ac C a ρ σ).bind fun x σ=>(Ac C b ρ σ).bind fun y σ=>(match Dl C.hd x,Dl C.hd y with | some xs,some ys=>.ok (.items (zipV xs ys)) σ | _,_=>.bad):=rfl
theorem eI_3 {C:Cfg} {a:_} {ρ:_} {σ:_}:evalIt C (.enum a) ρ σ=(Ac C a ρ σ).bind fun x σ=>(match Dl C.hd x with | some xs=>.ok (.items (FY 0 xs)) σ | none=>.bad):=rfl
theorem eI_4 {C:Cfg} {e:_} {ρ:_} {σ:_}:evalIt C (.of e) ρ σ=(Ac C e ρ σ).bind fun x σ=>(match Dy C.hd σ x with | some xs=>.ok xs σ | none=>.bad):=rfl
theorem xA_1 {C:Cfg} {x:_} {e:_} {ρ:_} {σ:_}:CK C (.asg x e) ρ σ=(Ac C e ρ σ).bind fun v σ=>.ok (.next (ρ.set x (some v))) σ:=rfl
theorem xA_2 {C:Cfg} {xs:_} {e:_} {ρ:_} {σ:_}:CK C (.unp xs e) ρ σ=(Ac C e ρ σ).bind fun v σ=>(match BG C.hd ρ xs v with | some ρ=>.ok (.next ρ) σ | none=>.bad):=rfl
theorem xA_3 {C:Cfg} {xs:_} {es:_} {ρ:_} {σ:_}:CK C (.swp xs es) ρ σ=(evalEs C es ρ σ).bind fun vs σ =>
 if vs.length=xs.length/\C.hd=false then .ok (.next (Cz ρ xs vs)) σ else .bad:=rfl
theorem xA_4 {C:Cfg} {o:_} {i:_} {v:_} {ρ:_} {σ:_}:CK C (.set o i v) ρ σ=(Ac C v ρ σ).bind fun x σ=>(Ac C o ρ σ).bind fun y σ=>(Ac C i ρ σ).bind fun z σ=>(Cb y z x σ).bind fun _ σ=>.ok (.next ρ) σ:=rfl
theorem xA_6 {C:Cfg} {e:_} {ρ:_} {σ:_}:CK C (.exp e) ρ σ=(Ac C e ρ σ).bind fun _ σ=>.ok (.next ρ) σ:=rfl
theorem xA_7 {C:Cfg} {c:_} {a:_} {b:_} {ρ:_} {σ:_}:CK C (.ite c a b) ρ σ=(Ac C c ρ σ).bind fun v σ=>(match B2 σ v with
 | some true=>execSs C a ρ σ
 | some false=>execSs C b ρ σ
 | none=>.bad):=rfl
theorem xA_8 {C:Cfg} {ts:_} {it:_} {body:_} {ρ:_} {σ:_}:CK C (.for_ ts it body) ρ σ=(evalIt C it ρ σ).bind fun vs σ =>
 E4 (AF C.hd ts (fun ρ σ=>execSs C body ρ σ)) (vs.fuel σ) vs ρ σ:=rfl
theorem xA_10 {C:Cfg} {e:_} {ρ:_} {σ:_}:CK C (.ret e) ρ σ=(Ac C e ρ σ).bind fun v σ=>.ok (.ret v) σ:=rfl
theorem xA_11 {C:Cfg} {c:_} {es:_} {ρ:_} {σ:_}:CK C (.raise c es) ρ σ=(evalEs C es ρ σ).bind fun _ σ=>.exc (exNo C.hd c) σ:=rfl
theorem xA_12 {C:Cfg} {body:_} {hs:_} {ρ:_} {σ:_}:CK C (.try_ body hs) ρ σ=(match execSs C body ρ σ with
 | .ok f σ=>.ok f σ
 | .bad=>.bad
 | .exc c σ=>handle C hs c (Bv ρ (asgAll body)) σ):=rfl
theorem xB_1 {C:Cfg} {ρ:_} {σ:_}:execSs C [] ρ σ=.ok (.next ρ) σ:=rfl
theorem DJ {C:Cfg} {s:_} {r:_} {ρ:_} {σ:_}:execSs C (s::r) ρ σ=(CK C s ρ σ).bind fun f σ=>(match f with | .next ρ=>execSs C r ρ σ | .ret v=>.ok (.ret v) σ):=rfl
theorem hA_1 {C:Cfg} {c:_} {w1:_} {σ:_}:handle C [] c w1 σ=.exc c σ:=rfl
theorem hA_2 {C:Cfg} {k:_} {n:_} {body:_} {r:_} {c:_} {ρ:_} {σ:_}:handle C ((k,n,body)::r) c ρ σ=(match C.isExc c k with
 | some true=>(match n with
  | none=>execSs { C with hd:=true } body ρ σ
  | some x=>(match execSs { C with hd:=true } body (ρ.set x (some (.exc c))) σ with
   | .ok f σ=>.ok (match f with | .next ρ=>.next (ρ.set x none) | f=>f) σ
   | _=>.bad))
 | some false=>handle C r c ρ σ
 | none=>.bad):=rfl
structure Top where
 prog:Program
 w:World
 h0:Heap
 cls:Nat->Option Value
 fn:Nat->Option Addr
inductive SeqIs (fz:Addr->Option Obj) (cl:String) (x:Value) (P:List Value->Prop) (n:Nat):Prop
 | mk (a:Addr) (o:Obj) (vs:Array Value) (m:Nat) (e:x=.ref a) (hf:fz a=some o) (hc:o.cls=.type cl) (hd:o.data=.seq vs m) (hr:P vs.toList) (hl:n<=line):SeqIs fz cl x P n
mutual
noncomputable def B7 (fz:Addr->Option Obj):PyData->Value->Prop
 | .none,x=>x=.none
 | .bool b,x=>x=.bool b
 | .int i,x=>∃ t,x=.int i t
 | .str s,x=>∃ t,x=.str s t/\s.length<=line
 | .list ds,x=>SeqIs fz "list" x (fun vs=>RepDs fz ds vs) ds.length
 | .tuple ds,x=>SeqIs fz "tuple" x (fun vs=>RepDs fz ds vs) ds.length
 | .dict _,_=>False
noncomputable def RepDs (fz:Addr->Option Obj):List PyData->List Value->Prop
 | [],[]=>True
 | d::ds,v::vs=>B7 fz d v/\RepDs fz ds vs
 | _,_=>False
end
structure G where
 fz:Addr->Option Obj
 mu:List Addr
noncomputable def kl (c:Nat):Nat:=c % 1000
inductive ExcIs (T:Top) (fz:Addr->Option Obj) (c:Nat) (v:Value):Prop
 | mk (a:Addr) (o:Obj) (e:v=.ref a) (hf:fz a=some o) (hc:T.cls (kl c)=some o.cls/\o.dict=none/\∃ ws,o.data=.fields ws):ExcIs T fz c v
mutual
noncomputable def Aj (T:Top) (g:G):V->Value->Prop
 | .d x,v=>B7 g.fz x v
 | .ref k,v=>∃ a,g.mu[k]? = some a/\v=.ref a
 | .tup ws,v=>SeqIs g.fz "tuple" v (fun xs=>RepVs T g ws xs) ws.length
 | .ty t,v=>v=.type t
 | .cls c,v=>T.cls c=some v
 | .exc c,v=>ExcIs T g.fz c v
noncomputable def RepVs (T:Top) (g:G):List V->List Value->Prop
 | [],[]=>True
 | w::ws,v::vs=>Aj T g w v/\RepVs T g ws vs
 | _,_=>False
end
inductive ListIs (o:Obj) (P:List Value->Prop) (n:Nat):Prop
 | mk (xs:Array Value) (m:Nat) (e:o = { cls:=.type "list",dict:=none,data:=.seq xs m,slots:=#[] }) (hr:P xs.toList) (hl:n<=line):ListIs o P n
noncomputable def G6 (T:Top) (g:G):O->Obj->Prop
 | .list vs,o=>ListIs o (fun xs=>RepVs T g vs xs) vs.length
 | .dead,_=>True
noncomputable def FzLe (f f':Addr->Option Obj):Prop:=∀ a o,f a=some o->f' a=some o
structure G.le (g g':G):Prop where
 fz:FzLe g.fz g'.fz
 mu:∀ (k:Nat) (a:Addr),g.mu[k]? = some a->g'.mu[k]? = some a
theorem G.le.refl (g:G):G.le g g:=⟨fun _ _ e=>e,fun _ _ e=>e⟩
theorem G.le.trans {g g' g'':G} (x:G.le g g') (y:G.le g' g''):G.le g g'':=⟨fun a o e=>y.fz a o (x.fz a o e),fun k a e=>y.mu k a (x.mu k a e)⟩
mutual
theorem B7.mono {f f':Addr->Option Obj} (h:FzLe f f'):∀ (d:PyData) (v:Value),B7 f d v->B7 f' d v
 | .none,_,x=>x
 | .bool _,_,x=>x
 | .int _,_,x=>x
 | .str _,_,x=>x
 | .list ds,_,x=>by
  obtain ⟨a,o,vs,n,e,hf,hc,hd,hr,hl⟩:=x
  exact ⟨a,o,vs,n,e,h a o hf,hc,hd,RepDs.mono h ds vs.toList hr,hl⟩
 | .tuple ds,_,x=>by
  obtain ⟨a,o,vs,n,e,hf,hc,hd,hr,hl⟩:=x
  exact ⟨a,o,vs,n,e,h a o hf,hc,hd,RepDs.mono h ds vs.toList hr,hl⟩
 | .dict _,_,x=>x
theorem RepDs.mono {f f':Addr->Option Obj} (h:FzLe f f'):∀ (ds:List PyData) (vs:List Value),RepDs f ds vs->RepDs f' ds vs
 | [],[],_=>trivial
 | d::ds,v::vs,x=>⟨B7.mono h d v x.1,RepDs.mono h ds vs x.2⟩
 | [],_::_,x=>x
 | _::_,[],x=>x
end
mutual
theorem Aj.mono {T:Top} {g g':G} (h:G.le g g'):∀ (w:V) (v:Value),Aj T g w v->Aj T g' w v
 | .d x,v,r=>B7.mono h.fz x v r
 | .ref k,v,r=>by obtain ⟨a,e,q⟩:=r; exact ⟨a,h.mu k a e,q⟩
 | .tup ws,v,r=>by
  obtain ⟨a,o,xs,n,e,hf,hc,hd,hr,hl⟩:=r
  exact ⟨a,o,xs,n,e,h.fz a o hf,hc,hd,RepVs.mono h ws xs.toList hr,hl⟩
 | .ty _,_,r=>r
 | .cls _,_,r=>r
 | .exc c,v,r=>by obtain ⟨a,o,e,hf,hc⟩:=r; exact ⟨a,o,e,h.fz a o hf,hc⟩
theorem RepVs.mono {T:Top} {g g':G} (h:G.le g g'):∀ (ws:List V) (vs:List Value),RepVs T g ws vs->RepVs T g' ws vs
 | [],[],_=>trivial
 | w::ws,v::vs,x=>⟨Aj.mono h w v x.1,RepVs.mono h ws vs x.2⟩
 | [],_::_,x=>x
 | _::_,[],x=>x
end
theorem G6.mono {T:Top} {g g':G} (h:G.le g g'):∀ (o:O) (x:Obj),G6 T g o x->G6 T g' o x
 | .list vs,_,⟨xs,n,hd,hr,hl⟩=>⟨xs,n,hd,RepVs.mono h vs xs.toList hr,hl⟩
 | .dead,_,x=>x
theorem RepVs.length {T:Top} {g:G}:∀ {ws:List V} {vs:List Value},RepVs T g ws vs->ws.length=vs.length
 | [],[],_=>rfl
 | _::_,_::_,x=>congrArg (· + 1) (RepVs.length x.2)
 | [],_::_,x=>x.elim
 | _::_,[],x=>x.elim
theorem RepDs.length {fz:Addr->Option Obj}:∀ {ws:List PyData} {vs:List Value},RepDs fz ws vs->ws.length=vs.length
 | [],[],_=>rfl
 | _::_,_::_,x=>congrArg (· + 1) (RepDs.length x.2)
 | [],_::_,x=>x.elim
 | _::_,[],x=>x.elim
theorem RepVs.get {T:Top} {g:G}:∀ {ws:List V} {vs:List Value},RepVs T g ws vs->∀ {k:Nat} {w:V},ws[k]? = some w->∃ v,vs[k]? = some v/\Aj T g w v
 | w::_,v::_,x,0,_,e=>by cases e; exact ⟨v,rfl,x.1⟩
 | _::_,_::_,x,k+1,w,e=>RepVs.get x.2 (k:=k) (w:=w) (by simpa using e)
 | [],[],_,_,_,e=>by simp at e
 | [],_::_,x,_,_,_=>x.elim
 | _::_,[],x,_,_,_=>x.elim
theorem RepVs.append {T:Top} {g:G}:∀ {ws ws':List V} {vs vs':List Value},RepVs T g ws vs->RepVs T g ws' vs'->RepVs T g (ws++ws') (vs++vs')
 | [],_,[],_,_,y=>y
 | _::_,_,_::_,_,x,y=>⟨x.1,RepVs.append x.2 y⟩
 | [],_,_::_,_,x,_=>x.elim
 | _::_,_,[],_,x,_=>x.elim
theorem RepVs.ofD {T:Top} {g:G}:∀ {ds:List PyData} {vs:List Value},RepDs g.fz ds vs->RepVs T g (ds.map .d) vs
 | [],[],_=>trivial
 | _::_,_::_,x=>⟨x.1,RepVs.ofD x.2⟩
 | [],_::_,x=>x.elim
 | _::_,[],x=>x.elim
theorem RepDs.ofV {T:Top} {g:G} {ws:List V}:∀ {vs:List Value} {ds:List PyData},RepVs T g ws vs->EX ws=some ds->RepDs g.fz ds vs:=by
 induction ws with
 | nil =>
  intro vs ds r e
  rcases vs with _ | ⟨v,vs⟩
  ·rw [<-Option.some.inj (show some []=some ds from e)]; exact trivial
  ·exact r.elim
 | cons w ws ih =>
  intro vs ds r e
  rcases vs with _ | ⟨v,vs⟩
  ·exact r.elim
  ·cases w with
   | d x =>
    have e:(match EX ws with | some xs=>some (x::xs) | none=>none)=some ds:=e
    induction h:EX ws with
    | none=>rw [h] at e; exact Ab e
    | some xs=>rw [h] at e; rw [<-Option.some.inj e]; exact ⟨r.1,ih r.2 h⟩
   | _=>exact Ab e
structure St (T:Top) (g:G) (σ:Store) (h:Heap):Prop where
 fz:∀ a o,g.fz a=some o->h.get? a=some o
 len:g.mu.length=σ.length
 nd:g.mu.Nodup
 ap:∀ a,a∈g.mu->g.fz a=none
 ob:∀ (k:Nat) (a:Addr) (o:O),g.mu[k]? = some a->σ[k]? = some o->∃ x,h.get? a=some x/\G6 T g o x
 base:∀ a o,T.h0.get? a=some o->g.fz a=some o
structure Kept (X fs:List Addr) (h h':Heap):Prop where
 alive:∀ b o,h.get? b=some o->∃ o',h'.get? b=some o'
 same:∀ b o,h.get? b=some o->b∉X->b∉fs->h'.get? b=some o
 slots:∀ b o,h.get? b=some o->b∉X->b∈fs->∃ sl,h'.get? b=some { o with slots:=sl }
theorem Kept.refl (X fs:List Addr) (h:Heap):Kept X fs h h:=⟨fun _ o e=>⟨o,e⟩,fun _ _ e _ _=>e,fun _ o e _ _=>⟨o.slots,e⟩⟩
theorem Kept.of_keeps {X fs:List Addr} {h h':Heap} (k:∀ b o,h.get? b=some o->h'.get? b=some o):Kept X fs h h' :=
 ⟨fun b o e=>⟨o,k b o e⟩,fun b o e _ _=>k b o e,fun b o e _ _=>⟨o.slots,k b o e⟩⟩
theorem Kept.dead {X fs:List Addr} {h h':Heap} (k:Kept X fs h h') {a:Addr} (e:h'.get? a=none):h.get? a=none:=by
 induction q:h.get? a with
 | none=>rfl
 | some o=>obtain ⟨o',e'⟩:=k.alive a o q; exact Ab (e.symm.trans e')
structure New (g g':G) (h:Heap):Prop where
 mu:∀ a,a∈g'.mu->a∈g.mu\/h.get? a=none
 fz:∀ a o,g'.fz a=some o->g.fz a=some o\/h.get? a=none\/a∈g.mu
theorem New.refl (g:G) (h:Heap):New g g h:=⟨fun _ h=>.inl h,fun _ _ h=>.inl h⟩
theorem New.trans {g g' g'':G} {h h':Heap} (x:New g g' h) (y:New g' g'' h') (hn:∀ a,h'.get? a=none->h.get? a=none):New g g'' h :=
 ⟨fun a e=>(y.mu a e).elim (fun q=>x.mu a q) fun q=>.inr (hn a q),
  fun a o e=>(y.fz a o e).elim (fun q=>x.fz a o q) fun q=>q.elim (fun q=>.inr (.inl (hn a q))) fun q=>(x.mu a q).elim (fun q=>.inr (.inr q)) fun q=>.inr (.inl q)⟩
structure Step (T:Top) (X fs:List Addr) (g:G) (s:Shared) (g':G) (σ':Store) (s':Shared):Prop where
 le:G.le g g'
 st:St T g' σ' s'.heap
 kept:Kept X fs s.heap s'.heap
 new:New g g' s.heap
 gens:s'.gens=s.gens
 os:s'.os=s.os
theorem Kept.trans {X X' fs:List Addr} {h h' h'':Heap} (x:Kept X fs h h') (y:Kept X' fs h' h'') (hX:∀ a,a∈X'->a∈X\/h.get? a=none):Kept X fs h h'':=by
 have nx:∀ b o,h.get? b=some o->b∉X->b∉X':=fun b o e nb q=>(hX b q).elim nb fun q=>by exact Ab (q.symm.trans e)
 refine ⟨fun b o e=>?_,fun b o e nb nf=>y.same b o (x.same b o e nb nf) (nx b o e nb) nf,fun b o e nb hf=>?_⟩
 ·obtain ⟨o',e'⟩:=x.alive b o e
  exact y.alive b o' e'
 ·obtain ⟨sl,e1⟩:=x.slots b o e nb hf
  obtain ⟨sl',e2⟩:=y.slots b _ e1 (nx b o e nb) hf
  exact ⟨sl',e2⟩
theorem Step.trans {T:Top} {fs:List Addr} {g g' g'':G} {s s' s'':Shared} {σ' σ'':Store} (x:Step T g.mu fs g s g' σ' s') (y:Step T g'.mu fs g' s' g'' σ'' s''):Step T g.mu fs g s g'' σ'' s'' :=
 ⟨x.le.trans y.le,y.st,x.kept.trans y.kept x.new.mu,x.new.trans y.new fun _ e=>x.kept.dead e,y.gens.trans x.gens,y.os.trans x.os⟩
theorem Step.refl {T:Top} {X fs:List Addr} {g:G} {σ:Store} {s:Shared} (h:St T g σ s.heap):Step T X fs g s g σ s :=
 ⟨.refl g,h,.refl ..,.refl ..,rfl,rfl⟩
noncomputable def Af (fe:List Env):List Addr:=fe.filterMap (·.frame)
structure AOk (fe:List Env) (hd:Bool) (n:Nat) (A:Around):Prop where
 frames:A.frames=some fe
 depth:A.depth+n<=600
 units:A.units+100 * n<=9000
 handled:hd=false->A.handled=none
inductive FrAt (g:G) (h:Heap) (e:Env):Prop
 | mk (L:Addr) (o:Obj) (hf:e.frame=some L) (ho:h.get? L=some o) (hd:∀ vs,o.data≠.fields vs) (h1:g.fz L=none) (h2:L∉g.mu):FrAt g h e
noncomputable def BI (g:G) (h:Heap):List Env->Prop
 | []=>True
 | e::r=>(e.scope.kind≠.module/\e.scope.isGenerator=false/\e.scope.isCoroutine=false/\e.builtins=builtinsNs/\e.globals=mainGlobals)/\FrAt g h e/\BI g h r
noncomputable def Bq (g:G) (h:Heap) (a:Addr):Prop:=g.fz a=none/\a∉g.mu/\∃ o,h.get? a=some o
theorem Bq.step {T:Top} {X fs:List Addr} {g g':G} {s s':Shared} {σ':Store} {a:Addr} (x:Step T X fs g s g' σ' s') (h:Bq g s.heap a):Bq g' s'.heap a:=by
 obtain ⟨h1,h2,o,h3⟩:=h
 refine ⟨?_,fun q=>(x.new.mu a q).elim h2 (fun q=>by exact AT (h3.symm.trans q)),x.kept.alive a o h3⟩
 induction e:g'.fz a with
 | none=>rfl
 | some o =>
  rcases x.new.fz a o e with q | q | q
  ·exact Ab (h1.symm.trans q)
  ·exact AT (h3.symm.trans q)
  ·exact absurd q h2
theorem Step.keepsData {T:Top} {fs:List Addr} {g g':G} {s s':Shared} {σ':Store} {a:Addr} {o:Obj} (x:Step T g.mu fs g s g' σ' s') (h:s.heap.get? a=some o) (ha:a∉g.mu) :
 ∃ sl,s'.heap.get? a=some { o with slots:=sl }:=by
 by_cases hf:a∈fs
 ·exact x.kept.slots a o h ha hf
 ·exact ⟨o.slots,x.kept.same a o h ha hf⟩
theorem BI.step {T:Top} {fs:List Addr} {g g':G} {s s':Shared} {σ':Store} (x:Step T g.mu fs g s g' σ' s'):∀ {l:List Env},BI g s.heap l->BI g' s'.heap l
 | [],_=>trivial
 | _::_,⟨k,⟨L,o,hf,ho,hd,h1,h2⟩,r⟩=>by
  obtain ⟨sl,e⟩:=x.keepsData ho h2
  have ap:=Bq.step x ⟨h1,h2,o,ho⟩
  exact ⟨k,⟨L,_,hf,e,hd,ap.1,ap.2.1⟩,BI.step x r⟩
structure OwnOk (g:G) (env:Env) (h:Heap):Prop where
 kind:env.scope.kind=.function
 glob:env.globals=mainGlobals
 blt:env.builtins=builtinsNs
 loc:Bq g h env.locals
 ns:∃ m,h.Ns env.locals m
 cell:∀ n,env.kindOf n=some .cell\/env.kindOf n=some .free->∃ c v,env.cells.lookup n=some c/\h.IsCell c v/\Bq g h c
 cinj:∀ n n' c,env.cells.lookup n=some c->env.cells.lookup n'=some c->n=n'
noncomputable def Sees (T:Top) (g:G) (env:Env) (vars:List Str) (ρ:Au) (h:Heap):Prop :=
 ∀ (i:Nat) (n:Str) (v:V),vars[i]? = some n->ρ[i]? = some (some v) ->
  (env.kindOf n=some .local->∃ m x,h.Ns env.locals m/\m n=some x/\Aj T g v x) ∧
  (env.kindOf n=some .cell\/env.kindOf n=some .free->∃ c x,env.cells.lookup n=some c/\h.IsCell c (some x)/\Aj T g v x)
structure Inv (T:Top) (fe:List Env) (own:List Addr) (wr:List Str) (env:Env) (vars:List Str) (ρ:Au) (g:G) (σ:Store) (h:Heap):Prop where
 st:St T g σ h
 fr:BI g h fe
 top:∃ e r,fe=e::r/\e.frame=env.frame
 blk:OwnOk g env h
 sees:Sees T g env vars ρ h
 nd:vars.Nodup
 oloc:env.locals∈own
 ocell:∀ n,n∈wr->∀ c,env.kindOf n=some .cell->env.cells.lookup n=some c->c∈own
 oap:∀ a,a∈own->Bq g h a
theorem FM {h h':Heap} {a:Addr} {m:Str->Option Value} (hn:h.Ns a m) (k:∀ o,h.get? a=some o->∃ sl,h'.get? a=some { o with slots:=sl }):h'.Ns a m:=by
 obtain ⟨o,es,ep,ho,hd,r⟩:=hn
 obtain ⟨sl,e⟩:=k o ho
 exact ⟨_,es,ep,e,hd,r⟩
theorem Ek {h h':Heap} {a:Addr} {v:Option Value} (hn:h.IsCell a v) (k:∀ o,h.get? a=some o->∃ sl,h'.get? a=some { o with slots:=sl }):h'.IsCell a v:=by
 obtain ⟨o,ho,hd⟩:=hn
 obtain ⟨sl,e⟩:=k o ho
 exact ⟨_,e,hd⟩
section
variable {T:Top} {fs:List Addr} {g g':G} {s s':Shared} {σ σ':Store} {fe:List Env} {env:Env} {vars:List Str} {ρ:Au}
theorem OwnOk.step (x:Step T g.mu fs g s g' σ' s') (o:OwnOk g env s.heap):OwnOk g' env s'.heap:=by
 refine ⟨o.kind,o.glob,o.blt,o.loc.step x,?_,fun n hn=>?_,o.cinj⟩
 ·obtain ⟨m,hm⟩:=o.ns
  exact ⟨m,FM hm fun ob ho=>x.keepsData ho o.loc.2.1⟩
 ·obtain ⟨c,v,h1,h2,h3⟩:=o.cell n hn
  exact ⟨c,v,h1,Ek h2 fun ob ho=>x.keepsData ho h3.2.1,h3.step x⟩
theorem Sees.step (x:Step T g.mu fs g s g' σ' s') (o:OwnOk g env s.heap) (v:Sees T g env vars ρ s.heap):Sees T g' env vars ρ s'.heap:=by
 intro i n w hi hw
 refine E7 fun R_ k_=>?_
 obtain ⟨h1,h2⟩:=v i n w hi hw
 refine k_ ?_
 refine ⟨fun hk=>?_,fun hk=>?_⟩
 ·refine E7 fun R_ k_=>?_; obtain ⟨m,y,hm,hy,hr⟩:=h1 hk
  refine k_ ?_
  exact ⟨m,y,FM hm fun ob ho=>x.keepsData ho o.loc.2.1,hy,Aj.mono x.le _ _ hr⟩
 ·refine E7 fun R_ k_=>?_; obtain ⟨c,y,hc,hy,hr⟩:=h2 hk
  obtain ⟨c',v',e1,e2,e3⟩:=o.cell n hk
  obtain rfl:=Option.some.inj (hc.symm.trans e1)
  refine k_ ?_
  exact ⟨c,y,hc,Ek hy fun ob ho=>x.keepsData ho e3.2.1,Aj.mono x.le _ _ hr⟩
theorem Inv.step {own:List Addr} {wr:List Str} (x:Step T g.mu fs g s g' σ' s') (i:Inv T fe own wr env vars ρ g σ s.heap):Inv T fe own wr env vars ρ g' σ' s'.heap :=
 ⟨x.st,i.fr.step x,i.top,i.blk.step x,i.sees.step x i.blk,i.nd,i.oloc,i.ocell,fun a h=>(i.oap a h).step x⟩
end
inductive CT (g:G):Value->Prop
 | none:CT g .none
 | one {b:Addr} {o:Obj} {vs:Array Value} {v:Value} (h1:g.fz b=some o) (h2:o.data=.fields vs) (h3:vs[2]? = some v) (h4:CT g v):CT g (.ref b)
theorem CT.up {g g':G} (le:∀ b o,g.fz b=some o->g'.fz b=some o) {v:Value} (h:CT g v):CT g' v:=by
 induction h with
 | none=>exact .none
 | one h1 h2 h3 _ ih=>exact .one (le _ _ h1) h2 h3 ih
theorem CT.mono {g g':G} (le:G.le g g') {v:Value} (h:CT g v):CT g' v:=h.up le.fz
inductive CtxOk (g:G) (c:Nat) (v:Option Value):Prop
 | mk (u:Value) (h1:v=some u) (h2:CT g u) (h3:c < 1000->u=.none):CtxOk g c v
inductive TbX (g:G) (h h0:Heap) (e:Addr) (v:Option Value) (P:Option Value->Prop):Prop
 | mk (tb:Addr) (ot:Obj) (ts:Array Value) (f:Value) (k1:v=some (.ref tb)) (k2:h.get? tb=some ot) (k3:ot.data=.fields ts) (k4:tb≠e) (k5:g.fz tb=none) (k6:tb∉g.mu) (k7:h0.get? tb=none) (k8:ts[3]? = some f) (k9:P (some f)):TbX g h h0 e v P
inductive CC (T:Top) (g:G) (h h0:Heap) (c:Nat) (x:Value) (P:Option Value->Prop):Prop
 | mk (e:Addr) (oe:Obj) (vs:Array Value) (q1:x=.ref e) (q2:h.get? e=some oe) (q3:T.cls (kl c)=some oe.cls/\oe.dict=none) (q4:oe.data=.fields vs) (q5:g.fz e=none) (q6:e∉g.mu) (q7:h0.get? e=none) (q8:CtxOk g c vs[2]?)
  (q9:(vs[1]? = some .none/\P none)\/TbX g h h0 e vs[1]? P):CC T g h h0 c x P
noncomputable def PAny:Option Value->Prop:=fun _=>True
noncomputable def PTb:Option Value->Prop
 | none=>False
 | some _=>True
noncomputable def PAt (v:Value):Option Value->Prop
 | none=>False
 | some f=>f=v
theorem PAt.tb {v:Value}:∀ o,PAt v o->PTb o
 | none,h=>h
 | some _,_=>trivial
theorem CC.le {T:Top} {g:G} {h h0 h₁:Heap} {c:Nat} {x:Value} {P P':Option Value->Prop} (f:CC T g h h₁ c x P) (hn:∀ a,h₁.get? a=none->h0.get? a=none) (hP:∀ o,P o->P' o):CC T g h h0 c x P':=by
 obtain ⟨e,oe,vs,q1,q2,q3,q4,q5,q6,q7,q8,q9⟩:=f
 refine ⟨e,oe,vs,q1,q2,q3,q4,q5,q6,hn _ q7,q8,q9.imp (fun h=>⟨h.1,hP _ h.2⟩) ?_⟩
 rintro ⟨tb,ot,ts,f,k1,k2,k3,k4,k5,k6,k7,k8,k9⟩
 exact ⟨tb,ot,ts,f,k1,k2,k3,k4,k5,k6,hn _ k7,k8,hP _ k9⟩
inductive OkR {α β:Type} (T:Top) (fs:List Addr) (g:G) (s:Shared) (rep:G->β->α->Prop) (r:Res β) (x:α) (s':Shared):Prop
 | mk (b:β) (σ':Store) (g':G) (e:r=.ok b σ') (st:Step T g.mu fs g s g' σ' s') (rv:rep g' b x):OkR T fs g s rep r x s'
inductive ExR {β:Type} (T:Top) (fs:List Addr) (L:Option Addr) (g:G) (s:Shared) (r:Res β) (x:Value) (s':Shared):Prop
 | mk (c:Nat) (σ':Store) (g':G) (e:r=.exc c σ') (st:Step T g.mu fs g s g' σ' s') (fl:CC T g' s'.heap s.heap c x PTb):ExR T fs L g s r x s'
theorem OkR.after {α β:Type} {T:Top} {fs:List Addr} {g g₁:G} {s s₁ s':Shared} {σ1:Store} {rep:G->β->α->Prop} {r:Res β} {x:α} (st:Step T g.mu fs g s g₁ σ1 s₁) (h:OkR T fs g₁ s₁ rep r x s'):OkR T fs g s rep r x s':=by
 cases h with | mk b σ' g' e st' rv=>exact ⟨b,σ',g',e,st.trans st',rv⟩
theorem ExR.after {β:Type} {T:Top} {fs:List Addr} {L:Option Addr} {g g₁:G} {s s₁ s':Shared} {σ1:Store} {r:Res β} {x:Value} (st:Step T g.mu fs g s g₁ σ1 s₁) (h:ExR T fs L g₁ s₁ r x s'):ExR T fs L g s r x s':=by
 cases h with | mk c σ' g' e st' fl=>exact ⟨c,σ',g',e,st.trans st',fl.le (fun _ e=>st.kept.dead e) fun _ h=>h⟩
theorem ExR.bind {β γ:Type} {T:Top} {fs:List Addr} {L:Option Addr} {g:G} {s s':Shared} {r:Res β} {x:Value} {f:β->Store->Res γ} (h:ExR T fs L g s r x s'):ExR T fs L g s (r.bind f) x s':=by
 cases h with | mk c σ' g' e st' fl=>exact ⟨c,σ',g',by rw [e]; rfl,st',fl⟩
theorem AH {β γ:Type} {r:Res β} {f:β->Store->Res γ} (h:r.bind f≠.bad):r≠.bad:=fun q=>h (by rw [q]; rfl)
noncomputable def Sim {α β:Type} (T:Top) (fs:List Addr) (L:Option Addr) (A:Around) (g:G) (s:Shared) (m:Sem α) (rep:G->β->α->Prop) (r:Res β):Prop :=
 r≠.bad->wpAny (model T.prog T.w) A m
  (OkR T fs g s rep r)
  (ExR T fs L g s r) s
section
variable {α β γ δ:Type} {T:Top} {fs:List Addr} {L:Option Addr} {A:Around} {g:G} {s:Shared}
theorem Sim.bad {m:Sem α} {rep:G->β->α->Prop}:Sim T fs L A g s m rep .bad:=fun h=>absurd rfl h
theorem Sim.of {m:Sem α} {rep:G->β->α->Prop} {b:β} {σ':Store} (h:wpAny (model T.prog T.w) A m (fun x s'=>∃ g',Step T g.mu fs g s g' σ' s'/\rep g' b x) (fun _ _=>False) s) :
 Sim T fs L A g s m rep (.ok b σ'):=fun _ =>
 wpAny_mono h (fun _ _ hz_=>by obtain ⟨g',h1,h2⟩:=hz_; exact ⟨b,σ',g',rfl,h1,h2⟩) fun _ _ x=>x.elim
theorem Sim.pure {x:α} {rep:G->β->α->Prop} {b:β} {σ:Store} (st:St T g σ s.heap) (h:rep g b x):Sim T fs L A g s (pure x) rep (.ok b σ) :=
 Sim.of (wpAny_pure ⟨g,.refl st,h⟩)
theorem Sim.use {m:Sem α} {rep:G->β->α->Prop} {r:Res β} {f:β->Store->Res δ} {rep':G->δ->γ->Prop} {k:α->Sem γ} (h:Sim T fs L A g s m rep r)
 (hk:∀ x b σ' g' s',r=.ok b σ'->Step T g.mu fs g s g' σ' s'->rep g' b x->Sim T fs L A g' s' (k x) rep' (f b σ')) (hr:r.bind f≠.bad) :
 wpAny (model T.prog T.w) A m (fun x s'=>wpAny (model T.prog T.w) A (k x)
  (OkR T fs g s rep' (r.bind f))
  (ExR T fs L g s (r.bind f)) s')
  (ExR T fs L g s (r.bind f)) s:=by
 have hr':r≠.bad:=fun e=>hr (by rw [e]; rfl)
 refine wpAny_mono (h hr') (fun x s' hz_=>?_) fun x s' hz_=>by obtain ⟨c,σ',g',e,st,fl⟩:=hz_; exact ⟨c,σ',g',by rw [e]; rfl,st,fl⟩
 obtain ⟨b,σ',g',e,st,rp⟩:=hz_
 have hk':=hk x b σ' g' s' e st rp (by rw [e] at hr; exact hr)
 refine wpAny_mono hk' (fun y s'' hz_=>by obtain ⟨b',σ'',g'',e',st',rp'⟩:=hz_; exact ⟨b',σ'',g'',by rw [e]; exact e',st.trans st',rp'⟩) fun y s'' hz_=>by obtain ⟨c,σ'',g'',e',st',fl⟩:=hz_; exact ⟨c,σ'',g'',by rw [e]; exact e',st.trans st',fl.le (fun _ e=>st.kept.dead e) fun _ h=>h⟩
theorem Sim.bind {m:Sem α} {rep:G->β->α->Prop} {r:Res β} {f:β->Store->Res δ} {rep':G->δ->γ->Prop} {k:α->Sem γ} (h:Sim T fs L A g s m rep r)
 (hk:∀ x b σ' g' s',r=.ok b σ'->Step T g.mu fs g s g' σ' s'->rep g' b x->Sim T fs L A g' s' (k x) rep' (f b σ')):Sim T fs L A g s (m>>=k) rep' (r.bind f) :=
 fun hr=>wpAny_bind (h.use hk hr)
theorem Sim.holding {vs:List Value} {m:Sem α} {rep:G->β->α->Prop} {r:Res β} (h:Sim T fs L A g s m rep r):Sim T fs L A g s (holding vs m) rep r :=
 fun hr=>wpAny_holding (h hr)
theorem Sim.standAt {pos:Pos} {k:Unit->Sem α} {rep:G->β->α->Prop} {r:Res β} (h:Sim T fs L A g s (k ()) rep r):Sim T fs L A g s (standAt pos>>=k) rep r :=
 fun hr=>wpAny_bind (wpAny_standAt (h hr))
theorem Sim.operate {vs:List Value} {m:Sem Value} {rep:G->β->Value->Prop} {r:Res β} (h:Sim T fs L A g s m rep r):Sim T fs L A g s (operate vs m) rep r :=
 fun hr=>wpAny_operating (h hr)
end
section
variable {T:Top} {X fs:List Addr} {g:G} {σ:Store} {s s':Shared}
theorem Step.heapEq (st:St T g σ s.heap) (h:s'.heap=s.heap:=by rfl) (hg:s'.gens=s.gens:=by rfl) (ho:s'.os=s.os:=by rfl):Step T X fs g s g σ s' :=
 ⟨.refl g,h▸st,h▸.refl ..,.refl ..,hg,ho⟩
theorem St.fz_none (st:St T g σ s.heap) {a:Addr} (h:s.heap.get? a=none):g.fz a=none:=by
 induction e:g.fz a with
 | none=>rfl
 | some o=>have:=st.fz a o e; exact Ab (h.symm.trans this)
theorem St.mu_alive (st:St T g σ s.heap) {a:Addr} (h:a∈g.mu):∃ o,s.heap.get? a=some o:=by
 obtain ⟨k,hk,e⟩:=List.mem_iff_getElem.mp h
 have hσ:k < σ.length:=st.len▸hk
 obtain ⟨x,hx,_⟩:=st.ob k a σ[k] (by rw [List.getElem?_eq_getElem hk,e]) (List.getElem?_eq_getElem hσ)
 exact ⟨x,hx⟩
theorem St.mu_none (st:St T g σ s.heap) {a:Addr} (h:s.heap.get? a=none):a∉g.mu:=fun q=>by
 obtain ⟨o,e⟩:=st.mu_alive q
 exact Ab (h.symm.trans e)
theorem BA (h:Heap):h.get? h.objs.size=none:=Heap.get?_none_of_le (Nat.le_refl _)
theorem Step.grow (st:St T g σ s.heap) (hk:∀ b x,s.heap.get? b=some x->s'.heap.get? b=some x) (hg:s'.gens=s.gens:=by rfl) (ho:s'.os=s.os:=by rfl):Step T X fs g s g σ s':=by
 refine ⟨.refl g,⟨fun a o e=>hk _ _ (st.fz a o e),st.len,st.nd,st.ap,fun k a o e1 e2=>?_,st.base⟩,.of_keeps hk,.refl ..,hg,ho⟩
 obtain ⟨x,h1,h2⟩:=st.ob k a o e1 e2
 exact ⟨x,hk _ _ h1,h2⟩
noncomputable def G.put (g:G) (a:Addr) (o:Obj):G:=⟨fun b=>if b=a then some o else g.fz b,g.mu⟩
theorem G.le.put {g:G} {a:Addr} {o:Obj} (h:g.fz a=none):G.le g (g.put a o) :=
 ⟨fun b x e=>by show (if b=a then some o else g.fz b)=some x; rw [if_neg (fun q=>by rw [q,h] at e; exact Ab e)]; exact e,fun _ _ e=>e⟩
theorem G.put_self {g:G} {a:Addr} {o:Obj}:(g.put a o).fz a=some o:=if_pos rfl
theorem St.put (st:St T g σ s.heap) {h':Heap} {a:Addr} {o:Obj} (hk:∀ b x,s.heap.get? b=some x->h'.get? b=some x) (ha:h'.get? a=some o) (hn:s.heap.get? a=none):St T (g.put a o) σ h':=by
 have le:G.le g (g.put a o):=.put (st.fz_none hn)
 refine ⟨fun b x e=>?_,st.len,st.nd,fun b hb=>?_,fun k b x e1 e2=>?_,fun b x e=>le.fz b x (st.base b x e)⟩
 ·by_cases q:b=a
  ·subst q
   have e':(if b=b then some o else g.fz b)=some x:=e
   rw [if_pos rfl] at e'
   obtain rfl:=Option.some.inj e'; exact ha
  ·have e':(if b=a then some o else g.fz b)=some x:=e
   rw [if_neg q] at e'
   exact hk _ _ (st.fz b x e')
 ·show (if b=a then some o else g.fz b)=none
  rw [if_neg (fun (q:b=a)=>st.mu_none hn (q▸hb))]
  exact st.ap b hb
 ·obtain ⟨y,h1,h2⟩:=st.ob k b x e1 e2
  exact ⟨y,hk _ _ h1,G6.mono le _ _ h2⟩
theorem Step.put (st:St T g σ s.heap) {a:Addr} {o:Obj} (hk:∀ b x,s.heap.get? b=some x->s'.heap.get? b=some x) (ha:s'.heap.get? a=some o) (hn:s.heap.get? a=none)
 (hg:s'.gens=s.gens:=by rfl) (ho:s'.os=s.os:=by rfl):Step T X fs g s (g.put a o) σ s':=by
 refine ⟨.put (st.fz_none hn),st.put hk ha hn,.of_keeps hk,⟨fun _ h=>.inl h,fun b x e=>?_⟩,hg,ho⟩
 by_cases q:b=a
 ·exact .inr (.inl (q▸hn))
 ·have e':(if b=a then some o else g.fz b)=some x:=e
  rw [if_neg q] at e'
  exact .inl e'
noncomputable def G.add (g:G) (a:Addr):G:=⟨g.fz,g.mu++[a]⟩
theorem G.le.add {g:G} {a:Addr}:G.le g (g.add a) :=
 ⟨fun _ _ e=>e,fun k b e=>by show (g.mu++[a])[k]? = some b; rw [List.getElem?_append_left (List.getElem?_eq_some_iff.mp e).1]; exact e⟩
theorem Step.add (st:St T g σ s.heap) {a:Addr} {x:Obj} {o:O} (hk:∀ b x,s.heap.get? b=some x->s'.heap.get? b=some x) (ha:s'.heap.get? a=some x) (hn:s.heap.get? a=none) (hr:G6 T (g.add a) o x)
 (hg:s'.gens=s.gens:=by rfl) (ho:s'.os=s.os:=by rfl):Step T X fs g s (g.add a) (σ++[o]) s':=by
 have hna:a∉g.mu:=st.mu_none hn
 refine ⟨.add,⟨fun b y e=>hk _ _ (st.fz b y e),by simp [G.add,st.len],?_,fun b hb=>?_,fun k b y e1 e2=>?_,st.base⟩,.of_keeps hk,⟨fun b hb=>?_,fun _ _ e=>.inl e⟩,hg,ho⟩
 ·show (g.mu++[a]).Nodup
  rw [List.nodup_append]
  exact ⟨st.nd,by simp,fun x hx y hy q=>hna (by simp only [List.mem_singleton] at hy; rw [<-hy,<-q]; exact hx)⟩
 ·rcases List.mem_append.mp (show b∈g.mu++[a] from hb) with q | q
  ·exact st.ap b q
  ·rw [List.mem_singleton.mp q]; exact st.fz_none hn
 ·have e1':(g.mu++[a])[k]? = some b:=e1
  by_cases hkl:k < g.mu.length
  ·rw [List.getElem?_append_left hkl] at e1'
   rw [List.getElem?_append_left (st.len▸hkl)] at e2
   obtain ⟨z,h1,h2⟩:=st.ob k b y e1' e2
   exact ⟨z,hk _ _ h1,G6.mono .add _ _ h2⟩
  ·have hk':k=g.mu.length:=by
    have:=(List.getElem?_eq_some_iff.mp e1').1
    simp at this; lia
   subst hk'
   rw [List.getElem?_append_right (Nat.le_refl _)] at e1'
   rw [st.len,List.getElem?_append_right (Nat.le_refl _)] at e2
   simp only [Nat.sub_self,List.getElem?_cons_zero,Option.some.injEq] at e1' e2
   subst e1' e2
   exact ⟨x,ha,hr⟩
 ·rcases List.mem_append.mp (show b∈g.mu++[a] from hb) with q | q
  ·exact .inl q
  ·exact .inr (by rw [List.mem_singleton.mp q]; exact hn)
end
theorem B1:line=sizeLine:=by unfold sizeLine; rfl
theorem CZ {T:Top} {fs:List Addr} {g:G} {σ:Store} {s s':Shared} {a:Addr} {xs:Array Value} {n:Nat} {vs:List V} {fz:Bool} (st:St T g σ s.heap)
 (hk:∀ b x,s.heap.get? b=some x->s'.heap.get? b=some x) (ha:s'.heap.get? a=some { cls:=.type "list",dict:=none,data:=.seq xs n,slots:=#[] }) (hn:s.heap.get? a=none) (hr:RepVs T g vs xs.toList)
 (hb:A2 fz vs σ≠.bad) (hg:s'.gens=s.gens:=by rfl) (ho:s'.os=s.os:=by rfl) :
 OkR T fs g s (Aj T) (A2 fz vs σ) (.ref a) s':=by
 unfold A2 at hb ⊢
 by_cases hl:vs.length<=line
 ·rw [if_pos hl] at hb ⊢
  induction fz with
  | true =>
   induction hd:EX vs with
   | none=>rw [hd] at hb; exact absurd rfl hb
   | some ds =>
    refine ⟨_,σ,g.put a _,rfl,.put st hk ha hn hg ho,⟨a,_,xs,n,rfl,G.put_self,rfl,rfl,RepDs.mono (G.le.put (st.fz_none hn)).fz _ _ (RepDs.ofV hr hd),by rw [(RepDs.ofV hr hd).length,<-hr.length]; exact hl⟩⟩
  | false =>
   refine ⟨_,_,g.add a,rfl,.add st hk ha hn ⟨xs,n,rfl,RepVs.mono .add _ _ hr,hl⟩ hg ho,⟨a,?_,rfl⟩⟩
   show (g.mu++[a])[σ.length]? = some a
   rw [<-st.len,List.getElem?_append_right (Nat.le_refl _),Nat.sub_self]; rfl
 ·rw [if_neg hl] at hb; exact absurd rfl hb
theorem made_tuple {T:Top} {fs:List Addr} {g:G} {σ:Store} {s s':Shared} {a:Addr} {o:Obj} {xs:Array Value} {n:Nat} {vs:List V} (st:St T g σ s.heap)
 (hk:∀ b x,s.heap.get? b=some x->s'.heap.get? b=some x) (ha:s'.heap.get? a=some o) (hc:o.cls=.type "tuple") (hd:o.data=.seq xs n) (hn:s.heap.get? a=none) (hr:RepVs T g vs xs.toList) (hl:vs.length<=line)
 (hg:s'.gens=s.gens:=by rfl) (ho:s'.os=s.os:=by rfl) :
 ∃ g',Step T g.mu fs g s g' σ s'/\Aj T g' (En vs) (.ref a):=by
 refine ⟨g.put a o,.put st hk ha hn hg ho,?_⟩
 have le:G.le g (g.put a o):=.put (st.fz_none hn)
 unfold En
 induction hd':EX vs with
 | none=>exact ⟨a,o,xs,n,rfl,G.put_self,hc,hd,RepVs.mono le _ _ hr,hl⟩
 | some ds=>exact ⟨a,o,xs,n,rfl,G.put_self,hc,hd,RepDs.mono le.fz _ _ (RepDs.ofV hr hd'),by rw [(RepDs.ofV hr hd').length,<-hr.length]; exact hl⟩
theorem Cg {α:Type} {c:Prop} [Decidable c] {a b:α} (h:(if c then some a else none)=some b):c/\a=b:=by
 by_cases hc:c
 ·rw [if_pos hc] at h; exact ⟨hc,Option.some.inj h⟩
 ·rw [if_neg hc] at h; exact Ab h
theorem C5 {T:Top} {g:G} {σ:Store} {h:Heap} (st:St T g σ h) {v:V} {x:Value} {vs:List V} (r:Aj T g v x) (e:B5 σ v=some vs) :
 ∃ a xs,x=.ref a/\h.IsList a xs/\RepVs T g vs xs.toList/\xs.size<=line:=by
 cases v with
 | d y =>
  cases y with
  | list ds =>
   obtain rfl:ds.map .d=vs:=Option.some.inj e
   obtain ⟨a,o,ws,n,e1,e2,e3,e4,e5,e6⟩:=r
   exact ⟨a,ws,e1,⟨o,st.fz _ _ e2,e3,n,e4⟩,RepVs.ofD e5,by rw [<-Array.length_toList,<-e5.length]; exact e6⟩
  | _=>exact Ab e
 | ref k =>
  obtain ⟨a,e1,e2⟩:=r
  have e:(match σ[k]? with | some (.list vs)=>some vs | _=>none)=some vs:=e
  induction ho:σ[k]? with
  | none=>rw [ho] at e; exact Ab e
  | some o =>
   rw [ho] at e
   induction o with
   | list ws =>
    obtain rfl:ws=vs:=Option.some.inj e
    obtain ⟨y,hy,xs,n,q,hr,hl⟩:=st.ob k a _ e1 ho
    subst q
    exact ⟨a,xs,e2,⟨_,hy,rfl,n,rfl⟩,hr,by rw [<-Array.length_toList,<-hr.length]; exact hl⟩
   | _=>exact Ab e
 | _=>exact Ab e
theorem EJ {T:Top} {g:G} {σ:Store} {h:Heap} (st:St T g σ h) {v:V} {x:Value} {vs:List V} (r:Aj T g v x) (e:Dt σ v=some vs) :
 ∃ a o xs n,x=.ref a/\h.get? a=some o/\(o.cls=.type "list"\/o.cls=.type "tuple")/\o.data=.seq xs n/\RepVs T g vs xs.toList/\xs.size<=line:=by
 cases v with
 | d y =>
  cases y with
  | list ds =>
   obtain rfl:ds.map .d=vs:=Option.some.inj e
   obtain ⟨a,o,ws,n,e1,e2,e3,e4,e5,e6⟩:=r
   exact ⟨a,o,ws,n,e1,st.fz _ _ e2,.inl e3,e4,RepVs.ofD e5,by rw [<-Array.length_toList,<-e5.length]; exact e6⟩
  | tuple ds =>
   obtain rfl:ds.map .d=vs:=Option.some.inj e
   obtain ⟨a,o,ws,n,e1,e2,e3,e4,e5,e6⟩:=r
   exact ⟨a,o,ws,n,e1,st.fz _ _ e2,.inr e3,e4,RepVs.ofD e5,by rw [<-Array.length_toList,<-e5.length]; exact e6⟩
  | _=>exact Ab e
 | tup ws =>
  obtain rfl:ws=vs:=Option.some.inj e
  obtain ⟨a,o,xs,n,e1,e2,e3,e4,e5,e6⟩:=r
  exact ⟨a,o,xs,n,e1,st.fz _ _ e2,.inr e3,e4,e5,by rw [<-Array.length_toList,<-e5.length]; exact e6⟩
 | ref k =>
  obtain ⟨a,e1,e2⟩:=r
  have e:(match σ[k]? with | some (.list vs)=>some vs | _=>none)=some vs:=e
  induction ho:σ[k]? with
  | none=>rw [ho] at e; exact Ab e
  | some o =>
   rw [ho] at e
   induction o with
   | list ws =>
    obtain rfl:ws=vs:=Option.some.inj e
    obtain ⟨y,hy,xs,n,q,hr,hl⟩:=st.ob k a _ e1 ho
    subst q
    exact ⟨a,_,xs,n,e2,hy,.inl rfl,rfl,hr,by rw [<-Array.length_toList,<-hr.length]; exact hl⟩
   | _=>exact Ab e
 | _=>exact Ab e
end Mine.Internal
namespace Mine.Internal
open PySem PySem.Calls
structure TopOk (T:Top):Prop where
 nolimit:T.h0.NoLimit
 seer:T.h0.NoSeer
 tree:T.prog.given.tree=none
section
variable {T:Top} {fe:List Env} {L:Option Addr} {A:Around} {g:G} {σ:Store} {s:Shared} {hd:Bool} {n:Nat}
theorem St.keepsBase (st:St T g σ s.heap):∀ b o,T.h0.get? b=some o->s.heap.get? b=some o:=fun b o e=>st.fz b o (st.base b o e)
theorem Sim.tok {α:Type} {m:Sem Value} {b:V} {fs:List Addr} (st:St T g σ s.heap) (h:∀ Q:Value->Shared->Prop,(∀ x k,Aj T g b x->Q x { s with toks:=k })->wpAny (model T.prog T.w) A m Q (fun _ _=>False) s) :
 Sim T fs L A g s m (Aj T) (.ok b σ) :=
 Sim.of (h _ fun x k r=>⟨g,.heapEq st,r⟩)
theorem room_pylong (ok:TopOk T) (st:St T g σ s.heap) (fr:BI g s.heap fe) (ha:AOk fe hd n A) (hne:fe≠[]):PylongRoom (model T.prog T.w) A s:=by
 induction fe with
 | nil=>exact absurd rfl hne
 | cons e r =>
  refine E7 fun R_ k_=>?_
  obtain ⟨⟨k1,k2,k3,k4,k5⟩,_⟩:=fr
  refine k_ ?_
  refine PylongRoom.of (ok.nolimit.keeps st.keepsBase) (by have:=ha.depth; show A.depth+100 < 1000; lia) (SeerAt.of (ok.seer.keeps st.keepsBase) ok.tree ha.frames k2 k3 k4 k5)
theorem small_bits {i:Int} (h:small i=true):Builtin.Int.intBits i<=64:=by
 simp only [small,Bool.and_eq_true,decide_eq_true_eq] at h
 exact intBits_le_64 (by lia) (by lia)
theorem list_mul_eq {α:Type} (xs:Array α) (k:Nat):(List.foldl (fun x1 x2=>x1++x2) #[] (List.replicate (if xs.isEmpty=true then 0 else k) xs)).toList=(List.replicate k xs.toList).flatten:=by
 have gen:∀ (k:Nat) (acc:Array α),(List.foldl (fun x1 x2=>x1++x2) acc (List.replicate k xs)).toList=acc.toList++(List.replicate k xs.toList).flatten:=by
  intro k
  induction k with
  | zero=>intro acc; simp
  | succ k ih=>intro acc; rw [List.replicate_succ,List.foldl_cons,ih,List.replicate_succ,List.flatten_cons,Array.toList_append,List.append_assoc]
 by_cases h:xs.isEmpty=true
 ·rw [if_pos h]
  have:xs=#[]:=by simpa using h
  subst this
  simp [List.replicate]
 ·rw [if_neg h,gen]; rfl
theorem RepDs.append {fz:Addr->Option Obj}:∀ {ws ws':List PyData} {vs vs':List Value},RepDs fz ws vs->RepDs fz ws' vs'->RepDs fz (ws++ws') (vs++vs')
 | [],_,[],_,_,y=>y
 | _::_,_,_::_,_,x,y=>⟨x.1,RepDs.append x.2 y⟩
 | [],_,_::_,_,x,_=>x.elim
 | _::_,_,[],_,x,_=>x.elim
theorem list_obj {h:Heap} {a:Addr} {xs:Array Value} (x:h.IsList a xs):∃ n dd sl,h.get? a=some { cls:=.type "list",dict:=dd,data:=.seq xs n,slots:=sl }:=by
 refine E7 fun R_ k_=>?_
 obtain ⟨⟨c,dd,data,sl⟩,ho,hc,n,hd⟩:=x
 simp only at hc hd
 refine k_ ?_
 subst hc hd
 exact ⟨n,dd,sl,ho⟩
theorem mul_room {x':Str} {j:Int} (hj:0<=j/\j<=1000/\x'.length<=1000):MulOk x' j:=by
 have:x'.length * j.toNat<=1000000:=Nat.mul_le_mul hj.2.2 (show j.toNat<=1000 by lia)
 refine ⟨by simp; lia,fun h1 _=>?_,fun h1 _=>?_⟩
 ·have h2:(1000000:Int)<=(2 ^ 63-1) / j:=by
   rw [Int.le_ediv_iff_mul_le (by lia)]
   lia
  have h3:(x'.length:Int)<=1000:=by lia
  lia
 ·have h2:¬ (x'.length * j.toNat > sizeLine):=by rw [<-B1]; unfold line; lia
  simpa [Builtin.Str.tooLong] using h2
set_option tactic.hygienic true in
theorem mul_len {x':Str} {j:Int} (hj:0<=j/\j<=1000/\x'.length<=1000):(Txt.mul x' j).length<=line:=by
 have:x'.length * j.toNat<=1000000:=Nat.mul_le_mul hj.2.2 (show j.toNat<=1000 by lia)
 unfold Txt.mul
 split
 ·exact Nat.zero_le _
 ·split
  ·unfold line; lia
  ·have e:=list_mul_eq x'.cps j.toNat
   show Array.size (List.foldl (fun x1 x2=>x1++x2) #[] (List.replicate j.toNat x'.cps))<=line
   have e2:(if x'.cps.isEmpty=true then 0 else j.toNat)=j.toNat:=by
    rename_i hne
    have:¬ x'.length=0:=by simp at hne; exact hne.2
    rw [if_neg (by simp; intro q; exact this (by unfold Str.length; rw [q]; rfl))]
   rw [e2] at e
   rw [<-Array.length_toList,e]
   simp only [List.length_flatten,List.map_replicate,List.sum_replicate_nat,Array.length_toList]
   unfold line
   have h5:j.toNat * x'.cps.size=x'.length * j.toNat:=Nat.mul_comm _ _
   lia
theorem AN {v:V} {x:Value} {i:Int} (r:Aj T g v x) (h:Az v=some i):∃ t,x=.int i t:=by
 cases v with
 | d y=>cases y with
  | int j=>cases h; exact r
  | _=>exact Ab h
 | _=>exact Ab h
theorem Fr {v:V} {x:Value} {xs:List PyData} (r:Aj T g v x) (h:Ef v=some xs):SeqIs g.fz "tuple" x (fun vs=>RepDs g.fz xs vs) xs.length:=by
 cases v with
 | d y=>cases y with
  | tuple j=>cases h; exact r
  | _=>exact Ab h
 | _=>exact Ab h
theorem AC {v:V} {x:Value} {i:Str} (r:Aj T g v x) (h:A3 v=some i):∃ t,x=.str i t/\i.length<=line:=by
 cases v with
 | d y=>cases y with
  | str j=>cases h; exact r
  | _=>exact Ab h
 | _=>exact Ab h
set_option tactic.hygienic true in
theorem sim_binop (ok:TopOk T) (fz:Bool) (op:Operator) {a b:V} {x y:Value} (st:St T g σ s.heap) (fr:BI g s.heap fe) (ha:AOk fe hd n A) (hne:fe≠[]) (ra:Aj T g a x) (rb:Aj T g b y) :
 Sim T (Af fe) L A g s (binaryOp op x y) (Aj T) (Dm fz op a b σ):=by
 have twoI:∀ {f:Int->Int->Res V},(∀ i j t u,x=.int i t->y=.int j u->Sim T (Af fe) L A g s (binaryOp op x y) (Aj T) (f i j))->Sim T (Af fe) L A g s (binaryOp op x y) (Aj T) (match Az a,Az b with | some i,some j=>f i j | _,_=>.bad):=fun {f} h=>by
  induction e1:Az a with
  | none=>exact Sim.bad
  | some i=>induction e2:Az b with
   | none=>exact Sim.bad
   | some j =>
    obtain ⟨t,q1⟩:=AN ra e1
    obtain ⟨u,q2⟩:=AN rb e2
    exact h i j t u q1 q2
 induction op with
 | Add =>
  show Sim _ _ _ _ _ _ _ _ (binAdd fz a b σ)
  unfold binAdd
  induction ea:Az a with
  | some i=>induction eb:Az b with
   | none=>exact Sim.bad
   | some j =>
    obtain ⟨t,rfl⟩:=AN ra ea; obtain ⟨u,rfl⟩:=AN rb eb
    exact Sim.tok (α:=Unit) st fun Q h=>P.add_int (h _ _ ⟨_,rfl⟩)
  | none=>induction ea:A3 a with
   | some i=>induction eb:A3 b with
    | none=>exact Sim.bad
    | some j =>
     obtain ⟨t,rfl,_⟩:=AC ra ea; obtain ⟨u,rfl,_⟩:=AC rb eb
     show Sim _ _ _ _ _ _ _ _ (if i.length+j.length<=line then _ else _)
     split
     ·rename_i hl
      exact Sim.tok (α:=Unit) st fun Q h=>SB.add (fun t' k=>h _ _ ⟨_,rfl,by rw [Str.length_append]; exact hl⟩) (B1▸hl)
     ·exact Sim.bad
   | none=>induction ea:Ef a with
    | some xs=>induction eb:Ef b with
     | none=>exact Sim.bad
     | some ys =>
     obtain ⟨la,oa,ia,na,rfl,ha1,ha2,ha3,ha4,ha5⟩:=Fr ra ea
     obtain ⟨lb,ob,ib,nb,rfl,hb1,hb2,hb3,hb4,hb5⟩:=Fr rb eb
     obtain ⟨ca,da,dta,sa⟩:=oa
     obtain ⟨cb,db,dtb,sb⟩:=ob
     simp only at ha2 ha3 hb2 hb3
     subst ha2 ha3 hb2 hb3
     have o1:=st.fz _ _ ha1
     have o2:=st.fz _ _ hb1
     have l1:=RepDs.length ha4
     have l2:=RepDs.length hb4
     show Sim _ _ _ _ _ _ _ _ (if xs.length+ys.length<=line then _ else _)
     split
     ·rename_i hl
      refine Sim.of ?_
      by_cases e1:ia.isEmpty=true
      ·refine concat_meets ⟨_,o1,rfl⟩ ⟨_,o2,rfl⟩ noFill_tuple_add seq_tuple_add PySem.F.slot_tuple_add PySem.F.entry_tuple_add (PySem.F.args_tuple_add_2 _ _) (PyProof.Rows.tuple_addW0 la lb ia ib na nb da db sa sb e1) ⟨o1,o2,?_⟩
       have:xs=[]:=by
        have:ia.size=0:=by exact eq_of_beq e1
        exact List.length_eq_zero_iff.mp (by simp at l1; lia)
       subst this
       exact ⟨g,.heapEq st,⟨lb,_,ib,nb,rfl,hb1,rfl,rfl,hb4,hb5⟩⟩
      ·by_cases e2:ib.isEmpty=true
       ·refine concat_meets ⟨_,o1,rfl⟩ ⟨_,o2,rfl⟩ noFill_tuple_add seq_tuple_add PySem.F.slot_tuple_add PySem.F.entry_tuple_add (PySem.F.args_tuple_add_2 _ _) (PyProof.Rows.tuple_addW1 la lb ia ib na nb da db sa sb e1 e2) ⟨o1,o2,?_⟩
        have:ys=[]:=by
         have:ib.size=0:=by exact eq_of_beq e2
         exact List.length_eq_zero_iff.mp (by simp at l2; lia)
        subst this
        rw [List.append_nil]
        exact ⟨g,.heapEq st,⟨la,_,ia,na,rfl,ha1,rfl,rfl,ha4,ha5⟩⟩
       ·refine concat_meets ⟨_,o1,rfl⟩ ⟨_,o2,rfl⟩ noFill_tuple_add seq_tuple_add PySem.F.slot_tuple_add PySem.F.entry_tuple_add (PySem.F.args_tuple_add_2 _ _) (PyProof.Rows.tuple_addW2 la lb ia ib na nb da db sa sb e1 e2 (by rw [<-B1]; simp at l1 l2; lia)) ⟨o1,o2,?_⟩
        have le:G.le g (g.put s.heap.objs.size { cls:=.type "tuple",data:=.seq (ia++ib) }):=.put (st.fz_none (BA _))
        refine ⟨_,.put st (fun b x e=>Heap.get?_push_of_some _ e) (Heap.get?_push_size _ rfl) (BA _),⟨_,_,ia++ib,0,rfl,G.put_self,rfl,rfl,?_,by rw [List.length_append]; exact hl⟩⟩
        rw [Array.toList_append]
        exact RepDs.mono le.fz _ _ (RepDs.append ha4 hb4)
     ·exact Sim.bad
    | none =>
    show Sim _ _ _ _ _ _ _ _ (lstAdd fz a b σ)
    unfold lstAdd
    induction e1:B5 σ a with
    | none=>exact Sim.bad
    | some xs=>induction e2:B5 σ b with
    | none=>exact Sim.bad
    | some ys =>
    show Sim _ _ _ _ _ _ _ _ (A2 fz (xs++ys) σ)
    obtain ⟨la,ia,rfl,ha1,ha2,_⟩:=C5 st ra e1
    obtain ⟨lb,ib,rfl,hb1,hb2,_⟩:=C5 st rb e2
    obtain ⟨n1,d1,s1,o1⟩:=list_obj ha1
    obtain ⟨n2,d2,s2,o2⟩:=list_obj hb1
    intro hr
    have hsz:(xs++ys).length<=line:=by
     by_cases q:(xs++ys).length<=line
     ·exact q
     ·exact absurd (by unfold A2; rw [if_neg q]) hr
    have hlen:ia.size+ib.size<=sizeLine:=by
     have:=RepVs.length ha2; have:=RepVs.length hb2
     rw [<-B1]
     simp only [List.length_append,Array.length_toList] at *
     lia
    refine concat_meets ⟨_,o1,rfl⟩ ⟨_,o2,rfl⟩ noFill_list_add seq_list_add PySem.F.slot_list_add PySem.F.entry_list_add (PySem.F.args_list_add_2 _ _) (PyProof.Rows.list_addW la lb ia ib n1 n2 d1 d2 s1 s2 hlen) ⟨o1,o2,?_⟩
    have hr2:RepVs T g (xs++ys) (ia++ib).toList:=by rw [Array.toList_append]; exact RepVs.append ha2 hb2
    exact CZ st (fun b x e=>Heap.get?_push_of_some _ e) (Heap.get?_push_size _ rfl) (BA _) hr2 hr
 | Sub =>
  refine twoI fun i j t u q1 q2=>?_
  subst q1 q2
  exact Sim.tok (α:=Unit) st fun Q h=>P.sub_int (h _ _ ⟨_,rfl⟩)
 | FloorDiv =>
  refine twoI fun i j t u q1 q2=>?_
  subst q1 q2
  split
  ·exact Sim.bad
  ·rename_i hj
   exact Sim.tok (α:=Unit) st fun Q h=>PyProof.Rows.floordiv_int hj (h _ _ ⟨_,rfl⟩) (Or.inr (room_pylong ok st fr ha hne))
 | Mod =>
  refine twoI fun i j t u q1 q2=>?_
  subst q1 q2
  split
  ·exact Sim.bad
  ·rename_i hj
   exact Sim.tok (α:=Unit) st fun Q h=>PyProof.Rows.mod_int' hj (h _ _ ⟨_,rfl⟩)
 | Mult =>
  show Sim _ _ _ _ _ _ _ _ (match Az b with | some j=>binMul a j σ | none=>.bad)
  induction e2:Az b with
  | none=>exact Sim.bad
  | some j =>
   obtain ⟨u,rfl⟩:=AN rb e2
   show Sim _ _ _ _ _ _ _ _ (binMul a j σ)
   unfold binMul
   induction e1:Az a with
   | some i =>
    obtain ⟨t,rfl⟩:=AN ra e1
    dsimp only
    split
    ·rename_i hs
     refine Sim.tok (α:=Unit) st fun Q h=>P.mul_int (h _ _ ⟨_,rfl⟩) ?_
     rcases Bool.or_eq_true _ _▸hs with hs | hs
     ·exact IntMulOk.of_left (small_bits hs)
     ·exact IntMulOk.of_right (small_bits hs)
    ·exact Sim.bad
   | none =>
    induction e3:A3 a with
    | none=>exact Sim.bad
    | some x' =>
     obtain ⟨t,rfl,_⟩:=AC ra e3
     dsimp only
     split
     ·rename_i hj
      refine Sim.tok (α:=Unit) st fun Q h=>SB.mul (mul_room hj) fun t' k=>h _ _ ⟨_,rfl,mul_len hj⟩
     ·exact Sim.bad
 | _=>exact Sim.bad
end
end Mine.Internal
namespace Mine.Internal
open PySem PySem.Calls PySem.SeqAt
noncomputable def tagD:PyData->Nat
 | .none=>0 | .bool _=>1 | .int _=>2 | .str _=>3 | .list _=>4 | .tuple _=>5 | .dict _=>6
noncomputable def tagV (f:Addr->Option Obj):Value->Nat
 | .none=>0 | .bool _=>1 | .int _ _=>2 | .str _ _=>3
 | .ref a=>(match f a with | some o=>if o.cls == .type "list" then 4 else 5 | none=>7)
 | _=>7
theorem tag_of {f:Addr->Option Obj} {d:PyData} {x:Value} (h:B7 f d x):tagV f x=tagD d:=by
 cases d with
 | none=>have h:x=.none:=h; rw [h]; rfl
 | bool b=>have h:x=.bool b:=h; rw [h]; rfl
 | int i=>obtain ⟨t,rfl⟩:=h; rfl
 | str s=>obtain ⟨t,rfl,_⟩:=h; rfl
 | list xs=>obtain ⟨a,o,vs,m,rfl,hf,hc,_,_,_⟩:=h; show (match f a with | some o=>_ | none=>_)=_; rw [hf]; simp [hc,tagD]
 | tuple xs=>obtain ⟨a,o,vs,m,rfl,hf,hc,_,_,_⟩:=h; show (match f a with | some o=>_ | none=>_)=_; rw [hf]; simp only [hc]; rw [if_neg (by decide)]; rfl
 | dict es=>exact h.elim
theorem tag_none {d:PyData} (t:tagD d=0):d=.none:=by cases d <;> first | rfl | exact BV t rfl
theorem tag_bool {d:PyData} (t:tagD d=1):∃ b,d=.bool b:=by cases d <;> first | exact ⟨_,rfl⟩ | exact BV t rfl
theorem tag_int {d:PyData} (t:tagD d=2):∃ b,d=.int b:=by cases d <;> first | exact ⟨_,rfl⟩ | exact BV t rfl
theorem tag_str {d:PyData} (t:tagD d=3):∃ b,d=.str b:=by cases d <;> first | exact ⟨_,rfl⟩ | exact BV t rfl
theorem tag_list {d:PyData} (t:tagD d=4):∃ b,d=.list b:=by cases d <;> first | exact ⟨_,rfl⟩ | exact BV t rfl
theorem tag_tuple {d:PyData} (t:tagD d=5):∃ b,d=.tuple b:=by cases d <;> first | exact ⟨_,rfl⟩ | exact BV t rfl
theorem seqIs_inj {f:Addr->Option Obj} {cl:String} {x:Value} {P Q:List Value->Prop} {n m:Nat} {α:Prop} (k:∀ vs,P vs->Q vs->α) (h:SeqIs f cl x P n) (h':SeqIs f cl x Q m):α:=by
 obtain ⟨a,o,vs,n,e1,e2,e3,e4,e5,_⟩:=h
 obtain ⟨a',o',vs',n',e1',e2',e3',e4',e5',_⟩:=h'
 obtain rfl:=PySem.Value.ref.inj (e1.symm.trans e1'); obtain rfl:=Option.some.inj (e2.symm.trans e2'); rw [e4] at e4'; cases e4'
 exact k _ e5 e5'
theorem EG {f:Addr->Option Obj} {d d':PyData} {x:Value} (h:B7 f d x) (h':B7 f d' x):tagD d'=tagD d:=(tag_of h').symm.trans (tag_of h)
mutual
theorem B7.inj {f:Addr->Option Obj}:∀ (d d':PyData) (x:Value),B7 f d x->B7 f d' x->d=d'
 | .none,d',x,h,h'=>(tag_none (EG h h')).symm
 | .bool a,d',x,h,h'=>by
  obtain ⟨b,rfl⟩:=tag_bool (EG h h')
  cases (show Value.bool a=.bool b from Eq.trans (Eq.symm h) h'); rfl
 | .int a,d',x,h,h'=>by
  obtain ⟨b,rfl⟩:=tag_int (EG h h')
  obtain ⟨_,h⟩:=h
  obtain ⟨_,h'⟩:=h'
  cases h.symm.trans h'; rfl
 | .str a,d',x,h,h'=>by
  obtain ⟨b,rfl⟩:=tag_str (EG h h')
  obtain ⟨_,h,_⟩:=h
  obtain ⟨_,h',_⟩:=h'
  cases h.symm.trans h'; rfl
 | .list xs,d',x,h,h'=>by
  obtain ⟨ys,rfl⟩:=tag_list (EG h h')
  exact congrArg _ (seqIs_inj (RepDs.inj xs ys) h h')
 | .tuple xs,d',x,h,h'=>by
  obtain ⟨ys,rfl⟩:=tag_tuple (EG h h')
  exact congrArg _ (seqIs_inj (RepDs.inj xs ys) h h')
 | .dict _,_,_,h,_=>h.elim
theorem RepDs.inj {f:Addr->Option Obj}:∀ (ds ds':List PyData) (xs:List Value),RepDs f ds xs->RepDs f ds' xs->ds=ds'
 | [],[],_,_,_=>rfl
 | d::ds,d'::ds',x::xs,h,h'=>by rw [B7.inj d d' x h.1 h'.1,RepDs.inj ds ds' xs h.2 h'.2]
 | [],_::_,[],_,h=>h.elim
 | [],_::_,_::_,h,_=>h.elim
 | _::_,[],[],h,_=>h.elim
 | _::_,[],_::_,_,h=>h.elim
 | _::_,_::_,[],h,_=>h.elim
end
theorem F0 {f:PyData->PyData->Option Bool} (hf:∀ d b,f d d=some b->b=true):∀ (d:List PyData) (b:Bool),CL f d d=some b->b=true
 | [],b,h=>(Option.some.inj h).symm
 | x::xs,b,h=>by
  have h:(match f x x with | some a=>(match CL f xs xs with | some b=>some (a&&b) | none=>none) | none=>none)=some b:=h
  induction e:f x x with
  | none=>rw [e] at h; exact Ab h
  | some c =>
   rw [e] at h
   induction e':CL f xs xs with
   | none=>rw [e'] at h; exact Ab h
   | some c' =>
    rw [e'] at h
    rw [<-Option.some.inj h,hf x c e,F0 hf xs c' e']; rfl
theorem eqLeaf_self (d:PyData) (b:Bool) (h:eqLeaf d d=some b):b=true:=by
 cases d with
 | none=>exact (Option.some.inj h).symm
 | bool x=>rw [<-Option.some.inj h]; exact beq_self_eq_true x
 | int x=>rw [<-Option.some.inj h]; exact beq_self_eq_true x
 | str x=>rw [<-Option.some.inj h]; exact beq_self_eq_true x
 | _=>exact Ab h
theorem eqN_self:∀ (n:Nat) (d:PyData) (b:Bool),eqN n d d=some b->b=true
 | 0,d,b,h=>eqLeaf_self d b h
 | n+1,d,b,h=>by
  have h:eqSeq (eqN n) d d=some b:=h
  have hl:=eqLeaf_self d b
  cases d with
  | list xs =>
   have h:(if xs.length=xs.length then CL (eqN n) xs xs else some false)=some b:=h
   rw [if_pos rfl] at h
   exact F0 (eqN_self n) xs b h
  | tuple xs=>exact F0 (eqN_self n) xs b h
  | _=>exact hl h
section
variable {A:Around} {s:Shared}
structure EqOk (A:Around) (s:Shared) (x y:Value) (b:Bool):Prop where
 eq:EqAt A s x y b
 rc:RcAt A s x y b
 ne:RcNeAt A s x y (!b)
theorem EqAt.none_none:EqAt A s .none .none true:=EqAt.same _
theorem eqNs_items (n:Nat) (ih:∀ (d d':PyData) (x x':Value) (b:Bool) (A:Around),A.units+n < cLine->B7 s.heap.get? d x->B7 s.heap.get? d' x'->eqN n d d'=some b->EqOk A s x x' b) {A:Around} (hu:A.units+n < cLine) :
 ∀ (ds ds':List PyData) (xs xs':List Value) (b:Bool),RepDs s.heap.get? ds xs->RepDs s.heap.get? ds' xs'->CL (eqN n) ds ds'=some b ->
  ∃ e:Nat->Bool,(∀ j x x',xs[j]? = some x->xs'[j]? = some x'->EqAt A s x x' (e j))/\b=((List.range (min xs.length xs'.length)).all e&&xs.length == xs'.length):=by
 intro ds
 induction ds with
 | nil =>
  intro ds' xs xs' b r r' h
  induction xs with
  | cons _ _=>exact r.elim
  | nil=>induction ds' with
   | nil=>induction xs' with
    | cons _ _=>exact r'.elim
    | nil=>exact ⟨fun _=>true,fun j x x' h=>by simp at h,(Option.some.inj h).symm⟩
   | cons d' ds'=>induction xs' with
    | nil=>exact r'.elim
    | cons _ _=>exact ⟨fun _=>true,fun j x x' h=>by simp at h,(Option.some.inj h).symm.trans (by rfl)⟩
 | cons d ds ihl =>
  intro ds' xs xs' b r r' h
  induction xs with
  | nil=>exact r.elim
  | cons x xs=>induction ds' with
   | nil=>induction xs' with
    | cons _ _=>exact r'.elim
    | nil=>exact ⟨fun _=>true,fun j x x' _ h=>by simp at h,(Option.some.inj h).symm.trans (by rfl)⟩
   | cons d' ds'=>induction xs' with
    | nil=>exact r'.elim
    | cons x' xs' =>
  have h:(match eqN n d d' with | some a=>(match CL (eqN n) ds ds' with | some b=>some (a&&b) | none=>none) | none=>none)=some b:=h
  induction e:eqN n d d' with
  | none=>rw [e] at h; exact Ab h
  | some c =>
   have h0:=(ih d d' x x' c A hu r.1 r'.1 e).eq
   rw [e] at h
   induction e':CL (eqN n) ds ds' with
   | none=>rw [e'] at h; exact Ab h
   | some c' =>
    rw [e'] at h
    obtain ⟨f,h1,h2⟩:=ihl ds' xs xs' c' r.2 r'.2 e'
    refine ⟨fun j=>if j=0 then c else f (j-1),fun j y y' hy hy'=>?_,?_⟩
    ·induction j with
     | zero=>simp at hy hy'; subst hy hy'; exact h0
     | succ j=>exact h1 j y y' (by exact hy) (by exact hy')
    ·rw [<-Option.some.inj h,h2,List.length_cons,List.length_cons,Nat.add_min_add_right,List.range_succ_eq_map,List.all_cons,List.all_map]
     simp [Function.comp_def,Bool.and_assoc]
theorem G1 {d d':PyData} {x x':Value} {b:Bool} (hu:A.units < cLine) (r:B7 s.heap.get? d x) (r':B7 s.heap.get? d' x') (h:eqLeaf d d'=some b):EqOk A s x x' b:=by
 cases d with
 | none =>
  have r:x=.none:=r
  subst r
  cases d' with
  | none=>have r':x'=.none:=r'; rw [r',<-Option.some.inj h]; exact ⟨EqAt.same _,RcAt.none_none,RcNeAt.none_none⟩
  | str _=>obtain ⟨t,r',_⟩:=r'; rw [r',<-Option.some.inj h]; exact ⟨EqAt.none_str _ _,RcAt.none_str _ _,RcNeAt.none_str _ _⟩
  | tuple _=>obtain ⟨a,o,vs,k,r',q1,q2,q3,q4,_⟩:=r'; rw [r',<-Option.some.inj h]; exact ⟨EqAt.none_tuple ⟨_,q1,q2,_,q3⟩ hu,RcAt.none_tuple ⟨_,q1,q2,_,q3⟩ hu,RcNeAt.none_tuple ⟨_,q1,q2,_,q3⟩ hu⟩
  | _=>exact Ab h
 | bool a=>cases d' with
  | bool c=>have r:x=.bool a:=r; have r':x'=.bool c:=r'; rw [r,r',<-Option.some.inj h]; exact ⟨EqAt.bool_bool _ _,RcAt.bool_bool _ _,RcNeAt.bool_bool _ _⟩
  | _=>exact Ab h
 | int a=>cases d' with
  | int c=>obtain ⟨t,r⟩:=r; obtain ⟨t',r'⟩:=r'; rw [r,r',<-Option.some.inj h]; exact ⟨EqAt.int_int _ _ _ _,RcAt.int_int _ _ _ _,RcNeAt.int_int _ _ _ _⟩
  | _=>exact Ab h
 | str a=>obtain ⟨t,r,_⟩:=r; cases d' with
  | none=>have r':x'=.none:=r'; rw [r,r',<-Option.some.inj h]; exact ⟨EqAt.str_none _ _,RcAt.str_none _ _,RcNeAt.str_none _ _⟩
  | str c=>obtain ⟨t',r',_⟩:=r'; rw [r,r',<-Option.some.inj h]; exact ⟨EqAt.str_str _ _ _ _,RcAt.str_str _ _ _ _,RcNeAt.str_str _ _ _ _⟩
  | _=>exact Ab h
 | tuple _=>cases d' with
  | none=>obtain ⟨a,o,vs,k,r,q1,q2,q3,q4,_⟩:=r; have r':x'=.none:=r'; rw [r,r',<-Option.some.inj h]; exact ⟨EqAt.tuple_none ⟨_,q1,q2,_,q3⟩ hu,RcAt.tuple_none ⟨_,q1,q2,_,q3⟩ hu,RcNeAt.tuple_none ⟨_,q1,q2,_,q3⟩ hu⟩
  | _=>exact Ab h
 | _=>exact Ab h
theorem eq_refs {n:Nat} {d d':PyData} {a a':Addr} {b:Bool} (rr:B7 s.heap.get? d (.ref a)) (rr':B7 s.heap.get? d' (.ref a')) (h:eqN n d d'=some b) (rc:RcAt A s (.ref a) (.ref a') b/\RcNeAt A s (.ref a) (.ref a') (!b)):EqOk A s (.ref a) (.ref a') b:=by
 refine ⟨?_,rc.1,rc.2⟩
 by_cases ha:a=a'
 ·subst ha
  have:=B7.inj _ _ _ rr rr'
  subst this
  rw [eqN_self n d b h]
  exact EqAt.same _
 ·exact EqAt.of_refs ha rc.1
theorem eqN_ok:∀ (n:Nat) (d d':PyData) (x x':Value) (b:Bool) (A:Around),A.units+n < cLine->B7 s.heap.get? d x->B7 s.heap.get? d' x'->eqN n d d'=some b->EqOk A s x x' b:=by
 intro n
 induction n with
 | zero=>exact fun d d' x x' b A hu r r' h=>G1 hu r r' h
 | succ n ih =>
  intro d d' x x' b A hu r r' h
  have hu':A.units < cLine:=Nat.lt_of_le_of_lt (Nat.le_add_right _ _) hu
  have hu1:A.in1.units+n < cLine:=by show A.units+1+n < cLine; lia
  have hL:eqSeq (eqN n) d d'=some b:=h
  cases d with
  | list ds=>cases d' with
   | list ds' =>
    have rr:=r; have rr':=r'
    obtain ⟨a,o,vs,k,r,q1,q2,q3,q4,_⟩:=r
    obtain ⟨a',o',vs',k',r',p1,p2,p3,p4,_⟩:=r'
    subst r r'
    refine eq_refs rr rr' h ?_
    have hl:s.heap.IsList a vs:=⟨_,q1,q2,_,q3⟩
    have hl':s.heap.IsList a' vs':=⟨_,p1,p2,_,p3⟩
    have l1:=RepDs.length q4
    have l2:=RepDs.length p4
    have hL:(if ds.length=ds'.length then CL (eqN n) ds ds' else some false)=some b:=hL
    by_cases hsz:ds.length=ds'.length
    ·rw [if_pos hsz] at hL
     obtain ⟨e,h1,h2⟩:=eqNs_items n ih hu1 ds ds' vs.toList vs'.toList b q4 p4 hL
     have hsz':vs.size=vs'.size:=by simp at l1 l2; lia
     have hb:b=(List.range vs.size).all e:=by rw [h2]; simp [hsz']
     rw [hb]
     exact ⟨RcAt.lists hl hl' hsz' hu' fun j j1 j2=>h1 j _ _ (by simp [j1]) (by simp [j2]),RcNeAt.lists hl hl' hsz' hu' fun j j1 j2=>h1 j _ _ (by simp [j1]) (by simp [j2])⟩
    ·rw [if_neg hsz] at hL
     rw [<-Option.some.inj hL]
     have hsz':(vs.size != vs'.size)=true:=by simp at l1 l2; simp; lia
     exact ⟨RcAt.lists_lengths hl hl' hsz' hu',RcNeAt.lists_lengths hl hl' hsz' hu'⟩
   | _=>exact Ab hL
  | tuple ds=>cases d' with
   | tuple ds' =>
    have rr:=r; have rr':=r'
    obtain ⟨a,o,vs,k,r,q1,q2,q3,q4,_⟩:=r
    obtain ⟨a',o',vs',k',r',p1,p2,p3,p4,_⟩:=r'
    subst r r'
    refine eq_refs rr rr' h ?_
    have hl:s.heap.IsTuple a vs:=⟨_,q1,q2,_,q3⟩
    have hl':s.heap.IsTuple a' vs':=⟨_,p1,p2,_,p3⟩
    obtain ⟨e,h1,h2⟩:=eqNs_items n ih hu1 ds ds' vs.toList vs'.toList b q4 p4 hL
    have hb:b=((List.range (min vs.size vs'.size)).all e&&vs.size == vs'.size):=by rw [h2]; simp
    rw [hb]
    exact ⟨RcAt.tuples hl hl' hu' fun j j1 j2=>h1 j _ _ (by simp [j1]) (by simp [j2]),RcNeAt.tuples hl hl' hu' fun j j1 j2=>h1 j _ _ (by simp [j1]) (by simp [j2])⟩
   | _=>exact G1 hu' r r' hL
  | _=>exact G1 hu' r r' hL
end
theorem Fp {n:Nat} (h:n<=line):(n:Int) < 2 ^ 63:=by unfold line at h; lia
section
variable {T:Top} {fs:List Addr} {L:Option Addr} {A:Around} {g:G} {σ:Store} {s:Shared} {fe:List Env} {hd:Bool} {n:Nat}
theorem Sim.ofTok {α β:Type} {m:Sem α} {rep:G->β->α->Prop} {b:β} (st:St T g σ s.heap) (h:∀ Q:α->Shared->Prop,(∀ x k,rep g b x->Q x { s with toks:=k })->wpAny (model T.prog T.w) A m Q (fun _ _=>False) s) :
 Sim T fs L A g s m rep (.ok b σ) :=
 Sim.of (h _ fun x k r=>⟨g,.heapEq st,r⟩)
noncomputable def IsB (_:G) (b x:Bool):Prop:=x=b
theorem arr_empty {ws:List V} {xs:Array Value} (r:RepVs T g ws xs.toList):(!xs.isEmpty) = !ws.isEmpty:=by
 have:=r.length
 induction ws with
 | nil =>
  obtain rfl:xs=#[]:=by simpa using this.symm
  rfl
 | cons w ws=>simp at this; simp; intro q; subst q; simp at this
theorem EH {v:V} {x:Value} (st:St T g σ s.heap) (r:Aj T g v x) :
 Sim T fs L A g s (truthy x) IsB (match B2 σ v with | some b=>.ok b σ | none=>.bad):=by
 have seqs:∀ ws,Dt σ v=some ws->Sim T fs L A g s (truthy x) IsB (.ok (!ws.isEmpty) σ):=fun ws e=>by
  obtain ⟨a,o,xs,k,rfl,ho,hc,hd,hr,hl⟩:=EJ st r e
  refine Sim.ofTok st fun Q h=>?_
  rcases hc with hc | hc
  ·exact wpAny_truthy_list ⟨o,ho,hc,k,hd⟩ (Fp hl) (h _ _ (arr_empty hr))
  ·exact PyProof.Rows.truthy_tuple ⟨o,ho,hc,k,hd⟩ (Fp hl) (h _ _ (arr_empty hr))
 cases v with
 | d y =>
  cases y with
  | none=>have r:x=.none:=r; subst r; exact Sim.ofTok st fun Q h=>PyProof.Rows.truthy_none (h _ s.toks rfl)
  | bool b=>have r:x=.bool b:=r; subst r; exact Sim.ofTok st fun Q h=>wpAny_truthy_bool (h _ s.toks rfl)
  | int i=>obtain ⟨t,rfl⟩:=r; exact Sim.ofTok st fun Q h=>P.truthy_int (h _ s.toks rfl)
  | str y =>
   obtain ⟨t,rfl,hl⟩:=r
   refine Sim.ofTok st fun Q h=>P.truthy_str (by have:=Fp hl; lia) (h _ _ ?_)
   show ((y.length:Int) != 0)=(y.cps.size != 0)
   show ((y.cps.size:Int) != 0)=(y.cps.size != 0)
   cases q:y.cps.size <;> simp <;> lia
  | list xs=>have:=seqs _ rfl; simp only [List.isEmpty_map] at this; exact this
  | tuple xs=>have:=seqs _ rfl; simp only [List.isEmpty_map] at this; exact this
  | dict _=>exact Sim.bad
 | ref k =>
  show Sim T fs L A g s (truthy x) IsB (match (match σ[k]? with | some (.list vs)=>some (!vs.isEmpty) | _=>none) with | some b=>.ok b σ | none=>.bad)
  induction ho:σ[k]? with
  | none=>exact Sim.bad
  | some o =>
   induction o with
   | list ws=>exact seqs ws (by show (match σ[k]? with | some (.list vs)=>some vs | _=>none)=_; rw [ho])
   | _=>exact Sim.bad
 | _=>exact Sim.bad
theorem FF {fz':Addr->Option Obj} {f:V->Option PyData} (hf:∀ (v:V) (x:Value) (d:PyData),Aj T g v x->f v=some d->B7 fz' d x):∀ (vs:List V) (xs:List Value) (ds:List PyData),RepVs T g vs xs->Ca f vs=some ds->RepDs fz' ds xs
 | [],[],ds,_,e=>by rw [<-Option.some.inj e]; exact trivial
 | v::vs,x::xs,ds,r,e=>by
  have e:(match f v with | some x=>(match Ca f vs with | some xs=>some (x::xs) | none=>none) | none=>none)=some ds:=e
  induction h3:f v with
  | none=>rw [h3] at e; exact Ab e
  | some d =>
   rw [h3] at e
   induction h4:Ca f vs with
   | none=>rw [h4] at e; exact Ab e
   | some ds' =>
    rw [h4] at e
    rw [<-Option.some.inj e]
    exact ⟨hf v x d r.1 h3,FF hf vs xs ds' r.2 h4⟩
 | [],_::_,_,h,_=>h.elim
 | _::_,[],_,h,_=>h.elim
theorem snap_fz {fz':Addr->Option Obj} (st:St T g σ s.heap) (h1:FzLe g.fz fz') (h2:∀ a,a∈g.mu->∀ o,s.heap.get? a=some o->fz' a=some o):∀ (n:Nat) (v:V) (x:Value) (d:PyData),Aj T g v x->Be σ n v=some d->B7 fz' d x:=by
 intro n
 induction n with
 | zero =>
  intro v x d r e
  cases v with
  | d y=>rw [<-Option.some.inj e]; exact B7.mono h1 _ _ r
  | _=>exact Ab e
 | succ n ih =>
  intro v x d r e
  cases v with
  | d y=>rw [<-Option.some.inj e]; exact B7.mono h1 _ _ r
  | ref k =>
   obtain ⟨a,e1,rfl⟩:=r
   have e:snapO (Be σ n) σ[k]? = some d:=e
   induction ho:σ[k]? with
   | none=>rw [ho] at e; exact Ab e
   | some o=>induction o with
   | dead=>rw [ho] at e; exact Ab e
   | list ws =>
   rw [ho] at e
   have e:(match Ca (Be σ n) ws with | some xs=>some (.list xs) | none=>none)=some d:=e
   induction hx:Ca (Be σ n) ws with
   | none=>rw [hx] at e; exact Ab e
   | some ds =>
    rw [hx] at e
    rw [<-Option.some.inj e]
    obtain ⟨y,hy,xs,m,q,hr,hl⟩:=st.ob k a _ e1 ho
    subst q
    have h3:=FF ih ws xs.toList ds hr hx
    exact ⟨a,_,xs,m,rfl,h2 a (List.mem_of_getElem? e1) _ hy,rfl,rfl,h3,by rw [h3.length,<-hr.length]; exact hl⟩
  | tup ws =>
   obtain ⟨a,o,xs,m,rfl,e2,e3,e4,e5,e6⟩:=r
   have e:(match Ca (Be σ n) ws with | some xs=>some (.tuple xs) | none=>none)=some d:=e
   induction hx:Ca (Be σ n) ws with
   | none=>rw [hx] at e; exact Ab e
   | some ds =>
    rw [hx] at e
    rw [<-Option.some.inj e]
    have h3:=FF ih ws xs.toList ds e5 hx
    exact ⟨a,o,xs,m,rfl,h1 _ _ e2,e3,e4,h3,by rw [h3.length,<-e5.length]; exact e6⟩
  | _=>exact Ab e
theorem Et (st:St T g σ s.heap) (n:Nat) (v:V) (x:Value) (d:PyData) (r:Aj T g v x) (e:Be σ n v=some d):B7 s.heap.get? d x :=
 snap_fz st (fun a o e=>st.fz a o e) (fun _ _ _ e=>e) n v x d r e
noncomputable def eqTo (h:Heap) (d:PyData) (v:Value):Bool:=@decide (∃ d',B7 h.get? d' v/\eqN AM d' d=some true) (Classical.propDecidable _)
theorem eqTo_of {h:Heap} {d d':PyData} {v:Value} {b:Bool} (r:B7 h.get? d' v) (e:eqN AM d' d=some b):eqTo h d v=b:=by
 unfold eqTo
 induction b with
 | true=>exact @decide_eq_true _ (Classical.propDecidable _) ⟨d',r,e⟩
 | false =>
  refine @decide_eq_false _ (Classical.propDecidable _) ?_
  rintro ⟨d'',r',e'⟩
  rw [B7.inj _ _ _ r' r,e] at e'
  cases e'
theorem inD_ok {A:Around} {y:Value} {d:PyData} (hu:A.units+AM < cLine) (r:B7 s.heap.get? d y):∀ (ds:List PyData) (xs:List Value) (b:Bool),RepDs s.heap.get? ds xs->inD d ds=some b ->
 (∀ x,x∈xs->EqAt A s x y (eqTo s.heap d x))/\b=xs.any (eqTo s.heap d)
 | [],[],b,_,h=>⟨fun x h=>(nomatch h),(Option.some.inj (show some false=some b from h)).symm⟩
 | z::ds,x::xs,b,hr,h=>by
  have h:(match eqN AM z d,inD d ds with | some a,some b=>some (a||b) | _,_=>none)=some b:=h
  induction e:eqN AM z d with
  | none=>rw [e] at h; exact Ab h
  | some c =>
   induction e':inD d ds with
   | none=>rw [e,e'] at h; exact Ab h
   | some c' =>
    rw [e,e'] at h
    have h:=Option.some.inj h
    have h0:=(eqN_ok AM z d x y c A hu hr.1 r e).eq
    obtain ⟨h1,h2⟩:=inD_ok hu r ds xs c' hr.2 e'
    have h3:=eqTo_of hr.1 e
    refine ⟨fun w hw=>?_,by rw [List.any_cons,h3,<-h2,h]⟩
    rcases List.mem_cons.mp hw with rfl | hw
    ·rw [h3]; exact h0
    ·exact h1 w hw
 | [],_::_,_,h,_=>h.elim
 | _::_,[],_,h,_=>h.elim
theorem Ej (ha:AOk fe hd n A):A.units+AM < cLine/\A.in1.units+AM < cLine:=by
 have:=ha.units
 show A.units+40 < 9900/\A.units+1+40 < 9900
 lia
inductive XForm:Value->Bool->Prop
 | none:XForm .none true
 | bool (b:Bool):XForm (.bool b) false
 | int (i:Int) (t:Tok):XForm (.int i t) false
 | str (y:Str) (t:Tok):XForm (.str y t) false
 | ref (a:Addr):XForm (.ref a) false
theorem form_facts {x:Value} {b:Bool} (h:XForm x b):plainIs x .none=true/\(b=true->x=.none)/\(b=false->x≠.none):=by
 cases h with
 | none=>exact ⟨rfl,fun _=>rfl,fun h=>tt_ h⟩
 | _=>exact ⟨rfl,fun h=>ff_ h,fun _ h=>nomatch h⟩
theorem form_of {v:V} {x:Value} {b:Bool} (r:Aj T g v x) (h:isV v (.d .none)=some b):XForm x b:=by
 cases v with
 | d y =>
  cases y with
  | none=>rw [show x=.none from r,<-Option.some.inj h]; exact .none
  | bool c=>rw [show x=.bool c from r,<-Option.some.inj h]; exact .bool c
  | int i=>obtain ⟨t,e⟩:=r; rw [e,<-Option.some.inj h]; exact .int i t
  | str y=>obtain ⟨t,e,_⟩:=r; rw [e,<-Option.some.inj h]; exact .str y t
  | list _=>obtain ⟨a,_,_,_,e,_⟩:=r; rw [e,<-Option.some.inj h]; exact .ref a
  | tuple _=>obtain ⟨a,_,_,_,e,_⟩:=r; rw [e,<-Option.some.inj h]; exact .ref a
  | dict _=>exact r.elim
 | ref k=>obtain ⟨a,_,e⟩:=r; rw [e,<-Option.some.inj h]; exact .ref a
 | tup _=>obtain ⟨a,_,_,_,e,_⟩:=r; rw [e,<-Option.some.inj h]; exact .ref a
 | exc c=>obtain ⟨a,_,e,_⟩:=r; rw [e,<-Option.some.inj h]; exact .ref a
 | _=>exact Ab h
noncomputable def ansB (σ:Store):Option Bool->Res V
 | some b=>.ok (.d (.bool b)) σ
 | none=>.bad
theorem Sim.ansB {m:Sem Value} {b:Bool} (st:St T g σ s.heap) (h:∀ Q:Value->Shared->Prop,Q (.bool b) s->wpAny (model T.prog T.w) A m Q (fun _ _=>False) s):Sim T fs L A g s m (Aj T) (ansB σ (some b)) :=
 Sim.of (h _ ⟨g,.refl st,rfl⟩)
theorem sim_eq {a b:V} {x y:Value} (ha:AOk fe hd n A) (st:St T g σ s.heap) (ra:Aj T g a x) (rb:Aj T g b y) :
 Sim T fs L A g s (compareOp .Eq x y) (Aj T) (ansB σ (eqV σ a b))/\Sim T fs L A g s (compareOp .NotEq x y) (Aj T) (ansB σ (FO (eqV σ a b))):=by
 unfold eqV
 induction h1:Be σ AM a with
 | none=>exact ⟨Sim.bad,Sim.bad⟩
 | some d1 =>
  induction h2:Be σ AM b with
  | none=>exact ⟨Sim.bad,Sim.bad⟩
  | some d2 =>
   simp only
   induction h3:eqN AM d1 d2 with
   | none=>exact ⟨Sim.bad,Sim.bad⟩
   | some c =>
    have:=eqN_ok AM d1 d2 x y c A (Ej ha).1 (Et st _ _ _ _ ra h1) (Et st _ _ _ _ rb h2) h3
    exact ⟨Sim.ansB st fun Q h=>this.rc T.prog T.w _ Q h,Sim.ansB st fun Q h=>this.ne T.prog T.w _ Q h⟩
theorem sim_inL {a b:V} {x y:Value} {d:PyData} {ys:List PyData} {c:Bool} (ha:AOk fe hd n A) (st:St T g σ s.heap) (ra:Aj T g a x) (rb:Aj T g b y) (h1:Be σ AM a=some d) (h2:Be σ AM b=some (.list ys)\/Be σ AM b=some (.tuple ys)) (h3:inD d ys=some c) :
 Sim T fs L A g s (compareOp .In x y) (Aj T) (ansB σ (some c))/\Sim T fs L A g s (compareOp .NotIn x y) (Aj T) (ansB σ (some (!c))):=by
 have r1:=Et st _ _ _ _ ra h1
 rcases h2 with h2 | h2
 ·obtain ⟨l,o,vs,k,rfl,e2,e3,e4,e5,e6⟩:=Et st _ _ _ _ rb h2
  obtain ⟨h4,h5⟩:=inD_ok (A:=A.in1) (Ej ha).2 r1 ys vs.toList c e5 h3
  have h6:c=vs.any (eqTo s.heap d):=by rw [h5]; simp
  rw [h6]
  exact ⟨Sim.ansB st fun Q h=>in_listAt (eqTo s.heap d) ⟨o,e2,e3,k,e4⟩ (fun z hz=>h4 z (by exact Array.mem_toList_iff.mpr hz)) h,Sim.ansB st fun Q h=>notIn_listAt (eqTo s.heap d) ⟨o,e2,e3,k,e4⟩ (fun z hz=>h4 z (by exact Array.mem_toList_iff.mpr hz)) h⟩
 ·obtain ⟨l,o,vs,k,rfl,e2,e3,e4,e5,e6⟩:=Et st _ _ _ _ rb h2
  obtain ⟨h4,h5⟩:=inD_ok (A:=A.in1) (Ej ha).2 r1 ys vs.toList c e5 h3
  have h6:c=vs.any (eqTo s.heap d):=by rw [h5]; simp
  rw [h6]
  exact ⟨Sim.ansB st fun Q h=>in_tupleAt (eqTo s.heap d) ⟨o,e2,e3,k,e4⟩ (fun z hz=>h4 z (by exact Array.mem_toList_iff.mpr hz)) h,Sim.ansB st fun Q h=>notIn_tupleAt (eqTo s.heap d) ⟨o,e2,e3,k,e4⟩ (fun z hz=>h4 z (by exact Array.mem_toList_iff.mpr hz)) h⟩
theorem sim_in {a b:V} {x y:Value} (ha:AOk fe hd n A) (st:St T g σ s.heap) (ra:Aj T g a x) (rb:Aj T g b y) :
 Sim T fs L A g s (compareOp .In x y) (Aj T) (ansB σ (inV σ a b))/\Sim T fs L A g s (compareOp .NotIn x y) (Aj T) (ansB σ (FO (inV σ a b))):=by
 have seq:Sim T fs L A g s (compareOp .In x y) (Aj T) (ansB σ (inSeq σ a b))/\Sim T fs L A g s (compareOp .NotIn x y) (Aj T) (ansB σ (FO (inSeq σ a b))):=by
  unfold inSeq
  induction h1:Be σ AM a with
  | none=>exact ⟨Sim.bad,Sim.bad⟩
  | some d=>induction h2:Be σ AM b with
  | none=>exact ⟨Sim.bad,Sim.bad⟩
  | some ds=>cases ds with
  | list ys =>
   show Sim T fs L A g s _ _ (ansB σ (inD d ys))/\Sim T fs L A g s _ _ (ansB σ (FO (inD d ys)))
   induction h3:inD d ys with
   | none=>exact ⟨Sim.bad,Sim.bad⟩
   | some c=>exact sim_inL ha st ra rb h1 (.inl h2) h3
  | tuple ys =>
   show Sim T fs L A g s _ _ (ansB σ (inD d ys))/\Sim T fs L A g s _ _ (ansB σ (FO (inD d ys)))
   induction h3:inD d ys with
   | none=>exact ⟨Sim.bad,Sim.bad⟩
   | some c=>exact sim_inL ha st ra rb h1 (.inr h2) h3
  | _=>exact ⟨Sim.bad,Sim.bad⟩
 unfold inV
 induction e1:A3 a with
 | none=>exact seq
 | some u=>induction e2:A3 b with
 | none=>exact seq
 | some v =>
  obtain ⟨t,rfl,_⟩:=AC ra e1
  obtain ⟨t',rfl,_⟩:=AC rb e2
  exact ⟨Sim.ansB st fun Q h=>SB.contains h,Sim.ansB st fun Q h=>SB.notContains h⟩
theorem sim_is {a b:V} {x y:Value} (st:St T g σ s.heap) (ra:Aj T g a x) (rb:Aj T g b y) :
 Sim T fs L A g s (compareOp .Is x y) (Aj T) (ansB σ (isV a b))/\Sim T fs L A g s (compareOp .IsNot x y) (Aj T) (ansB σ (FO (isV a b))):=by
 cases b with
 | d z =>
  cases z with
  | none =>
   obtain rfl:y=.none:=rb
   induction e:isV a (.d .none) with
   | none=>exact ⟨Sim.bad,Sim.bad⟩
   | some q =>
    have f:=form_facts (form_of ra e)
    cases q with
    | true=>obtain rfl:=f.2.1 rfl; exact ⟨Sim.ansB st fun Q h=>wpAny_is_self rfl h,Sim.ansB st fun Q h=>wpAny_isNot_self rfl h⟩
    | false=>exact ⟨Sim.ansB st fun Q h=>wpAny_is_other f.1 (f.2.2 rfl) h,Sim.ansB st fun Q h=>wpAny_isNot_other f.1 (f.2.2 rfl) h⟩
  | _=>exact ⟨Sim.bad,Sim.bad⟩
 | _=>exact ⟨Sim.bad,Sim.bad⟩
theorem sim_ord {op:CmpOp} {f:Int->Int->Bool} {k:Str->Str->Bool} {a b:V} {x y:Value} (ra:Aj T g a x) (rb:Aj T g b y)
 (h1:∀ i j t u,Sim T fs L A g s (compareOp op (.int i t) (.int j u)) (Aj T) (ansB σ (some (f i j)))) (h2:∀ i j t u,Sim T fs L A g s (compareOp op (.str i t) (.str j u)) (Aj T) (ansB σ (some (k i j)))) :
 Sim T fs L A g s (compareOp op x y) (Aj T) (ansB σ (ordV f k a b)):=by
 unfold ordV
 induction e1:Az a with
 | some i =>
  induction e2:Az b with
  | none=>exact Sim.bad
  | some j =>
   obtain ⟨t,rfl⟩:=AN ra e1
   obtain ⟨u,rfl⟩:=AN rb e2
   exact h1 i j t u
 | none =>
  induction e3:A3 a with
  | none=>exact Sim.bad
  | some i =>
   induction e4:A3 b with
   | none=>exact Sim.bad
   | some j =>
    obtain ⟨t,rfl,_⟩:=AC ra e3
    obtain ⟨u,rfl,_⟩:=AC rb e4
    exact h2 i j t u
theorem EI (op:CmpOp) {a b:V} {x y:Value} (ha:AOk fe hd n A) (st:St T g σ s.heap) (ra:Aj T g a x) (rb:Aj T g b y) :
 Sim T fs L A g s (compareOp op x y) (Aj T) (ansB σ (Bo op a b σ)):=by
 induction op with
 | Eq=>exact (sim_eq ha st ra rb).1
 | NotEq=>exact (sim_eq ha st ra rb).2
 | In=>exact (sim_in ha st ra rb).1
 | NotIn=>exact (sim_in ha st ra rb).2
 | Is=>exact (sim_is st ra rb).1
 | IsNot=>exact (sim_is st ra rb).2
 | Lt=>exact sim_ord ra rb (fun _ _ _ _=>Sim.ansB st fun Q h=>P.lt_int h) (fun _ _ _ _=>Sim.ansB st fun Q h=>P.lt_str h)
 | LtE=>exact sim_ord ra rb (fun _ _ _ _=>Sim.ansB st fun Q h=>P.le_int h) (fun _ _ _ _=>Sim.ansB st fun Q h=>P.le_str h)
 | Gt=>exact sim_ord ra rb (fun _ _ _ _=>Sim.ansB st fun Q h=>P.gt_int h) (fun _ _ _ _=>Sim.ansB st fun Q h=>P.gt_str h)
 | GtE=>exact sim_ord ra rb (fun _ _ _ _=>Sim.ansB st fun Q h=>P.ge_int h) (fun _ _ _ _=>Sim.ansB st fun Q h=>P.ge_str h)
end
section
variable {T:Top} {fs:List Addr} {L:Option Addr} {A:Around} {g:G} {σ:Store} {s:Shared} {fe:List Env} {hd:Bool} {n:Nat}
noncomputable def ansO (σ:Store):Option V->Res V
 | some v=>.ok v σ
 | none=>.bad
theorem small_bounds {i:Int} (h:small i=true):-(2 ^ 63)<=i/\i < 2 ^ 63:=by
 simp only [small,Bool.and_eq_true,decide_eq_true_eq] at h
 lia
set_option tactic.hygienic true in
theorem seqIndex_nonneg {k:Int} {n j:Nat} (h:seqIndex? k n=some j) (h0:0<=k):k.toNat=j/\j < n:=by
 unfold seqIndex? at h
 simp only [if_neg (show ¬ k < 0 by lia)] at h
 split at h
 ·rename_i q
  simp only [Bool.and_eq_true,decide_eq_true_eq] at q
  obtain rfl:=Option.some.inj h
  exact ⟨rfl,by lia⟩
 ·exact Ab h
set_option tactic.hygienic true in
theorem FH {k:Int} {n j:Nat} (h:seqIndex? k n=some j) (h0:k < 0):(k+n).toNat=j/\j < n/\-(n:Int)<=k:=by
 unfold seqIndex? at h
 simp only [if_pos h0] at h
 split at h
 ·rename_i q
  simp only [Bool.and_eq_true,decide_eq_true_eq] at q
  obtain rfl:=Option.some.inj h
  exact ⟨rfl,by lia,by lia⟩
 ·exact Ab h
theorem chr1_len (c:Nat):(chr1 c).length<=line:=by show 1<=line; unfold line; (exact Nat.succ_pos _)
theorem sim_getItem {a i:V} {x y:Value} (st:St T g σ s.heap) (ra:Aj T g a x) (ri:Aj T g i y) :
 Sim T fs L A g s (getItem x y) (Aj T) (ansO σ (A4 a i σ)):=by
 unfold A4
 induction ei:Az i with
 | none=>exact Sim.bad
 | some k =>
  obtain ⟨u,rfl⟩:=AN ri ei
  show Sim T fs L A g s _ _ (ansO σ (if small k=true then DK a k σ else none))
  by_cases hk:small k=true
  ·rw [if_pos hk]
   have q_z:=small_bounds hk
   have h1:=q_z.1
   have h2:=q_z.2
   unfold DK
   induction es:A3 a with
   | some x' =>
    obtain ⟨t,rfl,_⟩:=AC ra es
    show Sim T fs L A g s _ _ (ansO σ (match Txt.charAt x' k with | some c=>some (V.d (.str (chr1 c))) | none=>none))
    induction hc:Txt.charAt x' k with
    | none=>exact Sim.bad
    | some c =>
     refine Sim.ofTok st fun Q h=>SB.getItem ?_ (by rw [hc]; rfl) (h _ _ ⟨s.toks,?_,chr1_len c⟩)
     ·unfold fitsSsize; simp; lia
     ·unfold Txt.item; rw [hc]; rfl
   | none =>
    show Sim T fs L A g s _ _ (ansO σ (match Dt σ a with | some vs=>(match seqIndex? k vs.length with | some j=>vs[j]? | none=>none) | none=>none))
    induction e:Dt σ a with
    | none=>exact Sim.bad
    | some vs =>
     obtain ⟨l,o,xs,m,rfl,ho,hc,hd,hr,hl⟩:=EJ st ra e
     have hlen:=hr.length
     show Sim T fs L A g s _ _ (ansO σ (match seqIndex? k vs.length with | some j=>vs[j]? | none=>none))
     induction hj:seqIndex? k vs.length with
     | none=>exact Sim.bad
     | some j =>
      show Sim T fs L A g s _ _ (ansO σ vs[j]?)
      induction hv:vs[j]? with
      | none=>exact Sim.bad
      | some v =>
       obtain ⟨w,hw,hrw⟩:=hr.get hv
       have hw':xs[j]? = some w:=by simpa using hw
       have hn:vs.length=xs.size:=by simpa using hlen
       refine Sim.of ?_
       rcases hc with hc | hc
       ·have hL:s.heap.IsList l xs:=⟨o,ho,hc,m,hd⟩
        by_cases h0:0<=k
        ·have q_z:=seqIndex_nonneg hj h0
         have q1:=q_z.1
         have q2:=q_z.2
         exact wpAny_getItem_list hL h0 h2 (by rw [q1]; exact hw') ⟨g,.refl st,hrw⟩
        ·have q_z:=FH hj (by (exact Int.not_le.mp ‹_›))
         have q1:=q_z.1
         have q2:=q_z.2.1
         have q3:=q_z.2.2
         exact wpAny_getItem_list_neg hL (by (exact Int.not_le.mp ‹_›)) (by rw [<-hn]; exact q3) h1 (by rw [<-hn,q1]; exact hw') ⟨g,.refl st,hrw⟩
       ·exact PyProof.Rows.getItem_tuple ⟨o,ho,hc,m,hd⟩ h1 h2 (by rw [<-hn]; exact hj) hw' ⟨g,.refl st,hrw⟩
  ·rw [if_neg hk]; exact Sim.bad
theorem cutAt_rep {T:Top} {g:G} {ws:List V} {xs:Array Value} (lo hi:Option Int) (r:RepVs T g ws xs.toList):RepVs T g (BD lo hi ws) (slicePick xs lo hi none).toList:=by
 rw [slicePick_plain]
 have hl:ws.length=xs.size:=by simpa using r.length
 unfold BD
 rw [hl]
 have drp:∀ (k:Nat) {ws:List V} {vs:List Value},RepVs T g ws vs->RepVs T g (ws.drop k) (vs.drop k):=by
  intro k
  induction k with
  | zero=>intro ws vs h; simpa using h
  | succ k ih =>
   intro ws vs h
   induction ws with
   | nil=>induction vs with
    | nil=>simpa using h
    | cons _ _=>exact h.elim
   | cons w ws=>induction vs with
    | nil=>exact h.elim
    | cons v vs=>simpa using ih h.2
 have tke:∀ (k:Nat) {ws:List V} {vs:List Value},RepVs T g ws vs->RepVs T g (ws.take k) (vs.take k):=by
  intro k
  induction k with
  | zero=>intro ws vs h; simp; exact trivial
  | succ k ih =>
   intro ws vs h
   induction ws with
   | nil=>induction vs with
    | nil=>simpa using h
    | cons _ _=>exact h.elim
   | cons w ws=>induction vs with
    | nil=>exact h.elim
    | cons v vs=>exact ⟨h.1,ih h.2⟩
 exact tke _ (drp _ r)
theorem clipAt_le (n:Nat) (i:Int):clipAt n i<=n:=by
 exact Int.toNat_le.mpr (Int.max_le.mpr ⟨Int.natCast_nonneg n,Int.min_le_right _ _⟩)
set_option tactic.hygienic true in
theorem strSlice_eq (lo hi:Option Int) (x:Str):Txt.slice x lo hi=cutS lo hi x:=by
 have e:Builtin.Str.strSliceIndices lo hi 1 x.length=sliceRange (sliceBounds lo hi none x.length).1 (sliceBounds lo hi none x.length).2.1 1:=by
  unfold Builtin.Str.strSliceIndices
  cases lo <;> cases hi <;> simp [sliceBounds]
 have e2:(Builtin.Str.strSliceIndices lo hi 1 x.length).filterMap (x.cps[·]?)=BD lo hi x.cps.toList:=by
  rw [e,sliceBounds_plain]
  simp only [sliceRange_one,pick_run]
  unfold BD
  simp [Str.length]
 unfold Txt.slice cutS
 split
 ·rename_i q
  simp only [Bool.and_eq_true,beq_iff_eq] at q
  have q2:=q.2
  have l1:(BD lo hi x.cps.toList).length=x.length:=by
   have hb:hi.elim x.length (clipAt x.length)<=x.length:=by
    induction hi with
    | none=>exact Nat.le_refl _
    | some i=>exact clipAt_le _ _
   rw [e,sliceBounds_plain] at q2
   simp only [sliceRange_one,List.length_map,List.length_range] at q2
   unfold BD
   have hx:x.cps.toList.length=x.length:=by simp [Str.length]
   rw [hx,List.length_take,List.length_drop,hx]
   lia
  have l2:BD lo hi x.cps.toList=x.cps.toList:=by
   have hs:(BD lo hi x.cps.toList).Sublist x.cps.toList:=(List.take_sublist _ _).trans (List.drop_sublist _ _)
   exact hs.eq_of_length (by rw [l1]; unfold Str.length; simp)
  rw [l2]
 ·rw [e2]
theorem cutS_len (lo hi:Option Int) (x:Str):(cutS lo hi x).length<=x.length:=by
 show ((BD lo hi x.cps.toList).toArray).size<=x.cps.size
 rw [List.size_toArray,<-Array.length_toList]
 exact ((List.take_sublist _ _).trans (List.drop_sublist _ _)).length_le
noncomputable def RepO' (T:Top) (g:G):Option V->Value->Prop
 | none,x=>x=.none
 | some v,x=>Aj T g v x
theorem endOf_part {o:Option V} {x:Value} {l:Option Int} (r:RepO' T g o x) (e:Cm o=some l):IsPart x l/\∃ p:Option (Int×Tok),x=partValue p/\p.map (·.1)=l:=by
 induction o with
 | none =>
  obtain rfl:none=l:=Option.some.inj e
  obtain rfl:x=.none:=r
  exact ⟨.none,none,rfl,rfl⟩
 | some v =>
  have e:(match Az v with | some i=>if small i=true then some (some i) else none | none=>none)=some l:=e
  induction ei:Az v with
  | none=>rw [ei] at e; exact Ab e
  | some i =>
   rw [ei] at e
   obtain rfl:some i=l:=(Cg e).2
   obtain ⟨t,rfl⟩:=AN (show Aj T g v x from r) ei
   exact ⟨.int _ _,some (_,t),rfl,rfl⟩
theorem RepDs.drop {f:Addr->Option Obj}:∀ (n:Nat) {ds:List PyData} {vs:List Value},RepDs f ds vs->RepDs f (ds.drop n) (vs.drop n)
 | 0,_,_,h=>h
 | _+1,[],[],_=>trivial
 | n+1,_::_,_::_,h=>RepDs.drop n h.2
 | _+1,[],_::_,h=>h.elim
 | _+1,_::_,[],h=>h.elim
theorem sim_slice {fz:Bool} {a:V} {lo hi:Option V} {x vl vu:Value} {sl:Addr} (st:St T g σ s.heap) (ra:Aj T g a x) (rl:RepO' T g lo vl) (rh:RepO' T g hi vu) (hs:s.heap.IsSliceOf sl vl vu .none) :
 Sim T fs L A g s (getItem x (.ref sl)) (Aj T) (slice fz a lo hi σ):=by
 unfold slice
 induction e1:Cm lo with
 | none=>exact Sim.bad
 | some l=>induction e2:Cm hi with
 | none=>exact Sim.bad
 | some h =>
 obtain ⟨p1,q1,hq1,hq1'⟩:=endOf_part rl e1
 obtain ⟨p2,q2,hq2,hq2'⟩:=endOf_part rh e2
 subst hq1 hq2
 show Sim T fs L A g s _ _ (Cq fz a l h σ)
 unfold Cq
 induction es:A3 a with
 | some x' =>
  obtain ⟨t,rfl,hl⟩:=AC ra es
  refine Sim.ofTok st fun Q h=>wpAny_getItem_str_slice (l:=q1) (u:=q2) (st:=none) hs rfl ?_
  have e:(if (((none:Option (Int×Tok)).map (·.1)).getD 1 == 1&&(slicePicked x' q1 q2 none).length == x'.length)=true then x' else ⟨((slicePicked x' q1 q2 none).filterMap (x'.cps[·]?)).toArray⟩)=cutS (q1.map (·.1)) (q2.map (·.1)) x':=strSlice_eq _ _ _
  unfold sliceMade
  refine post_val_or_str ?_
  rw [e,hq1',hq2']
  exact ⟨Nat.le_trans (cutS_len _ _ _) (B1▸hl),fun t' k=>h _ _ ⟨t',rfl,Nat.le_trans (cutS_len _ _ _) hl⟩⟩
 | none=>induction et:Ef a with
 | some xs =>
  obtain ⟨la,o,ia,m,rfl,ho,hc,hd,hr,hl⟩:=Fr ra et
  show Sim T fs L A g s _ _ (match sliceTup xs l h with | some ys=>(.ok (V.d (.tuple ys)) σ:Res V) | none=>.bad)
  induction ey:sliceTup xs l h with
  | none=>exact Sim.bad
  | some ys =>
   induction l with
   | none=>exact Ab ey
   | some a=>induction h with
   | some _=>exact Ab ey
   | none =>
   have ey:(if 1<=a/\a<=xs.length then some (xs.drop a.toNat) else none)=some ys:=ey
   by_cases hb:1<=a/\a<=xs.length
   ·rw [if_pos hb] at ey
    rw [<-Option.some.inj ey]
    induction q1 with
    | none=>exact Ab hq1'
    | some q1=>induction q2 with
    | some _=>exact AT hq2'
    | none =>
    obtain ⟨a',t'⟩:=q1
    have hq1':a'=a:=Option.some.inj hq1'
    subst hq1'
    obtain ⟨n,rfl⟩:=Int.eq_ofNat_of_zero_le (show 0<=a' by lia)
    have hln:=hr.length
    have hn:n<=ia.size:=by simp at hln; lia
    refine Sim.of (PyProof.Rows.getItem_tuple_from (u:=t') ⟨o,st.fz _ _ ho,hc,m,hd⟩ hs (by lia) hn ?_ (by rw [<-B1]; simp at hln; lia))
    have le:G.le g (g.put s.heap.objs.size { cls:=.type "tuple",data:=.seq (ia.toList.drop n).toArray }):=.put (st.fz_none (BA _))
    refine ⟨_,.put st (fun b x e=>Heap.get?_push_of_some _ e) (Heap.get?_push_size _ rfl) (BA _),⟨_,_,(ia.toList.drop n).toArray,0,rfl,G.put_self,rfl,rfl,?_,by rw [List.length_drop]; lia⟩⟩
    exact RepDs.mono le.fz _ _ (RepDs.drop n hr)
   ·rw [if_neg hb] at ey; exact Ab ey
 | none =>
  show Sim T fs L A g s _ _ (match B5 σ a with | some xs=>A2 fz (BD l h xs) σ | none=>.bad)
  induction e3:B5 σ a with
  | none=>exact Sim.bad
  | some xs =>
   obtain ⟨la,ia,rfl,ha1,ha2,hsz⟩:=C5 st ra e3
   intro hr
   exact wpAny_getItem_list_slice ha1 hs p1 p2 .none (by simp) (CZ st (fun b x e=>Heap.get?_push_of_some _ e) (Heap.get?_push_size _ rfl) (BA _) (cutAt_rep l h ha2) hr) (B1▸hsz)
end
/-! sorting texts -/
theorem ltStr_irrefl (a:Str):Bn a a=false:=by
 unfold Bn; exact decide_eq_false (List.lt_irrefl _)
theorem GI {a b:Str} (h:Bn a b=true):Bn b a=false:=by
 unfold Bn at *
 exact decide_eq_false (List.lt_asymm (of_decide_eq_true h))
theorem ltStr_trans {a b c:Str} (h:Bn a b=true) (h':Bn b c=true):Bn a c=true:=by
 unfold Bn at *
 exact decide_eq_true (List.lt_trans (of_decide_eq_true h) (of_decide_eq_true h'))
theorem GH {a b:Str} (h:Bn a b=false) (h':Bn b a=false):a=b:=by
 unfold Bn at *
 have h1:=of_decide_eq_false h
 have h2:=of_decide_eq_false h'
 have:a.cps.toList=b.cps.toList:=List.le_antisymm (List.not_lt.mp h2) (List.not_lt.mp h1)
 cases a; cases b; simp only [Str.mk.injEq]; exact Array.toList_inj.mp this
theorem GJ {a b c:Str} (h:Bn b a=false) (h':Bn c b=false):Bn c a=false:=by
 induction e:Bn c a with
 | false=>rfl
 | true =>
  induction e':Bn a b with
  | true=>exact tt_ ((Eq.symm (ltStr_trans e e')).trans h')
  | false=>have:=GH e' h; subst this; exact tt_ (e.symm.trans h')
noncomputable def F6 (l:List Str):Prop:=l.Pairwise fun a b=>Bn b a=false
theorem E3 (x:Str):∀ l:List Str,(Eg x l).Perm (x::l)
 | []=>.refl _
 | y::r=>by
  unfold Eg
  split
  ·exact .refl _
  ·exact (List.Perm.cons y (E3 x r)).trans (.swap ..)
theorem Ea:∀ l:List Str,(CG l).Perm l
 | []=>.refl _
 | x::r=>(E3 x _).trans (.cons x (Ea r))
set_option tactic.hygienic true in
theorem Fe (x:Str):∀ l:List Str,F6 l->F6 (Eg x l)
 | [],_=>List.pairwise_singleton ..
 | y::r,h=>by
  obtain ⟨h1,h2⟩:=List.pairwise_cons.mp h
  unfold Eg
  split
  ·rename_i hx
   exact List.pairwise_cons.mpr ⟨fun z hz=>by
    rcases List.mem_cons.mp hz with rfl | hz
    ·exact GI hx
    ·exact GJ (GI hx) (h1 z hz),h⟩
  ·rename_i hx
   refine List.pairwise_cons.mpr ⟨fun z hz=>?_,Fe x r h2⟩
   rcases List.mem_cons.mp ((E3 x r).mem_iff.mp hz) with rfl | hz
   ·simpa using hx
   ·exact h1 z hz
theorem De:∀ l:List Str,F6 (CG l)
 | []=>List.Pairwise.nil
 | x::r=>Fe x _ (De r)
theorem DB:∀ {l l':List Str},F6 l->F6 l'->l.Perm l'->l=l'
 | [],l',_,_,p=>(List.nil_perm.mp p).symm
 | x::r,[],_,_,p=>absurd (List.perm_nil.mp p) (by exact List.cons_ne_nil _ _)
 | x::r,y::r',h,h',p=>by
  obtain ⟨h1,h2⟩:=List.pairwise_cons.mp h
  obtain ⟨h1',h2'⟩:=List.pairwise_cons.mp h'
  have e:x=y:=by
   have m1:y∈x::r:=p.mem_iff.mpr (List.mem_cons_self ..)
   have m2:x∈y::r':=p.mem_iff.mp (List.mem_cons_self ..)
   rcases List.mem_cons.mp m1 with q | q
   ·exact q.symm
   ·rcases List.mem_cons.mp m2 with q' | q'
    ·exact q'
    ·exact GH (h1' x q') (h1 y q)
  subst e
  rw [DB h2 h2' (List.Perm.cons_inv p)]
theorem ltCps_ltStr (a b:Str):Spec.ltCps a.cps.toList b.cps.toList=Bn a b:=by
 unfold Bn; exact PyProof.Rows.ltCps_eq _ _
theorem Dv:∀ (p:Str) (l:List Str),PyProof.Rows.risingS p l=true->F6 (p::l)
 | p,[],_=>List.pairwise_singleton ..
 | p,x::r,h=>by
  simp only [PyProof.Rows.risingS,Bool.and_eq_true,Bool.not_eq_true',ltCps_ltStr] at h
  have h2:=Dv x r h.2
  refine List.pairwise_cons.mpr ⟨fun z hz=>?_,h2⟩
  rcases List.mem_cons.mp hz with rfl | hz
  ·exact h.1
  ·exact GJ h.1 ((List.pairwise_cons.mp h2).1 z hz)
theorem Du:∀ (l:List Str),PyProof.Rows.sortedS l=true->F6 l
 | [],_=>List.Pairwise.nil
 | x::r,h=>Dv x r h
noncomputable def Dn:Bi->Value
 | .len=>.builtin "len"
 | .ord=>.builtin "ord"
 | .sorted=>.builtin "sorted"
 | .min=>.builtin "min"
 | .isinstance=>.builtin "isinstance"
 | .str=>.type "str"
 | .all=>.builtin "all"
 | .int=>.type "int"
section
variable {T:Top} {fs:List Addr} {L:Option Addr} {A:Around} {g:G} {σ:Store} {s:Shared} {fe:List Env} {hd:Bool} {n:Nat}
theorem Gx {v:V} {y:Str} (h:A3 v=some y):v=.d (.str y):=by
 cases v with
 | d x=>cases x with
  | str z=>rw [Option.some.inj (show some z=some y from h)]
  | _=>exact Ab h
 | _=>exact Ab h
theorem isBoolV_rep {v:V} {x:Value} {b:Bool} (r:Aj T g v x) (h:isBoolV v=some b):x=.bool b:=by
 cases v with
 | d y=>cases y with
  | bool z=>rw [<-Option.some.inj (show some z=some b from h)]; exact r
  | _=>exact Ab h
 | _=>exact Ab h
theorem Gk:∀ {vs:List V} {xs:List Value} {ss:List Str},RepVs T g vs xs->CJ vs=some ss->PyProof.Rows.StrsAre xs ss/\(∀ y∈ss,y.length<=line)/\vs=ss.map (fun y=>.d (.str y)):=by
 intro vs
 induction vs with
 | nil =>
  intro xs ss r e
  induction xs with
  | cons _ _=>exact r.elim
  | nil=>rw [<-Option.some.inj e]; exact ⟨.nil,fun _ h=>(nomatch h),rfl⟩
 | cons v vs ih =>
  intro xs ss r e
  induction xs with
  | nil=>exact r.elim
  | cons x xs =>
  have e:(match A3 v with | some x=>(match CJ vs with | some xs=>some (x::xs) | none=>none) | none=>none)=some ss:=e
  induction ev:A3 v with
  | none=>rw [ev] at e; exact Ab e
  | some y=>induction er:CJ vs with
  | none=>rw [ev,er] at e; exact Ab e
  | some ss' =>
   rw [ev,er] at e
   rw [<-Option.some.inj e]
   obtain ⟨t,rfl,hl⟩:=AC r.1 ev
   obtain ⟨h1,h2,h3⟩:=ih r.2 er
   refine ⟨.cons y t h1,fun z hz=>?_,by rw [Gx ev,h3]; rfl⟩
   rcases List.mem_cons.mp hz with rfl | hz
   ·exact hl
   ·exact h2 z hz
theorem boolsV_rep:∀ {vs:List V} {xs:List Value} {bs:List Bool},RepVs T g vs xs->DG vs=some bs->xs=bs.map Value.bool:=by
 intro vs
 induction vs with
 | nil =>
  intro xs ss r e
  induction xs with
  | cons _ _=>exact r.elim
  | nil=>rw [<-Option.some.inj e]; rfl
 | cons v vs ih =>
  intro xs ss r e
  induction xs with
  | nil=>exact r.elim
  | cons x xs =>
  have e:(match isBoolV v with | some x=>(match DG vs with | some xs=>some (x::xs) | none=>none) | none=>none)=some ss:=e
  induction ev:isBoolV v with
  | none=>rw [ev] at e; exact Ab e
  | some y=>induction er:DG vs with
  | none=>rw [ev,er] at e; exact Ab e
  | some ss' =>
   rw [ev,er] at e
   rw [<-Option.some.inj e,isBoolV_rep r.1 ev,ih r.2 er]; rfl
theorem range_all:∀ (bs:List Bool),(List.range bs.length).all (fun i=>bs[i]?.getD false)=bs.all id
 | []=>rfl
 | b::bs=>by
  rw [List.length_cons,List.range_succ_eq_map,List.all_cons,List.all_map,List.all_cons,<-range_all bs]
  rfl
theorem Fs {o:Option O} (h:isListO o=true):∃ ws,o=some (.list ws):=by
 induction o with
 | none=>exact (Bool.false_ne_true h).elim
 | some o=>induction o with
  | dead=>exact (Bool.false_ne_true h).elim
  | list ws=>exact ⟨ws,rfl⟩
theorem sim_all {v:V} {x:Value} (ha:AOk fe hd n A) (st:St T g σ s.heap) (rx:Aj T g v x):Sim T fs L A g s (call (.builtin "all") [x]) (Aj T) (bAll hd v σ):=by
 unfold bAll
 induction e:B5 σ v with
 | none=>exact Sim.bad
 | some ws =>
 obtain ⟨a,ys,rfl,hL,hr,hl⟩:=C5 st rx e
 show Sim T fs L A g s _ _ (match DG ws with | some bs=>if hd=false then (.ok (V.d (.bool (bs.all id))) σ:Res V) else .bad | none=>.bad)
 induction eb:DG ws with
 | none=>exact Sim.bad
 | some bs =>
 show Sim T fs L A g s _ _ (if hd=false then (.ok (V.d (.bool (bs.all id))) σ:Res V) else .bad)
 induction hd with
 | true=>exact Sim.bad
 | false =>
 rw [if_pos rfl]
 have hb:=boolsV_rep hr eb
 have hsz:ys.size=bs.length:=by rw [<-Array.length_toList,hb,List.length_map]
 refine Sim.of (call_all_walk (wpAny_pyIter_list hL ?_))
 obtain ⟨ol,hol,hcl,nl,hdl⟩:=id hL
 have hne:a≠s.heap.objs.size:=Nat.ne_of_lt (Heap.lt_size hol)
 refine ⟨_,_,_,_,_,_,fun i=>bs[i]?.getD false,rfl,Walks.list (A:=A.in1) (show A.in1.handled=none from ha.handled rfl) s.heap.objs.size a hne ys,⟨⟨_,Heap.get?_push_size _ rfl,rfl,rfl⟩,⟨ol,Heap.get?_push_of_some _ hol,hcl,nl,hdl⟩⟩,?_,fun h' tk hk=>?_⟩
 ·intro i w s' Q E hw hq
  have hw:ys.toList[i]? = some w:=by exact Array.getElem?_toList.trans hw
  have hq:Q (bs[i]?.getD false) s':=hq
  rw [hb,List.getElem?_map] at hw
  induction ebi:bs[i]? with
  | none=>rw [ebi] at hw; exact Ab hw
  | some c =>
   rw [ebi] at hw hq
   have hw:Value.bool c=w:=Option.some.inj hw
   rw [<-hw]
   exact wpAny_truthy_bool hq
 ·rw [hsz,range_all]
  refine ⟨g,.grow st fun b o e=>hk b o (fun q=>?_) (Heap.get?_push_of_some _ e),rfl⟩
  rw [List.mem_singleton.mp q,BA] at e; exact Ab e
set_option tactic.hygienic true in
theorem sim_int {v:V} {x:Value} (st:St T g σ s.heap) (rx:Aj T g v x):Sim T fs L A g s (call (.type "int") [x]) (Aj T) (bInt v σ):=by
 unfold bInt
 induction e:A3 v with
 | none=>exact Sim.bad
 | some y =>
 obtain ⟨t,rfl,_⟩:=AC rx e
 show Sim T fs L A g s _ _ (match intText? y with | some n=>if y.length<=640 then (.ok (V.d (.int n)) σ:Res V) else .bad | none=>.bad)
 induction en:intText? y with
 | none=>exact Sim.bad
 | some k =>
 show Sim T fs L A g s _ _ (if y.length<=640 then (.ok (V.d (.int k)) σ:Res V) else .bad)
 split
 ·rename_i hl
  exact Sim.ofTok st fun Q h=>W.KIN.call_text en hl (h _ _ ⟨_,rfl⟩)
 ·exact Sim.bad
theorem sim_isTy {v:V} {x:Value} {t:String} {b:Bool} (st:St T g σ s.heap) (rx:Aj T g v x) (hb:isTy σ v t=some b):Sim T fs L A g s (call (.builtin "isinstance") [x,.type t]) (Aj T) (.ok (.d (.bool b)) σ):=by
 refine Sim.ofTok st fun Q h=>?_
 have h:∀ k,Q (.bool b) { s with toks:=k }:=fun k=>h _ k rfl
 have seq:∀ {cl:String} {P:List Value->Prop} {k:Nat},SeqIs g.fz cl x P k->s.TypeIs x cl:=fun {cl P k} ⟨a,o,ys,k',e,q2,q3,q4,q5,q6⟩=>by rw [e]; exact ⟨_,st.fz _ _ q2,q3⟩
 cases v with
 | d y=>cases y with
  | tuple _ =>
   obtain ⟨rfl,rfl⟩:=Cg hb
   exact call_isinstance (isinstance_true (Tx := "tuple") (by kernel_rfl) (by rw [isSubtype_type]; kernel_rfl)) ⟨seq rx,h s.toks⟩
  | list _ =>
   obtain ⟨rfl,rfl⟩:=Cg hb
   exact call_isinstance (isinstance_true (Tx := "list") (by kernel_rfl) (by rw [isSubtype_type]; kernel_rfl)) ⟨seq rx,h s.toks⟩
  | str _ =>
   obtain ⟨rfl,rfl⟩:=Cg hb
   obtain ⟨t,rfl,_⟩:=rx
   exact call_isinstance (isinstance_true (Tx := "str") (by kernel_rfl) (by rw [isSubtype_type]; kernel_rfl)) ⟨typeIs_str _ _ _,h s.toks⟩
  | int _ =>
   obtain ⟨u,rfl⟩:=rx
   have hb:(if t = "int" then some true else if t = "bool" then some false else none)=some b:=hb
   by_cases q:t = "int"
   ·rw [if_pos q] at hb
    subst q
    rw [<-Option.some.inj hb] at h
    exact call_isinstance (isinstance_true (Tx := "int") (by kernel_rfl) (by rw [isSubtype_type]; kernel_rfl)) ⟨typeIs_int _ _ _,h s.toks⟩
   ·rw [if_neg q] at hb
    obtain ⟨rfl,rfl⟩:=Cg hb
    exact call_isinstance (isinstance_false_int (by decide) (by kernel_rfl) (by rw [isSubtype_type]; kernel_rfl)) (h _)
  | bool c =>
   obtain ⟨rfl,rfl⟩:=Cg hb
   have rx:x=.bool c:=rx
   subst rx
   exact call_isinstance (isinstance_true (Tx := "bool") (by kernel_rfl) (by rw [isSubtype_type]; kernel_rfl)) ⟨typeIs_bool _ _,h s.toks⟩
  | _=>exact Ab hb
 | tup _ =>
  obtain ⟨rfl,rfl⟩:=Cg hb
  exact call_isinstance (isinstance_true (Tx := "tuple") (by kernel_rfl) (by rw [isSubtype_type]; kernel_rfl)) ⟨seq rx,h s.toks⟩
 | ref k =>
  obtain ⟨⟨q,rfl⟩,rfl⟩:=Cg hb
  obtain ⟨ws,e⟩:=Fs q
  obtain ⟨a,hk,rfl⟩:=rx
  obtain ⟨o,ho,ys,m',q,hr,hl⟩:=st.ob k a _ hk e
  exact call_isinstance (isinstance_true (Tx := "list") (by kernel_rfl) (by rw [isSubtype_type]; kernel_rfl)) ⟨⟨o,ho,by rw [q]⟩,h s.toks⟩
 | _=>exact Ab hb
theorem GB {xs:List Value} {ss:List Str} (h:PyProof.Rows.StrsAre xs ss) (hl:∀ y∈ss,y.length<=line):RepVs T g (ss.map fun y=>.d (.str y)) xs:=by
 induction h with
 | nil=>exact trivial
 | cons y t h ih=>exact ⟨⟨t,rfl,hl y (List.mem_cons_self ..)⟩,ih fun z hz=>hl z (List.mem_cons_of_mem _ hz)⟩
noncomputable def IsiOk (T:Top) (isExc:Nat->Nat->Option Bool):Prop :=
 ∀ (c k:Nat) (b:Bool) (w:Value),isExc c k=some b->T.cls k=some w->∀ (A:Around) (Q:Value->Shared->Prop) (E:Value->Shared->Prop) (s:Shared) (e:Addr) (o:Obj),
  (∀ b o,T.h0.get? b=some o->s.heap.get? b=some o)->s.heap.get? e=some o->(T.cls (kl c)=some o.cls/\o.dict=none/\∃ ws,o.data=.fields ws)->(∀ tk,Q (.bool b) { s with toks:=tk })->wpAny (model T.prog T.w) A (call (.builtin "isinstance") [.ref e,w]) Q E s
theorem str_one {x:Str} {c:Nat} (e:x.cps.toList=[c]):x=⟨#[c]⟩:=by
 cases x; exact congrArg Str.mk (Array.toList_inj.mp e)
theorem one_of {v:V} {xs:List Value} (r:RepVs T g [v] xs):∃ x,xs=[x]/\Aj T g v x:=by
 rcases xs with _ | ⟨x,_ | ⟨y,l⟩⟩
 ·exact r.elim
 ·exact ⟨x,rfl,r.1⟩
 ·exact r.2.elim
theorem two_of {v w:V} {xs:List Value} (r:RepVs T g [v,w] xs):∃ x y,xs=[x,y]/\Aj T g v x/\Aj T g w y:=by
 rcases xs with _ | ⟨x,l⟩
 ·exact r.elim
 ·obtain ⟨y,e,ry⟩:=one_of r.2
  exact ⟨x,y,by rw [e],r.1,ry⟩
set_option tactic.hygienic true in
set_option tactic.hygienic true in
theorem sim_bcall {isExc:Nat->Nat->Option Bool} (isi:IsiOk T isExc) (ok:TopOk T) (b:Bi) (fz:Bool) {vs:List V} {xs:List Value} (ha:AOk fe hd n A) (st:St T g σ s.heap) (r:RepVs T g vs xs) :
 Sim T fs L A g s (call (Dn b) xs) (Aj T) (bcall isExc hd b fz vs σ):=by
 rcases vs with _ | ⟨v,_ | ⟨w,_ | ⟨u,t⟩⟩⟩
 ·exact Sim.bad
 ·obtain ⟨x,rfl,rx⟩:=one_of r
  induction b with
  | len =>
   show Sim _ _ _ _ _ _ _ _ (bLen v σ)
   unfold bLen
   induction es:A3 v with
   | some x' =>
    obtain ⟨t,rfl,hl⟩:=AC rx es
    exact Sim.ofTok st fun Q h=>P.len_str (by have:=Fp hl; lia) (h _ _ ⟨_,rfl⟩)
   | none =>
    induction e:Dt σ v with
    | none=>exact Sim.bad
    | some vs' =>
     obtain ⟨a,o,ys,k,rfl,ho,hc,hd,hr,hl⟩:=EJ st rx e
     have hn:vs'.length=ys.size:=by exact hr.length
     refine Sim.ofTok st fun Q h=>?_
     rw [hn] at h
     rcases hc with hc | hc
     ·exact PyProof.Rows.len_list ⟨o,ho,hc,k,hd⟩ (Fp hl) (h _ _ ⟨_,rfl⟩)
     ·exact PyProof.Rows.len_tuple ⟨o,ho,hc,k,hd⟩ (Fp hl) (h _ _ ⟨_,rfl⟩)
  | ord =>
   show Sim _ _ _ _ _ _ _ _ (bOrd v σ)
   unfold bOrd
   induction es:A3 v with
   | none=>exact Sim.bad
   | some x' =>
    obtain ⟨t,rfl,hl⟩:=AC rx es
    dsimp only
    induction e:x'.cps.toList with
    | nil=>exact Sim.bad
    | cons c r=>cases r with
     | cons _ _=>exact Sim.bad
     | nil =>
      obtain rfl:x'=⟨#[c]⟩:=str_one e
      exact Sim.ofTok st fun Q h=>P.ord_of_char (h _ _ ⟨_,rfl⟩)
  | str =>
   show Sim _ _ _ _ _ _ _ _ (match Az v with | some i=>if i.natAbs < 1000000000000 then (.ok (V.d (.str (strOf i))) σ:Res V) else .bad | none=>.bad)
   induction e:Az v with
   | none=>exact Sim.bad
   | some i =>
    obtain ⟨t,rfl⟩:=AN rx e
    show Sim _ _ _ _ _ _ _ _ (if i.natAbs < 1000000000000 then (.ok (V.d (.str (strOf i))) σ:Res V) else .bad)
    split
    ·rename_i hi
     refine Sim.ofTok st fun Q h=>P.str_of_int ?_ (h _ _ ⟨_,rfl,?_⟩)
     ·by_cases h0:i.natAbs=0
      ·rw [h0]; decide
      ·exact Nat.lt_trans ((Nat.log2_lt (k:=40) h0).mpr (Nat.lt_trans hi (by decide))) (by decide)
     ·have h10:=int_text_length_le10 (a:=i) (k:=12) (by decide) hi
      show (Str.ofString (toString i)).length<=line
      rw [ofString_length]
      unfold line
      lia
    ·exact Sim.bad
  | sorted =>
   show Sim _ _ _ _ _ _ _ _ (bSort fz v σ)
   unfold bSort
   split
   ·rename_i vs' e
    obtain ⟨a,ys,rfl,hL,hr,hl⟩:=C5 st rx e
    split
    ·rename_i ss es
     split
     ·rename_i h64
      obtain ⟨h1,h2,h3⟩:=Gk hr es
      intro hb
      have hlen:ys.toList.length < 64:=by rw [<-hr.length,h3,List.length_map]; exact h64
      refine PyProof.Rows.sorted_strs (vs:=ys.toList) hL h1 hlen fun out ss' a1 a2 a3=>?_
      have e1:ss'=CG ss:=DB (Du _ a3) (De _) (a2.trans (Ea ss).symm)
      obtain ⟨k,hk⟩:=PyProof.Rows.sortedAll_at s.heap ys.toList out
      refine CZ (s':={ s with heap:=PyProof.Rows.sortedAll s.heap ys.toList out }) st (fun b x e=>PyProof.Rows.sortedAll_old e) hk (Heap.get?_none_of_le (Nat.le_succ _)) ?_ hb
      rw [<-e1]
      exact GB a1 fun z hz=>h2 z (a2.mem_iff.mp hz)
     ·exact Sim.bad
    ·exact Sim.bad
   ·exact Sim.bad
  | all=>exact sim_all ha st rx
  | int=>exact sim_int st rx
  | _=>exact Sim.bad
 ·obtain ⟨x,y,rfl,rx,ry⟩:=two_of r
  induction b with
  | min =>
   show Sim _ _ _ _ _ _ _ _ (match Az v,Az w with | some i,some j=>if hd then .bad else (.ok (V.d (.int (if j < i then j else i))) σ:Res V) | _,_=>.bad)
   induction e1:Az v with
   | none=>exact Sim.bad
   | some i=>induction e2:Az w with
    | none=>exact Sim.bad
    | some j =>
     obtain ⟨t,rfl⟩:=AN rx e1
     obtain ⟨u,rfl⟩:=AN ry e2
     show Sim _ _ _ _ _ _ _ _ (if hd then .bad else (.ok (V.d (.int (if j < i then j else i))) σ:Res V))
     induction hd with
     | true=>exact Sim.bad
     | false =>
      simp only [Bool.false_eq_true,if_false]
      refine Sim.of (min_two_ints (ha.handled rfl) fun h' tk hk=>⟨g,.grow st hk,?_⟩)
      split
      ·exact ⟨u,rfl⟩
      ·exact ⟨t,rfl⟩
  | isinstance =>
   show Sim _ _ _ _ _ _ _ _ (bIsi isExc v w σ)
   unfold bIsi
   cases w with
   | cls k=>cases v with
    | exc c =>
     obtain ⟨e,o,rfl,ho,hc⟩:=rx
     show Sim _ _ _ _ _ _ _ _ (match isExc c k with | some b=>(.ok (V.d (.bool b)) σ:Res V) | none=>.bad)
     induction hb:isExc c k with
     | none=>exact Sim.bad
     | some b'=>exact Sim.ofTok st fun Q h=>isi _ _ _ _ hb ry A Q _ s e o st.keepsBase (st.fz _ _ ho) hc fun tk=>h _ tk rfl
    | _=>exact Sim.bad
   | ty t =>
    have ry:y=.type t:=ry
    subst ry
    show Sim _ _ _ _ _ _ _ _ (match isTy σ v t with | some b=>(.ok (V.d (.bool b)) σ:Res V) | none=>.bad)
    induction hb:isTy σ v t with
    | none=>exact Sim.bad
    | some b'=>exact sim_isTy st rx hb
   | _=>exact Sim.bad
  | _=>exact Sim.bad
 ·exact Sim.bad
end
end Mine.Internal
namespace Mine.Internal
open PySem PySem.Calls
inductive HExc (g:G) (hd:Option Value):Prop
 | mk (b:Addr) (h1:hd=some (.ref b)) (h2:CT g (.ref b)):HExc g hd
noncomputable def HOk (g:G) (A:Around):Prop:=A.handled=none\/HExc g A.handled
theorem HOk.mono {g g':G} {A:Around} (h:HOk g A) (le:G.le g g'):HOk g' A :=
 h.imp id fun hz_=>by obtain ⟨b,h1,h2⟩:=hz_; exact ⟨b,h1,h2.mono le⟩
theorem HOk.in1 {g:G} {A:Around} (h:HOk g A):HOk g A.in1:=h
inductive Reach (g:G):Value->Value->Prop
 | refl (v:Value):Reach g v v
 | step {b:Addr} {o:Obj} {vs:Array Value} {v w:Value} (h1:g.fz b=some o) (h2:o.data=.fields vs) (h3:vs[2]? = some v) (h4:Reach g v w):Reach g (.ref b) w
theorem Reach.next {g:G} {b:Addr} {o:Obj} {vs:Array Value} {u v:Value} (h:Reach g u (.ref b)) (h1:g.fz b=some o) (h2:o.data=.fields vs) (h3:vs[2]? = some v):∃ b' o' vs' v',u=.ref b'/\g.fz b'=some o'/\o'.data=.fields vs'/\vs'[2]? = some v'/\Reach g v' v:=by
 generalize hw:Value.ref b=w at h
 induction h with
 | refl=>subst hw; exact ⟨b,o,vs,v,rfl,h1,h2,h3,.refl _⟩
 | step k1 k2 k3 _ ih =>
  obtain ⟨b',o',vs',v',rfl,e1,e2,e3,e4⟩:=ih hw
  exact ⟨_,_,_,_,rfl,k1,k2,k3,.step e1 e2 e3 e4⟩
theorem entry_unchain:entryFor table "proto.unchain" = some Builtin.«proto.unchain»:=entryFor_of_fast (by kernel_rfl)
theorem plain_unchain:plainId "proto.unchain" = true:=by decide +kernel
section
variable {prog:Program} {w:World} {A:Around} {E:Value->Shared->Prop} {s:Shared}
theorem Fc (args:Args):(Code.builtin "proto.unchain" args).quiet=true:=Code.quiet_builtin _ (by decide +kernel)
theorem unchain_any {g:G} {a:Addr} {R:Result->Shared->Prop} (fz:∀ a o,g.fz a=some o->s.heap.get? a=some o) (hn:g.fz a=none) (hR:R (.ok (.ret .none)) s):∀ {o:Value},CT g o->∀ (slow:Value) (tg:Bool),o≠.none->(tg=false->Reach g slow o) ->
 (tg=true->∃ b' o' vs' v',slow=.ref b'/\g.fz b'=some o'/\o'.data=.fields vs'/\vs'[2]? = some v'/\Reach g v' o)->codeAny (model prog w) A (.builtin "proto.unchain" ⟨[.ref a,o,slow,.bool tg],[]⟩) R s:=by
 intro o hc
 induction hc with
 | none=>intro slow tg h; exact absurd rfl h
 | @one b ob vs v h1 h2 h3 h4 ih =>
  intro slow tg _ hf ht
  refine codeAny_builtin entry_unchain ?_
  rw [Around.under_plainId plain_unchain]
  unfold Builtin.«proto.unchain»
  show wpAny _ _ (field (.ref b) 2>>=_) _ _ _
  refine wpAny_bind (wpAny_field (fz _ _ h1) h2 h3 ?_)
  cases h4 with
  | none=>exact wpAny_pure hR
  | @one b2 o2 vs2 v₂ k1 k2 k3 k4 =>
   have hba:b2≠a:=fun q=>by rw [q,hn] at k1; exact Ab k1
   show wpAny _ _ (if (Value.ref b2 == Value.none)=true then _ else _) _ _ _
   rw [if_neg (by simp)]
   show wpAny _ _ (if (Value.ref b2 == Value.ref a)=true then _ else _) _ _ _
   rw [if_neg (by simp [hba])]
   show wpAny _ _ (if (Value.ref b2 == slow)=true then _ else _) _ _ _
   split
   ·exact wpAny_bind (wpAny_rule (wpAny_pure hR))
   ·cases tg with
    | false =>
     show wpAny _ _ (pure slow>>=_) _ _ _
     refine wpAny_bind (wpAny_pure (wpAny_pure ⟨Fc _,ih slow true (by simp) (fun h=>by exact tt_ h) fun _=>?_⟩))
     exact (hf rfl).next h1 h2 h3
    | true =>
     obtain ⟨b',o',vs',v',rfl,e1,e2,e3,e4⟩:=ht rfl
     show wpAny _ _ (field (.ref b') 2>>=_) _ _ _
     refine wpAny_bind (wpAny_field (fz _ _ e1) e2 e3 (wpAny_pure ⟨Fc _,ih v' false (by simp) (fun _=>?_) fun h=>by exact ff_ h⟩))
     obtain ⟨b5,o5,vs5,v5,rfl,f1,f2,f3,f4⟩:=e4.next h1 h2 h3
     exact .step f1 f2 f3 f4
theorem FK {α:Type} {g:G} {a:Addr} {o:Obj} {vs:Array Value} {Q:α->Shared->Prop} (hH:HOk g A) (fz:∀ a o,g.fz a=some o->s.heap.get? a=some o)
 (ho:s.heap.get? a=some o) (hd:o.data=.fields vs) (hs:2 < vs.size) (hn:g.fz a=none)
 (h:∀ h' o',Heap.SameBut a s.heap h'->h'.get? a=some o'->o'.cls=o.cls->o'.dict=o.dict->((A.handled=none/\o'.data=.fields vs)\/∃ b,CT g (.ref b)/\A.handled≠none/\o'.data=.fields (vs.setIfInBounds 2 (.ref b)))->E (.ref a) { s with heap:=h' }) :
 wpAny (model prog w) A (raiseNew (.ref a):Sem α) Q E s:=by
 unfold raiseNew
 refine wpAny_bind (wpAny_handled ?_)
 rcases hH with hh | ⟨b,hh,hb⟩
 ·rw [hh]
  exact wpAny_bind (wpAny_pure (wpAny_throw (h s.heap o (Heap.SameBut.refl ..) ho rfl rfl (.inl ⟨hh,hd⟩))))
 ·rw [hh]
  have hne:b≠a:=fun q=>by
   cases hb with | one h1 _ _ _=>rw [q,hn] at h1; exact Ab h1
  have hne':((Value.ref b) != (Value.ref a))=true:=by simp [hne]
  show wpAny _ _ (if (Value.ref b != Value.ref a)=true then _ else _) _ _ _
  rw [if_pos hne']
  refine wpAny_bind (wpAny_holding (wpAny_runValue (unchain_any fz hn ?_ hb _ _ (by simp) (fun _=>.refl _) fun q=>by exact ff_ q)))
  show wpAny _ _ (updateField a 2 (.ref b)>>=_) _ _ _
  refine wpAny_bind ?_
  refine wpAny_setField (s:=s) ho hd hs ?_
  refine wpAny_throw (h _ _ (Heap.SameBut.update ..) (Heap.get?_update_self _ ho (Obj.isFreed_of_fields (Obj.data_mapFields hd _))) (Obj.cls_mapFields ..) (by unfold Obj.mapFields; split <;> rfl) (.inr ⟨b,hb,by rw [hh]; simp,Obj.data_mapFields hd _⟩))
end
section
variable {T:Top} {X X' fs own:List Addr} {g g':G} {σ σ':Store} {s s':Shared} {fe:List Env} {wr:List Str} {env:Env} {vars:List Str} {ρ:Au} {A:Around} {E:Value->Shared->Prop}
theorem Step.wide (x:Step T X fs g s g' σ' s') (h:∀ a,a∈X->a∈X'):Step T X' fs g s g' σ' s' :=
 ⟨x.le,x.st,⟨x.kept.alive,fun b o e nb nf=>x.kept.same b o e (fun q=>nb (h b q)) nf,fun b o e nb hf=>x.kept.slots b o e (fun q=>nb (h b q)) hf⟩,x.new,x.gens,x.os⟩
theorem Step.transW {g'':G} {s'':Shared} {σ'':Store} (x:Step T X fs g s g' σ' s') (y:Step T X' fs g' s' g'' σ'' s'') (h:∀ a,a∈X'->a∈X\/s.heap.get? a=none):Step T X fs g s g'' σ'' s'' :=
 ⟨x.le.trans y.le,y.st,x.kept.trans y.kept h,x.new.trans y.new fun _ e=>x.kept.dead e,y.gens.trans x.gens,y.os.trans x.os⟩
theorem Step.transO {g'':G} {s'':Shared} {σ'':Store} (x:Step T (g.mu++own) fs g s g' σ' s') (y:Step T (g'.mu++own) fs g' s' g'' σ'' s''):Step T (g.mu++own) fs g s g'' σ'' s'' :=
 x.transW y fun a h=>(List.mem_append.mp h).elim (fun h=>(x.new.mu a h).imp (fun h=>List.mem_append.mpr (.inl h)) id) fun h=>.inl (List.mem_append.mpr (.inr h))
theorem Step.toO (x:Step T g.mu fs g s g' σ' s'):Step T (g.mu++own) fs g s g' σ' s':=x.wide fun _ h=>List.mem_append.mpr (.inl h)
theorem Step.extBut (st:St T g σ s.heap) {a:Addr} (ha:Bq g s.heap a) (hX:a∈X) (h:Heap.ExtBut a s.heap s'.heap) (hal:∃ o,s'.heap.get? a=some o)
 (hg:s'.gens=s.gens:=by rfl) (ho:s'.os=s.os:=by rfl):Step T X fs g s g σ s':=by
 have kp:∀ b o,s.heap.get? b=some o->b≠a->s'.heap.get? b=some o:=fun b o e q=>h b o q e
 refine ⟨.refl g,⟨fun b o e=>kp b o (st.fz b o e) fun q=>?_,st.len,st.nd,st.ap,fun k b o e1 e2=>?_,st.base⟩,⟨fun b o e=>?_,fun b o e nb _=>kp b o e fun q=>nb (q▸hX),fun b o e nb _=>⟨o.slots,kp b o e fun q=>nb (q▸hX)⟩⟩,.refl ..,hg,ho⟩
 ·rw [q,ha.1] at e; exact Ab e
 ·obtain ⟨x,h1,h2⟩:=st.ob k b o e1 e2
  exact ⟨x,kp b x h1 fun q=>ha.2.1 (q▸List.mem_of_getElem? e1),h2⟩
 ·by_cases q:b=a
  ·rw [q]; exact hal
  ·exact ⟨o,kp b o e q⟩
theorem Step.sameBut (st:St T g σ s.heap) {a:Addr} (ha:Bq g s.heap a) (hX:a∈X) (h:Heap.SameBut a s.heap s'.heap) (hal:∃ o,s'.heap.get? a=some o)
 (hg:s'.gens=s.gens:=by rfl) (ho:s'.os=s.os:=by rfl):Step T X fs g s g σ s':=.extBut st ha hX h.extBut hal hg ho
theorem ns_cell_ne {h:Heap} {a c:Addr} {m:Str->Option Value} {v:Option Value} (hn:h.Ns a m) (hc:h.IsCell c v):a≠c:=by
 obtain ⟨o,es,ep,ho,hd,_⟩:=hn
 obtain ⟨o',ho',hd'⟩:=hc
 intro q; subst q
 rw [ho] at ho'; exfalso; cases ho'
 rw [hd] at hd'; exfalso; cases hd'
theorem ns_uniq {h:Heap} {a:Addr} {m m':Str->Option Value} (h1:h.Ns a m) (h2:h.Ns a m'):m=m':=by
 refine E7 fun R_ k_=>?_
 obtain ⟨o,es,ep,ho,hd,_,hq⟩:=h1
 obtain ⟨o',es',ep',ho',hd',_,hq'⟩:=h2
 obtain rfl:=Option.some.inj (ho.symm.trans ho')
 rw [hd] at hd'; cases hd'
 refine k_ ?_
 funext n
 rw [<-hq,<-hq']
theorem BI.sameBut {h h':Heap} {a:Addr} (hs:Heap.SameBut a h h') (ho:∃ o,h'.get? a=some o/\∀ vs,o.data≠.fields vs):∀ {l:List Env},BI g h l->BI g h' l
 | [],_=>trivial
 | _::_,⟨k,⟨L,o,hf,hl,hd,h1,h2⟩,r⟩=>by
  refine ⟨k,?_,BI.sameBut hs ho r⟩
  by_cases q:L=a
  ·obtain ⟨o',e1,e2⟩:=ho
   exact ⟨L,o',hf,q▸e1,e2,h1,h2⟩
  ·exact ⟨L,o,hf,(hs.2 L q).trans hl,hd,h1,h2⟩
theorem Bq.sameBut {h h':Heap} {a b:Addr} (hs:Heap.SameBut a h h') (ho:∃ o,h'.get? a=some o) (x:Bq g h b):Bq g h' b:=by
 refine ⟨x.1,x.2.1,?_⟩
 by_cases q:b=a
 ·rw [q]; exact ho
 ·obtain ⟨o,e⟩:=x.2.2; exact ⟨o,(hs.2 b q).trans e⟩
theorem vars_get {ρ:Au} {i j:Nat} {v:V} {w:Option V} (h:(ρ.set i w)[j]? = some (some v)):(j=i/\w=some v)\/(j≠i/\ρ[j]? = some (some v)):=by
 by_cases q:i=j
 ·subst q
  rw [List.getElem?_set] at h
  simp only [if_true] at h
  split at h
  ·simp only [Option.some.injEq] at h; exact .inl ⟨rfl,h⟩
  ·exact Ab h
 ·rw [List.getElem?_set_ne q] at h
  exact .inr ⟨fun e=>q e.symm,h⟩
theorem EO {vars:List Str} (hn:vars.Nodup) {i j:Nat} {n:Str} (h1:vars[i]? = some n) (h2:vars[j]? = some n):i=j:=by
 obtain ⟨a,ha⟩:=List.getElem?_eq_some_iff.mp h1
 obtain ⟨b,hb⟩:=List.getElem?_eq_some_iff.mp h2
 exact (List.getElem_inj hn).mp (ha.trans hb.symm)
theorem Inv.setLocal {i:Nat} {n:Str} {v:Option V} {u:Option Value} {m:Str->Option Value} {h':Heap} (I:Inv T fe own wr env vars ρ g σ s.heap) (hi:vars[i]? = some n) (hk:env.kindOf n=some .local)
 (hm:s.heap.Ns env.locals m) (hn:h'.Ns env.locals (fun x=>if x=n then u else m x)) (hs:Heap.SameBut env.locals s.heap h') (hr:∀ w,v=some w->∃ x,u=some x/\Aj T g w x) :
 Inv T fe own wr env vars (ρ.set i v) g σ h'/\∀ s':Shared,s'.heap=h'->s'.gens=s.gens->s'.os=s.os->Step T (g.mu++own) fs g s g σ s':=by
 refine E7 fun R_ k_=>?_
 obtain ⟨o,es,ep,ho,hd,hrest⟩:=id hn
 have al:∃ o,h'.get? env.locals=some o:=⟨o,ho⟩
 have nf:∃ o,h'.get? env.locals=some o/\∀ vs,o.data≠.fields vs:=⟨o,ho,fun vs q=>by rw [hd] at q; exfalso; cases q⟩
 have stp:∀ s':Shared,s'.heap=h'->s'.gens=s.gens->s'.os=s.os->Step T (g.mu++own) fs g s g σ s':=fun s' e1 e2 e3 =>
  Step.sameBut I.st I.blk.loc (List.mem_append.mpr (.inr I.oloc)) (by rw [e1]; exact hs) (by rw [e1]; exact al) e2 e3
 have hc:∀ c w,s.heap.IsCell c w->h'.IsCell c w:=fun c w q=>by
  refine E7 fun R_ k_=>?_
  obtain ⟨oc,h1,h2⟩:=id q
  refine k_ ?_
  exact ⟨oc,(hs.2 c (Ne.symm (ns_cell_ne hm q))).trans h1,h2⟩
 refine k_ ?_
 refine ⟨⟨(stp { s with heap:=h' } rfl rfl rfl).st,I.fr.sameBut hs nf,I.top,⟨I.blk.kind,I.blk.glob,I.blk.blt,I.blk.loc.sameBut hs al,⟨_,hn⟩,fun k hk'=>?_,I.blk.cinj⟩,?_,I.nd,I.oloc,I.ocell,fun a ha=>(I.oap a ha).sameBut hs al⟩,stp⟩
 ·refine E7 fun R_ k_=>?_; obtain ⟨c,w,h1,h2,h3⟩:=I.blk.cell k hk'
  refine k_ ?_
  exact ⟨c,w,h1,hc c w h2,h3.sameBut hs al⟩
 ·intro j k w hj hw
  rcases vars_get hw with ⟨q,e⟩ | ⟨q,e⟩
  ·subst q
   obtain rfl:=Option.some.inj (hi.symm.trans hj)
   refine E7 fun R_ k_=>?_
   obtain ⟨x,hx,hrx⟩:=hr w e
   refine k_ ?_
   exact ⟨fun _=>⟨_,x,hn,by simp [hx],hrx⟩,fun q=>by rw [hk] at q; rcases q with q | q <;> cases q⟩
  ·have hkn:k≠n:=fun q'=>q (EO I.nd hj (q'▸hi))
   obtain ⟨h1,h2⟩:=I.sees j k w hj e
   refine ⟨fun hl=>?_,fun hl=>?_⟩
   ·refine E7 fun R_ k_=>?_; obtain ⟨m',y,q1,q2,q3⟩:=h1 hl
    have:=ns_uniq hm q1
    refine k_ ?_
    subst this
    exact ⟨_,y,hn,by simp [hkn,q2],q3⟩
   ·refine E7 fun R_ k_=>?_; obtain ⟨c,y,q1,q2,q3⟩:=h2 hl
    refine k_ ?_
    exact ⟨c,y,q1,hc _ _ q2,q3⟩
theorem Inv.setCell {i:Nat} {n:Str} {c:Addr} {v:Option V} {u0 u:Option Value} {h':Heap} (I:Inv T fe own wr env vars ρ g σ s.heap) (hi:vars[i]? = some n) (hw:n∈wr) (hk:env.kindOf n=some .cell)
 (hc:env.cells.lookup n=some c) (h0:s.heap.IsCell c u0) (hn:h'.IsCell c u) (hs:Heap.SameBut c s.heap h') (hr:∀ w,v=some w->∃ x,u=some x/\Aj T g w x) :
 Inv T fe own wr env vars (ρ.set i v) g σ h'/\∀ s':Shared,s'.heap=h'->s'.gens=s.gens->s'.os=s.os->Step T (g.mu++own) fs g s g σ s':=by
 obtain ⟨o,ho,hd⟩:=id hn
 have al:∃ o,h'.get? c=some o:=⟨o,ho⟩
 have nf:∃ o,h'.get? c=some o/\∀ vs,o.data≠.fields vs:=⟨o,ho,fun vs q=>by rw [hd] at q; exfalso; cases q⟩
 obtain ⟨m,hm⟩:=I.blk.ns
 have hne:env.locals≠c:=ns_cell_ne hm h0
 have hap:Bq g s.heap c:=by
  obtain ⟨c',w,h1,_,h3⟩:=I.blk.cell n (.inl hk)
  obtain rfl:=Option.some.inj (hc.symm.trans h1); exact h3
 have stp:∀ s':Shared,s'.heap=h'->s'.gens=s.gens->s'.os=s.os->Step T (g.mu++own) fs g s g σ s':=fun s' e1 e2 e3 =>
  Step.sameBut I.st hap (List.mem_append.mpr (.inr (I.ocell n hw c hk hc))) (by rw [e1]; exact hs) (by rw [e1]; exact al) e2 e3
 have hns:∀ m',s.heap.Ns env.locals m'->h'.Ns env.locals m':=fun m' q=>q.sameBut hs hne
 have hcs:∀ k c' w,env.cells.lookup k=some c'->k≠n->s.heap.IsCell c' w->h'.IsCell c' w:=fun k c' w e q hw=>by
  obtain ⟨oc,h1,h2⟩:=hw
  exact ⟨oc,(hs.2 c' fun q'=>q (I.blk.cinj k n c (q'▸e) hc)).trans h1,h2⟩
 refine ⟨⟨(stp { s with heap:=h' } rfl rfl rfl).st,I.fr.sameBut hs nf,I.top,⟨I.blk.kind,I.blk.glob,I.blk.blt,I.blk.loc.sameBut hs al,⟨_,hns m hm⟩,fun k hk'=>?_,I.blk.cinj⟩,?_,I.nd,I.oloc,I.ocell,fun a ha=>(I.oap a ha).sameBut hs al⟩,stp⟩
 ·obtain ⟨c',w,h1,h2,h3⟩:=I.blk.cell k hk'
  by_cases q:k=n
  ·subst q
   obtain rfl:=Option.some.inj (hc.symm.trans h1)
   exact ⟨c,u,hc,hn,h3.sameBut hs al⟩
  ·exact ⟨c',w,h1,hcs k c' w h1 q h2,h3.sameBut hs al⟩
 ·intro j k w hj hw'
  rcases vars_get hw' with ⟨q,e⟩ | ⟨q,e⟩
  ·subst q
   obtain rfl:=Option.some.inj (hi.symm.trans hj)
   obtain ⟨x,hx,hrx⟩:=hr w e
   exact ⟨fun q=>(by exact absurd (hk.symm.trans q) (by decide)),fun _=>⟨c,x,hc,hx▸hn,hrx⟩⟩
  ·have hkn:k≠n:=fun q'=>q (EO I.nd hj (q'▸hi))
   obtain ⟨h1,h2⟩:=I.sees j k w hj e
   refine ⟨fun hl=>?_,fun hl=>?_⟩
   ·obtain ⟨m',y,q1,q2,q3⟩:=h1 hl
    exact ⟨_,y,hns _ q1,q2,q3⟩
   ·obtain ⟨c',y,q1,q2,q3⟩:=h2 hl
    exact ⟨c',y,q1,hcs k c' _ q1 hkn q2,q3⟩
theorem Dj {env:Env} (hk:env.scope.kind=.function):(env.scope.kind == .class||(env.scope.kind == .module&&env.locals != env.globals))=false:=by rw [hk]; rfl
theorem Fo {prog:Program} {w:World} {i:Nat} {n:Str} {v:V} {x:Value} {Q:Unit->Shared->Prop} (I:Inv T fe own wr env vars ρ g σ s.heap) (hi:vars[i]? = some n) (hw:n∈wr)
 (hk:env.kindOf n=some .local\/env.kindOf n=some .cell) (r:Aj T g v x)
 (h:∀ s',Step T (g.mu++own) fs g s g σ s'->Inv T fe own wr env vars (ρ.set i (some v)) g σ s'.heap->Q () s'):wpAny (model prog w) A (storeName env n x) Q E s:=by
 rcases hk with hk | hk
 ·obtain ⟨m,hm⟩:=I.blk.ns
  refine wpAny_storeName_local hk hm (fun h' hn hs=>?_) (Dj I.blk.kind)
  obtain ⟨I',stp⟩:=Inv.setLocal (fs:=fs) (v:=some v) I hi hk hm hn hs fun w e=>⟨x,rfl,by cases e; exact r⟩
  exact h _ (stp _ rfl rfl rfl) I'
 ·refine E7 fun R_ k_=>?_; obtain ⟨c,u,h1,h2,_⟩:=I.blk.cell n (.inl hk)
  refine k_ ?_
  refine wpAny_storeName_cell I.blk.kind hk h1 h2 fun h' hn hs=>?_
  obtain ⟨I',stp⟩:=Inv.setCell (fs:=fs) (v:=some v) I hi hw hk h1 h2 hn hs fun w e=>⟨x,rfl,by cases e; exact r⟩
  exact h _ (stp _ rfl rfl rfl) I'
theorem load_name {prog:Program} {w:World} {i:Nat} {n:Str} {v:V} {pos:Pos} {Q:Value->Shared->Prop} (I:Inv T fe own wr env vars ρ g σ s.heap) (hi:vars[i]? = some n)
 (hk:env.kindOf n=some .local\/env.kindOf n=some .cell\/env.kindOf n=some .free) (hv:ρ[i]? = some (some v)) (hd:(n == ("__debug__" : Str))=false) (hd':(n == ("__classdict__" : Str))=false)
 (h:∀ x,Aj T g v x->Q x s):wpAny (model prog w) A (eval (.Name n pos) env) Q E s:=by
 obtain ⟨h1,h2⟩:=I.sees i n v hi hv
 refine wpAny_Name ?_ hd
 rcases hk with hk | hk | hk
 ·refine E7 fun R_ k_=>?_; obtain ⟨m,x,hm,hx,hr⟩:=h1 hk
  refine k_ ?_
  exact wpAny_loadName_local I.blk.kind hk hm hx (h x hr)
 ·refine E7 fun R_ k_=>?_; obtain ⟨c,x,hc,hx,hr⟩:=h2 (.inl hk)
  refine k_ ?_
  exact wpAny_loadName_cell I.blk.kind hk hc hx (h x hr)
 ·refine E7 fun R_ k_=>?_; obtain ⟨c,x,hc,hx,hr⟩:=h2 (.inr hk)
  refine k_ ?_
  exact wpAny_loadName_free I.blk.kind hk hc hx (h x hr) hd'
end
noncomputable def BY (av:List Addr) (g:G) (h:Heap) (a:Addr):Prop:=Bq g h a/\a∉av
noncomputable def chrs (cs:List Nat):List V:=cs.map fun c=>.d (.str (chr1 c))
inductive ZipIt (T:Top) (g:G) (h:Heap):Addr->Addr->Addr->Addr->Addr->List V->Prop
 | mk {z TI TO i1 i2 l1 l2:Addr} {k1 k2:Nat} {o1 o2:Obj} {xs ys:Array Value} {n1 n2:Nat} {a b:Value} {vs ws:List V} :
  ZipApart z TI TO i1 i2 l1 l2->IsZip h z TI TO .none->IsPair h TI (.ref i1) (.ref i2)->IsPair h TO a b->h.IsListIter i1 l1 k1->h.IsListIter i2 l2 k2 ->
  g.fz l1=some o1->o1.cls=.type "list" -> o1.data=.seq xs n1->g.fz l2=some o2->o2.cls=.type "list" -> o2.data=.seq ys n2 ->
  RepVs T g vs (xs.toList.drop k1)->RepVs T g ws (ys.toList.drop k2)->ZipIt T g h z TI TO i1 i2 (zipV vs ws)
inductive Dp (T:Top) (av:List Addr) (g:G) (h:Heap):Bool->Bool->List Addr->Addr->Src->Prop
 | list {hd:Bool} {a l:Addr} {i:Nat} {o:Obj} {xs:Array Value} {n:Nat} {vs:List V}:BY av g h a->h.IsListIter a l i->g.fz l=some o->o.cls=.type "list" -> o.data=.seq xs n->RepVs T g vs (xs.toList.drop i)->Dp T av g h hd false [a] a (.items vs)
 | tuple {a l:Addr} {i:Nat} {o:Obj} {xs:Array Value} {n:Nat} {vs:List V}:BY av g h a->h.IsTupleIter a l i->g.fz l=some o->o.cls=.type "tuple" -> o.data=.seq xs n->RepVs T g vs (xs.toList.drop i)->Dp T av g h false false [a] a (.items vs)
 | enum {e it l:Addr} {i:Nat} {old:Value} {o:Obj} {xs:Array Value} {n:Nat} {vs:List V}:BY av g h e->BY av g h it->e≠it->IsEnum h e it i old->h.IsListIter it l i->g.fz l=some o->o.cls=.type "list" -> o.data=.seq xs n->RepVs T g vs (xs.toList.drop i)->Dp T av g h false true [e,it] e (.items (FY i vs))
 | lref {hd:Bool} {a l:Addr} {k i:Nat}:BY av g h a->h.IsListIter a l i->g.mu[k]? = some l->Dp T av g h hd false [a] a (.lref k i)
 | ascii {a:Addr} {x:Str} {t:Tok} {i:Nat}:BY av g h a->h.IsStrIter a "str_ascii_iterator" x t i->Dp T av g h false false [a] a (.items (chrs (x.cps.toList.drop i)))
 | wide {a:Addr} {x:Str} {t:Tok} {i:Nat}:BY av g h a->h.IsStrIter a "str_iterator" x t i->Dp T av g h false false [a] a (.items (chrs (x.cps.toList.drop i)))
 | range {a:Addr} {x:Int} {left:Int}:BY av g h a->IsRangeIter h a x left 1->Dp T av g h false false [a] a (.items (CO x left.toNat))
 | zip {z TI TO i1 i2:Addr} {vs:List V}:BY av g h z->BY av g h TI->BY av g h TO->BY av g h i1->BY av g h i2->ZipIt T g h z TI TO i1 i2 vs->Dp T av g h false true [z,TO,i1,i2,TI] z (.items vs)
section
variable {T:Top} {X fs av:List Addr} {g g':G} {σ σ':Store} {s s':Shared} {A:Around}
theorem BY.step (x:Step T X fs g s g' σ' s') {a:Addr} (h:BY av g s.heap a):BY av g' s'.heap a:=⟨h.1.step x,h.2⟩
theorem BY.same (x:Step T X fs g s g' σ' s') (hX:∀ a,a∈X->a∈g.mu\/a∈av) (hf:∀ a,a∈fs->a∈av) {a:Addr} {o:Obj} (h:BY av g s.heap a) (e:s.heap.get? a=some o):s'.heap.get? a=some o :=
 x.kept.same a o e (fun q=>(hX a q).elim h.1.2.1 h.2) fun q=>h.2 (hf a q)
theorem Dp.step (x:Step T X fs g s g' σ' s') (hX:∀ a,a∈X->a∈g.mu\/a∈av) (hf:∀ a,a∈fs->a∈av) {hd b:Bool} {its:List Addr} {a:Addr} {vs:Src} (I:Dp T av g s.heap hd b its a vs) :
 Dp T av g' s'.heap hd b its a vs:=by
 induction I with
 | list h1 h2 h3 h4 h5 h6=>exact .list (h1.step x) (h2.at fun o e=>h1.same x hX hf e) (x.le.fz _ _ h3) h4 h5 (RepVs.mono x.le _ _ h6)
 | tuple h1 h2 h3 h4 h5 h6=>obtain ⟨o,ho,r⟩:=h2; exact .tuple (h1.step x) ⟨o,h1.same x hX hf ho,r⟩ (x.le.fz _ _ h3) h4 h5 (RepVs.mono x.le _ _ h6)
 | enum z1 z2 ne h1 h2 h3 h4 h5 h6=>exact .enum (z1.step x) (z2.step x) ne (z1.same x hX hf h1) (h2.at fun o e=>z2.same x hX hf e) (x.le.fz _ _ h3) h4 h5 (RepVs.mono x.le _ _ h6)
 | lref h1 h2 h3=>exact .lref (h1.step x) (h2.at fun o e=>h1.same x hX hf e) (x.le.mu _ _ h3)
 | ascii h1 h2=>obtain ⟨o,ho,r⟩:=h2; exact .ascii (h1.step x) ⟨o,h1.same x hX hf ho,r⟩
 | wide h1 h2=>obtain ⟨o,ho,r⟩:=h2; exact .wide (h1.step x) ⟨o,h1.same x hX hf ho,r⟩
 | range h1 h2=>exact .range (h1.step x) (h1.same x hX hf h2)
 | zip z1 z2 z3 z4 z5 h =>
  induction h with
  | mk D hz hTI hTO h1 h2 f1 c1 d1 f2 c2 d2 r1 r2 =>
   exact .zip (z1.step x) (z2.step x) (z3.step x) (z4.step x) (z5.step x)
    (.mk D (z1.same x hX hf hz) (z2.same x hX hf hTI) (z3.same x hX hf hTO) (h1.at fun o e=>z4.same x hX hf e) (h2.at fun o e=>z5.same x hX hf e)
     (x.le.fz _ _ f1) c1 d1 (x.le.fz _ _ f2) c2 d2 (RepVs.mono x.le _ _ r1) (RepVs.mono x.le _ _ r2))
theorem Dp.lone {hd b:Bool} {its:List Addr} {a:Addr} {vs:Src} {h:Heap} (I:Dp T av g h hd b its a vs):∀ c,c∈its->BY av g h c:=by
 induction I with
 | list h1=>intro c hc; rw [List.mem_singleton.mp hc]; exact h1
 | tuple h1=>intro c hc; rw [List.mem_singleton.mp hc]; exact h1
 | enum z1 z2 =>
  intro c hc
  rcases List.mem_cons.mp hc with rfl | hc
  ·exact z1
  ·rw [List.mem_singleton.mp hc]; exact z2
 | lref h1=>intro c hc; rw [List.mem_singleton.mp hc]; exact h1
 | ascii h1=>intro c hc; rw [List.mem_singleton.mp hc]; exact h1
 | wide h1=>intro c hc; rw [List.mem_singleton.mp hc]; exact h1
 | range h1=>intro c hc; rw [List.mem_singleton.mp hc]; exact h1
 | zip z1 z2 z3 z4 z5 h =>
  intro c hc
  simp only [List.mem_cons,List.not_mem_nil,or_false] at hc
  rcases hc with rfl | rfl | rfl | rfl | rfl <;> assumption
end
section
variable {prog:Program} {w:World} {A:Around} {E:Value->Shared->Prop} {s:Shared} {g:G}
theorem Fd {it l:Addr} {i:Nat} {items:Array Value} {Q:Option Value->Shared->Prop} (hH:HOk g A) (fz:∀ a o,g.fz a=some o->s.heap.get? a=some o) (hn:g.fz it=none)
 (hit:s.heap.IsListIter it l i) (hl:s.heap.IsList l items) (hx:items[i]? = none)
 (hQ:∀ h',Heap.ExtBut it s.heap h'->Q none { s with heap:=h' }):wpAny (model prog w) A (pyNext (.ref it)) Q E s:=by
 refine E7 fun R_ k_=>?_
 obtain ⟨o,ho,hc,hd⟩:=id hit
 obtain ⟨ol,hol,_,nl,hdl⟩:=hl
 refine k_ ?_
 unfold pyNext
 refine wpAny_bind (wpAny_attempt (wpAny_callSpecial?_slot (name:=Str.ofString "__next__") hit.typeIs slot_listiter_next
  (wpAny_call_entry slot_listiter_next hit.typeIs entry_listiter_next ?_ (args_listiter_next _))))
 show wpAny _ _ (field (.ref it) 0>>=_) _ _ s
 refine wpAny_bind (wpAny_field ho hd (x:=.ref l) rfl ?_)
 show wpAny _ _ (if (Value.ref l == Value.none)=true then _ else _) _ _ s
 rw [if_neg (show ¬ ((Value.ref l == Value.none)=true) from Bool.false_ne_true)]
 show wpAny _ _ (field (.ref it) 1>>=_) _ _ s
 refine wpAny_bind (wpAny_field ho hd (x:=.int i 0) rfl ?_)
 show wpAny _ _ (seqItems? (.ref l)>>=_) _ _ s
 refine wpAny_bind (wpAny_seqItems hol hdl ?_)
 simp only [Int.toNat_natCast,hx]
 refine wpAny_bind (wpAny_rule (wpAny_bind (wpAny_setField ho hd (by simp) ?_)))
 show wpAny _ _ (newExc (.type "StopIteration") []>>=_) _ _ _
 refine wpAny_bind ?_
 simp only [newExc,newTuple]
 refine wpAny_bind (wpAny_newObj_type ?_ (by size_fits))
 refine wpAny_bind (m:=firstArgMember _ _) (wpAny_of_eq (a:=Value.none) (by first | rfl | (simp only [firstArgMember]; rfl)) ?_)
 refine wpAny_newObj_type ?_ (by size_fits)
 have hsz:∀ (h:Heap) (o:Obj),Heap.SameBut it s.heap h->g.fz (h.push o).objs.size=none:=fun h o hs=>by
  induction e:g.fz (h.push o).objs.size with
  | none=>rfl
  | some ob =>
   have:=Heap.lt_size (fz _ _ e)
   rw [Heap.size_push,hs.1] at this; exact absurd this (Nat.not_lt.mpr (Nat.le_succ _))
 refine FK (g:=g) hH.in1 (fun b ob e=>Heap.get?_push_of_some _ (Heap.get?_push_of_some _ ?_)) (Heap.get?_push_size _ rfl) rfl (Nat.le_of_ble_eq_true rfl) (hsz _ _ ?_) fun h' o' hs' ho' hc' _ _=>?_
 ·exact (Heap.SameBut.update ..).extBut b ob (fun q=>by rw [q,hn] at e; exact Ab e) (fz _ _ e)
 ·exact Heap.SameBut.update ..
 ·refine wpAny_bind (wpAny_isInstance (T := "StopIteration") (b:=true) ⟨o',ho',hc'⟩ isSubtype_stop ?_)
  refine wpAny_pure (hQ _ fun b ob hb e=>?_)
  have:=Heap.lt_size e
  refine (hs'.2 b ?_).trans (Heap.ExtBut.push (Heap.ExtBut.push (Heap.SameBut.update ..).extBut _) _ b ob hb e)
  simp only [Heap.size_push,(Heap.SameBut.update ..).1]
  exact Nat.ne_of_lt (Nat.lt_succ_of_lt this)
theorem no_rule {b c:Bool} {x y:Sem Unit} {Q:Unit->Shared->Prop} (hb:b=false) (h:wpAny (model prog w) A y Q E s):wpAny (model prog w) A (if (b&&c)=true then x else y) Q E s:=by
 rw [hb,Bool.false_and,if_neg Bool.false_ne_true]; exact h
theorem B6 {target:Expr} {a:Addr} {o:Obj} {n:String} {v:Value} {Q:Unit->Shared->Prop} (ho:s.heap.get? a=some o) (hc:o.cls=.type n)
 (hn:["enumerate","zip","dict_itemiterator","dict_reverseitemiterator","odict_iterator","itertools.zip_longest","itertools.pairwise"].contains n=false) (h:Q () s) :
 wpAny (model prog w) A (letOwnedTupleGo target (.ref a) v) Q E s:=by
 have key:∀ v:Addr,wpAny (model prog w) A (letOwnedTupleGo (.List [] default) (.ref a) (.ref v)) Q E s:=fun v=>by
  refine wpAny_bind (wpAny_load ho ?_)
  rw [hc]
  cases o.data <;> first
   | exact wpAny_pure h
   | exact no_rule hn (wpAny_pure h)
 have key2:wpAny (model prog w) A (letOwnedTupleGo (.List [] default) (.ref a) v) Q E s:=by
  cases v <;> first | exact wpAny_pure h | exact key _
 cases target <;> first | exact wpAny_pure h | exact key2
end
section
variable {T:Top} {fs av:List Addr} {g g':G} {σ σ':Store} {s s':Shared} {A:Around} {E:Value->Shared->Prop}
theorem drop_get {α:Type} {xs:List α} {i:Nat} {x:α} {r:List α} (h:xs.drop i=x::r):xs[i]? = some x/\xs.drop (i+1)=r:=by
 have h1:xs[i]? = some x:=by
  have:=congrArg List.head? h
  rw [List.head?_drop] at this
  simpa using this
 refine ⟨h1,?_⟩
 have:=congrArg List.tail h
 rw [List.tail_drop] at this
 simpa using this
theorem drop_none {α:Type} {xs:List α} {i:Nat} (h:xs.drop i=[]):xs[i]? = none:=by
 rw [List.drop_eq_nil_iff] at h
 exact List.getElem?_eq_none h
theorem Dg {T:Top} {g:G} {v:V} {vs:List V} {xs:List Value} (h:RepVs T g (v::vs) xs):∃ x r,xs=x::r/\Aj T g v x/\RepVs T g vs r:=by
 cases xs with
 | nil=>exact h.elim
 | cons x r=>exact ⟨x,r,rfl,h.1,h.2⟩
theorem DO {T:Top} {g:G} {xs:List Value} (h:RepVs T g [] xs):xs=[]:=by
 cases xs with
 | nil=>rfl
 | cons x r=>exact h.elim
theorem pair_step {its:List Addr} {x y:Value} {v u:V} (st:St T g σ s.heap) (L:∀ c,c∈its->BY av g s.heap c) (al:∀ c,c∈its->∃ o,s'.heap.get? c=some o) (kp:∀ c o,c∉its->s.heap.get? c=some o->s'.heap.get? c=some o)
 (pr:s'.heap.get? s.heap.objs.size=some { cls:=.type "tuple",data:=.seq #[x,y] }) (hx:Aj T g v x) (hy:Aj T g u y) (hg:s'.gens=s.gens:=by rfl) (ho:s'.os=s.os:=by rfl) :
 ∃ gp,Step T (g.mu++its) fs g s gp σ s'/\Aj T gp (En [v,u]) (.ref s.heap.objs.size)/\G.le g gp/\∀ c,c∈its->BY av gp s'.heap c:=by
 have hsz0:s.heap.get? s.heap.objs.size=none:=BA _
 have le:G.le g (g.put s.heap.objs.size { cls:=.type "tuple",data:=.seq #[x,y] }):=.put (st.fz_none hsz0)
 have pos:∀ {c:Addr} {o:Obj},(g.put s.heap.objs.size { cls:=.type "tuple",data:=.seq #[x,y] }).fz c=some o->(c=s.heap.objs.size/\o = { cls:=.type "tuple",data:=.seq #[x,y] })\/g.fz c=some o:=fun {c o} e=>by
  have e':(if c=s.heap.objs.size then some _ else g.fz c)=some o:=e
  by_cases q:c=s.heap.objs.size
  ·rw [if_pos q] at e'; exact .inl ⟨q,(Option.some.inj e').symm⟩
  ·rw [if_neg q] at e'; exact .inr e'
 have neg:∀ {c:Addr},g.fz c=none->(∃ o,s.heap.get? c=some o)->(g.put s.heap.objs.size { cls:=.type "tuple",data:=.seq #[x,y] }).fz c=none:=fun {c} e ⟨o,q⟩=>by
  show (if c=s.heap.objs.size then _ else g.fz c)=none
  rw [if_neg fun h=>by rw [h,hsz0] at q; exact Ab q]
  exact e
 have nfz:∀ {c:Addr} {o:Obj},g.fz c=some o->c∉its:=fun {c o} e q=>by exact Ab ((Eq.symm ((L c q).1.1)).trans e)
 have nmu:∀ {c:Addr},c∈g.mu->c∉its:=fun {c} e q=>(L c q).1.2.1 e
 refine ⟨_,⟨le,⟨fun c o e=>?_,st.len,st.nd,fun c hc=>neg (st.ap c hc) (st.mu_alive hc),fun j c o e1 e2=>?_,fun c o e=>le.fz _ _ (st.base c o e)⟩,⟨fun c o e=>?_,fun c o e nb _=>kp c o (fun q=>nb (List.mem_append.mpr (.inr q))) e,fun c o e nb _=>⟨o.slots,kp c o (fun q=>nb (List.mem_append.mpr (.inr q))) e⟩⟩,⟨fun _ h=>.inl h,fun c o e=>?_⟩,hg,ho⟩,?_,le,fun c hc=>⟨⟨neg (L c hc).1.1 (L c hc).1.2.2,(L c hc).1.2.1,al c hc⟩,(L c hc).2⟩⟩
 ·rcases pos e with ⟨q,q'⟩ | e'
  ·rw [q,q']; exact pr
  ·exact kp c o (nfz e') (st.fz _ _ e')
 ·obtain ⟨z,h1,h2⟩:=st.ob j c o e1 e2
  exact ⟨z,kp c z (nmu (List.mem_of_getElem? e1)) h1,G6.mono le _ _ h2⟩
 ·by_cases q:c∈its
  ·exact al c q
  ·exact ⟨o,kp c o q e⟩
 ·rcases pos e with ⟨q,_⟩ | e'
  ·exact .inr (.inl (q▸hsz0))
  ·exact .inl e'
 ·have rr:RepVs T (g.put s.heap.objs.size { cls:=.type "tuple",data:=.seq #[x,y] }) [v,u] [x,y]:=⟨Aj.mono le _ _ hx,Aj.mono le _ _ hy,trivial⟩
  have two:2<=line:=by unfold line; (exact Nat.le_add_left _ _)
  unfold En
  cases hd':EX [v,u] with
  | none=>exact ⟨_,_,#[x,y],_,rfl,G.put_self,rfl,rfl,rr,two⟩
  | some ds=>exact ⟨_,_,#[x,y],_,rfl,G.put_self,rfl,rfl,RepDs.ofV rr hd',by rw [(RepDs.ofV rr hd').length]; exact two⟩
theorem C9 {α:Type} {xs:Array α} {i:Nat} {x:α} {r:List α} (h:xs.toList.drop i=x::r):xs[i]? = some x/\xs.toList.drop (i+1)=r :=
 ⟨Array.getElem?_toList.symm.trans (drop_get h).1,(drop_get h).2⟩
theorem Ck {α:Type} {xs:Array α} {i:Nat} (h:xs.toList.drop i=[]):xs[i]? = none:=Array.getElem?_toList.symm.trans (drop_none h)
structure DrawK (T:Top) (av fs:List Addr) (g:G) (σ:Store) (s:Shared) (A:Around) (target:Expr) (Q:Option Value->Shared->Prop) (hd b:Bool) (its:List Addr) (a:Addr) (vs:Src):Prop where
 ha:hd=false->A.handled=none
 ht:b=true->∃ es c p,target=.Tuple es c p
 hb:vs.next σ≠none
 h0:vs.next σ=some none->∀ h',(∀ c o,c∉its->s.heap.get? c=some o->h'.get? c=some o)->Q none { s with heap:=h' }
 h1:∀ v rest,vs.next σ=some (some (v,rest))->∀ x s₁,(∀ (Q':Unit->Shared->Prop) (E':Value->Shared->Prop),
  (∀ g' s',Step T (g.mu++its) fs g s g' σ s'->Dp T av g' s'.heap hd b its a rest->Aj T g' v x->Q' () s')->wpAny (model T.prog T.w) A (letOwnedTupleGo target (.ref a) x) Q' E' s₁)->Q (some x) s₁
theorem nhd {α:Type} {a c:α} {l:List α} (h:c∉a::l):c≠a:=fun q=>h (q▸.head _)
theorem ntl {α:Type} {a c:α} {l:List α} (h:c∉a::l):c∉l:=fun q=>h (.tail _ q)
theorem all_nil {α:Type} {P:α->Prop}:∀ c,c∈([]:List α)->P c:=fun _ h=>nomatch h
theorem all_cons {α:Type} {P:α->Prop} {a:α} {l:List α} (h:P a) (t:∀ c,c∈l->P c):∀ c,c∈a::l->P c:=fun c q=>(List.mem_cons.mp q).elim (fun e=>e▸h) (t c)
theorem draw {hd b:Bool} {its:List Addr} {a:Addr} {vs:Src} {target:Expr} {Q:Option Value->Shared->Prop} (hH:HOk g A) (st:St T g σ s.heap)
 (I:Dp T av g s.heap hd b its a vs) (D:DrawK T av fs g σ s A target Q hd b its a vs) :
 wpAny (model T.prog T.w) A (pyNext (.ref a)) Q E s:=by
 have mem1:∀ {a:Addr},a∈g.mu++[a]:=List.mem_append.mpr (.inr (List.mem_singleton.mpr rfl))
 have I':=I
 revert I' D
 induction I with
 | @list _ a l i o xs n vs L it hl hc hd' r =>
  intro D I'
  have hL:s.heap.IsList l xs:=⟨o,st.fz _ _ hl,hc,n,hd'⟩
  have hne:l≠a:=fun q=>by rw [q,L.1.1] at hl; exact Ab hl
  cases vs with
  | nil =>
   have e:xs[i]? = none:=Ck (DO r)
   exact Fd hH st.fz L.1.1 it hL e fun h' he=>D.h0 rfl h' fun c o hc e=>he c o (nhd hc) e
  | cons v rest =>
   obtain ⟨x,r',e,hx,hr⟩:=Dg r
   obtain ⟨e1,e2⟩:=C9 e
   refine wpAny_pyNext_list_item it hL e1 fun h' it' hs=>D.h1 v (.items rest) rfl x _ fun Q' E' k=>?_
   obtain ⟨oi,hoi,hci,hdi⟩:=id it'
   refine B6 hoi hci (by decide) (k g _ (.sameBut st L.1 mem1 hs ⟨oi,hoi⟩) (.list ⟨L.1.sameBut hs ⟨oi,hoi⟩,L.2⟩ it' hl hc hd' (by rw [e2]; exact hr)) hx)
 | @lref _ a l k i L it hl =>
  intro D I'
  have hm:l∈g.mu:=List.mem_of_getElem? hl
  have hne:l≠a:=fun q=>L.1.2.1 (q▸hm)
  cases e:σ[k]? with
  | none =>
   have:=st.len
   rw [List.getElem?_eq_none_iff] at e
   exact absurd (List.getElem?_eq_some_iff.mp hl).1 (by lia)
  | some ob=>cases ob with
  | dead=>exact absurd (by show Gu k i σ[k]? = _; rw [e]; rfl) D.hb
  | list ws =>
   obtain ⟨o,ho,xs,m,q,hr,hln⟩:=st.ob k l _ hl e
   subst q
   have hL:s.heap.IsList l xs:=⟨_,ho,rfl,m,rfl⟩
   cases ew:ws[i]? with
   | none =>
    have ex:xs[i]? = none:=by
     have h1:=List.getElem?_eq_none_iff.mp ew
     have h2:=hr.length
     rw [Array.getElem?_eq_none_iff]
     simp at h2; lia
    exact Fd hH st.fz L.1.1 it hL ex fun h' he=>D.h0 (by show Gu k i σ[k]? = _; rw [e]; show (match ws[i]? with | some v=>some (some (v,Src.lref k (i+1))) | none=>some none)=_; rw [ew]) h' fun c o hc e=>he c o (nhd hc) e
   | some v =>
    obtain ⟨x,ex,hx⟩:=hr.get ew
    refine wpAny_pyNext_list_item it hL (by exact Array.getElem?_toList.symm.trans ex) fun h' it' hs=>D.h1 v (.lref k (i+1)) (by show Gu k i σ[k]? = _; rw [e]; show (match ws[i]? with | some v=>some (some (v,Src.lref k (i+1))) | none=>some none)=_; rw [ew]) x _ fun Q' E' kk=>?_
    obtain ⟨oi,hoi,hci,hdi⟩:=id it'
    exact B6 hoi hci (by decide) (kk g _ (.sameBut st L.1 mem1 hs ⟨oi,hoi⟩) (.lref ⟨L.1.sameBut hs ⟨oi,hoi⟩,L.2⟩ it' hl) hx)
 | @tuple a l i o xs n vs L it hl hc hd' r =>
  intro D I'
  have hL:s.heap.IsTuple l xs:=⟨o,st.fz _ _ hl,hc,n,hd'⟩
  cases vs with
  | nil=>exact wpAny_pyNext_tuple_end (D.ha rfl) it hL (Ck (DO r)) fun h' he=>D.h0 rfl h' fun c o hc e=>he c o (nhd hc) e
  | cons v rest =>
   obtain ⟨x,r',e,hx,hr⟩:=Dg r
   obtain ⟨e1,e2⟩:=C9 e
   refine wpAny_pyNext_tuple_item it hL e1 fun h' it' hs=>D.h1 v (.items rest) rfl x _ fun Q' E' k=>?_
   obtain ⟨oi,hoi,hci,hdi⟩:=id it'
   exact B6 hoi hci (by decide) (k g _ (.sameBut st L.1 mem1 hs ⟨oi,hoi⟩) (.tuple ⟨L.1.sameBut hs ⟨oi,hoi⟩,L.2⟩ it' hl hc hd' (by rw [e2]; exact hr)) hx)
 | @enum a it l i old o xs n vs L1 L2 ne he hit hl hc hd' r =>
  intro D I'
  have hL:s.heap.IsList l xs:=⟨o,st.fz _ _ hl,hc,n,hd'⟩
  cases vs with
  | nil=>exact wpAny_pyNext_enum_end (D.ha rfl) he hit hL (Ck (DO r)) fun h' he=>D.h0 rfl h' fun c o hc e=>he c o (nhd (ntl hc)) e
  | cons v rest =>
   obtain ⟨x,r',e,hx,hr⟩:=Dg r
   obtain ⟨e1,e2⟩:=C9 e
   refine wpAny_pyNext_enum_item he hit hL e1 ne fun h' heo hit' pr hsz hk=>D.h1 _ _ rfl _ _ fun Q' E' k=>?_
   obtain ⟨es,cc,p,rfl⟩:=D.ht rfl
   refine wpAny_letOwnedTupleGo_enum heo fun h'' he'' hs''=>?_
   have nz:s.heap.objs.size≠a:=fun q=>by have:=Heap.lt_size he; rw [q] at this; exact absurd this (Nat.lt_irrefl _)
   have hit'':h''.IsListIter it l (i+1):=hit'.at fun o e=>(hs''.2 _ (Ne.symm ne)).trans e
   obtain ⟨gp,S,R,le,LL⟩:=pair_step (fs:=fs) (its:=[a,it]) (s':={ s with heap:=h'',toks:=s.toks+1 }) (v:=.d (.int i)) (u:=v) st I'.lone (all_cons ⟨_,he''⟩ (all_cons (hit''.elim fun o e=>⟨o,e.1⟩) all_nil)) (fun c o hc e=>(hs''.2 c (nhd hc)).trans (hk c o (nhd hc) (nhd (ntl hc)) e)) ((hs''.2 _ nz).trans pr) ⟨_,rfl⟩ hx
   refine k gp _ S (.enum (LL a (.head _)) (LL it (.tail _ (.head _))) ne he'' hit'' (le.fz _ _ hl) hc hd' (by rw [e2]; exact RepVs.mono le _ _ hr)) R
 | @ascii a x t i L it =>
  intro D I'
  cases e:x.cps.toList.drop i with
  | nil =>
   have e':x.cps[i]? = none:=Ck e
   exact wpAny_pyNext_ascii_end (D.ha rfl) it e' fun h' he=>D.h0 (by rw [e]; rfl) h' fun c o hc e=>he c o (nhd hc) e
  | cons c rest =>
   obtain ⟨e1,e2⟩:=C9 e
   refine wpAny_pyNext_ascii_item it (c:=c) e1 fun h' it' hs=>D.h1 _ _ (by rw [e]; rfl) _ _ fun Q' E' k=>?_
   obtain ⟨oi,hoi,hci,hdi⟩:=id it'
   refine B6 hoi hci (by decide) (k g _ (.sameBut st L.1 mem1 hs ⟨oi,hoi⟩) (by rw [<-e2]; exact .ascii ⟨L.1.sameBut hs ⟨oi,hoi⟩,L.2⟩ it') ⟨_,rfl,chr1_len c⟩)
 | @wide a x t i L it =>
  intro D I'
  cases e:x.cps.toList.drop i with
  | nil =>
   have e':x.cps[i]? = none:=Ck e
   exact wpAny_pyNext_wide_end (D.ha rfl) it e' fun h' he=>D.h0 (by rw [e]; rfl) h' fun c o hc e=>he c o (nhd hc) e
  | cons c rest =>
   obtain ⟨e1,e2⟩:=C9 e
   refine wpAny_pyNext_wide_item it (c:=c) e1 fun h' it' hs=>D.h1 _ _ (by rw [e]; rfl) _ _ fun Q' E' k=>?_
   obtain ⟨oi,hoi,hci,hdi⟩:=id it'
   refine B6 hoi hci (by decide) (k g _ (.sameBut st L.1 mem1 hs ⟨oi,hoi⟩) (by rw [<-e2]; exact .wide ⟨L.1.sameBut hs ⟨oi,hoi⟩,L.2⟩ it') ⟨_,rfl,chr1_len c⟩)
 | @range a x left L it =>
  intro D I'
  cases e:left.toNat with
  | zero =>
   exact wpAny_pyNext_range_end (D.ha rfl) it (by lia) fun h' he=>D.h0 (by rw [e]; rfl) h' fun c o hc e=>he c o (nhd hc) e
  | succ k' =>
   refine wpAny_pyNext_range_item it (by lia) fun h' it' hs=>D.h1 _ _ (by rw [e]; rfl) _ _ fun Q' E' k=>?_
   refine B6 it' rfl (by decide) (k g _ (.sameBut st L.1 mem1 hs ⟨_,it'⟩) ?_ ⟨_,rfl⟩)
   have e3:(left-1).toNat=k':=by lia
   rw [<-e3]
   exact .range ⟨L.1.sameBut hs ⟨_,it'⟩,L.2⟩ it'
 | @zip a TI TO i1 i2 vs Lz LTI LTO L1 L2 Z =>
  intro D I'
  cases Z with
  | @mk l1 l2 k1 k2 o1 o2 xs ys n1 n2 pa pb vs ws Z hz hTI hTO t1 t2 f1 c1 d1 f2 c2 d2 r1 r2 =>
  have hL1:s.heap.IsList l1 xs:=⟨o1,st.fz _ _ f1,c1,n1,d1⟩
  have hL2:s.heap.IsList l2 ys:=⟨o2,st.fz _ _ f2,c2,n2,d2⟩
  have fin:xs[k1]? = none\/ys[k2]? = none->zipV vs ws=[]->wpAny (model T.prog T.w) A (pyNext (.ref a)) Q E s:=fun hend e =>
   wpAny_pyNext_zip_end (D.ha rfl) Z hz hTI hTO t1 t2 hL1 hL2 hend fun h' hk=>D.h0 (by rw [e]; rfl) h' fun c o hc e=>hk c o (nhd hc) (nhd (ntl hc)) (nhd (ntl (ntl hc))) (nhd (ntl (ntl (ntl hc)))) e
  cases vs with
  | nil=>exact fin (.inl (Ck (DO r1))) rfl
  | cons v vs =>
   cases ws with
   | nil=>exact fin (.inr (Ck (DO r2))) rfl
   | cons u ws =>
    obtain ⟨x,r1',e1,hx,hr1⟩:=Dg r1
    obtain ⟨y,r2',e2,hy,hr2⟩:=Dg r2
    obtain ⟨p1,q1⟩:=C9 e1
    obtain ⟨p2,q2⟩:=C9 e2
    refine wpAny_pyNext_zip_item Z hz hTI hTO t1 t2 hL1 hL2 (x:=x) (y:=y) p1 p2 fun h' z' TO' t1' t2' pr hsz hk=>D.h1 _ _ rfl _ _ fun Q' E' k=>?_
    obtain ⟨es,cc,p,rfl⟩:=D.ht rfl
    refine wpAny_letOwnedTupleGo_zip z' fun h'' z'' hs''=>?_
    have nz:s.heap.objs.size≠a:=fun q=>by have:=Heap.lt_size hz; rw [q] at this; exact absurd this (Nat.lt_irrefl _)
    have kp:∀ c o,c≠a->c≠TO->c≠i1->c≠i2->s.heap.get? c=some o->h''.get? c=some o:=fun c o q1 q2 q3 q4 e=>(hs''.2 c q1).trans (hk c o q1 q2 q3 q4 e)
    have TO'':IsPair h'' TO x y:=(hs''.2 _ Z.TOz).trans TO'
    have TI'':IsPair h'' TI (.ref i1) (.ref i2):=kp TI _ Z.TIz Z.TITO Z.TIi1 Z.TIi2 hTI
    have t1'':h''.IsListIter i1 l1 (k1+1):=t1'.at fun o e=>(hs''.2 _ Z.i1z).trans e
    have t2'':h''.IsListIter i2 l2 (k2+1):=t2'.at fun o e=>(hs''.2 _ Z.i2z).trans e
    obtain ⟨gp,S,R,le,LL⟩:=pair_step (fs:=fs) (its:=[a,TO,i1,i2,TI]) (s':={ s with heap:=h'' }) (v:=v) (u:=u) st I'.lone (all_cons ⟨_,z''⟩ (all_cons ⟨_,TO''⟩ (all_cons (t1''.elim fun o e=>⟨o,e.1⟩) (all_cons (t2''.elim fun o e=>⟨o,e.1⟩) (all_cons ⟨_,TI''⟩ all_nil))))) (fun c o hc e=>kp c o (nhd hc) (nhd (ntl hc)) (nhd (ntl (ntl hc))) (nhd (ntl (ntl (ntl hc)))) e) ((hs''.2 _ nz).trans pr) hx hy
    exact k gp _ S (.zip (LL a (.head _)) (LL TI (.tail _ (.tail _ (.tail _ (.tail _ (.head _)))))) (LL TO (.tail _ (.head _))) (LL i1 (.tail _ (.tail _ (.head _)))) (LL i2 (.tail _ (.tail _ (.tail _ (.head _)))))
     (.mk Z z'' TI'' TO'' t1'' t2'' (le.fz _ _ f1) c1 d1 (le.fz _ _ f2) c2 d2 (by rw [q1]; exact RepVs.mono le _ _ hr1) (by rw [q2]; exact RepVs.mono le _ _ hr2))) R
end
end Mine.Internal
namespace Mine.Internal
open PySem
set_option genCtorIdx true in
inductive GV where
 | fn (f:Nat)
 | cls (c:Nat)
 | con (x:PyData)
 | bi (b:Bi)
 | ty (t:String)
structure Kx where
 vars:List Str
 names:List (Str×NameKind)
 wr:List Str
 gl:Str->Option GV
noncomputable def Kx.kd (K:Kx) (n:Str) (k:NameKind):Bool:=decide (K.names.lookup n=some k)
noncomputable def Kx.isVar (K:Kx) (n:Str):Bool:=(K.kd n .local||(K.kd n .cell||K.kd n .free)) && !(n == ("__debug__" : Str)) && !(n == ("__classdict__" : Str))
noncomputable def Kx.isGl (K:Kx) (n:Str):Bool:=K.kd n .globalImplicit && !(n == ("__debug__" : Str))
noncomputable def Kx.canWr (K:Kx) (i:Nat) (n:Str):Bool:=decide (K.vars[i]? = some n)&&K.wr.contains n&&(K.kd n .local||K.kd n .cell)
noncomputable def Kx.isLoc (K:Kx) (n:Str):Bool:=K.kd n .local
theorem Kx.kd_eq {K:Kx} {n:Str} {k:NameKind} (h:K.kd n k=true):K.names.lookup n=some k:=of_decide_eq_true h
noncomputable def Kx.isAt (K:Kx) (i:Nat) (n:Str):Bool:=match K.vars[i]? with | some m=>m == n | none=>false
noncomputable def constIs (c:Const) (x:PyData):Bool :=
 match c with
 | .none=>(match x with | .none=>true | _=>false)
 | .bool a=>(match x with | .bool b=>a == b | _=>false)
 | .int a=>(match x with | .int b=>a == b | _=>false)
 | .str a=>(match x with | .str b=>a == b&&decide (a.cps.size<=16777216) | _=>false)
 | _=>false
noncomputable def dataIs (x y:PyData):Bool :=
 match x with
 | .int a=>(match y with | .int b=>a == b | _=>false)
 | .str a=>(match y with | .str b=>a == b | _=>false)
 | _=>false
noncomputable def gvIs (v w:GV):Bool :=
 match v with
 | .fn f=>(match w with | .fn f'=>f == f' | _=>false)
 | .cls f=>(match w with | .cls f'=>f == f' | _=>false)
 | .con f=>(match w with | .con f'=>dataIs f f' | _=>false)
 | .bi f=>(match w with | .bi f'=>Nat.beq f.ctorIdx f'.ctorIdx | _=>false)
 | .ty f=>(match w with | .ty f'=>f == f' | _=>false)
noncomputable def Gy (K:Kx) (v:GV) (n:Str):Bool:=K.isGl n&&(match K.gl n with | some w=>gvIs w v | none=>false)
noncomputable def methName:Meth->String
 | .append => "append" | .join => "join" | .partition => "partition" | .find => "find" | .split => "split"
noncomputable def Gs (e:Expr) (k:Nat):Bool:=!(Nat.beq e.ctorIdx k)
noncomputable def EN (e:Expr):Bool:=Gs e 22
noncomputable def Ey (e:Expr):Bool:=Gs e 7
noncomputable def E2:Expr->Bool
 | .Call (.Name _ _) [] [] _=>true
 | _=>false
noncomputable def CH (e:Expr):Bool:=Gs e 8&&(Gs e 9&&Gs e 10)
noncomputable def notTup (e:Expr):Bool:=Gs e 25
noncomputable def DP (env:List (Str×NameKind)) (names:List (Str×NameKind)):List (Str×NameKind) :=
 names.map fun (n,k)=>if (k == .free&&env.lookup n == some .cell) then (n,.cell) else (n,k)
noncomputable def nameOk (K:Kx) (ts:List Nat) (p:Str×NameKind):Bool :=
 (decide (p.2=.local)&&(p.1 == (".0" : Str)||ts.any fun i=>decide (K.vars[i]? = some p.1)))||((decide (p.2=.free)&&(K.kd p.1 .cell||K.kd p.1 .free))||decide (p.2=.globalImplicit))
noncomputable def FI (K:Kx) (ts:List Nat) (sc:Scope):Bool :=
 decide (sc.kind=.function)&&sc.names.all (nameOk K ts) &&
 sc.names.all (fun p=>decide (sc.names.lookup p.1=some p.2)) &&
 !K.vars.contains (".0" : Str) &&
 ts.all (fun i=>match K.vars[i]? with | some m=>decide (sc.names.lookup m=some .local) | none=>false)
noncomputable def Kx.sub (K:Kx) (ts:List Nat) (sc:Scope):Kx:={ K with names:=DP K.names sc.names,wr:=ts.filterMap fun i=>K.vars[i]? }
noncomputable def FV:List Expr->Nat
 | e::_=>e.pos.line
 | []=>0
noncomputable def biGV (b:Bi):GV:=match b with | .str=>.ty "str" | .int=>.ty "int" | b=>.bi b
inductive IsCst (x:PyData):Expr->Prop
 | mk {c:Const} {k:Nat} {p:Pos} (h:constIs c x=true):IsCst x (.Constant c k p)
inductive IsNm (P:Str->Prop):Expr->Prop
 | mk {n:Str} {p:Pos} (h:P n):IsNm P (.Name n p)
inductive IsBin (op:Operator) (A B:Expr->Prop):Expr->Prop
 | mk {l r:Expr} {p:Pos} (h1:A l) (h2:B r):IsBin op A B (.BinOp l op r p)
inductive IsUn (op:UnaryOp) (A:Expr->Prop):Expr->Prop
 | mk {x:Expr} {p:Pos} (h:A x):IsUn op A (.UnaryOp op x p)
inductive IsBop (op:BoolOp) (A:List Expr->Prop):Expr->Prop
 | mk {vs:List Expr} {p:Pos} (h:A vs):IsBop op A (.BoolOp op vs p)
inductive IsCmp (op:CmpOp) (A B:Expr->Prop):Expr->Prop
 | mk {l r:Expr} {p:Pos} (h1:A l) (h2:B r) (h3:Ey r=true):IsCmp op A B (.Compare l [op] [r] p)
inductive IsCmp2 (op op':CmpOp) (A B C:Expr->Prop):Expr->Prop
 | mk {l r r':Expr} {p:Pos} (h1:A l) (h2:B r) (h3:C r') (h4:Ey r'=true):IsCmp2 op op' A B C (.Compare l [op,op'] [r,r'] p)
inductive IsTup (A:List Expr->Prop):Expr->Prop
 | mk {vs:List Expr} {k:Nat} {p:Pos} (h:A vs):IsTup A (.Tuple vs k p)
inductive IsLst (A:List Expr->Prop):Expr->Prop
 | mk {vs:List Expr} {p:Pos} (h:A vs):IsLst A (.List vs p)
inductive IsSub (A B:Expr->Prop):Expr->Prop
 | mk {v x:Expr} {p:Pos} (h1:A v) (h2:B x):IsSub A B (.Subscript v x p)
inductive IsSlc (A:Expr->Prop) (B C:Option Expr->Prop):Expr->Prop
 | mk {v:Expr} {l u:Option Expr} {q p:Pos} (h1:A v) (h2:B l) (h3:C u):IsSlc A B C (.Subscript v (.Slice l u none q) p)
inductive IsCall (P:Str->Prop) (A:List Expr->Prop):Expr->Prop
 | mk {n:Str} {np:Pos} {vs:List Expr} {p:Pos} (h1:P n) (h2:A vs) (h3:vs≠[]):IsCall P A (.Call (.Name n np) vs [] p)
inductive IsMeth (m:Meth) (A:Expr->Prop) (B:List Expr->Prop):Expr->Prop
 | mk {x:Expr} {ap:Pos} {vs:List Expr} {p:Pos} (h2:A x) (h3:B vs) (h5:ap.endLine=p.line) (h6:vs.length < 20) (h7:E2 x=false):IsMeth m A B (.Call (.Attribute x (Str.ofString (methName m)) ap) vs [] p)
inductive IsComp (A:Expr->Prop) (S:Scope->Prop) (P X:Scope->Expr->Prop) (F:Scope->List Expr->Prop):Expr->Prop
 | mk {x t i:Expr} {cs:List Expr} {sc:Scope} {p:Pos} (h1:A i) (h2:Ey i=true) (h3:S sc) (h4:P sc t) (h5:X sc x) (h6:F sc cs):IsComp A S P X F (.ListComp x [⟨t,i,cs,0⟩] sc p)
inductive IsSset (P Q:Str->Prop) (A:Expr->Prop):Expr->Prop
 | mk {n m:Str} {np mp:Pos} {y:Expr} {p p':Pos} (h1:P n) (h2:Q m) (h3:A y) (h4:EN y=true):IsSset P Q A (.Call (.Name n np) [.Call (.Name m mp) [y] [] p'] [] p)
inductive IsNil {α:Type}:List α->Prop
 | mk:IsNil []
inductive IsCons (A:Expr->Prop) (B:List Expr->Prop):List Expr->Prop
 | mk {e:Expr} {l:List Expr} (h1:A e) (h2:EN e=true) (h3:B l):IsCons A B (e::l)
inductive IsNone:Option Expr->Prop
 | mk:IsNone none
inductive IsSome (A:Expr->Prop):Option Expr->Prop
 | mk {e:Expr} (h:A e):IsSome A (some e)
inductive IsZip (P:Str->Prop) (A B:Expr->Prop):Expr->Prop
 | mk {n:Str} {np:Pos} {x y:Expr} {p:Pos} (h1:P n) (h2:A x) (h3:B y) (h5:EN x=true) (h6:EN y=true):IsZip P A B (.Call (.Name n np) [x,y] [] p)
inductive IsNs (K:Kx):List Nat->List Expr->Prop
 | nil:IsNs K [] []
 | cons {i:Nat} {n:Str} {p:Pos} {r:List Nat} {l:List Expr} (h1:K.canWr i n=true) (h2:IsNs K r l):IsNs K (i::r) (.Name n p::l)
inductive IsT (K:Kx):List Nat->Expr->Prop
 | one {i:Nat} {n:Str} {p:Pos} (h:K.canWr i n=true):IsT K [i] (.Name n p)
 | more {ts:List Nat} {es:List Expr} {k:Nat} {p:Pos} (h:IsNs K ts es) (hl:ts.length≠1):IsT K ts (.Tuple es k p)
inductive IsSw (K:Kx) (line:Nat):List Nat->List Expr->Prop
 | nil:IsSw K line [] []
 | cons {i:Nat} {n:Str} {p:Pos} {r:List Nat} {l:List Expr} (h1:K.canWr i n=true) (h2:K.names.lookup n=some .local) (h3:p.line=line) (h4:IsSw K line r l):IsSw K line (i::r) (.Name n p::l)
abbrev Kx.to (K:Kx) (v:GV) (n:Str):Prop:=K.isGl n=true/\K.gl n=some v
noncomputable def isZipIt (it:It):Bool:=match it with | .zip _ _=>true | .enum _=>true | _=>false
noncomputable def zipOk (ts:List Nat) (it:It):Bool:=if isZipIt it=true then decide (ts.length≠1) else true
mutual
noncomputable def IsE:E->Kx->Expr->Prop
 | .cst x,_=>IsCst x
 | .var i,K=>IsNm fun n=>K.isVar n=true/\K.vars[i]? = some n
 | .ty t,K=>IsNm (K.to (.ty t))
 | .cls c,K=>IsNm (K.to (.cls c))
 | .glo x,K=>IsNm (K.to (.con x))
 | .bin _ op a b,K=>IsBin op (IsE a K) (IsE b K)
 | .neg a,K=>IsUn .USub (IsE a K)
 | .not a,K=>IsUn .Not (IsE a K)
 | .bop op es,K=>IsBop op (IsEs es K)
 | .cmp op a b,K=>IsCmp op (IsE a K) (IsE b K)
 | .cmp2 op op' a b c,K=>IsCmp2 op op' (IsE a K) (IsE b K) (IsE c K)
 | .tup es,K=>IsTup (IsEs es K)
 | .lst _ es,K=>IsLst (IsEs es K)
 | .sub a i,K=>IsSub (IsE a K) (IsE i K)
 | .slc _ a lo hi,K=>IsSlc (IsE a K) (IsO lo K) (IsO hi K)
 | .bcall b _ es,K=>IsCall (K.to (biGV b)) (IsEs es K)
 | .fcall _ f es,K=>IsCall (K.to (.fn f)) (IsEs es K)
 | .meth m _ o es,K=>IsMeth m (IsE o K) (IsEs es K)
 | .comp _ elt ts it ifs,K=>IsComp (IsI it K) (fun sc=>FI K ts sc=true/\zipOk ts it=true) (fun sc=>IsT (K.sub ts sc) ts) (fun sc=>IsE elt (K.sub ts sc)) (fun sc=>IsEs ifs (K.sub ts sc))
 | .sset _ a,K=>IsSset (K.to (biGV .sorted)) (K.to (.ty "set")) (IsE a K)
noncomputable def IsEs:List E->Kx->List Expr->Prop
 | [],_=>IsNil
 | x::r,K=>IsCons (IsE x K) (IsEs r K)
noncomputable def IsO:Option E->Kx->Option Expr->Prop
 | none,_=>IsNone
 | some x,K=>IsSome (IsE x K)
noncomputable def IsI:It->Kx->Expr->Prop
 | .of x,K=>IsE x K
 | .range es,K=>IsCall (K.to (.ty "range")) (IsEs es K)
 | .zip a b,K=>IsZip (K.to (.ty "zip")) (IsE a K) (IsE b K)
 | .enum a,K=>IsCall (K.to (.ty "enumerate")) (IsCons (IsE a K) IsNil)
end
noncomputable def swapC (K:Kx) (n:Str) (p:Pos) (v:Expr):Bool :=
 match v with
 | .ListComp _ _ sc vp=>decide (K.names.lookup n=some .local)&&(decide (p.line=vp.line) && !(sc.names.any fun q=>q.1 == n&&(q.2 == .local||q.2 == .cell)))
 | _=>false
inductive IsAsg (P:Str->Prop) (A:Expr->Prop) (W:Str->Pos->Expr->Bool):Stmt->Prop
 | mk {n:Str} {p:Pos} {v:Expr} {p':Pos} (h1:P n) (h2:A v) (h3:(CH v||W n p v)=true):IsAsg P A W (.Assign [.Name n p] v p')
inductive IsUnp (P A:Expr->Prop):Stmt->Prop
 | mk {es:List Expr} {k:Nat} {p:Pos} {v:Expr} {p':Pos} (h1:P (.Tuple es k p)) (h2:A v) (h3:CH v=true) (h4:notTup v=true):IsUnp P A (.Assign [.Tuple es k p] v p')
inductive IsSwp (P:Nat->List Expr->Prop) (A:List Expr->Prop):Stmt->Prop
 | mk {ts:List Expr} {k:Nat} {p:Pos} {vs:List Expr} {k':Nat} {p' pos:Pos} (h1:P (FV ts) ts) (h2:A vs) (h3:ts.length=3) (h4:vs.length=ts.length) (h6:vs.all (foldedForSure 8)=false) (h7:vs.all (constantsAlone 8)=false):IsSwp P A (.Assign [.Tuple ts k p] (.Tuple vs k' p') pos)
inductive IsSet (A B C:Expr->Prop):Stmt->Prop
 | mk {o i:Expr} {p:Pos} {v:Expr} {p':Pos} (h1:A v) (h2:B o) (h3:C i) (h4:CH v=true):IsSet A B C (.Assign [.Subscript o i p] v p')
inductive IsExp (A:Expr->Prop):Stmt->Prop
 | mk {v:Expr} {p:Pos} (h1:A v) (h2:CH v=true):IsExp A (.Expr v p)
inductive IsIte (A:Expr->Prop) (B C:List Stmt->Prop):Stmt->Prop
 | mk {t:Expr} {x y:List Stmt} {p:Pos} (h1:A t) (h2:B x) (h3:C y):IsIte A B C (.If t x y p)
inductive IsFor (P A:Expr->Prop) (B:List Stmt->Prop):Stmt->Prop
 | mk {t i:Expr} {b:List Stmt} {p:Pos} (h1:P t) (h2:A i) (h3:Ey i=true) (h4:B b):IsFor P A B (.For t i b [] p)
inductive IsRet (A:Expr->Prop):Stmt->Prop
 | mk {v:Expr} {p:Pos} (h:A v):IsRet A (.Return (some v) p)
inductive IsRaise (P:Str->Prop) (A:List Expr->Prop):Stmt->Prop
 | mk {n:Str} {np:Pos} {vs:List Expr} {cp p:Pos} (h1:P n) (h2:A vs) (h3:vs≠[]):IsRaise P A (.Raise (some (.Call (.Name n np) vs [] cp)) none p)
inductive IsTry (B:List Stmt->Prop) (H:List ExceptHandler->Prop):Stmt->Prop
 | mk {b:List Stmt} {h:List ExceptHandler} {p:Pos} (h1:B b) (h2:H h) (h3:h≠[]):IsTry B H (.Try b h [] [] p)
inductive IsSCons (A:Stmt->Prop) (B:List Stmt->Prop):List Stmt->Prop
 | mk {x:Stmt} {t:List Stmt} (h1:A x) (h2:B t):IsSCons A B (x::t)
inductive IsHCons (P:Str->Prop) (N:Option Str->Prop) (B:List Stmt->Prop) (H:List ExceptHandler->Prop):List ExceptHandler->Prop
 | mk {n:Str} {np:Pos} {x:Option Str} {b:List Stmt} {p:Pos} {t:List ExceptHandler} (h1:P n) (h2:B b) (hne:b≠[]) (h3:N x) (h4:H t):IsHCons P N B H (.ExceptHandler (some (.Name n np)) x b p::t)
inductive HNm (K:Kx):Option Nat->Option Str->Prop
 | no:HNm K none none
 | yes {i:Nat} {m:Str} (h1:K.canWr i m=true) (h2:K.names.lookup m=some .local):HNm K (some i) (some m)
mutual
noncomputable def IsS:S->Kx->Stmt->Prop
 | .asg x e,K=>IsAsg (fun n=>K.canWr x n=true) (IsE e K) (swapC K)
 | .unp xs e,K=>IsUnp (IsT K xs) (IsE e K)
 | .swp xs es,K=>IsSwp (fun line ts=>IsSw K line xs ts/\xs.Nodup) (IsEs es K)
 | .set o i v,K=>IsSet (IsE v K) (IsE o K) (IsE i K)
 | .exp e,K=>IsExp (IsE e K)
 | .ite c a b,K=>IsIte (IsE c K) (IsSs a K) (IsSs b K)
 | .for_ ts it body,K=>IsFor (fun t=>IsT K ts t/\zipOk ts it=true) (IsI it K) (IsSs body K)
 | .ret e,K=>IsRet (IsE e K)
 | .raise c es,K=>IsRaise (fun n=>K.to (.cls c) n/\(c≠0/\c < 1000)/\es.length < 20) (IsEs es K)
 | .try_ body hs,K=>IsTry (IsSs body K) (IsHs hs K)
noncomputable def IsSs:List S->Kx->List Stmt->Prop
 | [],_=>IsNil
 | s::r,K=>IsSCons (IsS s K) (IsSs r K)
noncomputable def IsHs:List (Nat×Option Nat×List S)->Kx->List ExceptHandler->Prop
 | [],_=>IsNil
 | (c,nm,body)::r,K=>IsHCons (K.to (.cls c)) (HNm K nm) (IsSs body K) (IsHs r K)
end
noncomputable def noE:Expr:=.Name ("" : Str) ⟨0,0,0,0⟩
noncomputable def noS:Stmt:=.Pass ⟨0,0,0,0⟩
noncomputable def noH:ExceptHandler:=.ExceptHandler none none [] ⟨0,0,0,0⟩
noncomputable def kids (x:Expr):List Expr :=
 match x with
 | .BinOp l _ r _=>[l,r]
 | .UnaryOp _ y _=>[y]
 | .BoolOp _ vs _=>vs
 | .Compare l _ rs _=>l::rs
 | .Tuple vs _ _=>vs
 | .List vs _=>vs
 | .Subscript v y _=>[v,y]
 | .Call f vs _ _=>f::vs
 | .Attribute y _ _=>[y]
 | .ListComp y gs _ _=>(match gs with | [g]=>y::g.target::g.iter::g.ifs | _=>[])
 | _=>[]
noncomputable def kE (x:Expr) (i:Nat):Expr:=(kids x)[i]?.getD noE
noncomputable def nmE (x:Expr):Str:=match x with | .Name n _=>n | _=>("" : Str)
noncomputable def numE (x:Expr):Nat:=match x with | .Constant _ k _=>k | .Tuple _ k _=>k | _=>0
noncomputable def cstE (x:Expr):Const:=match x with | .Constant c _ _=>c | _=>.none
noncomputable def sliE (x:Expr):Option Expr×Option Expr:=match x with | .Slice l u _ _=>(l,u) | _=>(none,none)
noncomputable def scE (x:Expr):Scope:=match x with | .ListComp _ _ sc _=>sc | _=>default
noncomputable def EU (x:Expr):Expr:=.Name (nmE x) x.pos
noncomputable def emNs (x:Expr):List Nat->Nat->List Expr
 | [],_=>[]
 | _::r,k=>EU (kE x k)::emNs x r (k+1)
noncomputable def emT (ts:List Nat) (x:Expr):Expr :=
 match ts with
 | [_]=>EU x
 | ts=>.Tuple (emNs x ts 0) (numE x) x.pos
mutual
noncomputable def emE:E->Expr->Expr
 | .cst _,x=>.Constant (cstE x) (numE x) x.pos
 | .var _,x=>EU x
 | .ty _,x=>EU x
 | .cls _,x=>EU x
 | .glo _,x=>EU x
 | .bin _ op a b,x=>.BinOp (emE a (kE x 0)) op (emE b (kE x 1)) x.pos
 | .neg a,x=>.UnaryOp .USub (emE a (kE x 0)) x.pos
 | .not a,x=>.UnaryOp .Not (emE a (kE x 0)) x.pos
 | .bop op es,x=>.BoolOp op (emEs es x 0) x.pos
 | .cmp op a b,x=>.Compare (emE a (kE x 0)) [op] [emE b (kE x 1)] x.pos
 | .cmp2 op op' a b c,x=>.Compare (emE a (kE x 0)) [op,op'] [emE b (kE x 1),emE c (kE x 2)] x.pos
 | .tup es,x=>.Tuple (emEs es x 0) (numE x) x.pos
 | .lst _ es,x=>.List (emEs es x 0) x.pos
 | .sub a i,x=>.Subscript (emE a (kE x 0)) (emE i (kE x 1)) x.pos
 | .slc _ a lo hi,x=>.Subscript (emE a (kE x 0)) (.Slice (emO lo (sliE (kE x 1)).1) (emO hi (sliE (kE x 1)).2) none (kE x 1).pos) x.pos
 | .bcall _ _ es,x=>.Call (EU (kE x 0)) (emEs es x 1) [] x.pos
 | .fcall _ _ es,x=>.Call (EU (kE x 0)) (emEs es x 1) [] x.pos
 | .meth m _ o es,x=>.Call (.Attribute (emE o (kE (kE x 0) 0)) (Str.ofString (methName m)) (kE x 0).pos) (emEs es x 1) [] x.pos
 | .comp _ elt ts it ifs,x=>.ListComp (emE elt (kE x 0)) [⟨emT ts (kE x 1),emI it (kE x 2),emEs ifs x 3,0⟩] (scE x) x.pos
 | .sset _ a,x=>.Call (EU (kE x 0)) [.Call (EU (kE (kE x 1) 0)) [emE a (kE (kE x 1) 1)] [] (kE x 1).pos] [] x.pos
noncomputable def emEs:List E->Expr->Nat->List Expr
 | [],_,_=>[]
 | e::r,x,k=>emE e (kE x k)::emEs r x (k+1)
noncomputable def emO:Option E->Option Expr->Option Expr
 | none,_=>none
 | some e,o=>some (emE e (o.getD noE))
noncomputable def emI:It->Expr->Expr
 | .of e,x=>emE e x
 | .range es,x=>.Call (EU (kE x 0)) (emEs es x 1) [] x.pos
 | .zip a b,x=>.Call (EU (kE x 0)) [emE a (kE x 1),emE b (kE x 2)] [] x.pos
 | .enum a,x=>.Call (EU (kE x 0)) [emE a (kE x 1)] [] x.pos
end
noncomputable def okNs (K:Kx) (x:Expr):List Nat->Nat->Bool
 | [],_=>true
 | i::r,k=>K.canWr i (nmE (kE x k))&&okNs K x r (k+1)
noncomputable def okT (K:Kx) (ts:List Nat) (x:Expr):Bool :=
 match ts with
 | [i]=>K.canWr i (nmE x)
 | ts=>okNs K x ts 0
noncomputable def okSw (K:Kx) (x:Expr) (line:Nat):List Nat->Nat->Bool
 | [],_=>true
 | i::r,k=>K.canWr i (nmE (kE x k))&&K.isLoc (nmE (kE x k))&&decide ((kE x k).pos.line=line)&&okSw K x line r (k+1)
mutual
noncomputable def okE:E->Kx->Expr->Bool
 | .cst d,_,x=>constIs (cstE x) d
 | .var i,K,x=>K.isVar (nmE x)&&K.isAt i (nmE x)
 | .ty t,K,x=>Gy K (.ty t) (nmE x)
 | .cls c,K,x=>Gy K (.cls c) (nmE x)
 | .glo d,K,x=>Gy K (.con d) (nmE x)
 | .bin _ _ a b,K,x=>okE a K (kE x 0)&&okE b K (kE x 1)
 | .neg a,K,x=>okE a K (kE x 0)
 | .not a,K,x=>okE a K (kE x 0)
 | .bop _ es,K,x=>okEs es K x 0
 | .cmp _ a b,K,x=>okE a K (kE x 0)&&okE b K (kE x 1)
 | .cmp2 _ _ a b c,K,x=>okE a K (kE x 0)&&(okE b K (kE x 1)&&okE c K (kE x 2))
 | .tup es,K,x=>okEs es K x 0
 | .lst _ es,K,x=>okEs es K x 0
 | .sub a i,K,x=>okE a K (kE x 0)&&okE i K (kE x 1)
 | .slc _ a lo hi,K,x=>okE a K (kE x 0)&&(okO lo K (sliE (kE x 1)).1&&okO hi K (sliE (kE x 1)).2)
 | .bcall b _ es,K,x=>Gy K (biGV b) (nmE (kE x 0))&&(okEs es K x 1 && !es.isEmpty)
 | .fcall _ f es,K,x=>Gy K (.fn f) (nmE (kE x 0))&&(okEs es K x 1 && !es.isEmpty)
 | .meth _ _ o es,K,x=>okE o K (kE (kE x 0) 0)&&(okEs es K x 1&&((decide ((kE x 0).pos.endLine=x.pos.line)&&(decide (es.length < 20) && !E2 (emE o (kE (kE x 0) 0))))))
 | .comp _ elt ts it ifs,K,x=>okI it K (kE x 2)&&(FI K ts (scE x)&&(zipOk ts it&&(okT (K.sub ts (scE x)) ts (kE x 1)&&(okE elt (K.sub ts (scE x)) (kE x 0)&&okEs ifs (K.sub ts (scE x)) x 3))))
 | .sset _ a,K,x=>Gy K (biGV .sorted) (nmE (kE x 0))&&(Gy K (.ty "set") (nmE (kE (kE x 1) 0))&&okE a K (kE (kE x 1) 1))
noncomputable def okEs:List E->Kx->Expr->Nat->Bool
 | [],_,_,_=>true
 | e::r,K,x,k=>okE e K (kE x k)&&okEs r K x (k+1)
noncomputable def okO:Option E->Kx->Option Expr->Bool
 | none,_,_=>true
 | some e,K,o=>okE e K (o.getD noE)
noncomputable def okI:It->Kx->Expr->Bool
 | .of e,K,x=>okE e K x
 | .range es,K,x=>Gy K (.ty "range") (nmE (kE x 0))&&(okEs es K x 1 && !es.isEmpty)
 | .zip a b,K,x=>Gy K (.ty "zip") (nmE (kE x 0))&&(okE a K (kE x 1)&&okE b K (kE x 2))
 | .enum a,K,x=>Gy K (.ty "enumerate") (nmE (kE x 0))&&okE a K (kE x 1)
end
noncomputable def stE (st:Stmt):List Expr :=
 match st with
 | .Assign ts v _=>v::ts
 | .Expr v _=>[v]
 | .If t _ _ _=>[t]
 | .For t i _ _ _=>[t,i]
 | .Return v _=>(match v with | some v=>[v] | none=>[])
 | .Raise v _ _=>(match v with | some v=>[v] | none=>[])
 | _=>[]
noncomputable def stB (st:Stmt):List Stmt×List Stmt :=
 match st with
 | .If _ x y _=>(x,y)
 | .For _ _ b _ _=>(b,[])
 | .Try b _ _ _ _=>(b,[])
 | _=>([],[])
noncomputable def stH (st:Stmt):List ExceptHandler:=match st with | .Try _ h _ _ _=>h | _=>[]
noncomputable def sE (st:Stmt) (i:Nat):Expr:=(stE st)[i]?.getD noE
noncomputable def hT (h:ExceptHandler):Expr:=match h with | .ExceptHandler t _ _ _=>t.getD noE
noncomputable def hN (h:ExceptHandler):Str:=match h with | .ExceptHandler _ n _ _=>n.getD ("" : Str)
noncomputable def hB (h:ExceptHandler):List Stmt:=match h with | .ExceptHandler _ _ b _=>b
noncomputable def hP (h:ExceptHandler):Pos:=match h with | .ExceptHandler _ _ _ p=>p
mutual
noncomputable def emS:S->Stmt->Stmt
 | .asg _ e,st=>.Assign [EU (sE st 1)] (emE e (sE st 0)) st.pos
 | .unp xs e,st=>.Assign [.Tuple (emNs (sE st 1) xs 0) (numE (sE st 1)) (sE st 1).pos] (emE e (sE st 0)) st.pos
 | .swp xs es,st=>.Assign [.Tuple (emNs (sE st 1) xs 0) (numE (sE st 1)) (sE st 1).pos] (.Tuple (emEs es (sE st 0) 0) (numE (sE st 0)) (sE st 0).pos) st.pos
 | .set o i v,st=>.Assign [.Subscript (emE o (kE (sE st 1) 0)) (emE i (kE (sE st 1) 1)) (sE st 1).pos] (emE v (sE st 0)) st.pos
 | .exp e,st=>.Expr (emE e (sE st 0)) st.pos
 | .ite c a b,st=>.If (emE c (sE st 0)) (emSs a (stB st).1) (emSs b (stB st).2) st.pos
 | .for_ ts it body,st=>.For (emT ts (sE st 0)) (emI it (sE st 1)) (emSs body (stB st).1) [] st.pos
 | .ret e,st=>.Return (some (emE e (sE st 0))) st.pos
 | .raise _ es,st=>.Raise (some (.Call (EU (kE (sE st 0) 0)) (emEs es (sE st 0) 1) [] (sE st 0).pos)) none st.pos
 | .try_ body hs,st=>.Try (emSs body (stB st).1) (emHs hs (stH st)) [] [] st.pos
noncomputable def emSs:List S->List Stmt->List Stmt
 | [],_=>[]
 | s::r,l=>emS s (l.headD noS)::emSs r l.tail
noncomputable def emHs:List (Nat×Option Nat×List S)->List ExceptHandler->List ExceptHandler
 | [],_=>[]
 | (_,nm,body)::r,l=>.ExceptHandler (some (EU (hT (l.headD noH)))) (nm.map fun _=>hN (l.headD noH)) (emSs body (hB (l.headD noH))) (hP (l.headD noH))::emHs r l.tail
end
noncomputable def okN (K:Kx) (nm:Option Nat) (h:ExceptHandler):Bool:=match nm with | none=>true | some i=>K.canWr i (hN h)&&K.isLoc (hN h)
mutual
noncomputable def okS:S->Kx->Stmt->Bool
 | .asg x e,K,st=>K.canWr x (nmE (sE st 1))&&(okE e K (sE st 0)&&(CH (emE e (sE st 0))||swapC K (nmE (sE st 1)) (sE st 1).pos (emE e (sE st 0))))
 | .unp xs e,K,st=>okNs K (sE st 1) xs 0&&(decide (xs.length≠1)&&(okE e K (sE st 0)&&(CH (emE e (sE st 0))&&notTup (emE e (sE st 0)))))
 | .swp xs es,K,st=>okSw K (sE st 1) (FV (emNs (sE st 1) xs 0)) xs 0&&(decide xs.Nodup&&(okEs es K (sE st 0) 0&&(decide (xs.length=3)&&(decide (es.length=3) &&
  (!(emEs es (sE st 0) 0).all (foldedForSure 8) && !(emEs es (sE st 0) 0).all (constantsAlone 8))))))
 | .set o i v,K,st=>okE v K (sE st 0)&&(okE o K (kE (sE st 1) 0)&&(okE i K (kE (sE st 1) 1)&&CH (emE v (sE st 0))))
 | .exp e,K,st=>okE e K (sE st 0)&&CH (emE e (sE st 0))
 | .ite c a b,K,st=>okE c K (sE st 0)&&(okSs a K (stB st).1&&okSs b K (stB st).2)
 | .for_ ts it body,K,st=>okT K ts (sE st 0)&&(zipOk ts it&&(okI it K (sE st 1)&&okSs body K (stB st).1))
 | .ret e,K,st=>okE e K (sE st 0)
 | .raise c es,K,st=>Gy K (.cls c) (nmE (kE (sE st 0) 0))&&(decide (c≠0/\c < 1000)&&(decide (es.length < 20)&&(okEs es K (sE st 0) 1 && !es.isEmpty)))
 | .try_ body hs,K,st=>okSs body K (stB st).1&&(okHs hs K (stH st) && !hs.isEmpty)
noncomputable def okSs:List S->Kx->List Stmt->Bool
 | [],_,_=>true
 | s::r,K,l=>okS s K (l.headD noS)&&okSs r K l.tail
noncomputable def okHs:List (Nat×Option Nat×List S)->Kx->List ExceptHandler->Bool
 | [],_,_=>true
 | (c,nm,body)::r,K,l=>Gy K (.cls c) (nmE (hT (l.headD noH)))&&(okN K nm (l.headD noH)&&(okSs body K (hB (l.headD noH))&&(!body.isEmpty&&okHs r K l.tail)))
end
theorem AE {a b:Bool} (h:(a&&b)=true):a=true:=(Bool.and_eq_true_iff.mp h).1
theorem As {a b:Bool} (h:(a&&b)=true):b=true:=(Bool.and_eq_true_iff.mp h).2
theorem not1 {a:Bool} (h:(!a)=true):a=false:=by cases a; rfl; exact ff_ h
theorem dataIs_eq {x y:PyData} (h:dataIs x y=true):x=y:=by
 cases x with
 | int a=>cases y with
  | int b=>rw [beq_iff_eq.mp (show (a == b)=true from h)]
  | _=>exact (Bool.false_ne_true h).elim
 | str a=>cases y with
  | str b=>rw [beq_iff_eq.mp (show (a == b)=true from h)]
  | _=>exact (Bool.false_ne_true h).elim
 | _=>exact (Bool.false_ne_true h).elim
theorem biIdx {f f':Bi} (h:Nat.beq f.ctorIdx f'.ctorIdx=true):f=f':=by
 have k:∀ b:Bi,[Bi.len,.ord,.sorted,.min,.isinstance,.str,.all,.int][b.ctorIdx]? = some b:=fun b=>by cases b <;> rfl
 exact Option.some.inj ((k f).symm.trans ((congrArg _ (Nat.eq_of_beq_eq_true h)).trans (k f')))
theorem gvIs_eq {v w:GV} (h:gvIs v w=true):v=w:=by
 induction v with
 | fn f=>induction w with
  | fn f'=>rw [beq_iff_eq.mp (show (f == f')=true from h)]
  | _=>exact (Bool.false_ne_true h).elim
 | cls f=>induction w with
  | cls f'=>rw [beq_iff_eq.mp (show (f == f')=true from h)]
  | _=>exact (Bool.false_ne_true h).elim
 | con f=>induction w with
  | con f'=>rw [dataIs_eq (show dataIs f f'=true from h)]
  | _=>exact (Bool.false_ne_true h).elim
 | bi f=>induction w with
  | bi f'=>rw [biIdx (show Nat.beq f.ctorIdx f'.ctorIdx=true from h)]
  | _=>exact (Bool.false_ne_true h).elim
 | ty f=>induction w with
  | ty f'=>rw [beq_iff_eq.mp (show (f == f')=true from h)]
  | _=>exact (Bool.false_ne_true h).elim
theorem Ci {K:Kx} {v:GV} {n:Str} (h:Gy K v n=true):K.to v n:=by
 refine ⟨AE h,?_⟩
 have h2:=As h
 induction e:K.gl n with
 | none=>rw [e] at h2; exact (Bool.false_ne_true h2).elim
 | some w=>rw [e] at h2; rw [gvIs_eq h2]
theorem isAt_ok {K:Kx} {i:Nat} {n:Str} (h:K.isAt i n=true):K.vars[i]? = some n:=by
 unfold Kx.isAt at h
 induction e:K.vars[i]? with
 | none=>rw [e] at h; exact (Bool.false_ne_true h).elim
 | some m=>rw [e] at h; rw [beq_iff_eq.mp h]
theorem isLoc_ok {K:Kx} {n:Str} (h:K.isLoc n=true):K.names.lookup n=some .local:=Kx.kd_eq h
theorem FZ (e:E) (x:Expr):EN (emE e x)=true:=by cases e <;> rfl
theorem em_set (e:E) (x:Expr):Ey (emE e x)=true:=by cases e <;> rfl
theorem emI_set (it:It) (x:Expr):Ey (emI it x)=true:=by
 cases it with
 | of e=>exact em_set e x
 | _=>rfl
theorem em_ne {es:List E} (h:(!es.isEmpty)=true) (x:Expr) (k:Nat):emEs es x k≠[]:=by
 induction es with
 | nil=>exact ff_ h
 | cons e r=>exact List.cons_ne_nil _ _
theorem em_len:∀ (es:List E) (x:Expr) (k:Nat),(emEs es x k).length=es.length
 | [],_,_=>rfl
 | _::r,x,k=>congrArg (· + 1) (em_len r x (k+1))
theorem isNs_of {K:Kx} {x:Expr}:∀ {ts:List Nat} {k:Nat},okNs K x ts k=true->IsNs K ts (emNs x ts k)
 | [],_,_=>.nil
 | _::_,_,h=>.cons (AE h) (isNs_of (As h))
theorem emNs_len (x:Expr):∀ (ts:List Nat) (k:Nat),(emNs x ts k).length=ts.length
 | [],_=>rfl
 | _::r,k=>congrArg (· + 1) (emNs_len x r (k+1))
theorem isSw_of {K:Kx} {x:Expr} {line:Nat}:∀ {ts:List Nat} {k:Nat},okSw K x line ts k=true->IsSw K line ts (emNs x ts k)
 | [],_,_=>.nil
 | _::_,_,h=>.cons (AE (AE (AE h))) (isLoc_ok (As (AE (AE h)))) (of_decide_eq_true (As (AE h))) (isSw_of (As h))
theorem isT_of {K:Kx} {ts:List Nat} {x:Expr} (h:okT K ts x=true):IsT K ts (emT ts x):=by
 induction ts with
 | nil=>exact .more (isNs_of h) (by decide)
 | cons i r=>induction r with
  | nil=>exact .one h
  | cons j r=>exact .more (isNs_of (ts:=i::j::r) h) (by simp)
mutual
theorem AV:∀ (e:E) {K:Kx} {x:Expr},okE e K x=true->IsE e K (emE e x)
 | .cst _,_,_,h=>.mk h
 | .var _,_,_,h=>.mk ⟨AE h,isAt_ok (As h)⟩
 | .ty _,_,_,h=>.mk (Ci h)
 | .cls _,_,_,h=>.mk (Ci h)
 | .glo _,_,_,h=>.mk (Ci h)
 | .bin _ _ a b,_,_,h=>.mk (AV a (AE h)) (AV b (As h))
 | .neg a,_,_,h=>.mk (AV a h)
 | .not a,_,_,h=>.mk (AV a h)
 | .bop _ es,_,_,h=>.mk (isEs_of es h)
 | .cmp _ a b,_,_,h=>.mk (AV a (AE h)) (AV b (As h)) (em_set b _)
 | .cmp2 _ _ a b c,_,_,h=>.mk (AV a (AE h)) (AV b (AE (As h))) (AV c (As (As h))) (em_set c _)
 | .tup es,_,_,h=>.mk (isEs_of es h)
 | .lst _ es,_,_,h=>.mk (isEs_of es h)
 | .sub a i,_,_,h=>.mk (AV a (AE h)) (AV i (As h))
 | .slc _ a lo hi,_,_,h=>.mk (AV a (AE h)) (isO_of lo (AE (As h))) (isO_of hi (As (As h)))
 | .bcall _ _ es,_,_,h=>.mk (Ci (AE h)) (isEs_of es (AE (As h))) (em_ne (As (As h)) _ _)
 | .fcall _ _ es,_,_,h=>.mk (Ci (AE h)) (isEs_of es (AE (As h))) (em_ne (As (As h)) _ _)
 | .meth _ _ o es,_,_,h=>.mk (AV o (AE h)) (isEs_of es (AE (As h))) (of_decide_eq_true (AE (As (As h)))) (by rw [em_len]; exact of_decide_eq_true (AE (As (As (As h))))) (not1 (As (As (As (As h)))))
 | .comp _ elt ts it ifs,_,_,h=>.mk (isI_of it (AE h)) (emI_set it _) ⟨AE (As h),AE (As (As h))⟩ (isT_of (AE (As (As (As h))))) (AV elt (AE (As (As (As (As h)))))) (isEs_of ifs (As (As (As (As (As h))))))
 | .sset _ a,_,_,h=>.mk (Ci (AE h)) (Ci (AE (As h))) (AV a (As (As h))) (FZ a _)
theorem isEs_of:∀ (es:List E) {K:Kx} {x:Expr} {k:Nat},okEs es K x k=true->IsEs es K (emEs es x k)
 | [],_,_,_,_=>.mk
 | e::r,_,_,_,h=>.mk (AV e (AE h)) (FZ e _) (isEs_of r (As h))
theorem isO_of:∀ (o:Option E) {K:Kx} {x:Option Expr},okO o K x=true->IsO o K (emO o x)
 | none,_,_,_=>.mk
 | some e,_,_,h=>.mk (AV e h)
theorem isI_of:∀ (it:It) {K:Kx} {x:Expr},okI it K x=true->IsI it K (emI it x)
 | .of e,_,_,h=>AV e h
 | .range es,_,_,h=>.mk (Ci (AE h)) (isEs_of es (AE (As h))) (em_ne (As (As h)) _ _)
 | .zip a b,_,_,h=>.mk (Ci (AE h)) (AV a (AE (As h))) (AV b (As (As h))) (FZ a _) (FZ b _)
 | .enum a,_,_,h=>.mk (Ci (AE h)) (.mk (AV a (As h)) (FZ a _) .mk) (List.cons_ne_nil _ _)
end
theorem isN_of {K:Kx} {nm:Option Nat} {h:ExceptHandler} (q:okN K nm h=true):HNm K nm (nm.map fun _=>hN h):=by
 induction nm with
 | none=>exact .no
 | some i=>exact .yes (AE q) (isLoc_ok (As q))
theorem emSs_ne {l:List S} (h:(!l.isEmpty)=true) (x:List Stmt):emSs l x≠[]:=by
 induction l with
 | nil=>exact ff_ h
 | cons e r=>exact List.cons_ne_nil _ _
theorem emHs_ne {l:List (Nat×Option Nat×List S)} (h:(!l.isEmpty)=true) (x:List ExceptHandler):emHs l x≠[]:=by
 induction l with
 | nil=>exact ff_ h
 | cons e r=>exact List.cons_ne_nil _ _
mutual
theorem isS_of:∀ (s:S) {K:Kx} {x:Stmt},okS s K x=true->IsS s K (emS s x)
 | .asg _ e,_,_,h=>.mk (AE h) (AV e (AE (As h))) (As (As h))
 | .unp xs e,_,_,h=>.mk (.more (isNs_of (AE h)) (of_decide_eq_true (AE (As h)))) (AV e (AE (As (As h)))) (AE (As (As (As h)))) (As (As (As (As h))))
 | .swp xs es,_,_,h=>.mk ⟨isSw_of (AE h),of_decide_eq_true (AE (As h))⟩ (isEs_of es (AE (As (As h)))) (by rw [emNs_len]; exact of_decide_eq_true (AE (As (As (As h))))) (by rw [em_len,emNs_len,of_decide_eq_true (AE (As (As (As h)))),of_decide_eq_true (AE (As (As (As (As h)))))]) (not1 (AE (As (As (As (As (As h))))))) (not1 (As (As (As (As (As (As h)))))))
 | .set o i v,_,_,h=>.mk (AV v (AE h)) (AV o (AE (As h))) (AV i (AE (As (As h)))) (As (As (As h)))
 | .exp e,_,_,h=>.mk (AV e (AE h)) (As h)
 | .ite c a b,_,_,h=>.mk (AV c (AE h)) (isSs_of a (AE (As h))) (isSs_of b (As (As h)))
 | .for_ ts it body,_,_,h=>.mk ⟨isT_of (AE h),AE (As h)⟩ (isI_of it (AE (As (As h)))) (emI_set it _) (isSs_of body (As (As (As h))))
 | .ret e,_,_,h=>.mk (AV e h)
 | .raise c es,_,_,h=>.mk ⟨Ci (AE h),of_decide_eq_true (AE (As h)),of_decide_eq_true (AE (As (As h)))⟩ (isEs_of es (AE (As (As (As h))))) (em_ne (As (As (As (As h)))) _ _)
 | .try_ body hs,_,_,h=>.mk (isSs_of body (AE h)) (isHs_of hs (AE (As h))) (emHs_ne (As (As h)) _)
theorem isSs_of:∀ (l:List S) {K:Kx} {x:List Stmt},okSs l K x=true->IsSs l K (emSs l x)
 | [],_,_,_=>.mk
 | s::r,_,_,h=>.mk (isS_of s (AE h)) (isSs_of r (As h))
theorem isHs_of:∀ (l:List (Nat×Option Nat×List S)) {K:Kx} {x:List ExceptHandler},okHs l K x=true->IsHs l K (emHs l x)
 | [],_,_,_=>.mk
 | (_,nm,body)::r,_,_,h=>.mk (Ci (AE h)) (isSs_of body (AE (As (As h)))) (emSs_ne (AE (As (As (As h)))) _) (isN_of (AE (As h))) (isHs_of r (As (As (As (As h)))))
end
end Mine.Internal
namespace Mine.Internal
open PySem PySem.Calls
noncomputable def RaiseOk (T:Top):Prop:=∀ (c:Nat) (v:Value),c≠0->T.cls c=some v->∀ (A:Around) (env:Env) (s:Shared) (nm:Str) (np cp pos:Pos) (args:List Expr) (Q:Flow->Shared->Prop) (E:Value->Shared->Prop) (g:G),HOk g A ->
 (backTo cp (starEach args env)).any (·.1)=false ->
 wpAny (model T.prog T.w) A (eval (.Name nm np) env) (fun f s₁=>f=v/\wpAny (model T.prog T.w) A (evalArgs v true (backTo cp (starEach args env)) []) (fun a s2=>a.kw=[]/\a.pos.length<=sizeLine ∧
  (∀ b o,T.h0.get? b=some o->s2.heap.get? b=some o)/\(∀ b o,g.fz b=some o->s2.heap.get? b=some o)/\∀ h' e oe vs,s2.heap.get? e=none->(∀ b o,s2.heap.get? b=some o->h'.get? b=some o)->h'.get? e=some oe->oe.cls=v->oe.dict=none->oe.data=.fields vs->vs[1]? = some .none->∀ u,vs[2]? = some u->CT g u->(A.handled=none->u=.none)->E (.ref e) { s2 with heap:=h' }) E s₁) E s ->
 wpAny (model T.prog T.w) A (exec (.Raise (some (.Call (.Name nm np) args [] cp)) none pos) env) Q E s
noncomputable def CatchOk (T:Top) (isExc:Nat->Nat->Option Bool):Prop :=
 ∀ (c k:Nat) (b:Bool) (w:Value),isExc c k=some b->T.cls k=some w->∀ (A:Around) (Q:Bool->Shared->Prop) (E:Value->Shared->Prop) (s:Shared) (e:Addr) (o:Obj),
  (∀ b o,T.h0.get? b=some o->s.heap.get? b=some o)->s.heap.get? e=some o->(T.cls (kl c)=some o.cls/\o.dict=none/\∃ ws,o.data=.fields ws)->Q b s->wpAny (model T.prog T.w) A (excMatches (.ref e) w) Q E s
structure Ready (T:Top) (gl:Str->Option GV) (isExc:Nat->Nat->Option Bool):Prop where
 ok:TopOk T
 isi:IsiOk T isExc
 raise:RaiseOk T
 catch_:CatchOk T isExc
 fnob:∀ f a,T.fn f=some a->∃ o fd,T.h0.get? a=some o/\o.data=.func fd
 ns:∃ mg mb,T.h0.Ns mainGlobals mg/\T.h0.Ns builtinsNs mb/\∀ n v,gl n=some v->(match v with
  | .fn f=>∃ a,T.fn f=some a/\mg n=some (.ref a)
  | .cls c=>∃ x,T.cls c=some x/\(mg n=some x\/(mg n=none/\mb n=some x))
  | .con d=>∃ x,mg n=some x/\B7 (fun a=>T.h0.get? a) d x
  | .bi b=>mg n=none/\mb n=some (Dn b)
  | .ty t=>mg n=none/\mb n=some (.type t))
noncomputable def CallOk (T:Top) (cf:CF) (n:Nat):Prop :=
 ∀ {fe:List Env} {hd:Bool} {A:Around} {g:G} {σ:Store} {s:Shared} {m:Mode} {f:Nat} {a:Addr} {vs:List V} {xs:List Value},T.fn f=some a->St T g σ s.heap->BI g s.heap fe->fe≠[] ->
  AOk fe hd n A->HOk g A->RepVs T g vs xs->Sim T (Af fe) none A g s (call (.ref a) xs) (Aj T) (cf hd m f vs σ)
structure Cx (T:Top) (K:Kx) (C:Cfg) (fe:List Env) (env:Env) (A:Around) (n:Nat):Prop where
 rd:Ready T K.gl C.isExc
 names:env.scope.names=K.names
 ha:AOk fe C.hd n A
 cf:CallOk T C.cf n
noncomputable def SE (e:E):Prop:=∀ {T:Top} {K:Kx} {C:Cfg} {fe:List Env} {own:List Addr} {env:Env} {A:Around} {n:Nat} {ρ:Au} {g:G} {σ:Store} {s:Shared} (ex:Expr),
 IsE e K ex->Cx T K C fe env A n->Inv T fe own K.wr env K.vars ρ g σ s.heap->HOk g A->Sim T (Af fe) env.frame A g s (eval ex env) (Aj T) (Ac C e ρ σ)
noncomputable def toB (v:V) (σ:Store):Res Bool:=match B2 σ v with | some b=>.ok b σ | none=>.bad
noncomputable def ST (e:E):Prop:=∀ {T:Top} {K:Kx} {C:Cfg} {fe:List Env} {own:List Addr} {env:Env} {A:Around} {n:Nat} {ρ:Au} {g:G} {σ:Store} {s:Shared} (ex:Expr),
 IsE e K ex->Cx T K C fe env A n->Inv T fe own K.wr env K.vars ρ g σ s.heap->HOk g A->Sim T (Af fe) env.frame A g s (isTrue ex env (eval ex env)) IsB ((Ac C e ρ σ).bind toB)
noncomputable def SEs (es:List E):Prop:=∀ {T:Top} {K:Kx} {C:Cfg} {fe:List Env} {own:List Addr} {env:Env} {A:Around} {n:Nat} {ρ:Au} {g:G} {σ:Store} {s:Shared} (xs:List Expr) (pos:Pos),
 IsEs es K xs->Cx T K C fe env A n->Inv T fe own K.wr env K.vars ρ g σ s.heap->HOk g A->Sim T (Af fe) env.frame A g s (spliced (backTo pos (starEach xs env))) (RepVs T) (evalEs C es ρ σ)
section
variable {T:Top} {K:Kx} {C:Cfg} {fe:List Env} {own:List Addr} {env:Env} {A:Around} {n:Nat} {ρ:Au} {g g':G} {σ σ':Store} {s s':Shared} {fs:List Addr} {L:Option Addr}
theorem Sim.liftL {α β:Type} {m:Sem α} {rep:G->β->α->Prop} {r:Res β} (h:Sim T fs none A g s m rep r):Sim T fs L A g s m rep r :=
 fun hr=>wpAny_mono (h hr) (fun _ _ x=>x) fun _ _ hz_=>by obtain ⟨c,σ',g',e,st,f⟩:=hz_; exact ⟨c,σ',g',e,st,f⟩
theorem Inv.ne (I:Inv T fe own K.wr env K.vars ρ g σ s.heap):fe≠[]:=by obtain ⟨e,r,h,_⟩:=I.top; rw [h]; simp
theorem AL (h:env.scope.names=K.names) (n:Str):env.kindOf n=K.names.lookup n:=by unfold Env.kindOf; rw [h]
theorem isVar_kind (h:env.scope.names=K.names) {n:Str} (hv:K.isVar n=true) :
 (env.kindOf n=some .local\/env.kindOf n=some .cell\/env.kindOf n=some .free)/\(n == ("__debug__" : Str))=false/\(n == ("__classdict__" : Str))=false:=by
 rw [AL h]
 unfold Kx.isVar at hv
 simp only [Bool.and_eq_true,Bool.not_eq_true',Bool.or_eq_true] at hv
 obtain ⟨⟨h1,h2⟩,h3⟩:=hv
 exact ⟨h1.imp Kx.kd_eq (Or.imp Kx.kd_eq Kx.kd_eq),h2,h3⟩
theorem isGl_kind (h:env.scope.names=K.names) {n:Str} (hv:K.isGl n=true):env.kindOf n=some .globalImplicit/\(n == ("__debug__" : Str))=false:=by
 rw [AL h]
 unfold Kx.isGl at hv
 simp only [Bool.and_eq_true,Bool.not_eq_true'] at hv
 obtain ⟨h1,h2⟩:=hv
 exact ⟨Kx.kd_eq h1,h2⟩
theorem Cf {p:Pos} {nm:Str} {v:GV} {Q:Value->Shared->Prop} {E:Value->Shared->Prop} (cx:Cx T K C fe env A n) (I:Inv T fe own K.wr env K.vars ρ g σ s.heap) (hn:K.isGl nm=true) (hv:K.gl nm=some v)
 (h:∀ x,(match v with | .fn f=>∃ a,T.fn f=some a/\x=.ref a | .cls c=>T.cls c=some x | .con d=>B7 g.fz d x | .bi b=>x=Dn b | .ty t=>x=.type t)->Q x s) :
 wpAny (model T.prog T.w) A (eval (.Name nm p) env) Q E s:=by
 obtain ⟨mg,mb,hg,hb,ht⟩:=cx.rd.ns
 obtain ⟨hk,hd⟩:=isGl_kind cx.names hn
 have kp:=I.st.keepsBase
 have hg':s.heap.Ns env.globals mg:=by rw [I.blk.glob]; exact hg.keeps kp
 have hb':s.heap.Ns env.builtins mb:=by rw [I.blk.blt]; exact hb.keeps kp
 refine Name_function_global I.blk.kind hk ?_ hd
 have t:=ht nm v hv
 induction v with
 | fn f=>obtain ⟨a,h1,h2⟩:=t; exact loadGlobal_global hg' h2 (h _ ⟨a,h1,rfl⟩)
 | cls c =>
  obtain ⟨x,h1,h2⟩:=t
  rcases h2 with h2 | ⟨h2,h3⟩
  ·exact loadGlobal_global hg' h2 (h _ h1)
  ·exact loadGlobal_builtin hg' h2 hb' h3 (h _ h1)
 | con d=>obtain ⟨x,h1,h2⟩:=t; exact loadGlobal_global hg' h1 (h _ (B7.mono (fun a o e=>I.st.base a o e) _ _ h2))
 | bi b=>exact loadGlobal_builtin hg' t.1 hb' t.2 (h _ rfl)
 | ty q=>exact loadGlobal_builtin hg' t.1 hb' t.2 (h _ rfl)
theorem se_cst (x:PyData):SE (.cst x):=by
 intro T K C fe own env A n ρ g σ s ex hc cx I hH
 induction hc with
 | @mk c k p hc =>
  rw [Ah]
  have hc:constIs c x=true:=hc
  induction c with
  | none=>cases x with
   | none=>exact Sim.ofTok I.st fun Q h=>wpAny_Constant_none (h _ s.toks rfl)
   | _=>exact (Bool.false_ne_true hc).elim
  | bool a=>cases x with
   | bool b=>rw [<-beq_iff_eq.mp (show (a == b)=true from hc)]; exact Sim.ofTok I.st fun Q h=>wpAny_Constant_bool (h _ s.toks rfl)
   | _=>exact (Bool.false_ne_true hc).elim
  | int a=>cases x with
   | int b=>rw [<-beq_iff_eq.mp (show (a == b)=true from hc)]; exact Sim.ofTok I.st fun Q h=>wpAny_Constant_int (h _ _ ⟨_,rfl⟩)
   | _=>exact (Bool.false_ne_true hc).elim
  | str a=>cases x with
   | str b =>
    have hc:=Bool.and_eq_true_iff.mp (show (a == b&&decide (a.cps.size<=16777216))=true from hc)
    rw [<-beq_iff_eq.mp hc.1]
    exact Sim.ofTok I.st fun Q h=>wpAny_Constant_str (h _ _ ⟨_,rfl,of_decide_eq_true hc.2⟩)
   | _=>exact (Bool.false_ne_true hc).elim
  | _=>exact (Bool.false_ne_true hc).elim
set_option tactic.hygienic true in
set_option tactic.hygienic true in
theorem se_var (i:Nat):SE (.var i):=by
 intro T K C fe own env A n ρ g σ s ex hc cx I hH
 induction hc with
 | @mk nm p hc =>
  obtain ⟨hk,hd1,hd2⟩:=isVar_kind cx.names hc.1
  rw [Ad]
  split
  ·rename_i v hv
   exact Sim.of (load_name I hc.2 hk hv hd1 hd2 fun x r=>⟨g,.refl I.st,r⟩)
  ·exact Sim.bad
theorem se_cls (c:Nat):SE (.cls c):=by
 intro T K C fe own env A n ρ g σ s ex hc cx I hH
 induction hc with
 | @mk nm p hc=>exact Sim.of (Cf cx I hc.1 hc.2 fun x r=>⟨g,.refl I.st,r⟩)
theorem se_ty (t:String):SE (.ty t):=by
 intro T K C fe own env A n ρ g σ s ex hc cx I hH
 induction hc with
 | @mk nm p hc=>exact Sim.of (Cf cx I hc.1 hc.2 fun x r=>⟨g,.refl I.st,r⟩)
theorem se_glo (x:PyData):SE (.glo x):=by
 intro T K C fe own env A n ρ g σ s ex hc cx I hH
 induction hc with
 | @mk nm p hc=>exact Sim.of (Cf cx I hc.1 hc.2 fun x r=>⟨g,.refl I.st,r⟩)
theorem se_bin (fz:Bool) (op:Operator) {a b:E} (ha:SE a) (hb:SE b):SE (.bin fz op a b):=by
 intro T K C fe own env A n ρ g σ s ex hc cx I hH
 induction hc with
 | @mk l r p h1 h2 =>
  rw [arm_eval_BinOp]
  rw [A5]
  refine Sim.bind (ha _ h1 cx I hH) fun x v σ1 g₁ s₁ _ st1 r₁=>Sim.bind (Sim.holding (hb _ h2 cx (I.step st1) (hH.mono st1.le))) fun y w σ₂ g2 s2 _ st2 r2=>Sim.standAt (Sim.operate ?_)
  exact sim_binop cx.rd.ok fz op st2.st (I.step st1 |>.step st2).fr cx.ha I.ne (Aj.mono st2.le _ _ r₁) r2
theorem okb {α β:Type} {a:α} {σ:Store} {f:α->Store->Res β}:(Res.ok a σ).bind f=f a σ:=rfl
theorem notT {C:Cfg} {a:E} {ρ:Au} {σ:Store}:(Ac C (.not a) ρ σ).bind toB=((Ac C a ρ σ).bind toB).bind fun b σ=>.ok (!b) σ:=by
 rw [eA_8]
 cases Ac C a ρ σ with
 | ok v σ=>dsimp only [Res.bind,toB]; cases B2 σ v <;> rfl
 | exc c σ=>rfl
 | bad=>rfl
theorem se_not {a:E} (ha:ST a) (ha':SE a):SE (.not a)/\ST (.not a):=by
 constructor
 ·intro T K C fe own env A n ρ g σ s ex hc cx I hH
  induction hc with
  | @mk x p hc =>
   rw [arm_eval_UnaryOp]
   rw [eA_8]
   refine Sim.bind (ha' _ hc cx I hH) fun x v σ1 g₁ s₁ _ st1 r₁=>Sim.standAt (Sim.holding ?_)
   have t:=EH (fs:=Af fe) (L:=env.frame) (A:=A) st1.st r₁
   unfold unaryOp
   refine Sim.holding ?_
   show Sim T (Af fe) env.frame A g₁ s₁ (truthy x>>=fun b=>pure (.bool (!b))) (Aj T) _
   induction e:B2 σ1 v with
   | none=>exact Sim.bad
   | some b =>
    rw [e] at t
    exact Sim.bind (r:=.ok b σ1) (f:=fun (b:Bool) (σ:Store)=>(Res.ok (V.d (.bool (!b))) σ:Res V)) t fun y b' σ₂ g2 s2 _ st2 r2=>Sim.pure st2.st (congrArg (fun b=>Value.bool (!b)) (show y=b' from r2))
 ·intro T K C fe own env A n ρ g σ s ex hc cx I hH
  induction hc with
  | @mk x p hc =>
   rw [arm_isTrue_UnaryOp,notT]
   exact Sim.bind (ha _ hc cx I hH) fun y b' σ₂ g2 s2 _ st2 r2=>Sim.pure st2.st (congrArg (!·) (show y=b' from r2))
theorem Bd {e:E} (h:SE e) (hp:∀ {K:Kx} {ex:Expr},IsE e K ex->∀ env w,isTrue ex env w=(w>>=fun v=>standAt ex.pos>>=fun _=>holding [v] (truthy v))):ST e:=by
 intro T K C fe own env A n ρ g σ s ex hc cx I hH
 rw [hp hc]
 exact Sim.bind (h _ hc cx I hH) fun x v σ1 g₁ s₁ _ st1 r₁=>Sim.standAt (Sim.holding (EH st1.st r₁))
end
theorem Res.bind_assoc {α β γ:Type} (r:Res α) (f:α->Store->Res β) (k:β->Store->Res γ):(r.bind f).bind k=r.bind fun a σ=>(f a σ).bind k:=by cases r <;> rfl
section
variable {T:Top} {K:Kx} {C:Cfg} {fe:List Env} {own:List Addr} {env:Env} {A:Around} {n:Nat} {ρ:Au} {g g':G} {σ σ':Store} {s s':Shared} {fs:List Addr} {L:Option Addr}
theorem se_neg {a:E} (ha:SE a):SE (.neg a):=by
 intro T K C fe own env A n ρ g σ s ex hc cx I hH
 induction hc with
 | @mk x p hc =>
  rw [arm_eval_UnaryOp]
  rw [eA_7]
  refine Sim.bind (ha _ hc cx I hH) fun x v σ1 g₁ s₁ _ st1 r₁=>Sim.standAt (Sim.holding ?_)
  cases v with
  | d y=>cases y with
   | int i =>
    obtain ⟨t,rfl⟩:=r₁
    exact Sim.ofTok st1.st fun Q h=>P.neg_int (h _ _ ⟨_,rfl⟩)
   | _=>exact Sim.bad
  | _=>exact Sim.bad
theorem cmp_tail (op:CmpOp) {v w:V} {x y:Value} {pos:Pos} (ha:AOk fe C.hd n A) (st:St T g σ s.heap) (r1:Aj T g v x) (r2:Aj T g w y) :
 Sim T fs L A g s (standAt pos>>=fun _=>operate [x,y] (compareOp op x y)) (Aj T) (match Bo op v w σ with | some b=>.ok (.d (.bool b)) σ | none=>.bad):=by
 have h:=EI (fs:=fs) (L:=L) op ha st r1 r2
 refine Sim.standAt (Sim.operate ?_)
 induction e:Bo op v w σ with
 | none=>exact Sim.bad
 | some b=>rw [e] at h; exact h
theorem truth_bool (σ:Store) (b:Bool):B2 σ (.d (.bool b))=some b:=rfl
theorem cmp_truth (op:CmpOp) {v w:V} {x y:Value} {pos:Pos} (ha:AOk fe C.hd n A) (st:St T g σ s.heap) (r1:Aj T g v x) (r2:Aj T g w y) :
 Sim T fs L A g s (standAt pos>>=fun _=>operate [x,y] (compareOp op x y)>>=fun c=>holding [c] (truthy c)) IsB (match Bo op v w σ with | some b=>.ok b σ | none=>.bad):=by
 have h:=EI (fs:=fs) (L:=L) op ha st r1 r2
 refine Sim.standAt ?_
 induction e:Bo op v w σ with
 | none=>exact Sim.bad
 | some b =>
  rw [e] at h
  exact Sim.bind (r:=.ok (.d (.bool b)) σ) (f:=fun v σ=>toB v σ) (Sim.operate h) fun c u σ1 g₁ s₁ e1 st1 r₁=>Sim.holding (EH st1.st r₁)
theorem EM {op:CmpOp} {r:Expr} (h:Ey r=true) (t:Sem Value):markedBehindIn op r t=t:=by
 unfold markedBehindIn
 have:behindInMarks op r=false:=by
  cases r <;> first | rfl | exact (Bool.false_ne_true h).elim
 rw [this]
theorem se_cmp (op:CmpOp) {a b:E} (ha:SE a) (hb:SE b):SE (.cmp op a b)/\ST (.cmp op a b):=by
 constructor
 ·intro T K C fe own env A n ρ g σ s ex hc cx I hH
  induction hc with
  | @mk l r p h1 h2 h3 =>
   rw [arm_eval_Compare]
   rw [Ao]
   refine Sim.bind (ha _ h1 cx I hH) fun x v σ1 g₁ s₁ _ st1 r₁=>?_
   show Sim T (Af fe) env.frame A g₁ s₁ (holding [x] (markedBehindIn op r (eval r env))>>=_) (Aj T) _
   rw [EM h3]
   exact Sim.bind (Sim.holding (hb _ h2 cx (I.step st1) (hH.mono st1.le))) fun y w σ₂ g2 s2 _ st2 r2=>cmp_tail op cx.ha st2.st (Aj.mono st2.le _ _ r₁) r2
 ·intro T K C fe own env A n ρ g σ s ex hc cx I hH
  induction hc with
  | @mk l r p h1 h2 h3 =>
   rw [arm_isTrue_Compare]
   rw [Ao]
   rw [Res.bind_assoc]
   refine Sim.bind (ha _ h1 cx I hH) fun x v σ1 g₁ s₁ _ st1 r₁=>?_
   show Sim T (Af fe) env.frame A g₁ s₁ (holding [x] (markedBehindIn op r (eval r env))>>=_) IsB _
   rw [EM h3,Res.bind_assoc]
   refine Sim.bind (Sim.holding (hb _ h2 cx (I.step st1) (hH.mono st1.le))) fun y w σ₂ g2 s2 _ st2 r2=>?_
   have h:=cmp_truth (pos:=p) (fs:=Af fe) (L:=env.frame) op cx.ha st2.st (Aj.mono st2.le _ _ r₁) r2
   induction e:Bo op v w σ₂ with
   | none=>exact Sim.bad
   | some b=>rw [e] at h; exact h
theorem se_cmp2 (op op':CmpOp) {a b c:E} (ha:SE a) (hb:SE b) (hcc:SE c):SE (.cmp2 op op' a b c)/\ST (.cmp2 op op' a b c):=by
 constructor
 ·intro T K C fe own env A n ρ g σ s ex hc cx I hH
  induction hc with
  | @mk l r r' p h1 h2 h3 h4 =>
   rw [arm_eval_Compare]
   rw [eA_11]
   refine Sim.bind (ha _ h1 cx I hH) fun x v σ1 g₁ s₁ _ st1 r₁=>?_
   show Sim T (Af fe) env.frame A g₁ s₁ (holding [x] (eval r env)>>=_) (Aj T) _
   refine Sim.bind (Sim.holding (hb _ h2 cx (I.step st1) (hH.mono st1.le))) fun y w σ₂ g2 s2 _ st2 r2=>?_
   have h:=EI (fs:=Af fe) (L:=env.frame) op cx.ha st2.st (Aj.mono st2.le _ _ r₁) r2
   have I2:=(I.step st1).step st2
   have H2:=(hH.mono st1.le).mono st2.le
   show Sim T (Af fe) env.frame A g2 s2 (standAt p>>=fun _=>holding [x,y] (compareOp op x y)>>=fun c=>release [x,y] [c]>>=fun _=>holding [c,y] (truthy c)>>=fun t =>
    if t=true then (holding [y] (markedBehindIn op' r' (eval r' env))>>=fun z=>standAt p>>=fun _=>operate [y,z] (compareOp op' y z)) else pure c) (Aj T) _
   refine Sim.standAt ?_
   induction e:Bo op v w σ₂ with
   | none=>exact Sim.bad
   | some t =>
    rw [e] at h
    intro hr
    refine wpAny_bind (wpAny_holding (wpAny_mono (h (by simp [ansB])) (fun cv s3 hz_=>?_) fun x s' hz_=>by obtain ⟨c,σ',g',e,_,_⟩:=hz_; exact ok_exc e))
    obtain ⟨u,σ3,g3,e3,st3,r3⟩:=hz_
    obtain ⟨rfl,rfl⟩:=ok_inj e3
    have r3:cv=.bool t:=r3
    subst r3
    refine wpAny_bind (wpAny_release (wpAny_bind (wpAny_holding (wpAny_truthy_bool ?_))))
    induction t with
    | false=>exact wpAny_pure ⟨_,_,g3,rfl,st3,rfl⟩
    | true =>
     show wpAny _ _ (holding [y] (markedBehindIn op' r' (eval r' env))>>=_) _ _ _
     rw [EM h4]
     have fin:=Sim.bind (Sim.holding (vs:=[y]) (hcc _ h3 cx (I2.step st3) (H2.mono st3.le))) fun z u σ4 g4 s4 _ st4 r4=>cmp_tail (pos:=p) (fs:=Af fe) (L:=env.frame) op' cx.ha st4.st (Aj.mono st4.le _ _ (Aj.mono st3.le _ _ r2)) r4
     refine wpAny_mono (fin hr) (fun _ _ h=>h.after st3) fun _ _ h=>h.after st3
 ·intro T K C fe own env A n ρ g σ s ex hc cx I hH
  induction hc with
  | @mk l r r' p h1 h2 h3 h4 =>
   rw [arm_isTrue_Compare]
   rw [eA_11]
   rw [Res.bind_assoc]
   refine Sim.bind (ha _ h1 cx I hH) fun x v σ1 g₁ s₁ _ st1 r₁=>?_
   rw [Res.bind_assoc]
   show Sim T (Af fe) env.frame A g₁ s₁ (holding [x] (eval r env)>>=_) IsB _
   refine Sim.bind (Sim.holding (hb _ h2 cx (I.step st1) (hH.mono st1.le))) fun y w σ₂ g2 s2 _ st2 r2=>?_
   have h:=EI (fs:=Af fe) (L:=env.frame) op cx.ha st2.st (Aj.mono st2.le _ _ r₁) r2
   have I2:=(I.step st1).step st2
   have H2:=(hH.mono st1.le).mono st2.le
   show Sim T (Af fe) env.frame A g2 s2 (standAt p>>=fun _=>holding [x,y] (compareOp op x y)>>=fun c=>release [x,y] [c]>>=fun _=>holding [c,y] (truthy c)>>=fun t =>
    if t=true then (holding [y] (markedBehindIn op' r' (eval r' env))>>=fun z=>standAt p>>=fun _=>operate [y,z] (compareOp op' y z)>>=fun c=>holding [c] (truthy c)) else pure false) IsB _
   refine Sim.standAt ?_
   induction e:Bo op v w σ₂ with
   | none=>exact Sim.bad
   | some t =>
    rw [e] at h
    intro hr
    refine wpAny_bind (wpAny_holding (wpAny_mono (h (by simp [ansB])) (fun cv s3 hz_=>?_) fun x s' hz_=>by obtain ⟨c,σ',g',e,_,_⟩:=hz_; exact ok_exc e))
    obtain ⟨u,σ3,g3,e3,st3,r3⟩:=hz_
    obtain ⟨rfl,rfl⟩:=ok_inj e3
    have r3:cv=.bool t:=r3
    subst r3
    refine wpAny_bind (wpAny_release (wpAny_bind (wpAny_holding (wpAny_truthy_bool ?_))))
    induction t with
    | false=>exact wpAny_pure ⟨_,_,g3,rfl,st3,rfl⟩
    | true =>
     show wpAny _ _ (holding [y] (markedBehindIn op' r' (eval r' env))>>=_) _ _ _
     rw [EM h4]
     have fin:Sim T (Af fe) env.frame A g3 s3 (holding [y] (eval r' env)>>=fun z=>standAt p>>=fun _=>operate [y,z] (compareOp op' y z)>>=fun c=>holding [c] (truthy c)) IsB
      ((Ac C c ρ σ₂).bind fun z σ=>(match Bo op' w z σ with | some b=>.ok b σ | none=>.bad)) :=
      Sim.bind (Sim.holding (vs:=[y]) (hcc _ h3 cx (I2.step st3) (H2.mono st3.le))) fun z u σ4 g4 s4 _ st4 r4=>cmp_truth (pos:=p) (fs:=Af fe) (L:=env.frame) op' cx.ha st4.st (Aj.mono st4.le _ _ (Aj.mono st3.le _ _ r2)) r4
     have er:((Ac C c ρ σ₂).bind fun z σ=>(match Bo op' w z σ with | some b=>.ok b σ | none=>.bad))=((Ac C c ρ σ₂).bind fun z σ=>(match Bo op' w z σ with | some b=>.ok (V.d (.bool b)) σ | none=>.bad)).bind toB:=by
      rw [Res.bind_assoc]
      congr 1; funext z σ; cases Bo op' w z σ <;> rfl
     rw [er] at fin
     refine wpAny_mono (fin hr) (fun _ _ h=>h.after st3) fun _ _ h=>h.after st3
theorem ses_nil:SEs []:=by
 intro T K C fe own env A n ρ g σ s xs pos hc cx I hH
 cases hc
 (first | rw [An] | rw [Ap])
 exact Sim.of (spliced_nil ⟨g,.refl I.st,trivial⟩)
theorem Bh {e:Expr} {r:List Expr} (h:EN e=true) (env:Env):starEach (e::r) env=(false,eval e env)::starEach r env:=by
 cases e <;> first | rfl | exact ff_ h
theorem ses_cons {e:E} {es:List E} (h1:SE e) (h2:SEs es):SEs (e::es):=by
 intro T K C fe own env A n ρ g σ s xs pos hc cx I hH
 induction hc with
 | @mk x l c1 c2 c3 =>
  rw [Bh c2]
  (first | rw [An] | rw [Ap])
  show Sim T (Af fe) env.frame A g s (spliced ((false,eval x env)::backTo pos (starEach l env))) (RepVs T) _
  intro hr
  refine spliced_cons (wpAny_mono (h1 _ c1 cx I hH (AH hr)) (fun v s₁ hz_=>?_) fun _ _ h=>h.bind)
  obtain ⟨b,σ1,g₁,e1,st1,r₁⟩:=hz_
  rw [e1] at hr ⊢
  refine wpAny_mono (h2 _ pos c3 cx (I.step st1) (hH.mono st1.le) (AH (r:=evalEs C es ρ σ1) hr)) (fun vs s2 hz_=>?_)
   fun _ _ h=>(ExR.bind (h.after st1):ExR _ _ _ _ _ ((evalEs C es ρ σ1).bind _) _ _)
  obtain ⟨bs,σ₂,g2,e2,st2,r2⟩:=hz_
  exact ⟨b::bs,σ₂,g2,by show ((evalEs C es ρ σ1).bind _)=_; rw [e2]; rfl,st1.trans st2,Aj.mono st2.le _ _ r₁,r2⟩
end
noncomputable def Gf:List E->Prop
 | []=>True
 | e::r=>(SE e/\ST e)/\Gf r
theorem Gf.ses:∀ {es:List E},Gf es->SEs es
 | [],_=>ses_nil
 | _::_,h=>ses_cons h.1.1 (Gf.ses h.2)
theorem mkList_ne {fz:Bool} {vs:List V} {σ:Store} (h:A2 fz vs σ≠.bad):vs.length<=line:=by
 refine Decidable.by_contra fun q=>h ?_
 exact if_neg q
section
variable {T:Top} {K:Kx} {C:Cfg} {fe:List Env} {own:List Addr} {env:Env} {A:Around} {n:Nat} {ρ:Au} {g g':G} {σ σ':Store} {s s':Shared} {fs:List Addr} {L:Option Addr}
theorem newList_sim {fz:Bool} {vs:List V} {xs:List Value} (st:St T g σ s.heap) (r:RepVs T g vs xs):Sim T fs L A g s (newList xs) (Aj T) (A2 fz vs σ):=by
 intro hr
 have hl:=mkList_ne hr
 refine wpAny_newList ?_ (by rw [<-r.length,<-B1]; exact hl)
 obtain ⟨v,σ',g',e,stp,rp⟩:=CZ (fs:=fs) (s':={ s with heap:=s.heap.push { cls:=.type "list",data:=.seq xs.toArray } }) st (fun b x e=>Heap.get?_push_of_some _ e) (Heap.get?_push_size _ rfl) (BA _) (by simpa using r) hr
 exact ⟨v,σ',g',e,stp,rp⟩
set_option tactic.hygienic true in
theorem newTuple_sim {vs:List V} {xs:List Value} (st:St T g σ s.heap) (r:RepVs T g vs xs):Sim T fs L A g s (newTuple xs) (Aj T) (if vs.length<=line then .ok (En vs) σ else .bad):=by
 split
 ·rename_i hl
  refine Sim.of (wpAny_newTuple ?_ (by rw [<-r.length,<-B1]; exact hl))
  obtain ⟨g',stp,rp⟩:=made_tuple (fs:=fs) (s':={ s with heap:=s.heap.push { cls:=.type "tuple",data:=.seq xs.toArray } }) st (fun b x e=>Heap.get?_push_of_some _ e) (Heap.get?_push_size _ rfl) rfl rfl (BA _) (by simpa using r) hl
  exact ⟨g',stp,rp⟩
 ·exact Sim.bad
theorem se_tup {es:List E} (h:SEs es):SE (.tup es):=by
 intro T K C fe own env A n ρ g σ s ex hc cx I hH
 induction hc with
 | @mk vs k p hc =>
  rw [arm_eval_Tuple]
  rw [Bj]
  exact Sim.standAt (Sim.bind (h _ _ hc cx I hH) fun xs vs σ1 g₁ s₁ _ st1 r₁=>newTuple_sim st1.st r₁)
theorem se_lst (fz:Bool) {es:List E} (h:SEs es):SE (.lst fz es):=by
 intro T K C fe own env A n ρ g σ s ex hc cx I hH
 induction hc with
 | @mk vs p hc =>
  rw [arm_eval_List]
  rw [Cn]
  exact Sim.standAt (Sim.bind (h _ _ hc cx I hH) fun xs vs σ1 g₁ s₁ _ st1 r₁=>newList_sim st1.st r₁)
theorem item_type {a:V} {x:Value} (st:St T g σ s.heap) (ra:Aj T g a x) (h:(∃ y,a=.d (.str y))\/∃ vs,Dt σ a=some vs) :
 ∃ Ty id,s.TypeIs x Ty/\typeLookup (.type Ty) "__getitem__" = pure (some (.builtin id)):=by
 rcases h with ⟨y,rfl⟩ | ⟨vs,e⟩
 ·obtain ⟨t,rfl,_⟩:=ra
  exact ⟨"str",_,typeIs_str _ _ _,F.slot_str_getitem.lookup⟩
 ·obtain ⟨l,o,xs,m,rfl,ho,hc,hd,hr,hl⟩:=EJ st ra e
  rcases hc with hc | hc
  ·exact ⟨"list",_,⟨o,ho,hc⟩,slot_list_getitem.lookup⟩
  ·exact ⟨"tuple",_,⟨o,ho,hc⟩,F.slot_tuple_getitem.lookup⟩
theorem subscr_type {a i:V} (h:A4 a i σ≠none):(∃ y,a=.d (.str y))\/∃ vs,Dt σ a=some vs:=by
 refine Classical.byContradiction fun q=>h ?_
 have hs:Dt σ a=none:=by
  induction e:Dt σ a with
  | none=>rfl
  | some vs=>exact absurd (.inr ⟨vs,e⟩) q
 unfold A4
 induction Az i with
 | none=>rfl
 | some k =>
  have e:DK a k σ=none:=by
   unfold DK
   induction e:A3 a with
   | some y=>exact absurd (.inl ⟨y,Gx e⟩) q
   | none =>
    show (match Dt σ a with | some vs=>(match seqIndex? k vs.length with | some j=>vs[j]? | none=>none) | none=>none)=none
    rw [hs]
  show (if small k=true then DK a k σ else none)=none
  rw [e]
  cases small k <;> rfl
theorem lstOf_seqOf {v:V} {vs:List V} (h:B5 σ v=some vs):Dt σ v=some vs:=by
 cases v with
 | d x=>cases x with
  | list xs=>exact h
  | _=>exact Ab h
 | ref k=>exact h
 | _=>exact Ab h
theorem sub_tail {value slice:Expr} {x i:Value} {Ty id:String} {Q:Value->Shared->Prop} {E:Value->Shared->Prop} (hT:s.TypeIs x Ty) (hl:typeLookup (.type Ty) "__getitem__" = pure (some (.builtin id)))
 (h:wpAny (model T.prog T.w) A (getItem x i) Q E s):wpAny (model T.prog T.w) A (getitemInPython x>>=fun p=>subscripted slice p x i>>=fun r=>letTemporaryGo value x r>>=fun _=>pure r) Q E s:=by
 rw [getitemInPython_of_ne hT.not_modules]
 refine wpAny_bind (wpAny_bind (wpAny_specialOf hT hl ?_))
 have fin:∀ ws,wpAny (model T.prog T.w) A (operate ws (getItem x i)) (fun r s3=>wpAny (model T.prog T.w) A (letTemporaryGo value x r>>=fun _=>pure r) Q E s3) E s:=fun ws =>
  wpAny_operating (wpAny_mono h (fun r s3 h₃=>wpAny_bind (wpAny_letTemporaryGo (wpAny_pure h₃))) fun _ _ y=>y)
 have hs:∃ ws,subscripted slice false x i=operate ws (getItem x i):=by
  cases slice with
  | Slice _ _ c _=>cases c <;> exact ⟨_,rfl⟩
  | _=>exact ⟨_,rfl⟩
 obtain ⟨ws,hs⟩:=hs
 refine wpAny_pure (wpAny_bind ?_)
 rw [hs]
 exact fin ws
theorem se_sub {a i:E} (ha:SE a) (hi:SE i):SE (.sub a i):=by
 intro T K C fe own env A n ρ g σ s ex hc cx I hH
 induction hc with
 | @mk v x p h1 h2 =>
  rw [arm_eval_Subscript]
  rw [Am]
  refine Sim.bind (ha _ h1 cx I hH) fun x v σ1 g₁ s₁ _ st1 r₁=>Sim.bind (Sim.holding (hi _ h2 cx (I.step st1) (hH.mono st1.le))) fun y w σ₂ g2 s2 _ st2 r2=>Sim.standAt ?_
  have t:=sim_getItem (fs:=Af fe) (L:=env.frame) (A:=A) st2.st (Aj.mono st2.le _ _ r₁) r2
  induction e:A4 v w σ₂ with
  | none=>exact Sim.bad
  | some u =>
   rw [e] at t
   obtain ⟨Ty,id,hT,hl⟩:=item_type st2.st (Aj.mono st2.le _ _ r₁) (subscr_type (by rw [e]; simp))
   exact fun hr=>sub_tail hT hl (t hr)
noncomputable def SO (o:Option E):Prop:=∀ {T:Top} {K:Kx} {C:Cfg} {fe:List Env} {own:List Addr} {env:Env} {A:Around} {n:Nat} {ρ:Au} {g:G} {σ:Store} {s:Shared} (x:Option Expr),
 IsO o K x->Cx T K C fe env A n->Inv T fe own K.wr env K.vars ρ g σ s.heap->HOk g A->Sim T (Af fe) env.frame A g s (valueOrNone (evalOpt x env)) (RepO' T) (evalO C o ρ σ)
theorem so_none:SO none:=by
 intro T K C fe own env A n ρ g σ s x hc cx I hH
 cases hc
 (first | rw [CM] | rw [C8])
 exact Sim.pure I.st rfl
theorem so_some {e:E} (h:SE e):SO (some e):=by
 intro T K C fe own env A n ρ g σ s x hc cx I hH
 induction hc with
 | @mk e' hc =>
  (first | rw [CM] | rw [C8])
  show Sim T (Af fe) env.frame A g s (eval _ env) (RepO' T) _
  intro hr
  refine wpAny_mono (h _ hc cx I hH (AH hr)) (fun v s₁ hz_=>by obtain ⟨b,σ1,g₁,e1,st1,r₁⟩:=hz_; exact ⟨some b,σ1,g₁,by rw [e1]; rfl,st1,r₁⟩) fun _ _ h=>h.bind
theorem RepO'.mono {o:Option V} {x:Value} (le:G.le g g') (h:RepO' T g o x):RepO' T g' o x:=by
 induction o with
 | none=>exact h
 | some v=>exact Aj.mono le _ _ h
theorem isTupV_eq {v:V} {y:List PyData} (h:Ef v=some y):v=.d (.tuple y):=by
 cases v with
 | d x=>cases x with
  | tuple z=>rw [Option.some.inj (show some z=some y from h)]
  | _=>exact Ab h
 | _=>exact Ab h
theorem slice_type {fz:Bool} {a:V} {lo hi:Option V} (h:slice fz a lo hi σ≠.bad):(∃ y,a=.d (.str y))\/∃ vs,Dt σ a=some vs:=by
 unfold slice at h
 induction e1:Cm lo with
 | none=>rw [e1] at h; exact absurd rfl h
 | some l=>induction e2:Cm hi with
 | none=>rw [e1,e2] at h; exact absurd rfl h
 | some u =>
 rw [e1,e2] at h
 have h:Cq fz a l u σ≠.bad:=h
 unfold Cq at h
 induction es:A3 a with
 | some y=>exact .inl ⟨y,Gx es⟩
 | none=>induction et:Ef a with
 | some xs=>exact .inr ⟨xs.map .d,by rw [isTupV_eq et]; rfl⟩
 | none=>induction e3:B5 σ a with
 | none=>rw [es,et,e3] at h; exact absurd rfl h
 | some vs=>exact .inr ⟨vs,lstOf_seqOf e3⟩
theorem se_slc (fz:Bool) {a:E} {lo hi:Option E} (ha:SE a) (hl:SO lo) (hh:SO hi):SE (.slc fz a lo hi):=by
 intro T K C fe own env A n ρ g σ s ex hc cx I hH
 induction hc with
 | @mk v l u p p' h1 h2 h3 =>
  rw [arm_eval_Subscript,arm_eval_Slice]
  rw [Bm]
  refine Sim.bind (ha _ h1 cx I hH) fun x v' σ1 g₁ s₁ _ st1 r₁=>?_
  intro hr
  refine wpAny_bind (wpAny_holding (wpAny_bind ?_))
  have I1:=I.step st1
  have H1:=hH.mono st1.le
  refine wpAny_mono (hl _ h2 cx I1 H1 (AH hr)) (fun lv s2 hz_=>?_) fun _ _ h=>h.bind
  obtain ⟨b2,σ₂,g2,e2,st2,r2⟩:=hz_
  have I2:=I1.step st2
  have H2:=H1.mono st2.le
  rw [e2] at hr ⊢
  refine wpAny_bind (wpAny_holding (wpAny_mono (hh _ h3 cx I2 H2 (AH (r:=evalO C hi ρ σ₂) hr)) (fun uv s3 hz_=>?_)
   fun _ _ h=>(ExR.bind (h.after st2):ExR _ _ _ _ _ ((evalO C hi ρ σ₂).bind _) _ _)))
  obtain ⟨b3,σ3,g3,e3,st3,r3⟩:=hz_
  have hr3:slice fz v' b2 b3 σ3≠.bad:=fun q=>hr (by show ((evalO C hi ρ σ₂).bind _)=_; rw [e3]; exact q)
  have e4:(Res.ok b2 σ₂).bind (fun l σ=>(evalO C hi ρ σ).bind fun h σ=>slice fz v' l h σ)=slice fz v' b2 b3 σ3:=by show ((evalO C hi ρ σ₂).bind _)=_; rw [e3]; rfl
  rw [e4]
  refine wpAny_bind (wpAny_holding (wpAny_pure ?_))
  refine wpAny_newObj_type ?_
  refine wpAny_bind (wpAny_standAt ?_)
  have st4:Step T g3.mu (Af fe) g3 s3 g3 σ3 { s3 with heap:=s3.heap.push { cls:=.type "slice",data:=.fields #[lv,uv,.none] } }:=.grow st3.st fun b o e=>Heap.get?_push_of_some _ e
  have rx:=Aj.mono st3.le _ _ (Aj.mono st2.le _ _ r₁)
  obtain ⟨Ty,id,hT,hlk⟩:=item_type (s:={ s3 with heap:=s3.heap.push { cls:=.type "slice",data:=.fields #[lv,uv,.none] } }) st4.st rx (slice_type hr3)
  refine sub_tail hT hlk ?_
  refine wpAny_mono (sim_slice (fs:=Af fe) (L:=env.frame) (A:=A) st4.st rx (r2.mono st3.le) r3 (Heap.IsSliceOf.new s3.heap lv uv .none) hr3) (fun q s' hz_=>by obtain ⟨b,σ',g',e',st',rp'⟩:=hz_; exact ⟨b,σ',g',e',st2.trans (st3.trans (st4.trans st')),rp'⟩)
   fun q s' hz_=>by obtain ⟨cc,σ',g',e',st',fl⟩:=hz_; exact ⟨cc,σ',g',e',st2.trans (st3.trans (st4.trans st')),((fl.le (fun _ e=>st2.kept.dead (st3.kept.dead (st4.kept.dead e))) fun _ h=>h))⟩
noncomputable def SBv (op:BoolOp) (pos:Pos) (es:List E):Prop:=∀ {T:Top} {K:Kx} {C:Cfg} {fe:List Env} {own:List Addr} {env:Env} {A:Around} {n:Nat} {ρ:Au} {g:G} {σ:Store} {s:Shared} (xs:List Expr),
 IsEs es K xs->Cx T K C fe env A n->Inv T fe own K.wr env K.vars ρ g σ s.heap->HOk g A->Sim T (Af fe) env.frame A g s (boolOp pos op (evalEach xs env)) (Aj T) (evalB C op es ρ σ)
noncomputable def SBt (op:BoolOp) (es:List E):Prop:=∀ {T:Top} {K:Kx} {C:Cfg} {fe:List Env} {own:List Addr} {env:Env} {A:Around} {n:Nat} {ρ:Au} {g:G} {σ:Store} {s:Shared} (xs:List Expr),
 IsEs es K xs->Cx T K C fe env A n->Inv T fe own K.wr env K.vars ρ g σ s.heap->HOk g A->Sim T (Af fe) env.frame A g s (allTrue op xs env) IsB ((evalB C op es ρ σ).bind toB)
set_option backward.match.sparseCases true in
theorem boolOp_cons (pos:Pos) (op:BoolOp) (x y:Sem Value) (r:List (Sem Value)):boolOp pos op (x::y::r)=(x>>=fun v=>standAt pos>>=fun _=>holding [v] (truthy v)>>=fun t=>match op,t with
 | .And,false=>pure v | .Or,true=>pure v | _,_=>boolOp pos op (y::r)):=by
 rw [boolOp]
 ·rfl
 ·intro q; exact cons_ne q
theorem evalB_sim (op:BoolOp) (pos:Pos):∀ {es:List E},Gf es->SBv op pos es:=by
 intro es
 induction es with
 | nil =>
  intro _ T K C fe own env A n ρ g σ s xs hc cx I hH
  (first | rw [eC_1] | rw [eC_2] | rw [F2]); exact Sim.bad
 | cons e r ih =>
  intro h
  induction r with
  | nil =>
   intro T K C fe own env A n ρ g σ s xs hc cx I hH
   induction hc with
   | @mk x l c1 c2 c3 =>
    cases c3
    (first | rw [eC_1] | rw [eC_2] | rw [F2])
    exact h.1.1 _ c1 cx I hH
  | cons e' r =>
   intro T K C fe own env A n ρ g σ s xs hc cx I hH
   induction hc with
   | @mk x l c1 c2 c3 =>
    induction c3 with
    | @mk y l' d1 d2 d3 =>
     (first | rw [eC_1] | rw [eC_2] | rw [F2])
     show Sim T (Af fe) env.frame A g s (boolOp pos op (eval x env::eval y env::evalEach l' env)) (Aj T) _
     rw [boolOp_cons]
     refine Sim.bind (h.1.1 _ c1 cx I hH) fun xv v σ1 g₁ s₁ _ st1 r₁=>Sim.standAt ?_
     have t:=EH (fs:=Af fe) (L:=env.frame) (A:=A) st1.st r₁
     induction e:B2 σ1 v with
     | none=>exact Sim.bad
     | some b =>
      rw [e] at t
      intro hr
      refine wpAny_bind (wpAny_holding (wpAny_mono (t (by simp)) (fun b' s2 hz_=>?_) fun q s' hz_=>by obtain ⟨cc,σ',g',e',_,_⟩:=hz_; exact ok_exc e'))
      obtain ⟨bb,σ₂,g2,e2,st2,r2⟩:=hz_
      obtain ⟨rfl,rfl⟩:=ok_inj e2
      have r2:b'=b:=r2
      subst r2
      have go:=ih h.2 (y::l') (IsCons.mk d1 d2 d3) cx ((I.step st1).step st2) ((hH.mono st1.le).mono st2.le)
      cases op <;> cases b'
      ·exact wpAny_pure ⟨_,_,g2,rfl,st2,Aj.mono st2.le _ _ r₁⟩
      ·exact wpAny_mono (go hr) (fun _ _ h=>h.after st2) fun _ _ h=>h.after st2
      ·exact wpAny_mono (go hr) (fun _ _ h=>h.after st2) fun _ _ h=>h.after st2
      ·exact wpAny_pure ⟨_,_,g2,rfl,st2,Aj.mono st2.le _ _ r₁⟩
theorem allB {C:Cfg} {op:BoolOp} {e e':E} {r:List E} {ρ:Au} {σ:Store}:(evalB C op (e::e'::r) ρ σ).bind toB=((Ac C e ρ σ).bind toB).bind fun b σ=>match op,b with | .And,false=>.ok false σ | .Or,true=>.ok true σ | _,_=>(evalB C op (e'::r) ρ σ).bind toB:=by
 rw [F2]
 cases Ac C e ρ σ with
 | exc c σ'=>rfl
 | bad=>rfl
 | ok v σ' =>
  have k:toB v σ'=(match B2 σ' v with | some b=>.ok b σ' | none=>.bad):=rfl
  show Res.bind (match B2 σ' v,op with | some false,.And=>.ok v σ' | some true,.Or=>.ok v σ' | some _,_=>evalB C op (e'::r) ρ σ' | none,_=>.bad) toB=Res.bind (toB v σ') _
  induction h:B2 σ' v with
  | none=>rw [h] at k; rw [k]; rfl
  | some b =>
   rw [h] at k; rw [k]
   cases op <;> cases b
   ·exact k
   ·rfl
   ·rfl
   ·exact k
theorem allTrue_sim (op:BoolOp):∀ {es:List E},Gf es->SBt op es:=by
 intro es
 induction es with
 | nil =>
  intro _ T K C fe own env A n ρ g σ s xs hc cx I hH
  (first | rw [eC_1] | rw [eC_2] | rw [F2]); exact Sim.bad
 | cons e r ih =>
  intro h
  induction r with
  | nil =>
   intro T K C fe own env A n ρ g σ s xs hc cx I hH
   induction hc with
   | @mk x l c1 c2 c3 =>
    cases c3
    (first | rw [eC_1] | rw [eC_2] | rw [F2])
    rw [arm_allTrue_cons]
    have t:=h.1.2 _ c1 cx I hH
    intro hr
    refine wpAny_bind (wpAny_mono (t hr) (fun b s₁ hz_=>?_) fun _ _ y=>y)
    obtain ⟨b',σ1,g₁,e1,st1,r₁⟩:=hz_
    have r₁:b=b':=r₁
    subst r₁
    cases op <;> cases b <;> exact wpAny_pure ⟨_,σ1,g₁,e1,st1,rfl⟩
  | cons e' r =>
   intro T K C fe own env A n ρ g σ s xs hc cx I hH
   induction hc with
   | @mk x l c1 c2 c3 =>
    rw [arm_allTrue_cons,allB]
    refine Sim.bind (h.1.2 _ c1 cx I hH) fun y b' σ1 g₁ s₁ _ st1 r₁=>?_
    obtain rfl:y=b':=r₁
    have go:=ih h.2 l c3 cx (I.step st1) (hH.mono st1.le)
    cases op <;> cases y
    ·exact Sim.pure st1.st rfl
    ·exact go
    ·exact go
    ·exact Sim.pure st1.st rfl
theorem se_bop (op:BoolOp) {es:List E} (h:Gf es):SE (.bop op es)/\ST (.bop op es):=by
 constructor
 ·intro T K C fe own env A n ρ g σ s ex hc cx I hH
  induction hc with
  | @mk vs p h1 =>
   rw [arm_eval_BoolOp]
   rw [Gb]
   exact evalB_sim _ _ h _ h1 cx I hH
 ·intro T K C fe own env A n ρ g σ s ex hc cx I hH
  induction hc with
  | @mk vs p h1 =>
   rw [arm_isTrue_BoolOp]
   rw [Gb]
   exact allTrue_sim _ h _ h1 cx I hH
end
section
variable {T:Top} {K:Kx} {C:Cfg} {fe:List Env} {own:List Addr} {env:Env} {A:Around} {n:Nat} {ρ:Au} {g g':G} {σ σ':Store} {s s':Shared} {fs:List Addr} {L:Option Addr}
theorem CB:∀ {es:List E} {K:Kx} {xs:List Expr} (pos:Pos) (env:Env),IsEs es K xs->(backTo pos (starEach xs env)).any (·.1)=false:=by
 intro es
 induction es with
 | nil=>intro K xs pos env h; cases h; rfl
 | cons e es ih =>
  intro K xs pos env h
  induction h with
  | @mk x l h1 h2 h3 =>
   rw [Bh h2]
   exact ih pos env h3
theorem args_all {es:List E} {K:Kx} {xs:List Expr} (pos:Pos) (env:Env) (h:IsEs es K xs):(backTo pos (starEach xs env)).all (fun x=>!x.1)=true:=by
 have:=CB pos env h
 rw [List.any_eq_false] at this
 rw [List.all_eq_true]
 intro x hx
 simpa using this x hx
theorem args_none {pos:Pos} {f:Value} {Q:Args->Shared->Prop} {E:Value->Shared->Prop} (h:wpAny (model T.prog T.w) A (spliced (backTo pos (starEach [] env))) (fun vs s'=>Q ⟨vs,[]⟩ s') E s):wpAny (model T.prog T.w) A (evalArgs f true (backTo pos (starEach [] env)) []) Q E s:=by
 have e1:spliced (backTo pos (starEach [] env))=pure []:=rfl
 have e2:evalArgs f true (backTo pos (starEach [] env)) []=pure ⟨[],[]⟩:=by first | rfl | (unfold evalArgs; rfl)
 rw [e1] at h
 rw [e2]
 exact fun Γ p hΓ=>h Γ p hΓ
theorem Db {es:List E} {K:Kx} {xs:List Expr} {pos:Pos} {f:Value} {Q:Args->Shared->Prop} {E:Value->Shared->Prop} (hc:IsEs es K xs)
 (h:wpAny (model T.prog T.w) A (spliced (backTo pos (starEach xs env))) (fun vs s'=>Q ⟨vs,[]⟩ s') E s):wpAny (model T.prog T.w) A (evalArgs f true (backTo pos (starEach xs env)) []) Q E s:=by
 induction es with
 | nil=>cases hc; exact args_none h
 | cons e es =>
  induction hc with
  | @mk x l h1 h2 h3 =>
   rw [Bh h2] at h ⊢
   exact evalArgs_plain h
theorem callWith_bi {b:Bi} {pos:Pos} {args:List (Bool×Sem Value)} {Q:Value->Shared->Prop} {E:Value->Shared->Prop} (hp:args.any (·.1)=false)
 (h:wpAny (model T.prog T.w) A (evalArgs (Dn b) true args []) (fun a s₁=>wpAny (model T.prog T.w) A (call (Dn b) a.pos a.kw) Q E s₁) E s) :
 wpAny (model T.prog T.w) A (callWith pos (Dn b) [] args []) Q E s:=by
 have hb:(∃ id,Dn b=.builtin id)\/∃ t,Dn b=.type t:=by cases b <;> first | exact .inl ⟨_,rfl⟩ | exact .inr ⟨_,rfl⟩
 generalize Dn b=v at hb h
 rcases hb with ⟨id,rfl⟩ | ⟨t,rfl⟩
 ·exact callWith_builtin hp h
 ·exact PyProof.Rows.callWith_type hp h
theorem se_bcall (b:Bi) (fz:Bool) {es:List E} (h:SEs es):SE (.bcall b fz es):=by
 intro T K C fe own env A n ρ g σ s ex hc cx I hH
 induction hc with
 | @mk nm p vs pos h1 h2 h3 =>
  obtain ⟨h1,e⟩:=h1
  ·skip
   rw [A6]
   intro hr
   refine PyProof.Rows.Call_Name rfl (Cf cx I h1 e fun x hx=>?_)
   have hx:x=Dn b:=by cases b <;> exact hx
   subst hx
   refine callWith_bi (CB _ _ h2) (Db h2 ?_)
   exact (h _ pos h2 cx I hH).use (k:=fun xs=>call (Dn b) xs) (fun xs ws σ1 g₁ s₁ _ st1 r₁=>sim_bcall cx.rd.isi cx.rd.ok b fz cx.ha st1.st r₁) hr
theorem se_fcall (m:Mode) (f:Nat) {es:List E} (h:SEs es):SE (.fcall m f es):=by
 intro T K C fe own env A n ρ g σ s ex hc cx I hH
 induction hc with
 | @mk nm p vs pos h1 h2 h3 =>
  obtain ⟨h1,e⟩:=h1
  ·skip
   rw [A1]
   intro hr
   refine PyProof.Rows.Call_Name rfl (Cf cx I h1 e fun x hx=>?_)
   obtain ⟨a,ha,hx⟩:=hx
   subst hx
   obtain ⟨o,fd,ho,hd⟩:=cx.rd.fnob f a ha
   refine callWith_function (o:=o) (fd:=fd) (Db h2 ?_)
   refine wpAny_mono (h _ pos h2 cx I hH (AH hr)) (fun xs s₁ hz_=>?_) fun _ _ h=>h.bind
   obtain ⟨ws,σ1,g₁,e1,st1,r₁⟩:=hz_
   rw [e1] at hr ⊢
   have I1:=I.step st1
   refine ⟨⟨I1.st.keepsBase _ _ ho,hd⟩,?_⟩
   have t:=(cx.cf (m:=m) ha I1.st I1.fr I.ne cx.ha (hH.mono st1.le) r₁).liftL (L:=env.frame) hr
   exact wpAny_mono t (fun _ _ h=>h.after st1) fun _ _ h=>h.after st1
theorem Step.turn {k:Nat} {a:Addr} {o:O} {x:Obj} (st:St T g σ s.heap) (hk:g.mu[k]? = some a) (hs:Heap.SameBut a s.heap s'.heap) (hx:s'.heap.get? a=some x) (hr:G6 T g o x)
 (hg:s'.gens=s.gens:=by rfl) (ho:s'.os=s.os:=by rfl):Step T g.mu fs g s g (σ.set k o) s':=by
 have hmem:a∈g.mu:=List.mem_of_getElem? hk
 have hfz:g.fz a=none:=st.ap a hmem
 refine ⟨.refl g,⟨fun b y e=>(hs.2 b fun q=>by rw [q,hfz] at e; exact Ab e).trans (st.fz b y e),by rw [List.length_set]; exact st.len,st.nd,st.ap,fun j b y e1 e2=>?_,st.base⟩,⟨fun b y e=>?_,fun b y e nb _=>(hs.2 b fun q=>nb (q▸hmem)).trans e,fun b y e nb _=>⟨y.slots,(hs.2 b fun q=>nb (q▸hmem)).trans e⟩⟩,.refl ..,hg,ho⟩
 ·by_cases q:j=k
  ·subst q
   obtain rfl:=Option.some.inj (hk.symm.trans e1)
   rw [List.getElem?_set] at e2
   simp only [if_true] at e2
   split at e2
   ·obtain rfl:=Option.some.inj e2; exact ⟨x,hx,hr⟩
   ·exact Ab e2
  ·rw [List.getElem?_set_ne (fun h=>q h.symm)] at e2
   obtain ⟨z,h1,h2⟩:=st.ob j b y e1 e2
   refine ⟨z,(hs.2 b fun q'=>q ?_).trans h1,h2⟩
   subst q'
   have q_z:=List.getElem?_eq_some_iff.mp e1
   have l1:=q_z.1
   have m1:=q_z.2
   have q_z:=List.getElem?_eq_some_iff.mp hk
   have l2:=q_z.1
   have m2:=q_z.2
   exact (List.getElem_inj st.nd).mp (m1.trans m2.symm)
 ·by_cases q:b=a
  ·rw [q]; exact ⟨x,hx⟩
  ·exact ⟨y,(hs.2 b q).trans e⟩
noncomputable def methId:Meth->String
 | .append => "list.append"
 | .join => "str.join"
 | .partition => "str.partition"
 | .find => "str.find"
 | .split => "str.split"
set_option tactic.hygienic true in
theorem append_sim {k:Nat} {u:V} {a:Addr} {y:Value} (st:St T g σ s.heap) (hk:g.mu[k]? = some a) (ry:Aj T g u y):Sim T fs L A g s (call (.builtin "list.append") [.ref a,y]) (Aj T) (appendTo k u σ σ[k]?):=by
 induction e:σ[k]? with
 | none=>exact Sim.bad
 | some ob=>induction ob with
 | dead=>exact Sim.bad
 | list ws =>
 obtain ⟨o,ho,ys,m',q,hr,hl⟩:=st.ob k a _ hk e
 subst q
 show Sim T fs L A g s _ _ (if ws.length < line then _ else _)
 split
 ·rename_i hlt
  have hsz:ys.size=ws.length:=by have:=hr.length; simp at this; lia
  refine Sim.of (wpAny_list_append_plain ⟨m',ho⟩ (fun h' hp hs=>?_) (by rw [hsz,<-B1]; exact hl))
  obtain ⟨m'',ho'⟩:=hp
  refine ⟨g,.turn st hk hs ho' ⟨_,m'',rfl,?_,by simp; (exact Nat.le_trans ‹_› (by decide))⟩,rfl⟩
  rw [Array.toList_push]
  exact RepVs.append hr ⟨ry,trivial⟩
 ·exact Sim.bad
set_option tactic.hygienic true in
theorem join_sim {z:Str} {t:Tok} {u:V} {y:Value} (st:St T g σ s.heap) (ry:Aj T g u y):Sim T fs L A g s (call (.builtin "str.join") [.str z t,y]) (Aj T) (joinBy z u σ):=by
 unfold joinBy
 induction e:B5 σ u with
 | none=>exact Sim.bad
 | some ws =>
 obtain ⟨a,ys,rfl,ha1,ha2,hsz⟩:=C5 st ry e
 show Sim T fs L A g s _ _ (match CJ ws with | some ss=>_ | none=>_)
 induction e2:CJ ws with
 | none=>exact Sim.bad
 | some ss =>
 obtain ⟨h1,h2,h3⟩:=Gk ha2 e2
 show Sim T fs L A g s _ _ (if JoinOk z ss then _ else _)
 split
 ·rename_i hj
  obtain ⟨l,hl1,hl2⟩:∃ l:List (Str×Tok),strValues l=ys.toList/\l.map (·.1)=ss:=by
   clear ha1 ha2 h2 h3 e e2 hsz hj
   generalize ys.toList=zs at h1
   induction h1 with
   | nil=>exact ⟨[],rfl,rfl⟩
   | cons y t _ ih=>obtain ⟨l,q1,q2⟩:=ih; exact ⟨(y,t)::l,by rw [<-q1]; rfl,by rw [<-q2]; rfl⟩
  refine Sim.ofTok st fun Q h=>SC.join (l:=l) (texts:=ss) (by rw [hl1]; simpa using ha1) hl2 hj fun t' k=>h _ k ⟨t',rfl,by rw [B1]; exact joinOk_length hj⟩
 ·exact Sim.bad
theorem strs_rep:∀ {l:List (Str×Tok)},(∀ p∈l.map (·.1),p.length<=line)->RepVs T g ((l.map (·.1)).map fun p=>.d (.str p)) (strValues l)
 | [],_=>trivial
 | (x,t)::l,h=>⟨⟨t,rfl,h x (by exact .head _)⟩,strs_rep fun p hp=>h p (List.mem_cons_of_mem _ hp)⟩
open Builtin Builtin.Str in
theorem call_split {x y:Str} {t u:Tok} {Q:Value->Shared->Prop} {E:Value->Shared->Prop} (hy:(y.length == 0)=false) (hz:x.length+2<=sizeLine)
 (h:∀ l k,l.map (·.1)=Txt.split x y->Q (.ref s.heap.objs.size) { s with heap:=s.heap.push { cls:=.type "list",data:=.seq (strValues l).toArray },toks:=k }):wpAny (model T.prog T.w) A (call (.builtin "str.split") [.str x t,.str y u]) Q E s:=by
 have go:∀ {M},Meets (Builtin.«str.split» ⟨[.str x t,.str y u],[]⟩) M->M A (wants Q E) s->wpAny (model T.prog T.w) A (call (.builtin "str.split") [.str x t,.str y u]) Q E s:=fun m q=>call_meets F.slot_str_split (typeIs_str _ _ _) F.entry_str_split (F.args_str_split_2 _ _) m q
 have hx:x.length<=sizeLine:=Nat.le_trans (Nat.le_add_right _ _) hz
 induction c1:(decide (x.length < y.length)||decide (strKind x < strKind y)) with
 | true=>exact go (meets_str_split_cannot_occur x y t u c1) (h [(x,t)] s.toks (if_pos c1).symm)
 | false =>
  induction c2:(occurrences x y 0 x.length (x.length+1)).isEmpty with
  | true=>exact go (meets_str_split_not_found x y t u c1 hy c2) (h [(x,t)] s.toks (by unfold Txt.split; rw [if_neg (by rw [c1]; exact Bool.false_ne_true),if_pos c2]; rfl))
  | false =>
   refine go (meets_str_split_sep x y t u c1 hy c2 hx (by rw [length_partsBetween]; have:=StrLaws.occ_length_le x y 0 x.length (x.length+1); (exact Nat.lt_of_le_of_lt ‹_› ‹_›))) ?_
   show wants Q E _ { s with toks:=_,heap:=s.heap.push { cls:=.type "list",data:=.seq (strsFrom s.toks (partsBetween x (occurrences x y 0 x.length (x.length+1)) y.length)).toArray } }
   rw [strsFrom_eq]
   refine h (numbered s.toks _) _ ((numbered_texts _ _).trans ?_)
   unfold Txt.split
   rw [if_neg (by rw [c1]; exact Bool.false_ne_true),if_neg (by rw [c2]; exact Bool.false_ne_true)]
open Builtin Builtin.Str in
theorem call_partition {x y:Str} {t u:Tok} {Q:Value->Shared->Prop} {E:Value->Shared->Prop} (hy:(y.length == 0)=false) (hz:x.length<=sizeLine)
 (h:∀ ta tb tc k,Q (.ref s.heap.objs.size) { s with heap:=s.heap.push { cls:=.type "tuple",data:=.seq [.str (Txt.partition x y).1 ta,.str (Txt.partition x y).2.1 tb,.str (Txt.partition x y).2.2 tc].toArray },toks:=k }):wpAny (model T.prog T.w) A (call (.builtin "str.partition") [.str x t,.str y u]) Q E s:=by
 refine call_meets F.slot_str_partition (typeIs_str _ _ _) F.entry_str_partition (F.args_str_partition_2 _ _) (meets_str_partition x y t u hy hz) ?_
 unfold Txt.partition at h
 generalize occurrences x y 0 x.length 1=oc at h ⊢
 induction oc with
 | nil=>exact h _ _ _ _
 | cons i r=>exact h _ _ _ _
theorem split_sim {fz:Bool} {x y:Str} {t u:Tok} (st:St T g σ s.heap) (hx:x.length<=line):Sim T fs L A g s (call (.builtin "str.split") [.str x t,.str y u]) (Aj T) (FC fz x y σ):=by
 unfold FC
 by_cases hq:(y.length == 0)=false/\x.length+2<=line
 ·rw [if_pos hq]
  intro hr
  refine call_split hq.1 (by rw [<-B1]; exact hq.2) fun l k hl=>?_
  refine CZ (fs:=fs) (s':={ s with heap:=s.heap.push { cls:=.type "list",data:=.seq (strValues l).toArray },toks:=k }) st (fun b x e=>Heap.get?_push_of_some _ e) (Heap.get?_push_size _ rfl) (BA _) ?_ hr
  rw [<-hl]
  exact strs_rep (T:=T) (g:=g) fun p hp=>Nat.le_trans (PyProof.Rows.part_short (hl▸hp)) hx
 ·rw [if_neg hq]; exact Sim.bad
theorem part_sim {x y:Str} {t u:Tok} (st:St T g σ s.heap) (hx:x.length<=line):Sim T fs L A g s (call (.builtin "str.partition") [.str x t,.str y u]) (Aj T) (partIn x y σ):=by
 unfold partIn
 by_cases hy:(y.length == 0)=false
 ·rw [if_pos hy]
  have q_z:=PyProof.Rows.fact_partition x y
  have f1:=q_z.1
  have f2:=q_z.2.1
  have f3:=q_z.2.2
  refine Sim.of (call_partition hy (by rw [<-B1]; exact hx) fun ta tb tc k=>?_)
  exact ⟨_,.put (s':={ s with heap:=_,toks:=k }) st (fun b x e=>Heap.get?_push_of_some _ e) (Heap.get?_push_size _ rfl) (BA _),⟨_,_,_,_,rfl,G.put_self,rfl,rfl,⟨⟨ta,rfl,Nat.le_trans f1 hx⟩,⟨tb,rfl,Nat.le_trans f2 hx⟩,⟨tc,rfl,Nat.le_trans f3 hx⟩,trivial⟩,by show 3<=line; unfold line; (exact Nat.le_add_left _ _)⟩⟩
 ·rw [if_neg hy]; exact Sim.bad
theorem strMeth_sim (m:Meth) {fz:Bool} {x y:Str} {t u:Tok} (st:St T g σ s.heap) (hx:x.length<=line):Sim T fs L A g s (call (.builtin (methId m)) [.str x t,.str y u]) (Aj T) (strMeth m fz x y σ):=by
 induction m with
 | find=>exact Sim.ofTok st fun Q h=>SC.find (h _ _ ⟨_,rfl⟩)
 | partition=>exact part_sim st hx
 | split=>exact split_sim st hx
 | _=>exact Sim.bad
theorem meth_sim (m:Meth) (fz:Bool) {v:V} {x:Value} {vs:List V} {xs:List Value} (st:St T g σ s.heap) (r:Aj T g v x) (rs:RepVs T g vs xs) :
 Sim T fs L A g s (call (.builtin (methId m)) (x::xs)) (Aj T) (Bf m fz v vs σ):=by
 rcases vs with _ | ⟨u,_ | ⟨u',us⟩⟩
 ·exact Sim.bad
 rotate_left
 ·exact Sim.bad
 obtain ⟨y,rfl,ry⟩:=one_of rs
 have hstr:Sim T fs L A g s (call (.builtin (methId m)) [x,y]) (Aj T) (match A3 v with | some x=>(match A3 u with | some y=>strMeth m fz x y σ | none=>.bad) | none=>.bad):=by
  induction ev:A3 v with
  | none=>exact Sim.bad
  | some z=>induction eu:A3 u with
  | none=>exact Sim.bad
  | some z' =>
   obtain ⟨t,rfl,hz⟩:=AC r ev
   obtain ⟨t',rfl,_⟩:=AC ry eu
   exact strMeth_sim m st hz
 induction m with
 | append=>cases v with
  | ref k=>obtain ⟨a,hk,rfl⟩:=r; exact append_sim st hk ry
  | _=>exact Sim.bad
 | join =>
  show Sim T fs L A g s _ _ (match A3 v with | some x=>joinBy x u σ | none=>.bad)
  induction ez:A3 v with
  | none=>exact Sim.bad
  | some z =>
  obtain ⟨t,rfl,hz⟩:=AC r ez
  exact join_sim st ry
 | _=>exact hstr
theorem onList {v:V} {x:Value} {pos:Pos} {args:List (Bool×Sem Value)} {Q:Value->Shared->Prop} {E:Value->Shared->Prop} {name:Str} {id:String} (st:St T g σ s.heap) (r:Aj T g v x) (hp:AK .append v σ=true)
 (slot:Slot "list" name id) (ty:typeOf (.builtin id)=pure (.type "method_descriptor")) (go:wpAny (model T.prog T.w) A (callWith pos (.builtin id) [x] args []) Q E s):MethodOnS T.prog T.w A E name x pos args Q s:=by
 cases v with
 | ref k =>
  obtain ⟨a,hk,rfl⟩:=r
  obtain ⟨ws,e⟩:=Fs hp
  obtain ⟨ob,hob,ys,m',q,hr',hl⟩:=st.ob k a _ hk e
  subst q
  exact ⟨"list",id,F.plainAttrs_list,slot,ty,⟨_,hob,rfl⟩,fun b q=>by cases q; exact ⟨_,hob,rfl⟩,go⟩
 | _=>exact (Bool.false_ne_true hp).elim
theorem onStr {v:V} {x:Value} {pos:Pos} {args:List (Bool×Sem Value)} {Q:Value->Shared->Prop} {E:Value->Shared->Prop} {name:Str} {id:String} (r:Aj T g v x) (hp:AK .join v σ=true)
 (slot:Slot "str" name id) (ty:typeOf (.builtin id)=pure (.type "method_descriptor")) (go:wpAny (model T.prog T.w) A (callWith pos (.builtin id) [x] args []) Q E s):MethodOnS T.prog T.w A E name x pos args Q s:=by
 have hp:(match A3 v with | some _=>true | none=>false)=true:=hp
 induction ez:A3 v with
 | none=>rw [ez] at hp; exact (Bool.false_ne_true hp).elim
 | some z =>
 obtain ⟨t,rfl,hz⟩:=AC r ez
 exact ⟨"str",id,F.plainAttrs_str,slot,ty,typeIs_str _ _ _,(fun _ e=>nomatch e),go⟩
theorem base_plain {x:Expr} (h:E2 x=false) (nm:Str) (env:Env) (w:Sem Value):attributeBase x nm env w=w:=by
 cases x with
 | Call f as ks p=>cases f with
  | Name i q=>cases as with
   | nil=>cases ks with
    | nil=>exact (Bool.false_ne_true h.symm).elim
    | cons _ _=>rfl
   | cons _ _=>rfl
  | _=>rfl
 | _=>rfl
theorem se_meth (m:Meth) (fz:Bool) {o:E} {es:List E} (ho:SE o) (h:SEs es):SE (.meth m fz o es):=by
 intro T K C fe own env A n ρ g σ s ex hc cx I hH
 induction hc with
 | @mk x ap vs pos h2 h3 h5 h6 h7 =>
  rw [By]
  intro hr
  refine wpAny_Call_method_lateS (base_plain h7 _ _ _) ?_ (by exact decide_eq_true h5) ?_
  ·rw [args_all pos env h3]
   exact (Bool.and_eq_true _ _).mpr ⟨rfl,decide_eq_true (show vs.length+0+0 < 30 by (exact Nat.le_trans ‹_› (by decide)))⟩
  ·refine wpAny_mono (ho _ h2 cx I hH (AH hr)) (fun ov s₁ hz_=>?_) fun _ _ h=>h.bind
   obtain ⟨v,σ1,g₁,e1,st1,r₁⟩:=hz_
   rw [e1] at hr ⊢
   have I1:=I.step st1
   have H1:=hH.mono st1.le
   have hp:AK m v σ1=true:=by
    induction q:AK m v σ1 with
    | true=>rfl
    | false=>exact absurd (by show (if AK m v σ1 then _ else Res.bad)=Res.bad; rw [q]; rfl) hr
   have e5:(Res.ok v σ1).bind (fun x σ=>if AK m x σ=true then (evalEs C es ρ σ).bind fun vs σ=>Bf m fz x vs σ else Res.bad)=(evalEs C es ρ σ1).bind fun vs σ=>Bf m fz v vs σ:=by
    show (if AK m v σ1 then _ else Res.bad)=_; rw [hp]; rfl
   rw [e5] at hr ⊢
   have go:wpAny (model T.prog T.w) A (callWith pos (.builtin (methId m)) [ov] (backTo pos (starEach vs env)) []) (fun x s'=>OkR T (Af fe) g s (Aj T) (((evalEs C es ρ σ1).bind fun vs σ=>Bf m fz v vs σ)) x s')
    (fun x s'=>ExR T (Af fe) env.frame g s (((evalEs C es ρ σ1).bind fun vs σ=>Bf m fz v vs σ)) x s') s₁:=by
    refine callWith_builtin (CB _ _ h3) (Db h3 ?_)
    refine wpAny_mono ((h _ pos h3 cx I1 H1).use (k:=fun xs=>call (.builtin (methId m)) (ov::xs)) (fun xs ws σ₂ g2 s2 _ st2 r2=>meth_sim m fz st2.st (Aj.mono st2.le _ _ r₁) r2) hr)
     (fun xs s2 hx=>wpAny_mono hx (fun _ _ h=>h.after st1) fun _ _ h=>h.after st1)
     fun _ _ h=>h.after st1
   induction m with
   | append=>exact onList st1.st r₁ hp slot_list_append type_list_append go
   | join=>exact onStr (σ:=σ1) r₁ hp F.slot_str_join F.type_str_join go
   | partition=>exact onStr (σ:=σ1) r₁ hp F.slot_str_partition F.type_str_partition go
   | find=>exact onStr (σ:=σ1) r₁ hp F.slot_str_find F.type_str_find go
   | split=>exact onStr (σ:=σ1) r₁ hp F.slot_str_split F.type_str_split go
end
theorem layNew_led (t:SetTable) (es:Array (Int×Value)) (h:Int) (x:Value):(layNew t es h x).2.1.led=t.led/\((layNew t es h x).2.1.plain=true->t.plain=true):=by
 unfold layNew
 induction t.freeSlot h with
 | none=>exact ⟨rfl,fun h=>by cases h⟩
 | some p =>
  obtain ⟨slot,wd⟩:=p
  dsimp only
  unfold SetTable.orStandIn
  split
  ·exact ⟨rfl,fun h=>h⟩
  ·exact ⟨rfl,fun h=>by cases h⟩
theorem relayAll_led (t:SetTable) (es:Array (Int×Value)) (n:Nat):(relayAll t es n).2.1.led=t.led/\((relayAll t es n).2.1.plain=true->t.plain=true):=by
 unfold relayAll
 induction hr:t.relaid (es.map (·.1)) n with
 | none=>exact ⟨rfl,fun h=>by cases h⟩
 | some p =>
  obtain ⟨t',order⟩:=p
  have h:t'.led=t.led/\t'.plain=t.plain:=by
   unfold SetTable.relaid SetTable.laid at hr
   simp only [Option.bind_eq_bind,Option.bind_eq_some_iff] at hr
   obtain ⟨ow,_,h2⟩:=hr
   cases h2
   exact ⟨rfl,rfl⟩
  dsimp only
  split
  ·exact ⟨h.1,fun q=>by rw [<-h.2]; exact q⟩
  ·exact ⟨rfl,fun h=>by cases h⟩
section
variable {prog:Program} {w:World} {A:Around} {E:Value->Shared->Prop} {s:Shared}
noncomputable def Gl:Value->Str
 | .str x _=>x
 | _=>Str.empty
theorem is_iff {k:Str} {v:Value}:(strKind prog w).is k v=true ↔ ∃ t,v=.str k t:=by
 constructor
 ·intro h
  induction v with
  | str x t =>
   have h:(x == k)=true:=h
   exact ⟨t,by rw [eq_of_beq h]⟩
  | _=>exfalso; cases h
 ·rintro ⟨t,rfl⟩
  show (k == k)=true
  simp
noncomputable def EY (prog:Program) (w:World) (h:Heap) (a:Addr) (ks:List Str) (L:Bool):Prop :=
 ∃ o es ep t,h.get? a=some o/\o.ExactSet/\o.data=.set es ep t/\ElemsOf (strKind prog w) es.toList/\(es.toList.map fun e=>Gl e.2).Perm ks
 /\es.size < scanBound/\t.fits es.size=true/\t.led=L/\(0 < es.size->t.plain=false)
theorem ElemsOf.strs {es:List (Int×Value)} (h:ElemsOf (strKind prog w) es) {e:Int×Value} (he:e∈es):∃ t,e.2=.str (Gl e.2) t:=by
 obtain ⟨⟨k,h1,_⟩,_⟩:=h e he
 obtain ⟨t,e1⟩:=is_iff.mp h1
 exact ⟨t,by rw [e1]; rfl⟩
theorem key_mem {es:List (Int×Value)} {k:Str} (h:ElemsOf (strKind prog w) es):k∈(es.map fun e=>Gl e.2) ↔ ∃ e∈es,(strKind prog w).is k e.2=true:=by
 rw [List.mem_map]
 constructor
 ·rintro ⟨e,he,rfl⟩
  obtain ⟨t,e1⟩:=ElemsOf.strs h he
  exact ⟨e,he,is_iff.mpr ⟨t,e1⟩⟩
 ·rintro ⟨e,he,h1⟩
  obtain ⟨t,e1⟩:=is_iff.mp h1
  exact ⟨e,he,by rw [e1]; rfl⟩
theorem put_T {h:Heap} {a:Addr} {o:Obj} {es es':Array (Int×Value)} {ep:Nat} {t t':SetTable} {ks:List Str} {L:Bool} (ho:h.get? a=some o) (hex:o.ExactSet) (hd:o.data=.set es ep t)
 (hel:ElemsOf (strKind prog w) es'.toList) (hp:(es'.toList.map fun e=>Gl e.2).Perm ks) (hb:es'.size < scanBound) (hf:t'.fits es'.size=true) (hl:t'.led=L) (hpl:0 < es'.size->t'.plain=false) :
 (h.update a (Obj.putSet es' t')).get? a=some { o with data:=.set es' (ep+1) t' }/\EY prog w (h.update a (Obj.putSet es' t')) a ks L:=by
 have hg:(h.update a (Obj.putSet es' t')).get? a=some { o with data:=.set es' (ep+1) t' }:=by
  have:=Heap.get?_update_self (Obj.putSet es' t') ho (by rw [putSet_of es' t' hd]; rfl)
  rw [putSet_of es' t' hd] at this; exact this
 exact ⟨hg,_,es',ep+1,t',hg,hex,rfl,hel,hp,hb,hf,hl,hpl⟩
theorem addTail_T {g:Bool->Sem Unit} (hg:∀ (b:Bool) (s₁:Shared) (Q':Unit->Shared->Prop),Q' () s₁->wpAny (model prog w) A (g b) Q' E s₁)
 {a:Addr} {o:Obj} {es:Array (Int×Value)} {ep:Nat} {t:SetTable} (ho:s.heap.get? a=some o) (hex:o.ExactSet) (hd:o.data=.set es ep t)
 {es1:Array (Int×Value)} {t2:SetTable} {ks:List Str} {L:Bool} (hel1:ElemsOf (strKind prog w) es1.toList) (hp1:(es1.toList.map fun e=>Gl e.2).Perm ks)
 (hb1:es1.size < scanBound) (hf2:t2.fits es1.size=true) (hl:t2.led=L) (hpl:t2.plain=false) {wasDummy:Bool} {R:Option Bool->Shared->Prop}
 (h:∀ h',Heap.SameBut a s.heap h'->EY prog w h' a ks L->R (some true) { s with heap:=h' }) :
 wpAny (model prog w) A (do
  storeSet a es1 t2
  if (!wasDummy&&t2.tooFull)=true then do
   g (relayAll t2 es1 (SetTable.grown es1.size)).2.2
   storeSet a (relayAll t2 es1 (SetTable.grown es1.size)).1 (relayAll t2 es1 (SetTable.grown es1.size)).2.1
   pure (some true)
   else pure (some true)) R E s:=by
 refine wpAny_bind (wpAny_storeSet_of ho hd ?_ (fits_of_scanBound hb1))
 obtain ⟨ho1,hS1⟩:=put_T (prog:=prog) (w:=w) ho hex hd hel1 hp1 hb1 hf2 hl fun _=>hpl
 have hsb1:=Heap.SameBut.update s.heap a (Obj.putSet es1 t2)
 split
 ·have hp:=relayAll_perm t2 es1 (SetTable.grown es1.size)
  have hfr:=relayAll_fits t2 es1 (SetTable.grown es1.size)
  have hlr:=relayAll_led t2 es1 (SetTable.grown es1.size)
  generalize relayAll t2 es1 (SetTable.grown es1.size)=Rl at hp hfr hlr ⊢
  obtain ⟨es2,t3,gave2⟩:=Rl
  dsimp only at hp hfr hlr ⊢
  have hsz:es2.size=es1.size:=by rw [<-Array.length_toList,hp.length_eq,Array.length_toList]
  have hb2:es2.size < scanBound:=by rw [hsz]; exact hb1
  refine wpAny_bind (hg _ _ _ ?_)
  refine wpAny_bind (wpAny_storeSet_of ho1 rfl ?_ (fits_of_scanBound hb2))
  obtain ⟨_,hS2⟩:=put_T (prog:=prog) (w:=w) ho1 hex rfl (hel1.perm hp) ((hp.map _).trans hp1) hb2 hfr (hlr.1.trans hl) fun _=>by
   induction q:t3.plain with
   | false=>rfl
   | true=>rw [hpl] at hlr; exact (hlr.2 q).symm
  exact wpAny_pure (h _ (hsb1.trans (Heap.SameBut.update _ a _)) hS2)
 ·exact wpAny_pure (h _ hsb1 hS1)
set_option tactic.hygienic true in
theorem add_T {a:Addr} {ks:List Str} {L:Bool} {k:Str} {u:Tok} {Q:Bool->Shared->Prop} (hS:EY prog w s.heap a ks L) (hroom:ks.length+1 < scanBound)
 (h:∀ h' b,Heap.SameBut a s.heap h'->EY prog w h' a (if k∈ks then ks else ks++[k]) L->Q b { s with heap:=h' }) :
 wpAny (model prog w) A (setAddHashed a (.str k u) ((strKind prog w).hash k)) Q E s:=by
 obtain ⟨o,es,ep,t,ho,hex,hd,hel,hp,hb,hf,hl,hpl⟩:=hS
 have hkey:(strKind prog w).is k (.str k u)=true:=is_iff.mpr ⟨u,rfl⟩
 have hsc:(Value.str k u).scannable=true:=rfl
 have hn:es.size=ks.length:=by rw [<-Array.length_toList,<-hp.length_eq,List.length_map]
 have hmem:k∈ks ↔ ∃ e∈es.toList,(strKind prog w).is k e.2=true:=hp.mem_iff.symm.trans (key_mem hel)
 unfold setAddHashed setAddHashedIn
 refine wpAny_holding (wpAny_bind (wpAny_setState_of ho hd hf ?_))
 dsimp only
 rw [byScan_of hsc hb hel]
 simp only [↓reduceIte]
 unfold setAddByScan
 refine wpAny_bind ?_
 refine wpAny_bind (wpAny_rule ?_)
 refine wpAny_bind (wpAny_setScan_of hkey ho hd hf hel ?_)
 induction hr:List.findIdx? (fun e=>(strKind prog w).is k e.2) es.toList with
 | some j =>
  dsimp only
  obtain ⟨hj,hpj,_⟩:=List.findIdx?_eq_some_iff_getElem.mp hr
  have hk:k∈ks:=hmem.mpr ⟨es.toList[j],List.getElem_mem hj,hpj⟩
  refine wpAny_pure (wpAny_pure ?_)
  have:=h s.heap false (Heap.SameBut.refl a s.heap)
  rw [if_pos hk] at this
  exact this ⟨o,es,ep,t,ho,hex,hd,hel,hp,hb,hf,hl,hpl⟩
 | none =>
  dsimp only
  have hk:k∉ks:=fun q=>by
   obtain ⟨e,he,hp⟩:=hmem.mp q
   have:=List.findIdx?_eq_none_iff.mp hr e he
   exact absurd (hp.symm.trans this) (by decide)
  have hgw:∀ (b:Bool) {s₁:Shared} {Q':Unit->Shared->Prop},Q' () s₁->wpAny (model prog w) A (match b with | true=>rule "set.scan.the-table-gave-way" | false=>pure ()) Q' E s₁ :=
   fun b s₁ Q' hq=>by cases b <;> first | exact wpAny_pure hq | exact wpAny_rule hq
  have hperm:=layNew_perm t es ((strKind prog w).hash k) (.str k u)
  have hfits:=layNew_fits t es ((strKind prog w).hash k) (.str k u)
  have hled:=layNew_led t es ((strKind prog w).hash k) (.str k u)
  generalize layNew t es ((strKind prog w).hash k) (.str k u)=LN at hperm hfits hled ⊢
  obtain ⟨es1,t1,wasDummy,gave⟩:=LN
  dsimp only at hperm hfits hled ⊢
  rw [Array.toList_push] at hperm
  have hel1:ElemsOf (strKind prog w) es1.toList:=(hel.push hkey hsc).perm hperm
  have hsz1:es1.size=ks.length+1:=by rw [<-Array.length_toList,hperm.length_eq,List.length_append,Array.length_toList,hn]; rfl
  have hb1':es1.size < scanBound:=by rw [hsz1]; exact hroom
  have hp1:(es1.toList.map fun e=>Gl e.2).Perm (ks++[k]):=by
   refine (hperm.map _).trans ?_
   rw [List.map_append]
   exact List.Perm.append hp (List.Perm.refl _)
  refine wpAny_bind (hgw _ ?_)
  have hend:∀ h',Heap.SameBut a s.heap h'->EY prog w h' a (ks++[k]) L->Q true { s with heap:=h' }:=by
   intro h' hsb hS'
   have:=h h' true hsb
   rw [if_neg hk] at this
   exact this hS'
  split
  ·refine wpAny_bind ?_
   rw [hashByValue_scannable 8 hsc]
   refine wpAny_pure ?_
   refine addTail_T (L:=L) ?_ ho hex hd hel1 hp1 hb1' ?_ ?_ ?_ ?_
   ·intro b s₁ Q' hq; cases b <;> first | exact wpAny_pure hq | exact wpAny_rule hq
   ·exact SetTable.fits_plain_off hfits
   ·exact hled.1.trans hl
   ·rfl
   ·intro h' hsb hS'; dsimp only; exact wpAny_pure (hend h' hsb hS')
  ·rename_i hnp
   refine wpAny_bind (wpAny_pure ?_)
   simp only [↓reduceIte]
   refine addTail_T (L:=L) ?_ ho hex hd hel1 hp1 hb1' hfits (hled.1.trans hl) (by simpa using hnp) ?_
   ·intro b s₁ Q' hq; cases b <;> first | exact wpAny_pure hq | exact wpAny_rule hq
   ·intro h' hsb hS'; dsimp only; exact wpAny_pure (hend h' hsb hS')
end
end Mine.Internal
set_option maxRecDepth 100000
namespace Mine.Internal
open PySem PySem.Calls
noncomputable def met (l:List Str):List Str:=l.foldl (fun ks x=>if x∈ks then ks else ks++[x]) []
theorem met_snoc (l:List Str) (x:Str):met (l++[x])=if x∈met l then met l else met l++[x]:=by
 unfold met; rw [List.foldl_append]; rfl
theorem met_len (l:List Str):(met l).length<=l.length:=by
 have h:∀ (l ks:List Str),(l.foldl (fun ks x=>if x∈ks then ks else ks++[x]) ks).length<=ks.length+l.length:=by
  intro l
  induction l with
  | nil=>intro ks; exact Nat.le_refl _
  | cons x r ih =>
   intro ks
   have:=ih (if x∈ks then ks else ks++[x])
   have h2:(if x∈ks then ks else ks++[x]).length<=ks.length+1:=by split <;> simp
   simp only [List.foldl_cons,List.length_cons]
   lia
 have:=h l []
 simp only [List.length_nil,Nat.zero_add] at this
 exact this
noncomputable def BR (w:World):Bool:=w.params.followText "set-order"
section
variable {prog:Program} {w:World} {A:Around} {R:Result->Shared->Prop} {I:Addr} {fp wr:List Addr} {G:Array GenState->Array GenState->Prop} {n:Nat} {P:Nat->Value->Prop} {St:Nat->Shared->Prop} {L:Bool}
theorem update_loop_T (W:WalksS prog w A.in1 I fp wr G n P St) (S:Addr) (hSf:S∉fp) (ss:List Str) (hlen:ss.length=n) (hval:∀ i v,P i v->∃ x t,ss[i]? = some x/\v=.str x t) (hb:n+1 < scanBound) :
 ∀ (k i:Nat) (s:Shared),n-i=k->i<=n->St i s->EY prog w s.heap S (met (ss.take i)) L ->
  (∀ s',Moved (S::wr) G s s'->EY prog w s'.heap S (met ss) L->R (.ok (.ret .none)) s') ->
  codeAny (model prog w) A (.builtin "set.update.loop" ⟨[.ref S,.ref I],[]⟩) R s:=by
 have hSw:S∉wr:=fun h=>hSf (W.sub _ h)
 have hsub:∀ b∈wr,b∈S::wr:=fun b hb=>List.mem_cons_of_mem _ hb
 intro k
 induction k with
 | zero =>
  intro i s hk hi hst hS hR
  have hin:i=n:=by lia
  subst hin
  rw [List.take_of_length_le (by (exact Nat.le_of_eq ‹_›))] at hS
  refine codeAny_builtin PyProof.Rows.F.entry_set_update_loop ?_
  rw [Around.under_plainId PyProof.Rows.F.plain_set_update_loop _]
  show wpAny _ A.in1 (pyNext (.ref I)>>=_) _ _ s
  refine wpAny_bind (W.done s _ _ hst fun s' hm=>?_)
  show wpAny _ A.in1 (ret Value.none) _ _ s'
  exact wpAny_pure (hR s' (hm.mono hsub) (by
   obtain ⟨o,es,ep,t,ho,rest⟩:=hS
   exact ⟨o,es,ep,t,hm.heap S _ hSw ho,rest⟩))
 | succ k ih =>
  intro i s hk hi hst hS hR
  have hlt:i < n:=by lia
  refine codeAny_builtin PyProof.Rows.F.entry_set_update_loop ?_
  rw [Around.under_plainId PyProof.Rows.F.plain_set_update_loop _]
  show wpAny _ A.in1 (pyNext (.ref I)>>=_) _ _ s
  refine wpAny_bind (W.item i s _ _ hlt hst fun v s' hP hst' hm=>?_)
  obtain ⟨x,t,hx,rfl⟩:=hval i v hP
  have hS':EY prog w s'.heap S (met (ss.take i)) L:=by
   obtain ⟨o,es,ep,tb,ho,rest⟩:=hS
   exact ⟨o,es,ep,tb,hm.heap S _ hSw ho,rest⟩
  show wpAny _ A.in1 (holding [Value.str x t] (setAdd S (.str x t))>>=_) _ _ s'
  refine wpAny_bind (wpAny_holding ?_)
  unfold setAdd
  refine wpAny_holding ?_
  refine wpAny_bind ((strKind prog w).pyHash (k:=x) (is_iff.mpr ⟨t,rfl⟩) ?_)
  have hroom:(met (ss.take i)).length+1 < scanBound:=by
   have:=met_len (ss.take i)
   have h2:(ss.take i).length<=i:=by simp; (exact Nat.min_le_left _ _)
   lia
  refine add_T (s:={ s' with toks:=s'.toks+1 }) hS' hroom fun h' b hsb hS2=>?_
  have htk:ss.take (i+1)=ss.take i++[x]:=by rw [List.take_add_one,hx]; rfl
  have hSi:EY prog w h' S (met (ss.take (i+1))) L:=by rw [htk,met_snoc]; exact hS2
  refine wpAny_pure ⟨plainId_quiet PyProof.Rows.F.plain_set_update_loop _,ih (i+1) _ (by lia) hlt (W.frame _ s' _ _ hst' (Nat.le_succ _) fun b hb o e=>?_) hSi fun s'' hm'' hS''=>?_⟩
  ·rw [hsb.2 b (fun h:b=S=>hSf (by rw [<-h]; exact hb))]; exact e
  ·refine hR s'' (Moved.trans W.gtrans ((hm.mono hsub).then_heap (Nat.le_succ _) fun b o hb e=>?_) hm'') hS''
   rw [hsb.2 b (fun h:b=S=>hb (by rw [h]; exact List.mem_cons_self))]; exact e
end
theorem strsAre_at:∀ {vs:List Value} {ss:List Str},PyProof.Rows.StrsAre vs ss->∀ {i:Nat} {v:Value},vs[i]? = some v->∃ x t,ss[i]? = some x/\v=.str x t:=by
 intro vs ss h
 induction h with
 | nil=>intro i v hv; simp at hv
 | cons x t _ ih =>
  intro i v hv
  induction i with
  | zero=>simp at hv; exact ⟨x,t,rfl,hv.symm⟩
  | succ i=>exact ih (by exact hv)
section
variable {prog:Program} {w:World} {A:Around} {E:Value->Shared->Prop} {s:Shared}
theorem new_T (a:Value) {Q1:Value->Shared->Prop}
 (h:Q1 (.ref s.heap.objs.size) { s with heap:=s.heap.push { cls:=.type "set",dict:=none,data:=.set #[] 0 (.fresh 0 0 (!BR w)) } }) :
 codeAny (model prog w) A (.call (.builtin "set.__new__") ⟨[.type "set",a],[]⟩) (wants Q1 E) s:=by
 refine codeAny_of_tree ?_
 show wpAny _ A.in1 (do checkBuiltinCall "set.__new__" ⟨[.type "set",a],[]⟩; again (.builtin "set.__new__" ⟨[.type "set",a],[]⟩)) _ _ s
 refine wpAny_bind (wpAny_of_eq (F.newCall_set_1 a) (wpAny_pure ⟨plainId_quiet F.plain_set_new _,codeAny_builtin F.entry_set_new ?_⟩))
 rw [Around.under_plainId F.plain_set_new _]
 unfold Builtin.«set.__new__» Builtin.Frozenset.newClass
 have hsub:=sub_set_self
 obtain ⟨hp,g,d,tk,os⟩:=s
 dsimp only
 wp_walk
 refine wpAny_askSetting (wpAny_pure ?_)
 dsimp only
 simp only [newObj]
 refine wpAny_bind (wpAny_alloc (wpAny_pure ?_))
 exact wpAny_pure h
theorem fresh_T {h:Heap} {a:Addr} {L:Bool} (hg:h.get? a=some { cls:=.type "set",dict:=none,data:=.set #[] 0 (.fresh 0 0 L) }):EY prog w h a [] L :=
 ⟨_,#[],0,_,hg,⟨rfl,rfl,rfl⟩,rfl,fun e he=>by simp at he,.nil,by decide,by rfl,rfl,fun q=>by simp at q⟩
set_option maxHeartbeats 3200000 in
theorem call_set_T {l:Addr} {items:Array Value} {ss:List Str} {Q:Value->Shared->Prop}
 (hh:A.handled=none) (hl:s.heap.IsList l items) (hi:PyProof.Rows.StrsAre items.toList ss) (hb:items.size+1 < scanBound)
 (h:∀ (h':Heap) (tk:Nat),EY prog w h' s.heap.objs.size (met ss) (!BR w)->(∀ b o,b < s.heap.objs.size->s.heap.get? b=some o->h'.get? b=some o)->Q (.ref s.heap.objs.size) { s with heap:=h',toks:=tk }) :
 wpAny (model prog w) A (call (.type "set") [.ref l]) Q E s:=by
 obtain ⟨c,tl,hmro⟩:=F.called_set.mro
 have hmade:=F.called_set.made
 have hsub:=F.called_set.sub
 refine wpAny_call (codeAny_of_tree ?_)
 show wpAny _ _ (callAny (.type "set") _) _ _ _
 refine wpAny_pure ⟨Code.quiet_builtin _ (by decide +kernel),codeAny_builtin F.entry_type_call ?_⟩
 rw [Around.under_plain (weight_type_call_type "set" [.ref l] []) rfl]
 have h1:=F.called_set.notType
 have h2:=F.called_set.canCreate
 have hct:=F.typeCall_set_1 (.ref l)
 repeat (any_goals (first | assumption | wp_step))
 generalize hled:(!BR w)=led at h
 refine codeAny_mono (new_T (.ref l) (E:=E) (Q1:=fun obj s₁=>obj=.ref s.heap.objs.size/\s₁ = { s with heap:=s.heap.push { cls:=.type "set",dict:=none,data:=.set #[] 0 (.fresh 0 0 led) } }) (by rw [hled]; exact ⟨rfl,rfl⟩)) fun r s₁ hr=>?_
 induction r with
 | error e=>exact hr
 | ok fl =>
  induction fl with
  | ret obj =>
   obtain ⟨rfl,rfl⟩:=hr
   have hS:(s.heap.push { cls:=.type "set",dict:=none,data:=.set #[] 0 (.fresh 0 0 led) }).get? s.heap.objs.size=some { cls:=.type "set",dict:=none,data:=.set #[] 0 (.fresh 0 0 led) }:=Heap.get?_push_size _ rfl
   have hT:Shared.TypeIs { s with heap:=s.heap.push { cls:=.type "set",dict:=none,data:=.set #[] 0 (.fresh 0 0 led) } } (.ref s.heap.objs.size) "set" := ⟨_,hS,rfl⟩
   have hli:=F.called_set.init.lookup
   have hbi:=F.called_set.init.bind (.ref s.heap.objs.size)
   repeat (any_goals (first | assumption | wp_step))
   refine codeAny_mono (codeAny_call_builtin (R:=wants (fun r s2=>r=.none/\∃ h' tk,s2 = { s with heap:=h',toks:=tk }/\EY prog w h' s.heap.objs.size (met ss) led ∧
    (∀ b o,b < s.heap.objs.size->s.heap.get? b=some o->h'.get? b=some o)) E) F.called_set.init.plain F.entry_set_init (check_set_init_1 hT ?_)) fun r2 s2 hr2=>?_
   ·obtain ⟨ol,hol,hcl,nl,hdl⟩:=hl
    obtain ⟨ocls,odict,odata,oslots⟩:=ol
    simp only at hcl hdl
    subst hcl; subst hdl
    have hol':(s.heap.push { cls:=.type "set",dict:=none,data:=.set #[] 0 (.fresh 0 0 led) }).get? l=some { cls:=.type "list",dict:=odict,data:=.seq items nl,slots:=oslots }:=Heap.get?_push_of_some _ hol
    have hsls:=F.sub_list_set
    have hslf:=F.sub_list_frozenset
    have hne:(Value.type "list" == Value.type "dict")=false:=by decide
    have hl1:(s.heap.push { cls:=.type "set",dict:=none,data:=.set #[] 0 (.fresh 0 0 led) }).IsList l items:=⟨_,hol',rfl,nl,rfl⟩
    unfold Builtin.«set.__init__» noKeywords Builtin.Frozenset.updateFrom
    generalize hPI:pyIter=PI
    wp_walk
    subst hPI
    refine wpAny_pyIter_list hl1 ?_
    refine wpAny_bind (wpAny_runValue ?_)
    have hlS:l < s.heap.objs.size:=Heap.lt_size hol
    have hh3:A.in1.in1.in1.handled=none:=by exact hh
    have hneI:l≠(s.heap.push { cls:=.type "set",dict:=none,data:=.set #[] 0 (.fresh 0 0 led) }).objs.size:=by
     rw [Heap.size_push]; exact Nat.ne_of_lt (Nat.lt_succ_of_lt hlS)
    have hSf:s.heap.objs.size∉[(s.heap.push { cls:=.type "set",dict:=none,data:=.set #[] 0 (.fresh 0 0 led) }).objs.size,l]:=by
     rw [Heap.size_push]; simp only [List.mem_cons,List.mem_singleton,List.not_mem_nil,or_false,not_or]
     exact ⟨Nat.ne_of_lt (Nat.lt_succ_self _),Nat.ne_of_gt hlS⟩
    have hlen:ss.length=items.size:=by rw [<-hi.length,Array.length_toList]
    refine update_loop_T (L:=led) ((Walks.list hh3 _ l hneI items).toS) s.heap.objs.size
     hSf ss hlen (fun i v hv=>strsAre_at hi (by rw [Array.getElem?_toList]; exact hv)) hb (items.size-0) 0 _ (by lia) (Nat.zero_le _)
     ⟨⟨_,Heap.get?_push_size _ rfl,rfl,rfl⟩,(hl1.push _)⟩ ?hS0 ?hR
    case hS0 =>
     exact fresh_T (Heap.get?_push_of_some _ hS)
    case hR =>
     intro s' hm hS'
     obtain ⟨h',g',d',tk',os'⟩:=s'
     have eg:g'=s.gens:=hm.gens
     have ed:d'=s.drawn:=hm.drawn
     have eo:os'=s.os:=hm.os
     subst eg; subst ed; subst eo
     show wpAny _ _ _ _ _ _
     refine wpAny_pure ?_
     show wpAny _ _ (ret Value.none) _ _ _
     refine wpAny_pure ⟨rfl,h',tk',rfl,hS',fun b o hb e=>?_⟩
     have hb1:b≠s.heap.objs.size:=Nat.ne_of_lt hb
     have hb2:b≠(s.heap.push { cls:=.type "set",dict:=none,data:=.set #[] 0 (.fresh 0 0 led) }).objs.size:=by
      rw [Heap.size_push]; exact Nat.ne_of_lt (Nat.lt_succ_of_lt hb)
     exact hm.heap b o (by simp only [List.mem_cons,List.mem_singleton,List.not_mem_nil,or_false,not_or]; exact ⟨hb1,hb2⟩) (Heap.get?_push_of_some _ (Heap.get?_push_of_some _ e))
   ·induction r2 with
    | error e=>exact hr2
    | ok fl2 =>
     induction fl2 with
     | ret r =>
      obtain ⟨rfl,h',tk,rfl,hS',hk'⟩:=hr2
      repeat (any_goals (first | assumption | wp_step))
      exact h _ _ hS' hk'
     | _=>exact hr2.elim
  | _=>exact hr.elim
end
end Mine.Internal
set_option backward.match.sparseCases true
set_option maxRecDepth 100000
namespace Mine.Internal
open PySem PySem.Calls
theorem AA:Slot "set_iterator" "__next__" "set_iterator.__next__" :=
 .of (owner := "set_iterator") (n := "__next__") (by rw [typeLookup_type,builtinLookup_eq_fast]; kernel_rfl) (by decide +kernel) (by decide +kernel) (by decide +kernel)
  (by first | exact .inl (by decide +kernel) | exact .inr (by decide +kernel)) (by rw [isSubtype_type]; kernel_rfl)
theorem Cj:entryFor table "set_iterator.__next__" = some Builtin.«set_iterator.__next__»:=entryFor_of_fast (by kernel_rfl)
theorem Cw (a:Value):argsOk "set_iterator.__next__" ⟨[a],[]⟩:=by unfold argsOk; kernel_rfl
theorem entry_set_iter:entryFor table "set.__iter__" = some Builtin.«frozenset.__iter__» :=
 entryFor_alias (id' := "frozenset.__iter__") (by kernel_rfl) rfl (by decide +kernel) (by kernel_rfl)
noncomputable def BU (h:Heap) (I:Addr) (first:Value) (i:Nat) (S:Addr) (n ep:Nat):Prop :=
 ∃ o,h.get? I=some o/\o.cls=.type "set_iterator"/\o.data=.fields #[first,rawInt i,.ref S,rawInt n,rawInt ep]
noncomputable def Fi (h:Heap) (a:Addr) (es:Array (Int×Value)) (ep:Nat) (t:SetTable):Prop:=∃ o,h.get? a=some o/\o.cls=.type "set"/\o.data=.set es ep t/\t.fits es.size=true
section
variable {prog:Program} {w:World} {A:Around} {E:Value->Shared->Prop} {s:Shared}
theorem BU.typeIs {I S:Addr} {first:Value} {i n ep:Nat} (h:BU s.heap I first i S n ep):s.TypeIs (.ref I) "set_iterator" := by
 obtain ⟨o,h1,h2,_⟩:=h
 exact ⟨o,h1,h2⟩
theorem next_drawn {I S tp:Addr} {i:Nat} {es:Array (Int×Value)} {ep:Nat} {t:SetTable} {ps:List Nat} {p:Nat} {e:Int×Value} {Q:Option Value->Shared->Prop}
 (hI:BU s.heap I (.ref tp) i S es.size ep) (hS:Fi s.heap S es ep t) (ht:s.heap.IsTuple tp (ps.map fun k:Nat=>rawInt (k:Int)).toArray) (hp:ps[i]? = some p) (he:es[p]? = some e)
 (hQ:∀ h',BU h' I (.ref tp) (i+1) S es.size ep->Heap.SameBut I s.heap h'->Q (some e.2) { s with heap:=h' }):wpAny (model prog w) A (pyNext (.ref I)) Q E s:=by
 have hT:=hI.typeIs
 obtain ⟨o,ho,hc,hd⟩:=hI
 obtain ⟨os,hos,_,hds,hf⟩:=hS
 obtain ⟨ot,hot,_,nt,hdt⟩:=ht
 unfold pyNext
 refine wpAny_bind (wpAny_attempt (wpAny_callSpecial?_slot (name:=Str.ofString "__next__") hT AA
  (wpAny_call_entry AA hT Cj ?_ (Cw _))))
 show wpAny _ _ (fieldsOf (.ref I)>>=_) _ _ s
 refine wpAny_bind ?_
 unfold fieldsOf
 refine wpAny_bind (wpAny_load ho ?_)
 rw [hd]
 refine wpAny_pure ?_
 show wpAny _ _ (setEntries S>>=_) _ _ s
 refine wpAny_bind (wpAny_setEntries_of hos hds hf ?_)
 show wpAny _ _ (if ((es.size:Int) != (es.size:Int))=true then _ else _) _ _ s
 rw [if_neg (by simp)]
 show wpAny _ _ (seqItems? (.ref tp)>>=_) _ _ s
 refine wpAny_bind (wpAny_seqItems hot hdt ?_)
 have hpl:(ps.map fun k:Nat=>rawInt (k:Int)).toArray[(i:Int).toNat]? = some (rawInt (p:Int)):=by
  rw [Int.toNat_natCast,List.getElem?_toArray,List.getElem?_map,hp]; rfl
 show wpAny _ _ (match (ps.map fun k:Nat=>rawInt (k:Int)).toArray[(i:Int).toNat]? with | some (.int place _)=>_ | some _=>_ | none=>_) _ _ s
 rw [hpl]
 show wpAny _ _ (setNextDrawn S (p:Int).toNat (ep:Int).toNat>>=_) _ _ s
 refine wpAny_bind ?_
 unfold setNextDrawn
 refine wpAny_bind (wpAny_setState_of hos hds hf ?_)
 show wpAny _ _ (if (ep != (ep:Int).toNat)=true then _ else _) _ _ s
 rw [if_neg (by simp)]
 rw [Int.toNat_natCast,he]
 refine wpAny_pure ?_
 refine wpAny_bind (wpAny_setField ho hd (by simp) (wpAny_pure ⟨e.2,rfl,wpAny_pure (hQ _ ?_ (Heap.SameBut.update ..))⟩))
 exact ⟨_,Heap.get?_update_self _ ho (Obj.isFreed_of_fields (Obj.data_mapFields hd _)),(Obj.cls_mapFields ..).trans hc,by
  rw [Obj.data_mapFields hd]; simp [rawInt]⟩
theorem stop_any {α:Type} {I:Addr} {o:Obj} {vs:Array Value} {R:α->Shared->Prop} {s₀:Shared} (hh:A.handled=none) (ho:s.heap.get? I=some o) (hd:o.data=.fields vs) (hs:2 < vs.size) (hsb:Heap.SameBut I s₀.heap s.heap)
 (hq:∀ h',Heap.ExtBut I s₀.heap h'->∀ e,(∃ oe,h'.get? e=some oe/\oe.cls=.type "StopIteration")->E (.ref e) { s with heap:=h' }) :
 wpAny (model prog w) A (do setField (.ref I) 2 .none; raiseNew (<-newExc (.type "StopIteration") [])) R E s:=by
 refine wpAny_bind (wpAny_setField ho hd hs ?_)
 show wpAny _ _ (newExc (.type "StopIteration") []>>=_) _ _ _
 refine wpAny_bind ?_
 simp only [newExc,newTuple]
 refine wpAny_bind (wpAny_newObj_type ?_ (by size_fits))
 refine wpAny_bind (m:=firstArgMember _ _) (wpAny_of_eq (a:=Value.none) (by first | rfl | (simp only [firstArgMember]; rfl)) ?_)
 refine wpAny_newObj_type ?_ (by size_fits)
 simp only [raiseNew]
 refine wpAny_bind (wpAny_handled ?_)
 rw [hh]
 refine wpAny_bind (wpAny_pure (wpAny_throw ?_))
 exact hq _ (((hsb.trans (Heap.SameBut.update ..)).extBut.push _).push _) _ ⟨_,Heap.get?_push_size _ rfl,rfl⟩
theorem end_drawn {I S tp:Addr} {i:Nat} {es:Array (Int×Value)} {ep:Nat} {t:SetTable} {ps:List Nat} {Q:Option Value->Shared->Prop} (hh:A.handled=none)
 (hI:BU s.heap I (.ref tp) i S es.size ep) (hS:Fi s.heap S es ep t) (ht:s.heap.IsTuple tp (ps.map fun k:Nat=>rawInt (k:Int)).toArray) (hp:ps[i]? = none)
 (hQ:∀ h',Heap.ExtBut I s.heap h'->Q none { s with heap:=h' }):wpAny (model prog w) A (pyNext (.ref I)) Q E s:=by
 have hT:=hI.typeIs
 obtain ⟨o,ho,hc,hd⟩:=hI
 obtain ⟨os,hos,_,hds,hf⟩:=hS
 obtain ⟨ot,hot,_,nt,hdt⟩:=ht
 unfold pyNext
 refine wpAny_bind (wpAny_attempt (wpAny_callSpecial?_slot (name:=Str.ofString "__next__") hT AA
  (wpAny_call_entry AA hT Cj ?_ (Cw _))))
 show wpAny _ _ (fieldsOf (.ref I)>>=_) _ _ s
 refine wpAny_bind ?_
 unfold fieldsOf
 refine wpAny_bind (wpAny_load ho ?_)
 rw [hd]
 refine wpAny_pure ?_
 show wpAny _ _ (setEntries S>>=_) _ _ s
 refine wpAny_bind (wpAny_setEntries_of hos hds hf ?_)
 show wpAny _ _ (if ((es.size:Int) != (es.size:Int))=true then _ else _) _ _ s
 rw [if_neg (by simp)]
 show wpAny _ _ (seqItems? (.ref tp)>>=_) _ _ s
 refine wpAny_bind (wpAny_seqItems hot hdt ?_)
 have hpl:(ps.map fun k:Nat=>rawInt (k:Int)).toArray[(i:Int).toNat]? = none:=by
  rw [Int.toNat_natCast,List.getElem?_toArray,List.getElem?_map,hp]; rfl
 show wpAny _ _ (match (ps.map fun k:Nat=>rawInt (k:Int)).toArray[(i:Int).toNat]? with | some (.int place _)=>_ | some _=>_ | none=>_) _ _ s
 rw [hpl]
 refine wpAny_bind (wpAny_setField ho hd (by simp) ?_)
 refine stop_any (A:=A.in1) (s:={ s with heap:=s.heap.update I (Obj.mapFields (·.setIfInBounds 0 (rawInt 0))) }) (s₀:=s) (by exact hh) (Heap.get?_update_self _ ho (Obj.isFreed_of_fields (Obj.data_mapFields hd _))) (Obj.data_mapFields hd _) (by simp) (Heap.SameBut.update ..) fun h' hx e ⟨oe,h1,h2⟩=>?_
 refine wpAny_bind (wpAny_isInstance (T := "StopIteration") (b:=true) ⟨oe,h1,h2⟩ isSubtype_stop ?_)
 exact wpAny_pure (hQ _ hx)
theorem next_plain {I S:Addr} {slot i:Nat} {es:Array (Int×Value)} {ep:Nat} {t:SetTable} {x:Value} {nx:Nat} {Q:Option Value->Shared->Prop}
 (hI:BU s.heap I (rawInt slot) i S es.size ep) (hS:Fi s.heap S es ep t) (hN:∀ (A':Around) (E':Value->Shared->Prop) (Q':Option (Value×Nat)->Shared->Prop),Q' (some (x,nx)) s->wpAny (model prog w) A' (setNext S slot i ep) Q' E' s)
 (hQ:∀ h',BU h' I (rawInt nx) (i+1) S es.size ep->Heap.SameBut I s.heap h'->Q (some x) { s with heap:=h' }):wpAny (model prog w) A (pyNext (.ref I)) Q E s:=by
 have hT:=hI.typeIs
 obtain ⟨o,ho,hc,hd⟩:=hI
 obtain ⟨os,hos,_,hds,hf⟩:=hS
 unfold pyNext
 refine wpAny_bind (wpAny_attempt (wpAny_callSpecial?_slot (name:=Str.ofString "__next__") hT AA
  (wpAny_call_entry AA hT Cj ?_ (Cw _))))
 show wpAny _ _ (fieldsOf (.ref I)>>=_) _ _ s
 refine wpAny_bind ?_
 unfold fieldsOf
 refine wpAny_bind (wpAny_load ho ?_)
 rw [hd]
 refine wpAny_pure ?_
 show wpAny _ _ (setEntries S>>=_) _ _ s
 refine wpAny_bind (wpAny_setEntries_of hos hds hf ?_)
 show wpAny _ _ (if ((es.size:Int) != (es.size:Int))=true then _ else _) _ _ s
 rw [if_neg (by simp)]
 show wpAny _ _ (setNext S (slot:Int).toNat (i:Int).toNat (ep:Int).toNat>>=_) _ _ s
 rw [Int.toNat_natCast,Int.toNat_natCast,Int.toNat_natCast]
 refine wpAny_bind (hN _ _ _ ?_)
 refine wpAny_bind (wpAny_setField ho hd (by simp) ?_)
 have ho1:=Heap.get?_update_self (Obj.mapFields (·.setIfInBounds 0 (rawInt nx))) ho (Obj.isFreed_of_fields (Obj.data_mapFields hd _))
 have hd1:=Obj.data_mapFields hd (·.setIfInBounds 0 (rawInt nx))
 refine wpAny_bind (wpAny_setField (s:={ s with heap:=s.heap.update I (Obj.mapFields (·.setIfInBounds 0 (rawInt nx))) }) ho1 hd1 (by simp) (wpAny_pure ⟨x,rfl,wpAny_pure (hQ _ ?_ ((Heap.SameBut.update ..).trans (Heap.SameBut.update ..)))⟩))
 exact ⟨_,Heap.get?_update_self _ ho1 (Obj.isFreed_of_fields (Obj.data_mapFields hd1 _)),(Obj.cls_mapFields ..).trans ((Obj.cls_mapFields ..).trans hc),by
  rw [Obj.data_mapFields hd1]; simp [rawInt]⟩
theorem end_plain {I S:Addr} {slot i:Nat} {es:Array (Int×Value)} {ep:Nat} {t:SetTable} {Q:Option Value->Shared->Prop} (hh:A.handled=none)
 (hI:BU s.heap I (rawInt slot) i S es.size ep) (hS:Fi s.heap S es ep t) (hN:∀ (A':Around) (E':Value->Shared->Prop) (Q':Option (Value×Nat)->Shared->Prop),Q' none s->wpAny (model prog w) A' (setNext S slot i ep) Q' E' s)
 (hQ:∀ h',Heap.ExtBut I s.heap h'->Q none { s with heap:=h' }):wpAny (model prog w) A (pyNext (.ref I)) Q E s:=by
 have hT:=hI.typeIs
 obtain ⟨o,ho,hc,hd⟩:=hI
 obtain ⟨os,hos,_,hds,hf⟩:=hS
 unfold pyNext
 refine wpAny_bind (wpAny_attempt (wpAny_callSpecial?_slot (name:=Str.ofString "__next__") hT AA
  (wpAny_call_entry AA hT Cj ?_ (Cw _))))
 show wpAny _ _ (fieldsOf (.ref I)>>=_) _ _ s
 refine wpAny_bind ?_
 unfold fieldsOf
 refine wpAny_bind (wpAny_load ho ?_)
 rw [hd]
 refine wpAny_pure ?_
 show wpAny _ _ (setEntries S>>=_) _ _ s
 refine wpAny_bind (wpAny_setEntries_of hos hds hf ?_)
 show wpAny _ _ (if ((es.size:Int) != (es.size:Int))=true then _ else _) _ _ s
 rw [if_neg (by simp)]
 show wpAny _ _ (setNext S (slot:Int).toNat (i:Int).toNat (ep:Int).toNat>>=_) _ _ s
 rw [Int.toNat_natCast,Int.toNat_natCast,Int.toNat_natCast]
 refine wpAny_bind (hN _ _ _ ?_)
 refine stop_any (A:=A.in1) (s₀:=s) (by exact hh) ho hd (by simp) (Heap.SameBut.refl ..) fun h' hx e hz_=>?_
 obtain ⟨oe,h1,h2⟩:=hz_
 refine wpAny_bind (wpAny_isInstance (T := "StopIteration") (b:=true) ⟨oe,h1,h2⟩ isSubtype_stop ?_)
 exact wpAny_pure (hQ _ hx)
theorem FG {S:Addr} {slot i:Nat} {es:Array (Int×Value)} {ep:Nat} {t:SetTable} (hb:BR w=true) (hS:Fi s.heap S es ep t) {Q:Option (Value×Nat)->Shared->Prop}
 (h:Q (((pickOrder (w.params.setOrder S ep) es)[i]?).map fun e=>(e.2,slot)) s):wpAny (model prog w) A (setNext S slot i ep) Q E s:=by
 obtain ⟨os,hos,_,hds,hf⟩:=hS
 unfold setNext
 refine wpAny_bind (wpAny_setState_of hos hds hf ?_)
 dsimp only
 unfold setsByText
 refine wpAny_bind (wpAny_bind (wpAny_askSetting (wpAny_pure ?_)))
 show wpAny _ _ (if BR w=true then _ else _) _ _ _
 rw [if_pos hb]
 show wpAny _ _ (if (ep != ep)=true then _ else _) _ _ _
 rw [if_neg (by simp)]
 refine wpAny_bind ?_
 unfold setWalk
 refine wpAny_bind (wpAny_setState_of hos hds hf ?_)
 dsimp only
 unfold setsByText
 refine wpAny_bind (wpAny_bind (wpAny_askSetting (wpAny_pure ?_)))
 show wpAny _ _ (if BR w=true then _ else _) _ _ _
 rw [if_pos hb]
 refine wpAny_bind (wpAny_askSetting (wpAny_pure (wpAny_pure ?_)))
 exact h
theorem GC {S:Addr} {slot i:Nat} {es:Array (Int×Value)} {ep:Nat} {t:SetTable} (hb:BR w=false) (hS:Fi s.heap S es ep t) (h1:es.size<=1) (hl:t.led=true) {Q:Option (Value×Nat)->Shared->Prop}
 (h:Q (match es[SetTable.below t.place slot]?,t.place[SetTable.below t.place slot]? with | some (_,x),some j=>some (x,j+1) | _,_=>none) s):wpAny (model prog w) A (setNext S slot i ep) Q E s:=by
 obtain ⟨os,hos,_,hds,hf⟩:=hS
 unfold setNext
 refine wpAny_bind (wpAny_setState_of hos hds hf ?_)
 dsimp only
 unfold setsByText
 refine wpAny_bind (wpAny_bind (wpAny_askSetting (wpAny_pure ?_)))
 show wpAny _ _ (if BR w=true then _ else _) _ _ _
 rw [if_neg (by rw [hb]; simp)]
 show wpAny _ _ (if (!t.plain&&decide (es.size > 1))=true then _ else _) _ _ _
 rw [if_neg (by simp; omega)]
 refine wpAny_bind ?_
 show wpAny _ _ (if (!t.led && !es.isEmpty)=true then _ else _) _ _ _
 rw [if_neg (by rw [hl]; simp)]
 exact wpAny_pure (wpAny_pure h)
end
end Mine.Internal
set_option backward.match.sparseCases false
set_option maxRecDepth 100000
namespace Mine.Internal
open PySem PySem.Calls
theorem Eu:Slot "set_iterator" "__iter__" "set_iterator.__iter__" :=
 .of (owner := "set_iterator") (n := "__iter__") (by rw [typeLookup_type,builtinLookup_eq_fast]; kernel_rfl) (by decide +kernel) (by decide +kernel) (by decide +kernel)
  (by first | exact .inl (by decide +kernel) | exact .inr (by decide +kernel)) (by rw [isSubtype_type]; kernel_rfl)
theorem entry_seti_iter:entryFor table "set_iterator.__iter__" = some Builtin.«dict_keyiterator.__iter__» :=
 entryFor_alias (id' := "dict_keyiterator.__iter__") (by kernel_rfl) rfl (by decide +kernel) (by kernel_rfl)
theorem args_seti_iter (a:Value):argsOk "set_iterator.__iter__" ⟨[a],[]⟩:=by unfold argsOk; kernel_rfl
theorem Fz {α:Type}:∀ (l:List α) (i:Nat) (y:α),l[i]? = some y->(y::l.eraseIdx i).Perm l
 | [],i,y,h=>by simp at h
 | a::r,0,y,h=>by simp at h; subst h; exact .refl _
 | a::r,i+1,y,h=>by
  have h':r[i]? = some y:=by exact h
  exact (List.Perm.swap a y _).trans (.cons a (Fz r i y h'))
theorem pick_go {α:Type} (f:Nat->Nat):∀ (n k:Nat) (left:List α) (out:Array α),left.length=n->(pickOrder.go f n k left out).toList.Perm (out.toList++left)
 | 0,k,[],out,_=>by rw [pickOrder.go,List.append_nil]
 | n+1,k,x::r,out,h=>by
  have hi:f k % (x::r).length < (x::r).length:=Nat.mod_lt _ (by simp)
  have hy:(x::r)[f k % (x::r).length]? = some (x::r)[f k % (x::r).length]:=List.getElem?_eq_getElem hi
  rw [pickOrder.go,hy]
  refine (pick_go f n (k+1) _ _ ?_).trans ?_
  ·rw [List.length_eraseIdx_of_lt hi,h]; rfl
  ·rw [Array.toList_push,List.append_assoc]
   exact List.Perm.append_left _ (Fz _ _ _ hy)
 | 0,_,_::_,_,h=>by simp at h
 | _+1,_,[],_,h=>by simp at h
theorem pick_perm {α:Type} (f:Nat->Nat) (xs:Array α):(pickOrder f xs).toList.Perm xs.toList:=pick_go f _ 0 xs.toList #[] (Array.length_toList ..)
section
variable {prog:Program} {w:World} {A:Around} {E:Value->Shared->Prop} {s:Shared}
theorem Gv {I S:Addr} {first:Value} {i n ep:Nat} {Q:Value->Shared->Prop} (hI:BU s.heap I first i S n ep) (h:Q (.ref I) s):wpAny (model prog w) A (pyIter (.ref I)) Q E s:=by
 refine wpAny_pyIter_slot hI.typeIs Eu (wpAny_call_entry Eu hI.typeIs entry_seti_iter ?_ (args_seti_iter _))
 show wpAny _ _ (ret (.ref I)) _ _ s
 exact wpAny_pure ⟨_,rfl,"set_iterator",_,hI.typeIs,AA.lookup,h⟩
theorem wpAny_choose {src:Source} {n:Nat} {Q:Nat->Shared->Prop} (hn:n≠0) (h:∀ i d,i < n->Q i { s with drawn:=d }):wpAny (model prog w) A (choose src n) Q E s:=by
 intro Γ p hΓ
 exact ⟨hn,h _ _ (Nat.mod_lt _ (Nat.pos_of_ne_zero hn))⟩
theorem Fh {α:Type}:∀ (n:Nat) (xs:List α) (s:Shared) (Q:List α->Shared->Prop),xs.length=n->(∀ l d,l.Perm xs->Q l { s with drawn:=d })->wpAny (model prog w) A (drawOrder n xs) Q E s
 | 0,[],s,Q,_,h=>wpAny_pure (h [] s.drawn .nil)
 | n+1,x::xs,s,Q,hl,h=>by
  show wpAny _ _ (choose _ _>>=_) _ _ _
  refine wpAny_bind (wpAny_choose (by exact Nat.succ_ne_zero _) fun i d hi=>?_)
  obtain ⟨y,hy⟩:∃ y,(x::xs)[i]? = some y:=⟨(x::xs)[i],List.getElem?_eq_getElem hi⟩
  rw [hy]
  refine wpAny_bind (Fh n ((x::xs).eraseIdx i) _ _ ?_ fun l d' hp=>wpAny_pure (h _ d' ?_))
  ·rw [List.length_eraseIdx_of_lt hi]; simp at hl ⊢; (with_reducible assumption)
  ·exact (List.Perm.cons y hp).trans (Fz _ _ _ hy)
 | 0,_::_,_,_,h,_=>by simp at h
 | _+1,[],_,_,h,_=>by simp at h
theorem walks_drawn {I S tp:Addr} {es:Array (Int×Value)} {ep:Nat} {t:SetTable} {ps:List Nat} (hh:A.handled=none) (hp:ps.Perm (List.range es.size)) (hIS:I≠S) (hIt:I≠tp) :
 WalksS prog w A I [I,S,tp] [I] (fun a b=>b=a) es.size (fun i v=>∃ p e,ps[i]? = some p/\es[p]? = some e/\v=e.2) (fun i s=>BU s.heap I (.ref tp) i S es.size ep/\Fi s.heap S es ep t/\s.heap.IsTuple tp (ps.map fun k:Nat=>rawInt (k:Int)).toArray):=by
 have hlen:ps.length=es.size:=by rw [hp.length_eq,List.length_range]
 have sm:∀ {h h':Heap},Heap.SameBut I h h'->∀ b o,b∉[I]->h.get? b=some o->h'.get? b=some o:=fun hs b o hb e=>(hs.2 b fun q=>hb (by rw [q]; exact List.mem_singleton.mpr rfl)).trans e
 refine ⟨fun b hb=>by rw [List.mem_singleton.mp hb]; exact List.mem_cons_self,fun a=>rfl,fun a b c h1 h2=>h2.trans h1,fun i s h' tk z _ hk=>?_,fun i s Q E hi z hQ=>?_,fun s Q E z hQ=>?_,fun i s Q E z hQ=>Gv z.1 hQ⟩
 ·obtain ⟨⟨o,h1,r1⟩,⟨o2,h2,r2⟩,⟨o3,h3,r3⟩⟩:=z
  exact ⟨⟨o,hk I (by exact .head _) o h1,r1⟩,⟨o2,hk S (by exact .tail _ (.head _)) o2 h2,r2⟩,⟨o3,hk tp (by exact .tail _ (.tail _ (.head _))) o3 h3,r3⟩⟩
 ·have h1:=z.1
  have h2:=z.2.1
  have h3:=z.2.2
  have hpi:ps[i]? = some ps[i]:=List.getElem?_eq_getElem (by omega)
  have hlt:ps[i] < es.size:=List.mem_range.mp (hp.mem_iff.mp (List.getElem_mem (by omega)))
  refine next_drawn h1 h2 h3 hpi (Array.getElem?_eq_getElem hlt) fun h' hI' hs=>hQ _ _ ⟨_,_,hpi,Array.getElem?_eq_getElem hlt,rfl⟩ ⟨hI',?_,?_⟩ ⟨fun b o hb e=>sm hs b o hb e,rfl,rfl,rfl,Nat.le_refl _⟩
  ·obtain ⟨o,e,r⟩:=h2; exact ⟨o,(hs.2 S (Ne.symm hIS)).trans e,r⟩
  ·obtain ⟨o,e,r⟩:=h3; exact ⟨o,(hs.2 tp (Ne.symm hIt)).trans e,r⟩
 ·refine end_drawn hh z.1 z.2.1 z.2.2 (List.getElem?_eq_none (by (exact Nat.le_of_eq ‹_›))) fun h' hx=>hQ _ ⟨fun b o hb e=>hx b o (fun q=>hb (by rw [q]; exact List.mem_singleton.mpr rfl)) e,rfl,rfl,rfl,Nat.le_refl _⟩
theorem walks_text {I S:Addr} {es:Array (Int×Value)} {ep:Nat} {t:SetTable} (hb:BR w=true) (hh:A.handled=none) (hn:(pickOrder (w.params.setOrder S ep) es).size=es.size) (hIS:I≠S) :
 WalksS prog w A I [I,S] [I] (fun a b=>b=a) es.size (fun i v=>∃ e,(pickOrder (w.params.setOrder S ep) es)[i]? = some e/\v=e.2) (fun i s=>BU s.heap I (rawInt ((0:Nat):Int)) i S es.size ep/\Fi s.heap S es ep t):=by
 have sm:∀ {h h':Heap},Heap.SameBut I h h'->∀ b o,b∉[I]->h.get? b=some o->h'.get? b=some o:=fun hs b o hb e=>(hs.2 b fun q=>hb (by rw [q]; exact List.mem_singleton.mpr rfl)).trans e
 refine ⟨fun b hb=>by rw [List.mem_singleton.mp hb]; exact List.mem_cons_self,fun a=>rfl,fun a b c h1 h2=>h2.trans h1,fun i s h' tk z _ hk=>?_,fun i s Q E hi z hQ=>?_,fun s Q E z hQ=>?_,fun i s Q E z hQ=>Gv z.1 hQ⟩
 ·obtain ⟨⟨o,h1,r1⟩,⟨o2,h2,r2⟩⟩:=z
  exact ⟨⟨o,hk I (by exact .head _) o h1,r1⟩,⟨o2,hk S (by exact .tail _ (.head _)) o2 h2,r2⟩⟩
 ·have h1:=z.1
  have h2:=z.2
  have he:(pickOrder (w.params.setOrder S ep) es)[i]? = some (pickOrder (w.params.setOrder S ep) es)[i]:=Array.getElem?_eq_getElem (by omega)
  refine next_plain h1 h2 (fun A' E' Q' hq=>FG hb h2 (by rw [he]; exact hq)) fun h' hI' hs=>hQ _ _ ⟨_,he,rfl⟩ ⟨hI',?_⟩ ⟨fun b o hb e=>sm hs b o hb e,rfl,rfl,rfl,Nat.le_refl _⟩
  obtain ⟨o,e,r⟩:=h2; exact ⟨o,(hs.2 S (Ne.symm hIS)).trans e,r⟩
 ·refine end_plain hh z.1 z.2 (fun A' E' Q' hq=>FG hb z.2 (by rw [Array.getElem?_eq_none (by (exact Nat.le_of_eq ‹_›))]; exact hq)) fun h' hx=>hQ _ ⟨fun b o hb e=>hx b o (fun q=>hb (by rw [q]; exact List.mem_singleton.mpr rfl)) e,rfl,rfl,rfl,Nat.le_refl _⟩
end
end Mine.Internal
set_option maxRecDepth 100000
namespace Mine.Internal
open PySem PySem.Calls
theorem below_nil (j:Nat):SetTable.below #[] j=0:=rfl
theorem below_one (a j:Nat):SetTable.below #[a] j=if a < j then 1 else 0:=by
 show SetTable.below.go #[a] j 1 0 1=_
 unfold SetTable.below.go
 simp only [Nat.zero_lt_one,if_true]
 show (if (#[a]:Array Nat).getD 0 j < j then SetTable.below.go #[a] j 0 1 1 else SetTable.below.go #[a] j 0 0 0)=_
 rfl
section
variable {prog:Program} {w:World} {A:Around} {E:Value->Shared->Prop} {s:Shared}
theorem walks_few {I S:Addr} {es:Array (Int×Value)} {ep:Nat} {t:SetTable} (hb:BR w=false) (hh:A.handled=none) (h1:es.size<=1) (hl:t.led=true) (hf:t.fits es.size=true) (hIS:I≠S) :
 WalksS prog w A I [I,S] [I] (fun a b=>b=a) es.size (fun i v=>∃ e,es[i]? = some e/\v=e.2) (fun i s=>∃ slot:Nat,BU s.heap I (rawInt (slot:Int)) i S es.size ep/\Fi s.heap S es ep t/\SetTable.below t.place slot=i):=by
 have sm:∀ {h h':Heap},Heap.SameBut I h h'->∀ b o,b∉[I]->h.get? b=some o->h'.get? b=some o:=fun hs b o hb e=>(hs.2 b fun q=>hb (by rw [q]; exact List.mem_singleton.mpr rfl)).trans e
 have hpl:t.place.size=es.size:=by
  simp only [SetTable.fits,Bool.and_eq_true,beq_iff_eq,decide_eq_true_eq] at hf
  exact hf.1
 refine ⟨fun b hb=>by rw [List.mem_singleton.mp hb]; exact List.mem_cons_self,fun a=>rfl,fun a b c h1 h2=>h2.trans h1,fun i s h' tk z _ hk=>?_,fun i s Q E hi z hQ=>?_,fun s Q E z hQ=>?_,fun i s Q E z hQ=>z.elim fun _ z=>Gv z.1 hQ⟩
 ·obtain ⟨slot,⟨o,k1,r1⟩,⟨o2,k2,r2⟩,k3⟩:=z
  exact ⟨slot,⟨o,hk I (by exact .head _) o k1,r1⟩,⟨o2,hk S (by exact .tail _ (.head _)) o2 k2,r2⟩,k3⟩
 ·obtain ⟨slot,k1,k2,k3⟩:=z
  have he:es[i]? = some es[i]:=Array.getElem?_eq_getElem hi
  have hj:t.place[i]? = some t.place[i]:=Array.getElem?_eq_getElem (by omega)
  have hi0:i=0:=by lia
  obtain ⟨a,ha⟩:∃ a,t.place=#[a]:=Array.size_eq_one_iff.mp (by lia)
  refine next_plain (x:=es[i].2) (nx:=t.place[i]+1) k1 k2 (fun A' E' Q' hq=>GC hb k2 h1 hl (by rw [k3,he,hj]; exact hq)) fun h' hI' hs=>hQ _ _ ⟨_,he,rfl⟩ ⟨t.place[i]+1,hI',?_,?_⟩ ⟨fun b o hb e=>sm hs b o hb e,rfl,rfl,rfl,Nat.le_refl _⟩
  ·obtain ⟨o,e,r⟩:=k2; exact ⟨o,(hs.2 S (Ne.symm hIS)).trans e,r⟩
  ·subst hi0
   have:t.place[0]=a:=by simp [ha]
   rw [this,ha,below_one,if_pos (Nat.lt_succ_self a)]
 ·obtain ⟨slot,k1,k2,k3⟩:=z
  refine end_plain hh k1 k2 (fun A' E' Q' hq=>GC hb k2 h1 hl (by rw [k3,Array.getElem?_eq_none (Nat.le_refl _)]; exact hq)) fun h' hx=>hQ _ ⟨fun b o hb e=>hx b o (fun q=>hb (by rw [q]; exact List.mem_singleton.mpr rfl)) e,rfl,rfl,rfl,Nat.le_refl _⟩
inductive TWalk (prog:Program) (w:World) (I S:Addr) (h0:Heap) (s:Shared) (ks:List Str):Prop
 | mk (fp:List Addr) (n:Nat) (P:Nat->Value->Prop) (St:Nat->Shared->Prop) (vals:List Value) (ks':List Str) (h1:∀ A:Around,A.handled=none->WalksS prog w A I fp [I] (fun a b=>b=a) n P St) (h2:St 0 s)
  (h3:∀ b∈fp,b < s.heap.objs.size) (h4:∀ i v,P i v->vals[i]? = some v) (h5:vals.length=n) (h6:PyProof.Rows.StrsAre vals ks') (h7:ks'.Perm ks) (h8:∀ b∈fp,b=S\/h0.get? b=none):TWalk prog w I S h0 s ks
theorem strs_of:∀ {l:List (Int×Value)},ElemsOf (strKind prog w) l->PyProof.Rows.StrsAre (l.map (·.2)) (l.map fun e=>Gl e.2)
 | [],_=>.nil
 | e::r,h=>by
  obtain ⟨t,he⟩:=ElemsOf.strs h (List.mem_cons_self ..)
  rw [List.map_cons,List.map_cons]
  have:=strs_of (l:=r) h.tail
  generalize Gl e.2=x at he ⊢
  rw [he]
  exact .cons x t this
set_option tactic.hygienic true in
theorem iter_T {S:Addr} {ks:List Str} {Q:Value->Shared->Prop} (hS:EY prog w s.heap S ks (!BR w))
 (h:∀ I h' d,s.heap.get? I=none->(∀ b o,s.heap.get? b=some o->h'.get? b=some o)->TWalk prog w I S s.heap { s with heap:=h',drawn:=d } ks->Q (.ref I) { s with heap:=h',drawn:=d }):wpAny (model prog w) A (pyIter (.ref S)) Q E s:=by
 obtain ⟨o,es,ep,t,ho,hex,hd,hel,hp,hbd,hf,hl,hpl⟩:=hS
 have hT:s.TypeIs (.ref S) "set" := ⟨o,ho,hex.1⟩
 have hSl:S < s.heap.objs.size:=Heap.lt_size ho
 refine wpAny_pyIter_slot hT F.slot_set_iter (wpAny_call_entry F.slot_set_iter hT entry_set_iter ?_ (F.args_set_iter_1 _))
 show wpAny _ _ (Builtin.Frozenset.sizeOf S>>=_) _ _ s
 refine wpAny_bind ?_
 unfold Builtin.Frozenset.sizeOf
 refine wpAny_bind (wpAny_setEntries_of ho hd hf (wpAny_pure ?_))
 show wpAny _ _ (setDrawn S>>=_) _ _ s
 refine wpAny_bind ?_
 unfold setDrawn
 refine wpAny_bind (wpAny_setState_of ho hd hf ?_)
 dsimp only
 unfold setsByText
 refine wpAny_bind (wpAny_bind (wpAny_askSetting (wpAny_pure (wpAny_pure ?_))))
 show wpAny _ _ (if (!BR w&&(!t.plain&&decide (es.size > 1)))=true then _ else _) _ _ _
 have plain:∀ (hc:(!BR w&&(!t.plain&&decide (es.size > 1)))=false),wpAny (model prog w) A.in1 (do
  let x <-setEpoch S
  let y <-newFields "set_iterator" [rawInt 0,rawInt 0,.ref S,rawInt es.size,rawInt x]
  ret y) (fun fin s'=>∃ v,fin=.done (.ret v)/\∃ T' r,s'.TypeIs v T'/\typeLookup (.type T') "__next__" = pure (some r)/\Q v s') E s:=fun hc=>by
  refine wpAny_bind (wpAny_setEpoch_of ho hd hf ?_)
  unfold newFields
  refine wpAny_bind (wpAny_newObj_type (wpAny_pure ⟨_,rfl,"set_iterator",_,⟨_,Heap.get?_push_size _ rfl,rfl⟩,AA.lookup,?_⟩))
  have hI0:s.heap.get? s.heap.objs.size=none:=Heap.get?_none_of_le (Nat.le_refl _)
  have hIS:s.heap.objs.size≠S:=Nat.ne_of_gt hSl
  have keep:∀ b x,s.heap.get? b=some x->(s.heap.push { cls:=.type "set_iterator",dict:=none,data:=.fields [rawInt 0,rawInt 0,Value.ref S,rawInt es.size,rawInt ep].toArray }).get? b=some x:=fun b x e=>Heap.get?_push_of_some _ e
  have hat:Fi (s.heap.push { cls:=.type "set_iterator",dict:=none,data:=.fields [rawInt 0,rawInt 0,Value.ref S,rawInt es.size,rawInt ep].toArray }) S es ep t:=⟨o,keep S o ho,hex.1,hd,hf⟩
  have hit:BU (s.heap.push { cls:=.type "set_iterator",dict:=none,data:=.fields [rawInt 0,rawInt 0,Value.ref S,rawInt es.size,rawInt ep].toArray }) s.heap.objs.size (rawInt ((0:Nat):Int)) 0 S es.size ep:=⟨_,Heap.get?_push_size _ rfl,rfl,rfl⟩
  have hfp:∀ b∈[s.heap.objs.size,S],b < (s.heap.push { cls:=.type "set_iterator",dict:=none,data:=.fields [rawInt 0,rawInt 0,Value.ref S,rawInt es.size,rawInt ep].toArray }).objs.size:=fun b hb=>by
   rw [Heap.size_push]
   rcases List.mem_cons.mp hb with rfl | hb
   ·exact Nat.lt_succ_self _
   ·rw [List.mem_singleton.mp hb]; exact Nat.lt_succ_of_lt hSl
  have hnew:∀ b∈[s.heap.objs.size,S],b=S\/s.heap.get? b=none:=fun b hb=>by
   rcases List.mem_cons.mp hb with rfl | hb
   ·exact .inr hI0
   ·exact .inl (List.mem_singleton.mp hb)
  refine h s.heap.objs.size _ s.drawn hI0 keep ?_
  induction hb:BR w with
  | true =>
   have hpk:=pick_perm (w.params.setOrder S ep) es
   have hsz:(pickOrder (w.params.setOrder S ep) es).size=es.size:=by rw [<-Array.length_toList,hpk.length_eq,Array.length_toList]
   refine ⟨[s.heap.objs.size,S],es.size,_,_,(pickOrder (w.params.setOrder S ep) es).toList.map (·.2),_,fun A' hh=>walks_text hb hh hsz hIS,⟨hit,hat⟩,hfp,fun i v hz_=>?_,by rw [List.length_map,Array.length_toList,hsz],strs_of (hel.perm hpk),(hpk.map _).trans hp,hnew⟩
   obtain ⟨e,h1,h2⟩:=hz_
   rw [List.getElem?_map,Array.getElem?_toList,h1,h2]; rfl
  | false =>
   have h1:es.size<=1:=by
    rw [hb] at hc
    by_cases q:es.size<=1
    ·exact q
    ·rw [hpl (by omega)] at hc
     simp at hc; (with_reducible assumption)
   refine ⟨[s.heap.objs.size,S],es.size,_,_,es.toList.map (·.2),_,fun A' hh=>walks_few hb hh h1 (by rw [hl,hb]; rfl) hf hIS,⟨0,hit,hat,?_⟩,hfp,fun i v ⟨e,h1,h2⟩=>?_,by rw [List.length_map,Array.length_toList],strs_of hel,hp,hnew⟩
   ·have hps:t.place.size=es.size:=by
     simp only [SetTable.fits,Bool.and_eq_true,beq_iff_eq,decide_eq_true_eq] at hf
     exact hf.1
    rcases Nat.lt_or_ge es.size 1 with q | q
    ·rw [Array.size_eq_zero_iff.mp (show t.place.size=0 by lia)]; rfl
    ·obtain ⟨a,ha⟩:=Array.size_eq_one_iff.mp (show t.place.size=1 by lia)
     rw [ha,below_one,if_neg (Nat.not_lt_zero a)]
   ·rw [List.getElem?_map,Array.getElem?_toList,h1,h2]; rfl
 split
 ·rename_i hc
  refine wpAny_bind (Fh es.size (List.range es.size) s _ (List.length_range ..) fun ps d hps=>?_)
  have hlen:ps.length=es.size:=by rw [hps.length_eq,List.length_range]
  show wpAny _ _ (newTuple (ps.map fun i:Nat=>rawInt (i:Int))>>=_) _ _ _
  refine wpAny_bind (wpAny_newTuple ?_ (by rw [List.length_map,hlen]; exact fits_of_scanBound hbd))
  have ho1:=Heap.get?_push_of_some (h:=s.heap) { cls:=.type "tuple",dict:=none,data:=.seq (ps.map fun i:Nat=>rawInt (i:Int)).toArray } ho
  show wpAny _ _ (setEpoch S>>=_) _ _ _
  refine wpAny_bind (wpAny_setEpoch_of ho1 hd hf ?_)
  show wpAny _ _ (newFields "set_iterator" _>>=_) _ _ _
  unfold newFields
  refine wpAny_bind (wpAny_newObj_type (wpAny_pure ⟨_,rfl,"set_iterator",_,⟨_,Heap.get?_push_size _ rfl,rfl⟩,AA.lookup,?_⟩))
  generalize hH1:s.heap.push { cls:=.type "tuple",dict:=none,data:=.seq (ps.map fun i:Nat=>rawInt (i:Int)).toArray } = H1 at ho1
  have hsz1:H1.objs.size=s.heap.objs.size+1:=by rw [<-hH1,Heap.size_push]
  have hIS:H1.objs.size≠S:=Nat.ne_of_gt (by rw [hsz1]; exact Nat.lt_succ_of_lt hSl)
  have hIt:H1.objs.size≠s.heap.objs.size:=Nat.ne_of_gt (by rw [hsz1]; exact Nat.lt_succ_self _)
  have keep:∀ b x,s.heap.get? b=some x->(H1.push { cls:=.type "set_iterator",dict:=none,data:=.fields [Value.ref s.heap.objs.size,rawInt 0,Value.ref S,rawInt es.size,rawInt ep].toArray }).get? b=some x:=fun b x e=>Heap.get?_push_of_some _ (by rw [<-hH1]; exact Heap.get?_push_of_some _ e)
  refine h H1.objs.size _ d (Heap.get?_none_of_le (by lia)) keep ?_
  refine ⟨[H1.objs.size,S,s.heap.objs.size],es.size,_,_,ps.map fun p=>(es[p]?.map (·.2)).getD .none,ps.map fun p=>(es[p]?.map fun e=>Gl e.2).getD Str.empty,fun A' hh=>walks_drawn (ep:=ep) (t:=t) hh hps hIS hIt,⟨⟨_,Heap.get?_push_size _ rfl,rfl,rfl⟩,⟨o,keep S o ho,hex.1,hd,hf⟩,⟨_,Heap.get?_push_of_some _ (by rw [<-hH1]; exact Heap.get?_push_size _ rfl),rfl,_,rfl⟩⟩,fun b hb=>?_,fun i v ⟨p,e,h1,h2,h3⟩=>?_,by rw [List.length_map,hlen],?_,?_,fun b hb=>?_⟩
  ·rw [Heap.size_push]
   simp only [List.mem_cons,List.not_mem_nil,or_false] at hb
   rcases hb with hb | hb | hb <;> rw [hb]
   ·exact Nat.lt_succ_self _
   ·rw [hsz1]; exact Nat.lt_succ_of_lt (Nat.lt_succ_of_lt hSl)
   ·rw [hsz1]; exact Nat.lt_succ_of_lt (Nat.lt_succ_self _)
  ·rw [List.getElem?_map,h1]
   show some ((es[p]?.map (·.2)).getD .none)=_
   rw [h2,h3]; rfl
  ·have hlt:∀ p∈ps,p < es.size:=fun p hp'=>List.mem_range.mp (hps.mem_iff.mp hp')
   clear hps hlen hH1 keep hsz1 hIS hIt
   induction ps with
   | nil=>exact .nil
   | cons p r ih =>
    have hp0:=hlt p (List.mem_cons_self ..)
    obtain ⟨tk,he⟩:=ElemsOf.strs hel (Array.getElem_mem_toList (xs:=es) hp0)
    rw [List.map_cons,List.map_cons,Array.getElem?_eq_getElem hp0]
    show PyProof.Rows.StrsAre (es[p].2::_) (Gl es[p].2::_)
    have:=ih (fun q hq=>hlt q (List.mem_cons_of_mem _ hq))
    generalize Gl es[p].2=x at he ⊢
    rw [he]
    exact .cons x tk this
  ·refine List.Perm.trans (hps.map _) ?_
   have e:(List.range es.size).map (fun p=>(es[p]?.map fun e=>Gl e.2).getD Str.empty)=es.toList.map fun e=>Gl e.2:=by
    apply List.ext_getElem
    ·simp
    ·intro i h1 h2
     have hi:i < es.size:=by simpa using h1
     simp [hi]
   rw [e]; exact hp
  ·simp only [List.mem_cons,List.not_mem_nil,or_false] at hb
   rcases hb with hb | hb | hb
   ·exact .inr (by rw [hb]; exact Heap.get?_none_of_le (by rw [hsz1]; exact Nat.le_succ _))
   ·exact .inl hb
   ·exact .inr (by rw [hb]; exact Heap.get?_none_of_le (Nat.le_refl _))
 ·rename_i hc
  exact plain (by exact Bool.not_eq_true _ |>.mp hc)
end
end Mine.Internal
set_option maxRecDepth 100000
namespace Mine.Internal
open PySem PySem.Calls
section
variable {prog:Program} {w:World} {A:Around} {E:Value->Shared->Prop} {s:Shared}
theorem hint_T {S:Addr} {Q:Bool->Shared->Prop} (hT:s.TypeIs (.ref S) "set") (h:Q false s):wpAny (model prog w) A (Builtin.List.listLengthHint (.ref S)) Q E s:=by
 unfold Builtin.List.listLengthHint
 refine wpAny_bind (wpAny_specialOf hT F.slot_set_len.lookup ?_)
 generalize hid:("set.__len__" : String)=id0
 wp_delta
 rw [show splitId id0=some ("set","__len__") from by subst hid; decide +kernel]
 subst hid
 refine wpAny_bind (wpAny_isInstance (T := "set") (b:=true) hT (by rw [isSubtype_type]; kernel_rfl) ?_)
 refine wpAny_ite_split (fun hab=>absurd hab (by decide)) (fun _=>?_)
 refine wpAny_ite_split (fun _=>?_) (fun hab=>absurd (by decide +kernel) hab)
 exact wpAny_bind (wpAny_typeOf hT (wpAny_pure h))
theorem items_eq {P:Nat->Value->Prop} {acc:Array Value} {n:Nat} {vals:List Value} (h:ItemsOf P acc n) (h4:∀ i v,P i v->vals[i]? = some v) (h5:vals.length=n):acc.toList=vals:=by
 apply List.ext_getElem?
 intro i
 by_cases hi:i < n
 ·have hi':i < acc.size:=by rw [h.1]; exact hi
  have hv:acc[i]? = some acc[i]:=Array.getElem?_eq_getElem hi'
  rw [Array.getElem?_toList,hv]
  exact (h4 i _ (h.2 i _ hv)).symm
 ·rw [List.getElem?_eq_none (by rw [Array.length_toList,h.1]; (exact Nat.le_of_not_lt ‹_›)),List.getElem?_eq_none (by lia)]
theorem collect_T {S:Addr} {ks:List Str} {Q:List Value->Shared->Prop} (hh:A.handled=none) (hS:EY prog w s.heap S ks (!BR w)) (hks:ks.length<=1000)
 (hQ:∀ vals ks' h' d tk,PyProof.Rows.StrsAre vals ks'->ks'.Perm ks->(∀ b o,s.heap.get? b=some o->h'.get? b=some o)->Q vals { s with heap:=h',drawn:=d,toks:=tk }):wpAny (model prog w) A (collect (.ref S)) Q E s:=by
 unfold collect
 refine wpAny_bind (wpAny_runValue (codeAny_builtin F.entry_proto_collect ?_))
 rw [Around.under_plainId F.plain_proto_collect _]
 show wpAny _ A.in1 (newList []>>=fun l=>again (.builtin "list.__iadd__" ⟨[l,.ref S],[]⟩)) _ _ s
 refine wpAny_bind (wpAny_newObj_type ?_)
 refine wpAny_pure ⟨plainId_quiet F.plain_list_iadd _,codeAny_builtin F.entry_list_iadd ?_⟩
 rw [Around.under_plainId F.plain_list_iadd _]
 generalize hL0:s.heap.objs.size=L0
 generalize hH1:s.heap.push { cls:=.type "list",data:=.seq ([]:List Value).toArray } = H1
 have keep1:∀ b o,s.heap.get? b=some o->H1.get? b=some o:=fun b o e=>by rw [<-hH1]; exact Heap.get?_push_of_some _ e
 have hL1:H1.get? L0=some { cls:=.type "list",data:=.seq ([]:List Value).toArray }:=by rw [<-hH1,<-hL0]; exact Heap.get?_push_size _ rfl
 have hS1:EY prog w H1 S ks (!BR w):=by
  obtain ⟨o,es,ep,t,ho,rest⟩:=hS
  exact ⟨o,es,ep,t,keep1 S o ho,rest⟩
 have hSlt:S < s.heap.objs.size:=by
  obtain ⟨o,es,ep,t,ho,rest⟩:=hS
  exact Heap.lt_size ho
 have hT:Shared.TypeIs { s with heap:=H1 } (.ref S) "set" := by
  obtain ⟨o,es,ep,t,ho,hex,rest⟩:=hS1
  exact ⟨o,ho,hex.1⟩
 have hLS:L0≠S:=by rw [<-hL0]; exact Nat.ne_of_gt hSlt
 have hn0:s.heap.get? L0=none:=by rw [<-hL0]; exact Heap.get?_none_of_le (Nat.le_refl _)
 show wpAny _ A.in1 (Builtin.List.listExtendWith (.ref L0) (.ref S) (.ref L0)) _ _ { s with heap:=H1 }
 unfold Builtin.List.listExtendWith
 refine wpAny_bind (wpAny_typeOf hT ?_)
 have h1:Builtin.List.listSameRef (.ref L0) (.ref S)=false:=by simp [Builtin.List.listSameRef,hLS]
 have h2:(Value.type "set" == Value.type "list")=false:=by decide
 have h3:(Value.type "set" == Value.type "tuple")=false:=by decide
 simp only [h1,h2,h3,Bool.or_false,Bool.false_eq_true,if_false]
 refine wpAny_bind (iter_T (s:={ s with heap:=H1 }) hS1 fun I h' d hI0 hk W=>?_)
 have hT':Shared.TypeIs { s with heap:=h',drawn:=d } (.ref S) "set" := by
  obtain ⟨o,e,r⟩:=hT
  exact ⟨o,hk S o e,r⟩
 refine wpAny_bind (wpAny_holding (hint_T hT' ?_))
 show wpAny _ A.in1 (rule "list.extend.makes-room" >>= fun _=>Builtin.List.listTouch (.ref L0)>>=fun _ =>
  again (.builtin "list.extend.loop" ⟨[.ref L0,.ref I,.ref L0],[]⟩)) _ _ _
 refine wpAny_bind (wpAny_rule ?_)
 refine wpAny_bind ?_
 have hL2:=hk L0 _ hL1
 show wpAny _ A.in1 (updateSeq L0 (·.push .none)>>=fun _=>updateSeq L0 (·.pop)) _ _ _
 refine wpAny_bind (wpAny_updateSeq hL2 rfl ?_)
 have hL3:=Heap.get?_update_self (Obj.mapSeq (·.push Value.none)) hL2 rfl
 refine wpAny_updateSeq (hz:=by seq_fits) hL3 rfl ?_
 have hL4:=Heap.get?_update_self (Obj.mapSeq (·.pop)) hL3 rfl
 have oth:∀ b o,b≠L0->h'.get? b=some o->((h'.update L0 (Obj.mapSeq (·.push Value.none))).update L0 (Obj.mapSeq (·.pop))).get? b=some o :=
  fun b o hb e=>(Heap.get?_update_other _ _ (Ne.symm hb)).trans ((Heap.get?_update_other _ _ (Ne.symm hb)).trans e)
 obtain ⟨fp,n,P,St,vals,ks',w1,w2,w3,w4,w5,w6,w7,w8⟩:=W
 have hLf:L0∉fp:=fun q=>by
  rcases w8 L0 q with e | e
  ·exact hLS e
  ·have e:H1.get? L0=none:=e
   exact absurd (hL1.symm.trans e) (by decide)
 have hnb:n<=sizeLine:=by
  have e1:=w6.length
  have e2:=w7.length_eq
  have:n<=1000:=by lia
  exact Nat.le_trans this (by decide)
 refine wpAny_pure ⟨plainId_quiet F.plain_extend_loop _,codeAny_extend_loopS (w1 A.in1 hh) hnb L0 hLf _ n 0 _ _ _ rfl (Nat.zero_le _)
  ((w1 A.in1 hh).frame 0 ({ s with heap:=h',drawn:=d }:Shared) _ s.toks w2 (Nat.le_refl _) fun b hb o e=>oth b o (fun q=>hLf (q▸hb)) e) hL4 (ItemsOf.nil P) fun s' acc' c' hm hS' hacc=>?_⟩
 show wpAny _ A (load L0>>=_) _ _ s'
 refine wpAny_bind (wpAny_load hS' ?_)
 refine wpAny_pure ?_
 rw [items_eq hacc w4 w5]
 obtain ⟨h'',g'',d'',tk'',os''⟩:=s'
 have eg:g''=s.gens:=hm.gens
 have ed:d''=d:=hm.drawn
 have eo:os''=s.os:=hm.os
 subst eg; subst ed; subst eo
 refine hQ vals ks' h'' d'' tk'' w6 w7 fun b o e=>?_
 have hbL:b≠L0:=fun q=>by rw [q,hn0] at e; cases e
 have hbI:b≠I:=fun q=>by
  have:=keep1 b o e
  rw [q] at this
  have hI0:H1.get? I=none:=hI0
  rw [hI0] at this; cases this
 exact hm.heap b o (by simp [hbL,hbI]) (oth b o hbL (hk b o (keep1 b o e)))
end
end Mine.Internal
set_option maxRecDepth 100000
namespace Mine.Internal
open PySem PySem.Calls
section
variable {prog:Program} {w:World} {A:Around} {E:Value->Shared->Prop} {s:Shared}
theorem sortedHeap_at {h:Heap} {a:Addr} {vs:List Value} {out:Array Value} {n:Nat} (ho:h.get? a=some (PyProof.Rows.seqObj "list" vs.toArray n)):∃ e,(PyProof.Rows.sortedHeap h a vs out).get? a=some (PyProof.Rows.seqObj "list" out e):=by
 have ha:a < h.objs.size:=Heap.lt_size ho
 have h1:=PyProof.Rows.get?_update_seq ho (fun _=>#[])
 have h2:=Heap.get?_push_of_some (PyProof.Rows.seqObj "list" #[] 0) (Heap.get?_push_of_some (PyProof.Rows.seqObj "tuple" vs.toArray 0) h1)
 exact ⟨_,PyProof.Rows.get?_update_seq h2 (fun _=>out)⟩
theorem sortedHeap_old {h:Heap} {a b:Addr} {vs:List Value} {out:Array Value} {o:Obj} (hb:b≠a) (e:h.get? b=some o):(PyProof.Rows.sortedHeap h a vs out).get? b=some o:=by
 unfold PyProof.Rows.sortedHeap
 rw [Heap.get?_update_other _ _ (Ne.symm hb)]
 refine Heap.get?_push_of_some _ (Heap.get?_push_of_some _ ?_)
 rw [Heap.get?_update_other _ _ (Ne.symm hb)]
 exact e
theorem sorted_T {S:Addr} {ks:List Str} {Q:Value->Shared->Prop} (hh:A.handled=none) (hS:EY prog w s.heap S ks (!BR w)) (hks:ks.length < 64)
 (h:∀ L out ss' h' d tk e,PyProof.Rows.StrsAre out.toList ss'->ss'.Perm ks->PyProof.Rows.sortedS ss'=true->s.heap.get? L=none->h'.get? L=some (PyProof.Rows.seqObj "list" out e)->(∀ b o,s.heap.get? b=some o->h'.get? b=some o)->Q (.ref L) { s with heap:=h',drawn:=d,toks:=tk }) :
 wpAny (model prog w) A (call (.builtin "sorted") [.ref S]) Q E s:=by
 refine Calls.call_function_entry PyProof.Rows.kind_sorted PyProof.Rows.plain_sorted PyProof.Rows.entry_sorted (PyProof.Rows.args_sorted1 _) ?_
 unfold Builtin.«sorted»
 refine wpAny_bind (m:=checkCount "sorted" 1 1 _) (wpAny_pure ?_)
 refine wpAny_bind (collect_T (A:=A.in1) hh hS (by lia) fun vals ks' h₁ d tk v1 v2 v3=>?_)
 have hvl:vals.length < 64:=by rw [v1.length,v2.length_eq]; exact hks
 refine wpAny_bind (wpAny_newList ?_ (show vals.length<=16777216 by lia))
 have hoL:(h₁.push (PyProof.Rows.seqObj "list" vals.toArray 0)).get? h₁.objs.size=some (PyProof.Rows.seqObj "list" vals.toArray 0):=Heap.get?_push_size _ rfl
 show wpAny _ _ _ _ _ { s with heap:=h₁.push (PyProof.Rows.seqObj "list" vals.toArray 0),drawn:=d,toks:=tk }
 refine wpAny_bind (wpAny_holding (wpAny_call_entry PyProof.Rows.slot_list_sort ⟨_,hoL,rfl⟩ PyProof.Rows.entry_list_sort (PyProof.Rows.list_sort_treeK PyProof.Rows.strKind_oneLt hoL v1.keysOf (fun v₁ v₂ rest e=>PyProof.Rows.keyKind_strs (by rw [<-e]; exact v1)) hvl fun st' a1 a2=>⟨_,rfl,?_⟩) (PyProof.Rows.args_list_sort _)))
 obtain ⟨ss',s1,s2,s3⟩:=PyProof.Rows.sorted_out_str v1 a1 a2
 obtain ⟨e,he⟩:=sortedHeap_at (out:=(PyProof.Rows.arrOf st').map (·.2)) hoL
 have hnew:s.heap.get? h₁.objs.size=none:=by
  induction q:s.heap.get? h₁.objs.size with
  | none=>rfl
  | some o=>exact absurd (Heap.lt_size (v3 _ o q)) (Nat.lt_irrefl _)
 refine wpAny_pure ⟨_,rfl,h _ _ ss' _ d tk e s1 (s2.trans v2) s3 hnew he fun b o hb=>?_⟩
 have hb1:=v3 b o hb
 exact sortedHeap_old (Nat.ne_of_lt (Heap.lt_size hb1)) (Heap.get?_push_of_some _ hb1)
end
end Mine.Internal
set_option maxRecDepth 100000
namespace Mine.Internal
open PySem PySem.Calls
theorem met_both:∀ (l ks:List Str),ks.Nodup->(l.foldl (fun ks x=>if x∈ks then ks else ks++[x]) ks).Nodup/\∀ y,y∈l.foldl (fun ks x=>if x∈ks then ks else ks++[x]) ks ↔ y∈ks\/y∈l
 | [],ks,h=>⟨h,fun y=>by simp⟩
 | x::r,ks,h=>by
  rw [List.foldl_cons]
  by_cases hx:x∈ks
  ·rw [if_pos hx]
   obtain ⟨h1,h2⟩:=met_both r ks h
   refine ⟨h1,fun y=>(h2 y).trans ?_⟩
   rw [List.mem_cons]
   constructor
   ·rintro (q | q)
    ·exact .inl q
    ·exact .inr (.inr q)
   ·rintro (q | rfl | q)
    ·exact .inl q
    ·exact .inl hx
    ·exact .inr q
  ·rw [if_neg hx]
   have hn:(ks++[x]).Nodup:=by
    rw [List.nodup_append]
    refine ⟨h,by simp,?_⟩
    intro a ha b hb
    rw [List.mem_singleton.mp hb]
    exact fun q=>hx (q▸ha)
   obtain ⟨h1,h2⟩:=met_both r (ks++[x]) hn
   refine ⟨h1,fun y=>(h2 y).trans ?_⟩
   rw [List.mem_append,List.mem_singleton,List.mem_cons,or_assoc]
theorem one_both:∀ l:List Str,(Cr l).Nodup/\∀ y,y∈Cr l ↔ y∈l
 | []=>⟨List.nodup_nil,fun y=>Iff.rfl⟩
 | x::r=>by
  obtain ⟨h1,h2⟩:=one_both r
  unfold Cr
  by_cases hx:r.contains x=true
  ·rw [if_pos hx]
   have hx':x∈r:=by simpa using hx
   refine ⟨h1,fun y=>(h2 y).trans ⟨fun q=>List.mem_cons_of_mem _ q,fun q=>?_⟩⟩
   rcases List.mem_cons.mp q with rfl | q
   ·exact hx'
   ·exact q
  ·rw [if_neg hx]
   have hx':x∉r:=fun q=>hx (by simpa using q)
   refine ⟨List.nodup_cons.mpr ⟨fun q=>hx' ((h2 x).mp q),h1⟩,fun y=>?_⟩
   rw [List.mem_cons,List.mem_cons,h2 y]
theorem met_one (l:List Str):(met l).Perm (Cr l):=by
 obtain ⟨h1,h2⟩:=met_both l [] List.nodup_nil
 obtain ⟨h3,h4⟩:=one_both l
 refine (List.perm_ext_iff_of_nodup h1 h3).mpr fun y=>?_
 rw [h2 y,h4 y]
 simp
section
variable {T:Top} {K:Kx} {C:Cfg} {fe:List Env} {own fs:List Addr} {env:Env} {A:Around} {n:Nat} {ρ:Au} {g:G} {σ:Store} {s:Shared}
theorem sset_core {fz:Bool} {v:V} {x:Value} {E:Value->Shared->Prop} (hh:A.handled=none) (st:St T g σ s.heap) (rx:Aj T g v x) (hb:EB fz v σ≠.bad) :
 wpAny (model T.prog T.w) A (call (.type "set") [x]) (fun S s₁=>wpAny (model T.prog T.w) A (call (.builtin "sorted") [S]) (OkR T fs g s (Aj T) (EB fz v σ)) E s₁) E s:=by
 induction e:B5 σ v with
 | none=>exact absurd (by unfold EB; rw [e]) hb
 | some vs' =>
 obtain ⟨a,ys,rfl,hL,hr,hl⟩:=C5 st rx e
 induction es:CJ vs' with
 | none=>exact absurd (by unfold EB; rw [e]; dsimp only; rw [es]) hb
 | some ss =>
 have eq:EB fz v σ=if ss.length < 64 then A2 fz ((CG (Cr ss)).map fun s=>.d (.str s)) σ else .bad:=by unfold EB; rw [e]; dsimp only; rw [es]
 rw [eq] at hb ⊢
 by_cases h64:ss.length < 64
 ·rw [if_pos h64] at hb ⊢
  obtain ⟨h1,h2,h3⟩:=Gk hr es
  have hsz:ys.size=ss.length:=by rw [<-Array.length_toList,h1.length]
  refine call_set_T hh hL h1 (by rw [hsz]; unfold scanBound; (exact Nat.lt_of_le_of_lt ‹_› (by decide))) fun h' tk hS hk=>?_
  have keep:∀ b o,s.heap.get? b=some o->h'.get? b=some o:=fun b o q=>hk b o (Heap.lt_size q) q
  refine sorted_T (s:={ s with heap:=h',toks:=tk }) hh hS (Nat.lt_of_le_of_lt (met_len ss) h64) fun L out ss' h'' d tk' e' a1 a2 a3 b1 b2 b3=>?_
  have e1:ss'=CG (Cr ss):=DB (Du _ a3) (De _) ((a2.trans (met_one ss)).trans (Ea _).symm)
  have hn:s.heap.get? L=none:=by
   induction q:s.heap.get? L with
   | none=>rfl
   | some o=>have:=keep L o q; exact Ab ((Eq.symm (show h'.get? L=none from b1)).trans this)
  refine CZ (s':={ s with heap:=h'',drawn:=d,toks:=tk' }) st (fun b o q=>b3 b o (keep b o q)) b2 hn ?_ hb
  rw [<-e1]
  exact GB a1 fun z hz=>h2 z (((one_both ss).2 z).mp ((met_one ss).mem_iff.mp (a2.mem_iff.mp hz)))
 ·exact absurd (if_neg h64) hb
theorem se_sset (fz:Bool) {a:E} (h:SEs [a]):SE (.sset fz a):=by
 intro T K C fe own env A n ρ g σ s ex hc cx I hH
 induction hc with
 | @mk n1 m1 np mp y p p' h1 h2 h3 h4 =>
  obtain ⟨h1,e1⟩:=h1
  obtain ⟨h2,e2⟩:=h2
  rw [eA_21]
  induction hd:C.hd with
  | true=>rw [if_pos rfl]; exact Sim.bad
  | false =>
  rw [if_neg (by simp)]
  intro hr
  have hc2:IsEs [a] K [y]:=.mk h3 h4 .mk
  have ev:evalEs C [a] ρ σ=(Ac C a ρ σ).bind fun v σ=>.ok [v] σ:=by
   rw [Ap]; cases Ac C a ρ σ <;> rfl
  have hne:evalEs C [a] ρ σ≠.bad:=fun q=>hr (by
   rw [ev] at q
   induction q2:Ac C a ρ σ with
   | bad=>rfl
   | ok v σ1=>rw [q2] at q; exact ok_bad q
   | exc c σ1=>rw [q2] at q; exact exc_bad q)
  refine PyProof.Rows.Call_Name rfl (Cf cx I h1 e1 fun x hx=>?_)
  have hx:x=Dn .sorted:=hx
  subst hx
  refine callWith_bi (by rw [Bh rfl]; rfl) ?_
  rw [Bh rfl]
  refine evalArgs_plain ?_
  refine spliced_cons ?_
  refine PyProof.Rows.Call_Name rfl (Cf cx I h2 e2 fun x hx=>?_)
  have hx:x=.type "set" := hx
  subst hx
  refine PyProof.Rows.callWith_type (CB _ _ hc2) (Db hc2 ?_)
  refine wpAny_mono (h _ p' hc2 cx I hH hne) (fun xs s₁ ⟨ws,σ1,g₁,q1,st1,r₁⟩=>?_) fun x s' ⟨c,σ',g',q,st',fl⟩=>⟨c,σ',g',?_,st',fl⟩
  ·rw [ev] at q1
   induction q2:Ac C a ρ σ with
   | bad=>rw [q2] at q1; exact bad_ok q1
   | exc c σ₂=>rw [q2] at q1; exact exc_ok q1
   | ok v σ₂ =>
    rw [q2] at q1 hr
    cases q1
    obtain ⟨x,rfl,rx⟩:=one_of r₁
    refine wpAny_mono (sset_core (fs:=Af fe) (E:=ExR T (Af fe) env.frame g s ((Res.ok v σ1).bind fun x σ=>EB fz x σ)) (cx.ha.handled hd) st1.st rx hr) (fun S s2 hq=>wpAny_pure (wpAny_mono hq (fun _ _ k=>k.after st1) fun _ _ k=>k)) fun _ _ k=>k
  ·rw [ev] at q
   induction q2:Ac C a ρ σ with
   | bad=>rw [q2] at q; exact bad_exc q
   | ok v σ₂=>rw [q2] at q; exact ok_exc q
   | exc c σ₂=>rw [q2] at q; obtain ⟨rfl,rfl⟩:=exc_inj q; rfl
end
inductive ItR (T:Top) (C:Cfg) (fe:List Env) (av:List Addr) (g:G) (s:Shared) (it:It) (r:Res Src) (v:Value) (s2:Shared):Prop
 | mk (vs:Src) (σ':Store) (g':G) (b:Bool) (its:List Addr) (a:Addr) (h1:r=.ok vs σ') (h2:Step T g.mu (Af fe) g s g' σ' s2) (h3:v=.ref a) (h4:Dp T av g' s2.heap C.hd b its a vs) (h5:∀ c,c∈its->s.heap.get? c=none) (h6:b=true->isZipIt it=true):ItR T C fe av g s it r v s2
noncomputable def SI (it:It):Prop:=∀ {T:Top} {K:Kx} {C:Cfg} {fe:List Env} {own:List Addr} {env:Env} {A:Around} {n:Nat} {ρ:Au} {g:G} {σ:Store} {s:Shared} (ex:Expr) (av:List Addr),
 IsI it K ex->Cx T K C fe env A n->Inv T fe own K.wr env K.vars ρ g σ s.heap->HOk g A->(∀ c,c∈av->∃ o,s.heap.get? c=some o)->evalIt C it ρ σ≠.bad ->
 wpAny (model T.prog T.w) A (eval ex env) (fun x s₁=>wpAny (model T.prog T.w) A (pyIter x) (fun v s2=>ItR T C fe av g s it (evalIt C it ρ σ) v s2)
  (fun x s'=>ExR T (Af fe) env.frame g s (evalIt C it ρ σ) x s') s₁)
  (fun x s'=>ExR T (Af fe) env.frame g s (evalIt C it ρ σ) x s') s
section
variable {T:Top} {K:Kx} {C:Cfg} {fe:List Env} {own av fs:List Addr} {env:Env} {A:Around} {n:Nat} {ρ:Au} {g g':G} {σ σ':Store} {s s':Shared} {L:Option Addr} {Er:Value->Shared->Prop}
theorem BY.new (st:St T g σ s.heap) (hav:∀ c,c∈av->∃ o,s.heap.get? c=some o) {a:Addr} {o:Obj} (ha:s.heap.get? a=none) (h':s'.heap.get? a=some o):BY av g s'.heap a:=by
 refine ⟨⟨st.fz_none ha,st.mu_none ha,o,h'⟩,fun q=>?_⟩
 obtain ⟨o,e⟩:=hav a q
 exact Ab (ha.symm.trans e)
theorem list_drop_zero {α:Type} (xs:List α):xs.drop 0=xs:=rfl
theorem src_of {v:V} {x:Value} {vs:Src} (st:St T g σ s.heap) (hav:∀ c,c∈av->∃ o,s.heap.get? c=some o) {hd:Bool} (r:Aj T g v x) (e:Dy hd σ v=some vs) {Q:Value->Shared->Prop}
 (h:∀ a s2 its,Step T g.mu fs g s g σ s2->Dp T av g s2.heap hd false its a vs->(∀ c,c∈its->s.heap.get? c=none)->Q (.ref a) s2):wpAny (model T.prog T.w) A (pyIter x) Q Er s:=by
 have hsz:=BA s.heap
 have new1:∀ c,c∈[s.heap.objs.size]->s.heap.get? c=none:=fun c hc=>by rw [List.mem_singleton.mp hc]; exact hsz
 cases v with
 | d y=>cases y with
  | list ys =>
   rw [<-Option.some.inj (show some (Src.items (ys.map V.d))=some vs from e)] at h
   obtain ⟨l,o,xs,m,rfl,hf,hc,hd',hr,hl⟩:=r
   exact wpAny_pyIter_list ⟨o,st.fz _ _ hf,hc,m,hd'⟩ (h _ _ [s.heap.objs.size] (.grow st fun b o e=>Heap.get?_push_of_some _ e) (.list (BY.new st hav hsz (Heap.get?_push_size _ rfl)) ⟨_,Heap.get?_push_size _ rfl,rfl,rfl⟩ hf hc hd' (RepVs.ofD hr)) new1)
  | tuple ys=>induction hd with
   | true=>exact Ab e
   | false =>
   rw [<-Option.some.inj (show some (Src.items (ys.map V.d))=some vs from e)] at h
   obtain ⟨l,o,xs,m,rfl,hf,hc,hd',hr,hl⟩:=r
   exact wpAny_pyIter_tuple ⟨o,st.fz _ _ hf,hc,m,hd'⟩ (h _ _ [s.heap.objs.size] (.grow st fun b o e=>Heap.get?_push_of_some _ e) (.tuple (BY.new st hav hsz (Heap.get?_push_size _ rfl)) ⟨_,Heap.get?_push_size _ rfl,rfl,rfl⟩ hf hc hd' (RepVs.ofD hr)) new1)
  | str y=>induction hd with
   | true=>exact Ab e
   | false =>
   rw [<-Option.some.inj (show some (Src.items (y.cps.toList.map fun c=>V.d (.str (chr1 c))))=some vs from e)] at h
   obtain ⟨t,rfl,hl⟩:=r
   induction ha:y.cps.all (· < 128) with
   | true=>exact wpAny_pyIter_ascii ha (h _ _ [s.heap.objs.size] (.grow st fun b o e=>Heap.get?_push_of_some _ e) (.ascii (x:=y) (i:=0) (BY.new st hav hsz (Heap.get?_push_size _ rfl)) ⟨_,Heap.get?_push_size _ rfl,rfl,rfl⟩) new1)
   | false=>exact wpAny_pyIter_wide ha (h _ _ [s.heap.objs.size] (.grow st fun b o e=>Heap.get?_push_of_some _ e) (.wide (x:=y) (i:=0) (BY.new st hav hsz (Heap.get?_push_size _ rfl)) ⟨_,Heap.get?_push_size _ rfl,rfl,rfl⟩) new1)
  | _=>exact Ab e
 | ref k =>
  obtain ⟨hb,rfl⟩:=Cg e
  obtain ⟨ws,ew⟩:=Fs hb
  obtain ⟨l,hk,rfl⟩:=r
  obtain ⟨o,ho,xs,m,q,hr,hl⟩:=st.ob k l _ hk ew
  subst q
  exact wpAny_pyIter_list ⟨_,ho,rfl,m,rfl⟩ (h _ _ [s.heap.objs.size] (.grow st fun b o e=>Heap.get?_push_of_some _ e) (.lref (BY.new st hav hsz (Heap.get?_push_size _ rfl)) ⟨_,Heap.get?_push_size _ rfl,rfl,rfl⟩ hk) new1)
 | _=>exact Ab e
theorem ES {X:List Addr} (st:Step T X fs g s g' σ' s') (hav:∀ c,c∈av->∃ o,s.heap.get? c=some o):∀ c,c∈av->∃ o,s'.heap.get? c=some o :=
 fun c hc=>by obtain ⟨o,e⟩:=hav c hc; exact st.kept.alive c o e
theorem si_of {e:E} (h:SE e):SI (.of e):=by
 intro T K C fe own env A n ρ g σ s ex av hc cx I hH hav hr
 have hc:IsE e K ex:=hc
 (first | rw [eI_1] at hr ⊢ | rw [eI_2] at hr ⊢ | rw [eI_3] at hr ⊢ | rw [eI_4] at hr ⊢)
 refine wpAny_mono (h _ hc cx I hH (AH hr)) (fun x s₁ hz_=>?_) fun _ _ h=>h.bind
 obtain ⟨v,σ1,g₁,e1,st1,r₁⟩:=hz_
 rw [e1] at hr ⊢
 induction ei:Dy C.hd σ1 v with
 | none=>exact absurd (by simp only [okb,ei]) hr
 | some xs =>
  refine src_of (fs:=Af fe) st1.st (ES st1 hav) r₁ ei fun a s2 its st2 it new=>?_
  exact ⟨xs,σ1,g₁,false,its,a,by simp only [okb,ei],st1.trans st2,rfl,it,fun c hc=>st1.kept.dead (new c hc),fun q=>by exact ff_ q⟩
theorem rangeSmall {n:Int} (h:n<=1000000/\-1000000<=n):Builtin.Range.small 0 n 1=true/\(Builtin.Range.rangeSize 0 n 1).toNat=n.toNat:=by
 rw [rangeSize_one]
 unfold Builtin.Range.small Builtin.Range.rangeFitsLong
 rw [rangeSize_one]
 constructor
 ·simp only [Bool.and_eq_true,Bool.or_eq_true,decide_eq_true_eq,beq_iff_eq]
  split <;> simp <;> lia
 ·split <;> lia
set_option tactic.hygienic true in
theorem si_range {es:List E} (h:SEs es):SI (.range es):=by
 intro T K C fe own env A n ρ g σ s ex av hc cx I hH hav hr
 induction hc with
 | @mk nm p vs pos h1 h2 h3 =>
  obtain ⟨h1,e⟩:=h1
  ·skip
   (first | rw [eI_1] at hr ⊢ | rw [eI_2] at hr ⊢ | rw [eI_3] at hr ⊢ | rw [eI_4] at hr ⊢)
   refine PyProof.Rows.Call_Name rfl (Cf cx I h1 e fun x hx=>?_)
   have hx:x=.type "range" := hx
   subst hx
   refine PyProof.Rows.callWith_type (CB _ _ h2) (Db h2 ?_)
   refine wpAny_mono (h _ pos h2 cx I hH (AH hr)) (fun xs s₁ hz_=>?_) fun _ _ h=>h.bind
   obtain ⟨ws,σ1,g₁,e1,st1,r₁⟩:=hz_
   rw [e1] at hr ⊢
   induction ei:rangeOf C.hd ws with
   | none=>exact absurd (by simp only [okb,ei]) hr
   | some ys =>
    rcases ws with _ | ⟨w,_ | ⟨w',ws⟩⟩
    ·exact Ab ei
    rotate_left
    ·exact Ab ei
    induction ek:Az w with
    | none=>have ei:(match Az w with | some n=>if n<=1000000/\-1000000<=n/\C.hd=false then some (CO 0 n.toNat) else none | none=>none)=some ys:=ei; rw [ek] at ei; exact Ab ei
    | some k =>
     have ei:(match Az w with | some n=>if n<=1000000/\-1000000<=n/\C.hd=false then some (CO 0 n.toNat) else none | none=>none)=some ys:=ei
     rw [ek] at ei
     have ei:(if k<=1000000/\-1000000<=k/\C.hd=false then some (CO 0 k.toNat) else none)=some ys:=ei
     split at ei
     ·rename_i hk
      obtain rfl:=Option.some.inj ei
      obtain ⟨hs,hz⟩:=rangeSmall ⟨hk.1,hk.2.1⟩
      rcases xs with _ | ⟨x,_ | ⟨x',xs⟩⟩
      ·exact r₁.elim
      rotate_left
      ·exact r₁.2.elim
      obtain ⟨t,rfl⟩:=AN r₁.1 ek
      show wpAny _ _ (call (.type "range") [.int k t] []) _ _ _
      refine call_range_1 ?_
      refine wpAny_pyIter_range (Heap.get?_push_size _ rfl) hs ?_
      generalize hs2:({ s₁ with heap:=s₁.heap.push { cls:=.type "range",data:=.fields #[.int 0 s₁.toks,.int k t,.int 1 (s₁.toks+1)] },toks:=s₁.toks+1+1 }:Shared)=s2
      have st2:Step T g₁.mu (Af fe) g₁ s₁ g₁ σ1 s2:=by rw [<-hs2]; exact .grow st1.st fun b o e=>Heap.get?_push_of_some _ e
      refine ⟨.items (CO 0 k.toNat),σ1,g₁,false,[s2.heap.objs.size],s2.heap.objs.size,by show (match (match Az w with | some n=>if n<=1000000/\-1000000<=n/\C.hd=false then some (CO 0 n.toNat) else none | none=>none) with | some xs=>Res.ok (Src.items xs) σ1 | none=>.bad)=_; rw [ek]; dsimp only; rw [if_pos hk],(st1.trans st2).trans (.grow st2.st fun b o e=>Heap.get?_push_of_some _ e),rfl,?_,fun c hc=>?_,fun q=>by exact ff_ q⟩
      ·rw [<-hz,hk.2.2]
       exact .range (BY.new st2.st (ES st2 (ES st1 hav)) (BA _) (Heap.get?_push_size _ rfl)) (Heap.get?_push_size _ rfl)
      ·rw [List.mem_singleton.mp hc]
       exact st1.kept.dead (st2.kept.dead (BA _))
     ·exact Ab ei
theorem G3 {hd:Bool} {v:V} {x:Value} {vs:List V} (r:Aj T g v x) (e:Dl hd v=some vs) :
 hd=false/\∃ l o xs n,x=.ref l/\g.fz l=some o/\o.cls=.type "list"/\o.data=.seq xs n/\RepVs T g vs xs.toList:=by
 cases v with
 | d y=>cases y with
  | list ds =>
   induction hd with
   | true=>exact Ab e
   | false =>
    obtain rfl:ds.map .d=vs:=Option.some.inj e
    obtain ⟨l,o,xs,m,rfl,hf,hc,hd',hr,hl⟩:=r
    exact ⟨rfl,l,o,xs,m,rfl,hf,hc,hd',RepVs.ofD hr⟩
  | _=>exact Ab e
 | _=>exact Ab e
theorem si_zip {a b:E} (ha:SE a) (hb:SE b):SI (.zip a b):=by
 intro T K C fe own env A n ρ g σ s ex av hc cx I hH hav hr
 induction hc with
 | @mk nm p ex1 ex2 pos h1 h2 h3 h5 h6 =>
  obtain ⟨h1,e⟩:=h1
  ·skip
   (first | rw [eI_1] at hr ⊢ | rw [eI_2] at hr ⊢ | rw [eI_3] at hr ⊢ | rw [eI_4] at hr ⊢)
   refine PyProof.Rows.Call_Name (trees:=[(false,eval ex1 env),(false,eval ex2 env)]) (by rw [Bh h5,Bh h6]; rfl) (Cf cx I h1 e fun x hx=>?_)
   have hx:x=.type "zip" := hx
   subst hx
   refine PyProof.Rows.callWith_type rfl (evalArgs_plain (spliced_cons ?_))
   refine wpAny_mono (ha _ h2 cx I hH (AH hr)) (fun x s₁ hz_=>?_) fun _ _ h=>h.bind
   obtain ⟨v,σ1,g₁,e1,st1,r₁⟩:=hz_
   rw [e1] at hr ⊢
   refine spliced_cons ?_
   refine wpAny_mono (hb _ h3 cx (I.step st1) (hH.mono st1.le) (AH (r:=Ac C b ρ σ1) hr)) (fun y s2 hz_=>?_)
    fun _ _ h=>(ExR.bind (h.after st1):ExR _ _ _ _ _ ((Ac C b ρ σ1).bind _) _ _)
   obtain ⟨u,σ₂,g2,e2,st2,r2⟩:=hz_
   simp only [okb,e2] at hr ⊢
   induction d1:Dl C.hd v with
   | none=>rw [d1] at hr; exact absurd rfl hr
   | some vs =>
    induction d2:Dl C.hd u with
    | none=>rw [d1,d2] at hr; exact absurd rfl hr
    | some ws =>
     obtain ⟨hd0,l1,o1,xs,n1,rfl,f1,c1,k1,q1⟩:=G3 (Aj.mono st2.le _ _ r₁) d1
     obtain ⟨_,l2,o2,ys,n2,rfl,f2,c2,k2,q2⟩:=G3 r2 d2
     refine spliced_nil ?_
     show wpAny _ _ (call (.type "zip") [.ref l1,.ref l2] []) _ _ _
     refine call_zip_2 ⟨o1,st2.st.fz _ _ f1,c1,n1,k1⟩ ⟨o2,st2.st.fz _ _ f2,c2,n2,k2⟩ fun h' hz hTI hTO t1 t2 hsz hk=>?_
     refine wpAny_pyIter_zip hz ?_
     have gone:∀ j,s2.heap.get? (s2.heap.objs.size+j)=none:=fun j=>Heap.get?_none_of_le (Nat.le_add_right _ _)
     have st3:Step T g2.mu (Af fe) g2 s2 g2 σ₂ { s2 with heap:=h' }:=.grow st2.st hk
     have hav':=ES st2 (ES st1 hav)
     have lo:∀ j o,h'.get? (s2.heap.objs.size+j)=some o->BY av g2 h' (s2.heap.objs.size+j):=fun j o e=>BY.new (s':={ s2 with heap:=h' }) st2.st hav' (gone j) e
     have ne:∀ l o,g2.fz l=some o->∀ j,l≠s2.heap.objs.size+j:=fun l o e j q=>by have:=st2.st.fz _ _ e; rw [q,gone j] at this; exact Ab this
     have D:ZipApart (s2.heap.objs.size+4) (s2.heap.objs.size+2) (s2.heap.objs.size+3) (s2.heap.objs.size) (s2.heap.objs.size+1) l1 l2:=by
      constructor <;> first
       | exact ne _ _ f1 4 | exact ne _ _ f1 3 | exact ne _ _ f1 0 | exact ne _ _ f1 1
       | exact ne _ _ f2 4 | exact ne _ _ f2 3 | exact ne _ _ f2 0 | exact ne _ _ f2 1
       | (show (_:Nat)≠_; lia)
     have a1:=id t1
     have a2:=id t2
     obtain ⟨oi1,hi1,_⟩:=a1
     obtain ⟨oi2,hi2,_⟩:=a2
     refine ⟨.items (zipV vs ws),σ₂,g2,true,[s2.heap.objs.size+4,s2.heap.objs.size+3,s2.heap.objs.size,s2.heap.objs.size+1,s2.heap.objs.size+2],s2.heap.objs.size+4,rfl,st1.trans (st2.trans st3),rfl,?_,fun c hc=>?_,fun _=>rfl⟩
     ·rw [hd0]
      exact .zip (lo 4 _ hz) (lo 2 _ hTI) (lo 3 _ hTO) (lo 0 _ hi1) (lo 1 _ hi2) (.mk D hz hTI hTO t1 t2 f1 c1 k1 f2 c2 k2 q1 q2)
     ·refine st1.kept.dead (st2.kept.dead ?_)
      simp only [List.mem_cons,List.not_mem_nil,or_false] at hc
      rcases hc with rfl | rfl | rfl | rfl | rfl
      ·exact gone 4
      ·exact gone 3
      ·exact gone 0
      ·exact gone 1
      ·exact gone 2
theorem si_enum {a:E} (ha:SE a):SI (.enum a):=by
 intro T K C fe own env A n ρ g σ s ex av hc cx I hH hav hr
 induction hc with
 | @mk nm p xs pos h1 h2 h3=>induction h2 with
 | @mk ex1 l c1 c2 c3 =>
  cases c3
  obtain ⟨h1,e⟩:=h1
  rw [eI_3] at hr ⊢
  refine PyProof.Rows.Call_Name (trees:=[(false,eval ex1 env)]) (by rw [Bh c2]; rfl) (Cf cx I h1 e fun x hx=>?_)
  have hx:x=.type "enumerate" := hx
  subst hx
  refine PyProof.Rows.callWith_type rfl (evalArgs_plain (spliced_cons ?_))
  refine wpAny_mono (ha _ c1 cx I hH (AH hr)) (fun x s₁ hz_=>?_) fun _ _ h=>h.bind
  obtain ⟨v,σ1,g₁,e1,st1,r₁⟩:=hz_
  rw [e1] at hr ⊢
  induction d1:Dl C.hd v with
  | none=>exact absurd (by show (match Dl C.hd v with | some xs=>(.ok (.items (FY 0 xs)) σ1:Res Src) | none=>.bad)=_; rw [d1]) hr
  | some vs =>
   obtain ⟨hd0,l1,o1,xs,n1,rfl,f1,c1,k1,q1⟩:=G3 r₁ d1
   refine spliced_nil ?_
   show wpAny _ _ (call (.type "enumerate") [.ref l1] []) _ _ _
   refine call_enumerate_list ⟨o1,st1.st.fz _ _ f1,c1,n1,k1⟩ fun h' he hit hsz hk=>?_
   refine wpAny_pyIter_enum he ?_
   have gone:∀ j,s₁.heap.get? (s₁.heap.objs.size+j)=none:=fun j=>Heap.get?_none_of_le (Nat.le_add_right _ _)
   have st3:Step T g₁.mu (Af fe) g₁ s₁ g₁ σ1 { s₁ with heap:=h' }:=.grow st1.st hk
   have hav':=ES st1 hav
   have a1:=id hit
   obtain ⟨oi,hi,_⟩:=a1
   refine ⟨.items (FY 0 vs),σ1,g₁,true,[s₁.heap.objs.size+1,s₁.heap.objs.size],s₁.heap.objs.size+1,by show (match Dl C.hd v with | some xs=>(.ok (.items (FY 0 xs)) σ1:Res Src) | none=>.bad)=_; rw [d1],st1.trans st3,rfl,?_,fun c hc=>?_,fun _=>rfl⟩
   ·rw [hd0]
    exact .enum (BY.new (s':={ s₁ with heap:=h' }) st1.st hav' (gone 1) he) (BY.new (s':={ s₁ with heap:=h' }) st1.st hav' (gone 0) hi) (Nat.ne_of_gt (Nat.lt_succ_self _)) he hit f1 c1 k1 q1
   ·refine st1.kept.dead ?_
    rcases List.mem_cons.mp hc with rfl | hc
    ·exact gone 1
    ·rw [List.mem_singleton.mp hc]; exact gone 0
theorem pyIter_self {hd b:Bool} {its:List Addr} {a:Addr} {vs:Src} {Q:Value->Shared->Prop} (I:Dp T av g s.heap hd b its a vs) (h:Q (.ref a) s):wpAny (model T.prog T.w) A (pyIter (.ref a)) Q Er s:=by
 induction I with
 | list _ it=>exact wpAny_pyIter_listiter it h
 | tuple _ it=>exact wpAny_pyIter_tupleiter it h
 | lref _ it=>exact wpAny_pyIter_listiter it h
 | enum _ _ _ he=>exact wpAny_pyIter_enum he h
 | ascii _ it=>exact wpAny_pyIter_striter_ascii it h
 | wide _ it=>exact wpAny_pyIter_striter_wide it h
 | range _ it=>exact wpAny_pyIter_rangeiter it h
 | zip _ _ _ _ _ z =>
  induction z with
  | mk _ hz=>exact wpAny_pyIter_zip hz h
end
section
variable {T:Top} {K:Kx} {C:Cfg} {fe:List Env} {own av fs X:List Addr} {wr:List Str} {env:Env} {A:Around} {n:Nat} {ρ ρ':Au} {g g':G} {σ σ':Store} {s s':Shared} {L:Option Addr} {Er:Value->Shared->Prop}
theorem canWr_ok (h:env.scope.names=K.names) {i:Nat} {nm:Str} (hc:K.canWr i nm=true):K.vars[i]? = some nm/\nm∈K.wr/\(env.kindOf nm=some .local\/env.kindOf nm=some .cell):=by
 unfold Kx.canWr at hc
 simp only [Bool.and_eq_true,Bool.or_eq_true] at hc
 obtain ⟨⟨h1,h2⟩,h3⟩:=hc
 refine ⟨of_decide_eq_true h1,List.contains_iff_mem.mp h2,?_⟩
 rw [AL h]
 exact h3.imp Kx.kd_eq Kx.kd_eq
theorem D8 {i:Nat} {nm:Str} {p:Pos} {v:V} {x:Value} {Q:Unit->Shared->Prop} (I:Inv T fe own K.wr env K.vars ρ g σ s.heap) (hn:env.scope.names=K.names) (hc:K.canWr i nm=true) (r:Aj T g v x)
 (h:∀ s',Step T (g.mu++own) fs g s g σ s'->Inv T fe own K.wr env K.vars (ρ.set i (some v)) g σ s'.heap->Q () s'):wpAny (model T.prog T.w) A (assign (.Name nm p) env x) Q Er s:=by
 obtain ⟨h1,h2,h3⟩:=canWr_ok hn hc
 rw [arm_assign_Name]
 exact wpAny_bind (wpAny_standAt (wpAny_bindName (Fo I h1 h2 h3 r h)))
theorem assign_names (hn:env.scope.names=K.names) {ts:List Nat} {es:List Expr} (hc:IsNs K ts es):∀ (vs:List V) (xs:List Value) (ρ:Au) (s:Shared) (Q:Unit->Shared->Prop),Inv T fe own K.wr env K.vars ρ g σ s.heap ->
 RepVs T g vs xs->vs.length=ts.length->(∀ s',Step T (g.mu++own) fs g s g σ s'->Inv T fe own K.wr env K.vars (Cz ρ ts vs) g σ s'.heap->Q () s') ->
 wpAny (model T.prog T.w) A (assignInOrder ((assignEach es env).map (·.2)) xs) Q Er s:=by
 induction hc with
 | nil =>
  intro vs xs ρ s Q I r hl h
  induction vs with
  | cons _ _=>exact BV hl rfl
  | nil=>induction xs with
   | cons _ _=>exact r.elim
   | nil=>exact wpAny_pure (h s (.refl I.st) I)
 | @cons i nm p ts l h1 h2 ih =>
  intro vs xs ρ s Q I r hl h
  induction vs with
  | nil=>exact BV hl rfl
  | cons v vs=>induction xs with
   | nil=>exact r.elim
   | cons x xs =>
    show wpAny _ _ (holding xs (assign (.Name nm p) env x)>>=fun _=>assignInOrder ((assignEach l env).map (·.2)) xs) _ _ _
    refine wpAny_bind (wpAny_holding (D8 (fs:=fs) I hn h1 r.1 fun s₁ st1 I1=>?_))
    exact ih vs xs _ s₁ Q I1 r.2 (Nat.succ.inj hl) fun s' st' I'=>h s' (st1.transO st') I'
theorem chkNs_len {ts:List Nat} {es:List Expr} (hc:IsNs K ts es):(assignEach es env).length=ts.length/\(assignEach es env).findIdx? (·.1)=none:=by
 induction hc with
 | nil=>exact ⟨rfl,rfl⟩
 | @cons i nm p ts l h1 h2 ih =>
  refine ⟨congrArg (· + 1) ih.1,?_⟩
  show ((false,assign (.Name nm p) env)::assignEach l env).findIdx? (·.1)=none
  rw [List.findIdx?_cons,ih.2]; rfl
theorem tupOf_rep {v:V} {x:Value} {vs:List V} (st:St T g σ s.heap) (r:Aj T g v x) (e:tupOf v=some vs):∃ t xs,x=.ref t/\s.heap.IsTuple t xs/\RepVs T g vs xs.toList:=by
 cases v with
 | d y=>cases y with
  | tuple ds =>
   obtain rfl:ds.map .d=vs:=Option.some.inj e
   obtain ⟨a,o,xs,m,rfl,hf,hc,hd,hr,hl⟩:=r
   exact ⟨a,xs,rfl,⟨o,st.fz _ _ hf,hc,m,hd⟩,RepVs.ofD hr⟩
  | _=>exact Ab e
 | tup ws =>
  obtain rfl:ws=vs:=Option.some.inj e
  obtain ⟨a,o,xs,m,rfl,hf,hc,hd,hr,hl⟩:=r
  exact ⟨a,xs,rfl,⟨o,st.fz _ _ hf,hc,m,hd⟩,hr⟩
 | _=>exact Ab e
inductive BindsTs (hd:Bool) (ρ:Au) (v:V):List Nat->Au->Prop where
 | one (i:Nat):BindsTs hd ρ v [i] (ρ.set i (some v))
 | more {ts:List Nat} {vs:List V} (h:hd=false) (e:tupOf v=some vs) (hl:vs.length=ts.length):BindsTs hd ρ v ts (Cz ρ ts vs)
theorem bindTs_more {hd:Bool} {ts:List Nat} {v:V} (h:(if hd then none else match tupOf v with | some vs=>if vs.length=ts.length then some (Cz ρ ts vs) else none | none=>none)=some ρ'):BindsTs hd ρ v ts ρ':=by
 induction hd with
 | true=>exact Ab h
 | false =>
  replace h:(match tupOf v with | some vs=>if vs.length=ts.length then some (Cz ρ ts vs) else none | none=>none)=some ρ':=h
  induction e:tupOf v with
  | none=>rw [e] at h; exact Ab h
  | some vs =>
   rw [e] at h
   obtain ⟨hl,h⟩:=Cg h
   exact h▸.more rfl e hl
theorem bindTs_is {hd:Bool} {ts:List Nat} {v:V} (h:BG hd ρ ts v=some ρ'):BindsTs hd ρ v ts ρ':=by
 rcases ts with _ | ⟨i,_ | ⟨j,r⟩⟩
 ·exact bindTs_more h
 ·exact Option.some.inj (show some (ρ.set i (some v))=some ρ' from h)▸.one i
 ·exact bindTs_more h
theorem Step.ext_size (st:St T g σ s.heap) (h:Heap.ExtBut s.heap.objs.size s.heap s'.heap) (hg:s'.gens=s.gens:=by rfl) (ho:s'.os=s.os:=by rfl):Step T X fs g s g σ s' :=
 .grow st (fun b o e=>h b o (fun q=>by rw [q,BA] at e; exact Ab e) e) hg ho
theorem G5 {hd:Bool} {ts:List Nat} {t:Expr} {v:V} {x:Value} {Q:Unit->Shared->Prop} (I:Inv T fe own K.wr env K.vars ρ g σ s.heap) (hn:env.scope.names=K.names) (hh:hd=false->A.handled=none)
 (hc:IsT K ts t) (r:Aj T g v x) (hb:BG hd ρ ts v=some ρ')
 (h:∀ s',Step T (g.mu++own) (Af fe) g s g σ s'->Inv T fe own K.wr env K.vars ρ' g σ s'.heap->Q () s'):wpAny (model T.prog T.w) A (assign t env x) Q Er s:=by
 induction hc with
 | one hc =>
  cases Option.some.inj hb
  exact D8 I hn hc r h
 | @more _ es k p hc hl1 =>
  rcases bindTs_is hb with i | ⟨hhd,e,hl⟩
  ·exact absurd rfl hl1
  ·obtain ⟨a,xs,rfl,ht,hr⟩:=tupOf_rep I.st r e
   obtain ⟨l1,l2⟩:=chkNs_len (env:=env) hc
   refine wpAny_assign_Tuple (hh hhd) ht (by rw [l1,<-hl,hr.length]; rfl) l2 fun h' he=>?_
   have st1:Step T g.mu (Af fe) g s g σ { s with heap:=h' }:=.ext_size I.st he
   exact assign_names hn hc _ xs.toList ρ _ Q (I.step st1) hr hl fun s' st' I'=>h s' (st1.toO.transO st') I'
theorem zip_tup {it:It} {ts:List Nat} {t:Expr} {b:Bool} (h1:IsT K ts t) (h7:zipOk ts it=true) (hz:b=true->isZipIt it=true) (hb:b=true):∃ es c p,t=.Tuple es c p:=by
 induction h1 with
 | more _ _=>exact ⟨_,_,_,rfl⟩
 | one _ =>
  unfold zipOk at h7
  rw [if_pos (hz hb)] at h7
  exact (Bool.false_ne_true h7).elim
noncomputable def CV (env:Env):List Addr:=env.scope.names.filterMap fun p=>match env.kindOf p.1 with | some .cell=>env.cells.lookup p.1 | some .free=>env.cells.lookup p.1 | _=>none
noncomputable def B0 (fe:List Env) (own:List Addr) (env:Env):List Addr:=Af fe++(own++CV env)
theorem Dw {nm:Str} {c:Addr} (hk:env.kindOf nm=some .cell\/env.kindOf nm=some .free) (hc:env.cells.lookup nm=some c):c∈CV env:=by
 have hm:∃ k,(nm,k)∈env.scope.names:=by
  have:∃ k,env.scope.names.lookup nm=some k:=by rcases hk with h | h <;> exact ⟨_,h⟩
  obtain ⟨k,h⟩:=this
  exact ⟨k,mem_of_lookup h⟩
 obtain ⟨k,hm⟩:=hm
 refine List.mem_filterMap.mpr ⟨(nm,k),hm,?_⟩
 rcases hk with h | h <;> simp [h,hc]
set_option tactic.hygienic true in
theorem Ee {c:Addr} (h:c∈CV env):∃ nm,(env.kindOf nm=some .cell\/env.kindOf nm=some .free)/\env.cells.lookup nm=some c:=by
 obtain ⟨p,_,hp⟩:=List.mem_filterMap.mp h
 split at hp
 ·rename_i e; exact ⟨p.1,.inl e,hp⟩
 ·rename_i e; exact ⟨p.1,.inr e,hp⟩
 ·exact Ab hp
theorem BI.mem {h:Heap}:∀ {l:List Env} {c:Addr},BI g h l->c∈Af l->Bq g h c
 | e::r,c,⟨_,⟨L,o,hf,ho,_,h1,h2⟩,hr⟩,hc=>by
  unfold Af at hc
  rw [List.filterMap_cons_some hf] at hc
  rcases List.mem_cons.mp hc with rfl | hc
  ·exact ⟨h1,h2,o,ho⟩
  ·exact BI.mem hr hc
theorem Inv.avAp (I:Inv T fe own wr env K.vars ρ g σ s.heap):∀ c,c∈B0 fe own env->Bq g s.heap c:=by
 intro c hc
 rcases List.mem_append.mp hc with h | h
 ·exact I.fr.mem h
 ·rcases List.mem_append.mp h with h | h
  ·exact I.oap c h
  ·obtain ⟨nm,hk,hl⟩:=Ee h
   obtain ⟨c',v,h1,_,h3⟩:=I.blk.cell nm hk
   obtain rfl:=Option.some.inj (hl.symm.trans h1); exact h3
theorem BI.keep {h h':Heap}:∀ {l:List Env},(∀ c o,c∈Af l->h.get? c=some o->∃ sl,h'.get? c=some { o with slots:=sl })->(∀ c,c∈Af l->Bq g' h' c)->BI g h l->BI g' h' l
 | [],_,_,_=>trivial
 | e::r,kp,ap,⟨k,⟨L,o,hf,ho,hd,h1,h2⟩,hr⟩=>by
  have hm:L∈Af (e::r):=by unfold Af; rw [List.filterMap_cons_some hf]; exact List.mem_cons_self ..
  obtain ⟨sl,e1⟩:=kp L o hm ho
  have a:=ap L hm
  have sub:∀ c,c∈Af r->c∈Af (e::r):=fun c hc=>by unfold Af; rw [List.filterMap_cons_some hf]; exact List.mem_cons_of_mem _ hc
  exact ⟨k,⟨L,_,hf,e1,hd,a.1,a.2.1⟩,BI.keep (fun c o hc=>kp c o (sub c hc)) (fun c hc=>ap c (sub c hc)) hr⟩
theorem Inv.keep {h':Heap} (I:Inv T fe own wr env K.vars ρ g σ s.heap) (le:G.le g g') (st:St T g' σ' h') (ap:∀ c,c∈B0 fe own env->Bq g' h' c)
 (kp:∀ c o,c∈B0 fe own env->s.heap.get? c=some o->∃ sl,h'.get? c=some { o with slots:=sl }):Inv T fe own wr env K.vars ρ g' σ' h':=by
 have mo:∀ c,c∈own->c∈B0 fe own env:=fun c h=>List.mem_append.mpr (.inr (List.mem_append.mpr (.inl h)))
 have mc:∀ c,c∈CV env->c∈B0 fe own env:=fun c h=>List.mem_append.mpr (.inr (List.mem_append.mpr (.inr h)))
 have mf:∀ c,c∈Af fe->c∈B0 fe own env:=fun c h=>List.mem_append.mpr (.inl h)
 refine ⟨st,I.fr.keep (fun c o hc=>kp c o (mf c hc)) fun c hc=>ap c (mf c hc),I.top,⟨I.blk.kind,I.blk.glob,I.blk.blt,ap _ (mo _ I.oloc),?_,fun nm hk=>?_,I.blk.cinj⟩,fun i nm v hi hv=>?_,I.nd,I.oloc,I.ocell,fun a ha=>ap a (mo a ha)⟩
 ·obtain ⟨m,hm⟩:=I.blk.ns
  exact ⟨m,FM hm fun o ho=>kp _ o (mo _ I.oloc) ho⟩
 ·obtain ⟨c,v,h1,h2,h3⟩:=I.blk.cell nm hk
  have hc:=mc c (Dw hk h1)
  exact ⟨c,v,h1,Ek h2 fun o ho=>kp _ o hc ho,ap c hc⟩
 ·obtain ⟨h1,h2⟩:=I.sees i nm v hi hv
  refine ⟨fun hk=>?_,fun hk=>?_⟩
  ·obtain ⟨m,y,hm,hy,hr⟩:=h1 hk
   exact ⟨m,y,FM hm fun o ho=>kp _ o (mo _ I.oloc) ho,hy,Aj.mono le _ _ hr⟩
  ·obtain ⟨c,y,hc,hy,hr⟩:=h2 hk
   exact ⟨c,y,hc,Ek hy fun o ho=>kp _ o (mc c (Dw hk hc)) ho,Aj.mono le _ _ hr⟩
theorem Inv.far (x:Step T X (Af fe) g s g' σ' s') (hX:∀ a,a∈X->a∈g.mu\/a∉B0 fe own env) (I:Inv T fe own wr env K.vars ρ g σ s.heap):Inv T fe own wr env K.vars ρ g' σ' s'.heap:=by
 refine I.keep x.le x.st (fun c hc=>(I.avAp c hc).step x) fun c o hc ho=>?_
 have ha:=I.avAp c hc
 have hn:c∉X:=fun q=>(hX c q).elim ha.2.1 fun h=>h hc
 by_cases hf:c∈Af fe
 ·exact x.kept.slots c o ho hn hf
 ·exact ⟨o.slots,x.kept.same c o ho hn hf⟩
theorem Inv.less (I:Inv T fe own wr env K.vars ρ g σ s.heap) (h:∀ (i:Nat) (v:V),ρ'[i]? = some (some v)->ρ[i]? = some (some v)):Inv T fe own wr env K.vars ρ' g σ s.heap :=
 ⟨I.st,I.fr,I.top,I.blk,fun i nm v hi hv=>I.sees i nm v hi (h i v hv),I.nd,I.oloc,I.ocell,I.oap⟩
theorem Dp.avoid {av':List Addr} {hd b:Bool} {its:List Addr} {a:Addr} {vs:Src} {h:Heap} (I:Dp T av g h hd b its a vs) (hn:∀ c,c∈its->c∉av'):Dp T av' g h hd b its a vs:=by
 induction I with
 | list h1 h2 h3 h4 h5 h6=>exact .list ⟨h1.1,hn _ (by exact .head _)⟩ h2 h3 h4 h5 h6
 | tuple h1 h2 h3 h4 h5 h6=>exact .tuple ⟨h1.1,hn _ (by exact .head _)⟩ h2 h3 h4 h5 h6
 | enum z1 z2 ne h1 h2 h3 h4 h5 h6=>exact .enum ⟨z1.1,hn _ (by exact .head _)⟩ ⟨z2.1,hn _ (by exact .tail _ (.head _))⟩ ne h1 h2 h3 h4 h5 h6
 | lref h1 h2 h3=>exact .lref ⟨h1.1,hn _ (by exact .head _)⟩ h2 h3
 | ascii h1 h2=>exact .ascii ⟨h1.1,hn _ (by exact .head _)⟩ h2
 | wide h1 h2=>exact .wide ⟨h1.1,hn _ (by exact .head _)⟩ h2
 | range h1 h2=>exact .range ⟨h1.1,hn _ (by exact .head _)⟩ h2
 | zip z1 z2 z3 z4 z5 h=>exact .zip ⟨z1.1,hn _ (by exact .head _)⟩ ⟨z2.1,hn _ (by exact .tail _ (.tail _ (.tail _ (.tail _ (.head _)))))⟩ ⟨z3.1,hn _ (by exact .tail _ (.head _))⟩ ⟨z4.1,hn _ (by exact .tail _ (.tail _ (.head _)))⟩ ⟨z5.1,hn _ (by exact .tail _ (.tail _ (.tail _ (.head _))))⟩ h
theorem St.rest {h h':Heap} {its:List Addr} (st:St T g σ h) (hl:∀ c,c∈its->g.fz c=none/\c∉g.mu) (hk:∀ c o,c∉its->h.get? c=some o->h'.get? c=some o):St T g σ h':=by
 refine ⟨fun c o e=>hk c o (fun q=>by exact Ab ((Eq.symm ((hl c q).1)).trans e)) (st.fz c o e),st.len,st.nd,st.ap,fun k c o e1 e2=>?_,st.base⟩
 obtain ⟨x,h1,h2⟩:=st.ob k c o e1 e2
 exact ⟨x,hk c x (fun q=>(hl c q).2 (List.mem_of_getElem? e1)) h1,h2⟩
theorem Step.rest {its:List Addr} {h':Heap} (x:Step T X fs g s g' σ' s') (hl:∀ c,c∈its->g'.fz c=none/\c∉g'.mu) (hn:∀ c,c∈its->s.heap.get? c=none) (hk:∀ c o,c∉its->s'.heap.get? c=some o->h'.get? c=some o) :
 Step T X fs g s g' σ' { s' with heap:=h' }:=by
 have ni:∀ c o,s.heap.get? c=some o->c∉its:=fun c o e q=>by exact Ab ((Eq.symm (hn c q)).trans e)
 refine ⟨x.le,x.st.rest hl hk,⟨fun c o e=>?_,fun c o e nb nf=>hk c o (ni c o e) (x.kept.same c o e nb nf),fun c o e nb hf=>?_⟩,x.new,x.gens,x.os⟩
 ·obtain ⟨o',e'⟩:=x.kept.alive c o e
  exact ⟨o',hk c o' (ni c o e) e'⟩
 ·obtain ⟨sl,e'⟩:=x.kept.slots c o e nb hf
  exact ⟨sl,hk c _ (ni c o e) e'⟩
theorem Inv.rest {its:List Addr} {h':Heap} (I:Inv T fe own wr env K.vars ρ g σ s.heap) (hl:∀ c,c∈its->g.fz c=none/\c∉g.mu) (ha:∀ c,c∈its->c∉B0 fe own env) (hk:∀ c o,c∉its->s.heap.get? c=some o->h'.get? c=some o) :
 Inv T fe own wr env K.vars ρ g σ h':=by
 have kp:∀ c o,c∈B0 fe own env->s.heap.get? c=some o->h'.get? c=some o:=fun c o hc e=>hk c o (fun q=>ha c q hc) e
 refine I.keep (.refl g) (I.st.rest hl hk) (fun c hc=>?_) fun c o hc e=>⟨o.slots,kp c o hc e⟩
 obtain ⟨h1,h2,o,h3⟩:=I.avAp c hc
 exact ⟨h1,h2,o,kp c o hc h3⟩
end
noncomputable def BW (env:Env):List (Str×NameKind)->List (Str×Addr)->List (Str×Addr)
 | [],acc=>acc
 | (n,k)::r,acc=>BW env r (if k == .free then (n,(env.cells.lookup n).getD 0)::acc else acc)
theorem E9 {env:Env}:∀ {names:List (Str×NameKind)} {acc:List (Str×Addr)} {n:Str} {c:Addr},(n,c)∈BW env names acc->(n,c)∈acc\/((n,NameKind.free)∈names/\c=(env.cells.lookup n).getD 0)
 | [],acc,n,c,h=>.inl h
 | (m,k)::r,acc,n,c,h=>by
  rcases E9 (names:=r) h with h | ⟨h1,h2⟩
  ·by_cases hk:(k == NameKind.free)=true
   ·rw [if_pos hk] at h
    have hk':k=.free:=by simpa using hk
    rcases List.mem_cons.mp h with h | h
    ·cases h; exact .inr ⟨by rw [hk']; exact List.mem_cons_self ..,rfl⟩
    ·exact .inl h
   ·rw [if_neg hk] at h; exact .inl h
  ·exact .inr ⟨List.mem_cons_of_mem _ h1,h2⟩
theorem clOf_acc {env:Env}:∀ {names:List (Str×NameKind)} {acc:List (Str×Addr)} {p:Str×Addr},p∈acc->p∈BW env names acc
 | [],_,_,h=>h
 | (m,k)::r,acc,p,h=>by
  refine clOf_acc (names:=r) ?_
  split
  ·exact List.mem_cons_of_mem _ h
  ·exact h
theorem clOf_has {env:Env}:∀ {names:List (Str×NameKind)} {acc:List (Str×Addr)} {n:Str},(n,NameKind.free)∈names->(n,(env.cells.lookup n).getD 0)∈BW env names acc
 | (m,k)::r,acc,n,h=>by
  rcases List.mem_cons.mp h with h | h
  ·cases h
   show _∈BW env r (if (NameKind.free == NameKind.free)=true then _ else _)
   rw [if_pos (by decide)]
   exact clOf_acc (List.mem_cons_self ..)
  ·exact clOf_has (names:=r) h
theorem closureFor_eq {env:Env} (scope:Scope) (h:∀ n,(n,NameKind.free)∈scope.names->∃ c,env.cells.lookup n=some c):closureFor scope env=pure (BW env scope.names []):=by
 unfold closureFor
 have gen:∀ (names:List (Str×NameKind)) (acc:List (Str×Addr)),(∀ n,(n,NameKind.free)∈names->∃ c,env.cells.lookup n=some c) ->
  (forIn names acc (fun x r=>match x with
   | (name,kind)=>if (kind == NameKind.free)=true then do
    let c <-cellOf env name
    pure (ForInStep.yield ((name,c)::r))
    else pure (ForInStep.yield r)):Sem (List (Str×Addr)))=pure (BW env names acc):=by
  intro names
  induction names with
  | nil=>intro acc _; rfl
  | cons p r ih =>
   intro acc hh
   obtain ⟨m,k⟩:=p
   rw [List.forIn_cons]
   by_cases hk:(k == NameKind.free)=true
   ·have hk':k=.free:=by simpa using hk
    subst hk'
    obtain ⟨c,hc⟩:=hh m (List.mem_cons_self ..)
    have e:cellOf env m=pure c:=by unfold cellOf; rw [hc]
    simp only [hk,if_true,e,pure_bind]
    rw [ih _ fun n hn=>hh n (List.mem_cons_of_mem _ hn)]
    unfold BW
    simp only [hk,if_true,hc,Option.getD_some]
    cases r <;> rfl
   ·simp only [hk,if_false,pure_bind,Bool.false_eq_true]
    rw [ih _ fun n hn=>hh n (List.mem_cons_of_mem _ hn)]
    conv=>rhs; unfold BW
    simp only [hk,if_false,Bool.false_eq_true]
 have:=gen scope.names [] h
 simp only [bind_pure]
 exact this
structure ScOk (K:Kx) (ts:List Nat) (sc:Scope):Prop where
 kind:sc.kind=.function
 loc:∀ n,(n,NameKind.local)∈sc.names->n=(".0" : Str)\/∃ i,i∈ts/\K.vars[i]? = some n
 fre:∀ n,(n,NameKind.free)∈sc.names->K.names.lookup n=some .cell\/K.names.lookup n=some .free
 noc:∀ p,p∈sc.names->p.2≠.cell
 uni:∀ p,p∈sc.names->sc.names.lookup p.1=some p.2
 dot:(".0" : Str)∉K.vars
 tgt:∀ i,i∈ts->∃ m,K.vars[i]? = some m/\sc.names.lookup m=some .local
theorem scopeOk_ok {K:Kx} {ts:List Nat} {sc:Scope} (h:FI K ts sc=true):ScOk K ts sc:=by
 unfold FI at h
 simp only [Bool.and_eq_true,List.all_eq_true] at h
 obtain ⟨⟨⟨⟨h1,h2⟩,h3⟩,h4⟩,h5⟩:=h
 have nm:∀ p,p∈sc.names->(p.2=.local/\(p.1 = ".0"\/∃ i,i∈ts/\K.vars[i]? = some p.1))\/((p.2=.free/\(K.names.lookup p.1=some .cell\/K.names.lookup p.1=some .free))\/p.2=.globalImplicit):=fun p hp=>by
  have:=h2 p hp
  unfold nameOk at this
  simp only [Bool.or_eq_true,Bool.and_eq_true,decide_eq_true_eq,beq_iff_eq,List.any_eq_true] at this
  exact this.imp id (Or.imp (And.imp id (Or.imp Kx.kd_eq Kx.kd_eq)) id)
 refine ⟨of_decide_eq_true h1,fun n hn=>?_,fun n hn=>?_,fun p hp q=>?_,fun p hp=>of_decide_eq_true (h3 p hp),?_,fun i hi=>?_⟩
 ·rcases nm _ hn with h | h | h
  ·exact h.2
  ·exact nomatch (show NameKind.local=.free from h.1)
  ·exact nomatch (show NameKind.local=.globalImplicit from h)
 ·rcases nm _ hn with h | h | h
  ·exact nomatch (show NameKind.free=.local from h.1)
  ·exact h.2
  ·exact nomatch (show NameKind.free=.globalImplicit from h)
 ·rcases nm _ hp with h | h | h
  ·rw [q] at h; exact absurd h.1 (by decide)
  ·rw [q] at h; exact absurd h.1 (by decide)
  ·rw [q] at h; exact absurd h (by decide)
 ·simpa using h4
 ·have:=h5 _ hi
  induction e:K.vars[i]? with
  | none=>rw [e] at this; exact (Bool.false_ne_true this).elim
  | some m=>rw [e] at this; exact ⟨m,rfl,of_decide_eq_true this⟩
theorem rel_lookup (E:List (Str×NameKind)) (n:Str):∀ names:List (Str×NameKind),(DP E names).lookup n=(names.lookup n).map fun k=>if (k == .free&&E.lookup n == some .cell) then .cell else k
 | []=>rfl
 | (m,k)::r=>by
  have ih:=rel_lookup E n r
  unfold DP at ih ⊢
  rw [List.map_cons]
  by_cases hm:n=m
  ·subst hm
   by_cases hc:(k == .free&&E.lookup n == some .cell)=true
   ·simp only [hc,if_true,List.lookup_cons,beq_self_eq_true,Option.map_some]
   ·simp only [hc,if_false,List.lookup_cons,beq_self_eq_true,Option.map_some,Bool.false_eq_true]
  ·have hb:(n == m)=false:=by exact beq_false_of_ne hm
   by_cases hc:(k == .free&&E.lookup m == some .cell)=true
   ·simp only [hc,if_true,List.lookup_cons,hb]; exact ih
   ·simp only [hc,if_false,List.lookup_cons,hb,Bool.false_eq_true]; exact ih
section
variable {T:Top} {K:Kx} {C:Cfg} {fe:List Env} {own av fs X:List Addr} {wr:List Str} {env:Env} {A:Around} {n:Nat} {ρ ρ':Au} {g g':G} {σ σ':Store} {s s':Shared} {L:Option Addr} {Er:Value->Shared->Prop}
theorem Fb {sc:Scope} (hk:env.scope.kind=.function) (hn:env.scope.names=K.names):(relabel sc env).names=DP K.names sc.names:=by
 unfold relabel DP
 apply List.map_congr_left
 rintro ⟨m,k⟩ _
 simp only [hk,AL hn]
 cases k <;> simp
theorem D7:∀ {ts:List Nat} {ρ:Au} {i:Nat} {v:V},(Bv ρ ts)[i]? = some (some v)->i∉ts/\ρ[i]? = some (some v)
 | [],ρ,i,v,h=>⟨by exact List.not_mem_nil,h⟩
 | j::ts,ρ,i,v,h=>by
  have h':(Bv (ρ.set j none) ts)[i]? = some (some v):=h
  have q_z:=D7 h'
  have h1:=q_z.1
  have h2:=q_z.2
  rcases vars_get h2 with ⟨q,e⟩ | ⟨q,e⟩
  ·exact Ab e
  ·exact ⟨by simp [q,h1],e⟩
theorem Go:∀ {ts:List Nat} {vs:List V} {ρ:Au} {i:Nat},i∉ts->(Cz ρ ts vs)[i]? = ρ[i]?
 | [],vs,ρ,i,h=>by cases vs <;> rfl
 | j::ts,[],ρ,i,h=>rfl
 | j::ts,w::vs,ρ,i,h=>by
  show (Cz (ρ.set j (some w)) ts vs)[i]? = ρ[i]?
  have hj:j≠i:=fun q=>h (by exact q▸.head _)
  have hi:i∉ts:=fun q=>h (by exact .tail _ q)
  rw [Go hi,List.getElem?_set_ne hj]
theorem F4 {hd:Bool} {ts:List Nat} {v:V} {ρ ρ':Au} (h:BG hd ρ ts v=some ρ') {i:Nat} (hi:i∉ts):ρ'[i]? = ρ[i]?:=by
 rcases bindTs_is h with j | ⟨_,_,_⟩
 ·exact List.getElem?_set_ne fun (q:j=i)=>hi (q▸List.mem_cons_self ..)
 ·exact Go hi
theorem bindTs_get {hd:Bool} {ts:List Nat} {v:V} (h:BG hd ρ ts v=some ρ') {i:Nat} {u:V} (hi:i∉ts) (hu:ρ[i]? = some (some u)):ρ'[i]? = some (some u):=(F4 h hi).trans hu
set_option tactic.hygienic true in
theorem comp_inv {ts:List Nat} {sc:Scope} {Cc:Addr} {h':Heap} (sk:ScOk K ts sc) (I:Inv T fe own K.wr env K.vars ρ g σ s.heap) (hn:env.scope.names=K.names)
 (hk:∀ b o,s.heap.get? b=some o->h'.get? b=some o) (hC:s.heap.get? Cc=none) (hns:h'.Ns Cc (fun _=>none)) :
 Inv T fe [Cc] (K.sub ts sc).wr (compEnvC sc (BW env sc.names []) Cc env) (K.sub ts sc).vars (Bv ρ ts) g σ h':=by
 have stp:Step T g.mu (Af fe) g s g σ { s with heap:=h' }:=.grow I.st hk
 have nm:(compEnvC sc (BW env sc.names []) Cc env).scope.names=DP K.names sc.names:=Fb I.blk.kind hn
 have kd:∀ x,(compEnvC sc (BW env sc.names []) Cc env).kindOf x=(sc.names.lookup x).map fun k=>if (k == .free&&K.names.lookup x == some .cell) then .cell else k:=fun x=>by
  unfold Env.kindOf; rw [nm]; exact rel_lookup _ _ _
 have apC:Bq g h' Cc:=by
  obtain ⟨o,_,_,e,_⟩:=hns
  exact ⟨I.st.fz_none hC,I.st.mu_none hC,o,e⟩
 have outer:∀ x,(compEnvC sc (BW env sc.names []) Cc env).kindOf x=some .cell\/(compEnvC sc (BW env sc.names []) Cc env).kindOf x=some .free ->
  (env.kindOf x=some .cell\/env.kindOf x=some .free)/\(x,NameKind.free)∈sc.names:=fun x hx=>by
  rw [kd] at hx
  have hf:sc.names.lookup x=some .free:=by
   induction e:sc.names.lookup x with
   | none=>rw [e] at hx; rcases hx with h | h <;> exact Ab h
   | some k =>
    have hm:=mem_of_lookup e
    have hnc:=sk.noc _ hm
    induction k with
    | free=>rfl
    | cell=>exact absurd rfl hnc
    | _=>rw [e] at hx; rcases hx with h | h <;> simp at h
  have hm:=mem_of_lookup hf
  refine ⟨?_,hm⟩
  rw [AL hn]
  exact sk.fre x hm
 have look:∀ x,(compEnvC sc (BW env sc.names []) Cc env).kindOf x=some .cell\/(compEnvC sc (BW env sc.names []) Cc env).kindOf x=some .free ->
  ∀ c,(compEnvC sc (BW env sc.names []) Cc env).cells.lookup x=some c->env.cells.lookup x=some c:=fun x hx c hc=>by
  have q_z:=outer x hx
  have h1:=q_z.1
  have h2:=q_z.2
  obtain ⟨c',_,hl,_⟩:=I.blk.cell x h1
  have hm:=mem_of_lookup (show (BW env sc.names []).lookup x=some c from hc)
  rcases E9 hm with h | ⟨_,h⟩
  ·simp at h
  ·rw [hl] at h; rw [hl,h]; rfl
 have look':∀ x c,(compEnvC sc (BW env sc.names []) Cc env).cells.lookup x=some c->(x,NameKind.free)∈sc.names/\env.cells.lookup x=some c:=fun x c hc=>by
  have hm:=mem_of_lookup (show (BW env sc.names []).lookup x=some c from hc)
  rcases E9 hm with h | ⟨h1,h⟩
  ·simp at h
  ·have hk':env.kindOf x=some .cell\/env.kindOf x=some .free:=by rw [AL hn]; exact sk.fre x h1
   obtain ⟨c',_,hl,_⟩:=I.blk.cell x hk'
   rw [hl] at h
   exact ⟨h1,by rw [hl,h]; rfl⟩
 have has:∀ x,(x,NameKind.free)∈sc.names->∃ c,(compEnvC sc (BW env sc.names []) Cc env).cells.lookup x=some c:=fun x hx=>by
  have hm:=clOf_has (env:=env) (acc:=[]) hx
  induction e:(BW env sc.names []).lookup x with
  | some c=>exact ⟨c,e⟩
  | none =>
   exfalso
   have:∀ l:List (Str×Addr),l.lookup x=none->∀ c,(x,c)∉l:=by
    intro l
    induction l with
    | nil=>intro _ c h; cases h
    | cons p r ih =>
     intro hl c hc
     rw [List.lookup_cons] at hl
     split at hl
     ·exact AT hl
     ·rename_i hne
      rcases List.mem_cons.mp hc with h | h
      ·rw [<-h] at hne; simp at hne
      ·exact ih hl c h
   exact this _ e _ hm
 have I':Inv T fe own K.wr env K.vars ρ g σ h':=I.step stp
 refine ⟨I'.st,I'.fr,I.top,⟨?_,I.blk.glob,I.blk.blt,apC,⟨_,hns⟩,fun x hx=>?_,fun x y c hx hy=>?_⟩,fun i x v hi hv=>?_,I.nd,by exact .head _,fun x hx c hk' _=>?_,fun a ha=>?_⟩
 ·show (relabel sc env).kind=.function
  exact sk.kind
 ·have q_z:=outer x hx
  have h1:=q_z.1
  have h2:=q_z.2
  obtain ⟨c,hc⟩:=has x h2
  have hl:=look x hx c hc
  obtain ⟨c',v,q1,q2,q3⟩:=I'.blk.cell x h1
  obtain rfl:=Option.some.inj (hl.symm.trans q1)
  exact ⟨c,v,hc,q2,q3⟩
 ·exact I.blk.cinj x y c (look' x c hx).2 (look' y c hy).2
 ·have q_z:=D7 hv
  have hni:=q_z.1
  have hv':=q_z.2
  refine ⟨fun hl=>?_,fun hl=>?_⟩
  ·exfalso
   rw [kd] at hl
   have hloc:(x,NameKind.local)∈sc.names:=by
    induction e:sc.names.lookup x with
    | none=>rw [e] at hl; exact Ab hl
    | some k =>
     rw [e] at hl
     induction k with
     | «local»=>exact mem_of_lookup e
     | free =>
      simp only [Option.map_some,Option.some.injEq] at hl
      split at hl <;> cases hl
     | _=>simp at hl
   rcases sk.loc x hloc with h | ⟨j,hj,hjv⟩
   ·subst h
    exact sk.dot (List.mem_of_getElem? hi)
   ·exact hni (EO I.nd hi hjv▸hj)
  ·have q_z:=outer x hl
   have h1:=q_z.1
   have h2:=q_z.2
   obtain ⟨c,hc⟩:=has x h2
   have hcl:=look x hl c hc
   obtain ⟨c',y,q1,q2,q3⟩:=(I'.sees i x v hi hv').2 h1
   obtain rfl:=Option.some.inj (hcl.symm.trans q1)
   exact ⟨c,y,hc,q2,q3⟩
 ·exfalso
  obtain ⟨i,hi,hx'⟩:=List.mem_filterMap.mp (show x∈ts.filterMap fun i=>K.vars[i]? from hx)
  obtain ⟨m,hm,hloc⟩:=sk.tgt i hi
  obtain rfl:=Option.some.inj (hm.symm.trans hx')
  rw [kd,hloc] at hk'
  simp at hk'
 ·rw [List.mem_singleton.mp ha]; exact apC
end
abbrev testsOf (ifs:List Expr) (env:Env) (b:Bool):Sem Bool :=
 forIn ifs b fun c r=>if r=true then do let ok <-isTrue c env (eval c env); pure (ForInStep.yield ok) else pure (ForInStep.yield r)
theorem compLoop_any {prog:Program} {w:World} {A:Around} {R:Result->Shared->Prop} {s:Shared} {elt target iter:Expr} {ifs:List Expr} {scope:Scope} {pos:Pos} {it acc:Value} {env:Env} (I:Nat->Shared->Prop)
 (turn:∀ n s,I n s->wpAny (model prog w) A (pyNext it) (fun r s₁=>match r with
  | none=>R (.ok .next) s₁
  | some v=>wpAny (model prog w) A (letOwnedTupleGo target it v) (fun _ s1'=>wpAny (model prog w) A (assign target env v) (fun _ s2 =>
   wpAny (model prog w) A (testsOf ifs env true) (fun ok s3 =>
    if ok=true then wpAny (model prog w) A (eval elt env) (fun x s4 =>
     wpAny (model prog w) A (call (.builtin "list.append") [acc,x]) (fun _ s5=>∃ m,m < n/\I m s5) (fun _ _=>False) s4) (notedBy (model prog w) A env fun x s=>R (.error x) s) s3
    else ∃ m,m < n/\I m s3) (notedBy (model prog w) A env fun x s=>R (.error x) s) s2) (fun _ _=>False) s1') (fun _ _=>False) s₁) (fun _ _=>False) s)
 (n:Nat) (h:I n s):codeAny (model prog w) A (.compLoop (.ListComp elt [⟨target,iter,ifs,0⟩] scope pos) 0 it acc env) R s:=by
 refine codeAny_loop rfl I (fun n s hI=>?_) n h
 show wpAny _ A ((compTurn (.ListComp elt [⟨target,iter,ifs,0⟩] scope pos) 0 it acc env).onRaise (fun x=>do noteFrame x env; theTreesLotGoes x)) _ _ s
 refine wpAny_noted ?_
 rw [compTurn_list]
 refine wpAny_bind (wpAny_standAt (wpAny_bind (wpAny_mono (turn n s hI) (fun r s₁ h₁=>?_) fun _ _ h'=>h'.elim)))
 induction r with
 | none=>exact wpAny_pure h₁
 | some v =>
  refine wpAny_bind (wpAny_mono h₁ (fun _ s1' h1'=>?_) fun _ _ h'=>h'.elim)
  refine wpAny_bind (wpAny_mono h1' (fun _ s2 h₂=>wpAny_bind (wpAny_mono h₂ (fun ok s3 h₃=>?_) fun _ _ h'=>h')) fun _ _ h'=>h'.elim)
  induction ok with
  | false=>exact wpAny_pure ⟨rfl,h₃⟩
  | true =>
   exact wpAny_bind (wpAny_bind (wpAny_mono h₃ (fun x s4 h4=>wpAny_bind (wpAny_mono h4 (fun _ s5 h5=>wpAny_pure (wpAny_pure ⟨rfl,h5⟩)) fun _ _ h'=>h'.elim)) fun _ _ h'=>h'))
theorem EZ (env:Env):∀ ifs:List Expr,testsOf ifs env false=pure false
 | []=>rfl
 | c::r=>by
  show (forIn (c::r) false _:Sem Bool)=_
  rw [List.forIn_cons]
  simp only [Bool.false_eq_true,if_false,pure_bind]
  exact EZ env r
section
variable {T:Top} {K:Kx} {C:Cfg} {fe:List Env} {own av fs X:List Addr} {wr:List Str} {env:Env} {A:Around} {n:Nat} {ρ ρ':Au} {g g':G} {σ σ':Store} {s s':Shared} {L:Option Addr} {Er:Value->Shared->Prop}
theorem ifsB {C:Cfg} {e:E} {r:List E} {ρ:Au} {σ:Store}:evalIfs C (e::r) ρ σ=((Ac C e ρ σ).bind toB).bind fun q σ=>cond q (evalIfs C r ρ σ) (.ok false σ):=by
 rw [eF_2]
 cases Ac C e ρ σ with
 | ok v σ' =>
  dsimp only [Res.bind,toB]
  cases B2 σ' v with
  | none=>rfl
  | some q=>cases q <;> rfl
 | exc c σ'=>rfl
 | bad=>rfl
theorem tests_sim:∀ {ifs:List E},Gf ifs->∀ (xs:List Expr) (g:G) (σ:Store) (s:Shared),IsEs ifs K xs->Cx T K C fe env A n->Inv T fe own K.wr env K.vars ρ g σ s.heap->HOk g A ->
 Sim T (Af fe) env.frame A g s (testsOf xs env true) IsB (evalIfs C ifs ρ σ):=by
 intro ifs
 induction ifs with
 | nil =>
  intro _ xs g σ s hc cx I hH
  cases hc
  (first | rw [eF_1] | rw [eF_2])
  exact Sim.pure I.st rfl
 | cons e r ih =>
  intro h xs g σ s hc cx I hH
  induction hc with
  | @mk x l c1 c2 c3 =>
   rw [ifsB]
   intro hr
   show wpAny _ _ (forIn (x::l) true _:Sem Bool) _ _ _
   rw [List.forIn_cons]
   simp only [if_true]
   have t:=h.1.2 _ c1 cx I hH
   refine wpAny_bind (wpAny_bind (wpAny_mono (t (AH hr)) (fun b s₁ hz=>wpAny_pure ?_) fun q s' hz=>hz.bind))
   obtain ⟨b',σ1,g₁,e1,st1,r₁⟩:=hz
   obtain rfl:b=b':=r₁
   rw [e1] at hr ⊢
   induction b with
   | false =>
    show wpAny _ _ (testsOf l env false) _ _ _
    rw [EZ]
    exact wpAny_pure ⟨false,σ1,g₁,rfl,st1,rfl⟩
   | true =>
    exact wpAny_mono (ih h.2 l g₁ σ1 s₁ c3 cx (I.step st1) (hH.mono st1.le) hr) (fun _ _ h=>h.after st1) fun _ _ h=>h.after st1
theorem made_own {fz:Bool} {D:Addr} {xs:Array Value} {m:Nat} {vs:List V} {h:Heap} (st:St T g σ h) (hD:Bq g h D) (ho:h.get? D=some { cls:=.type "list",dict:=none,data:=.seq xs m,slots:=#[] }) (hr:RepVs T g vs xs.toList)
 (hb:A2 fz vs σ≠.bad):∃ v σ' g',A2 fz vs σ=.ok v σ'/\St T g' σ' h/\G.le g g'/\Aj T g' v (.ref D)/\(∀ a,a∈g'.mu->a∈g.mu\/a=D)/\(∀ a o,g'.fz a=some o->g.fz a=some o\/a=D):=by
 unfold A2 at hb ⊢
 by_cases hl:vs.length<=line
 ·rw [if_pos hl] at hb ⊢
  induction fz with
  | true =>
   induction hd:EX vs with
   | none=>rw [hd] at hb; exact absurd rfl hb
   | some ds =>
    have le:G.le g (g.put D { cls:=.type "list",dict:=none,data:=.seq xs m,slots:=#[] }):=.put hD.1
    refine ⟨_,σ,g.put D _,rfl,⟨fun b x e=>?_,st.len,st.nd,fun b hb=>?_,fun k b x e1 e2=>?_,fun b x e=>le.fz b x (st.base b x e)⟩,le,⟨D,_,xs,m,rfl,G.put_self,rfl,rfl,RepDs.mono le.fz _ _ (RepDs.ofV hr hd),by rw [(RepDs.ofV hr hd).length,<-hr.length]; exact hl⟩,fun _ h=>.inl h,fun a o e=>?_⟩
    ·by_cases q:b=D
     ·subst q
      have e':(if b=b then some _ else g.fz b)=some x:=e
      obtain rfl:=Option.some.inj ((Eq.symm (if_pos rfl)).trans e'); exact ho
     ·have e':(if b=D then _ else g.fz b)=some x:=e
      rw [if_neg q] at e'
      exact st.fz b x e'
    ·show (if b=D then _ else g.fz b)=none
     rw [if_neg (fun (q:b=D)=>hD.2.1 (q▸hb))]
     exact st.ap b hb
    ·obtain ⟨y,h1,h2⟩:=st.ob k b x e1 e2
     exact ⟨y,h1,G6.mono le _ _ h2⟩
    ·by_cases q:a=D
     ·exact .inr q
     ·have e':(if a=D then _ else g.fz a)=some o:=e
      rw [if_neg q] at e'
      exact .inl e'
  | false =>
   refine ⟨_,_,g.add D,rfl,⟨st.fz,by simp [G.add,st.len],?_,fun b hb=>?_,fun k b y e1 e2=>?_,st.base⟩,.add,⟨D,?_,rfl⟩,fun a ha=>?_,fun a o e=>.inl e⟩
   ·show (g.mu++[D]).Nodup
    rw [List.nodup_append]
    exact ⟨st.nd,by simp,fun x hx y hy q=>hD.2.1 (by simp only [List.mem_singleton] at hy; rw [<-hy,<-q]; exact hx)⟩
   ·rcases List.mem_append.mp (show b∈g.mu++[D] from hb) with q | q
    ·exact st.ap b q
    ·rw [List.mem_singleton.mp q]; exact hD.1
   ·have e1':(g.mu++[D])[k]? = some b:=e1
    by_cases hkl:k < g.mu.length
    ·rw [List.getElem?_append_left hkl] at e1'
     rw [List.getElem?_append_left (st.len▸hkl)] at e2
     obtain ⟨z,h1,h2⟩:=st.ob k b y e1' e2
     exact ⟨z,h1,G6.mono .add _ _ h2⟩
    ·have hk':k=g.mu.length:=by
      have:=(List.getElem?_eq_some_iff.mp e1').1
      simp at this; omega
     subst hk'
     rw [List.getElem?_append_right (Nat.le_refl _)] at e1'
     rw [st.len,List.getElem?_append_right (Nat.le_refl _)] at e2
     simp only [Nat.sub_self,List.getElem?_cons_zero,Option.some.injEq] at e1' e2
     subst e1' e2
     exact ⟨_,ho,xs,m,rfl,RepVs.mono .add _ _ hr,hl⟩
   ·show (g.mu++[D])[σ.length]? = some D
    rw [<-st.len,List.getElem?_append_right (Nat.le_refl _),Nat.sub_self]; rfl
   ·rcases List.mem_append.mp (show a∈g.mu++[D] from ha) with q | q
    ·exact .inl q
    ·exact .inr (List.mem_singleton.mp q)
 ·rw [if_neg hl] at hb; exact absurd rfl hb
end
noncomputable def CQ (its fs:List Addr) (h h':Heap):Prop:=∀ c o,c∉its->h.get? c=some o->(∃ sl,h'.get? c=some { o with slots:=sl })/\(c∉fs->h'.get? c=some o)
theorem CQ.refl (its fs:List Addr) (h:Heap):CQ its fs h h:=fun c o _ e=>⟨⟨o.slots,e⟩,fun _=>e⟩
theorem CQ.trans {its fs:List Addr} {h h' h'':Heap} (x:CQ its fs h h') (y:CQ its fs h' h''):CQ its fs h h'':=fun c o hc e=>by
 obtain ⟨⟨sl,e1⟩,k⟩:=x c o hc e
 obtain ⟨⟨sl',e2⟩,k'⟩:=y c _ hc e1
 exact ⟨⟨sl',e2⟩,fun hf=>(y c o hc (k hf)).2 hf⟩
theorem CQ.of_same {its fs:List Addr} {h h':Heap} (k:∀ c o,c∉its->h.get? c=some o->h'.get? c=some o):CQ its fs h h':=fun c o hc e=>⟨⟨o.slots,k c o hc e⟩,fun _=>k c o hc e⟩
theorem CQ.wide {its its' fs:List Addr} {h h':Heap} (x:CQ its fs h h') (hs:∀ c,c∈its->c∈its'):CQ its' fs h h':=fun c o hc e=>x c o (fun q=>hc (hs c q)) e
theorem CC.tb {T:Top} {g:G} {h h0:Heap} {c:Nat} {x v:Value} (f:CC T g h h0 c x (PAt v)):CC T g h h0 c x PTb:=f.le (fun _ h=>h) PAt.tb
theorem CC.same {T:Top} {g:G} {h h' h0:Heap} {c:Nat} {x:Value} {P:Option Value->Prop} (f:CC T g h h0 c x P) (k:∀ b o,h0.get? b=none->h.get? b=some o->h'.get? b=some o):CC T g h' h0 c x P:=by
 obtain ⟨e,oe,vs,q1,q2,q3,q4,q5,q6,q7,q8,q9⟩:=f
 refine ⟨e,oe,vs,q1,k e oe q7 q2,q3,q4,q5,q6,q7,q8,q9.imp id ?_⟩
 rintro ⟨tb,ot,ts,f,k1,k2,k3,k4,k5,k6,k7,k8,k9⟩
 exact ⟨tb,ot,ts,f,k1,k tb ot k7 k2,k3,k4,k5,k6,k7,k8,k9⟩
section
variable {T:Top} {K:Kx} {fe outer:List Env} {own X fs:List Addr} {env:Env} {A:Around} {ρ:Au} {g g':G} {σ σ':Store} {s s' s₀:Shared} {wr:List Str} {Er:Value->Shared->Prop} {c:Nat} {x:Value}
theorem BI.funFrames {h:Heap} (hb:∀ a o,T.h0.get? a=some o->g.fz a=some o):∀ {l:List Env},BI g h l->h.FunFrames T.h0 l
 | [],_=>trivial
 | e::r,⟨k,⟨L,o,hf,ho,hd,h1,h2⟩,hr⟩=>by
  have hn:T.h0.get? L=none:=by
   induction q:T.h0.get? L with
   | none=>rfl
   | some o'=>have:=hb L o' q; exact Ab (h1.symm.trans this)
  exact ⟨k.1,⟨L,o,hf,hn,ho,hd⟩,BI.funFrames hb hr⟩
theorem St.near {h h':Heap} {its:List Addr} (st:St T g σ h) (fr:BI g h fe) (hl:∀ c,c∈its->g.fz c=none/\c∉g.mu) (hk:CQ its (Af fe) h h'):St T g σ h':=by
 refine ⟨fun c o e=>(hk c o (fun q=>by exact Ab ((Eq.symm ((hl c q).1)).trans e)) (st.fz c o e)).2 (fun q=>by exact Ab ((Eq.symm ((fr.mem q).1)).trans e)),st.len,st.nd,st.ap,fun k c o e1 e2=>?_,st.base⟩
 obtain ⟨y,h1,h2⟩:=st.ob k c o e1 e2
 have hm:=List.mem_of_getElem? e1
 exact ⟨y,(hk c y (fun q=>(hl c q).2 hm) h1).2 fun q=>(fr.mem q).2.1 hm,h2⟩
theorem Step.near {its:List Addr} {h':Heap} (x:Step T X (Af fe) g s g' σ' s') (fr:BI g' s'.heap fe) (hl:∀ c,c∈its->g'.fz c=none/\c∉g'.mu) (hn:∀ c,c∈its->s.heap.get? c=none) (hk:CQ its (Af fe) s'.heap h') :
 Step T X (Af fe) g s g' σ' { s' with heap:=h' }:=by
 have ni:∀ c o,s.heap.get? c=some o->c∉its:=fun c o e q=>by exact Ab ((Eq.symm (hn c q)).trans e)
 refine ⟨x.le,x.st.near fr hl hk,⟨fun c o e=>?_,fun c o e nb nf=>(hk c o (ni c o e) (x.kept.same c o e nb nf)).2 nf,fun c o e nb hf=>?_⟩,x.new,x.gens,x.os⟩
 ·obtain ⟨o',e'⟩:=x.kept.alive c o e
  obtain ⟨sl,e''⟩:=(hk c o' (ni c o e) e').1
  exact ⟨_,e''⟩
 ·obtain ⟨sl,e'⟩:=x.kept.slots c o e nb hf
  obtain ⟨sl',e''⟩:=(hk c _ (ni c o e) e').1
  exact ⟨sl',e''⟩
theorem Inv.near {its:List Addr} {h':Heap} (I:Inv T fe own wr env K.vars ρ g σ s.heap) (hl:∀ c,c∈its->g.fz c=none/\c∉g.mu) (ha:∀ c,c∈its->c∉B0 fe own env) (hk:CQ its (Af fe) s.heap h') :
 Inv T fe own wr env K.vars ρ g σ h':=by
 refine I.keep (.refl g) (I.st.near I.fr hl hk) (fun c hc=>?_) fun c o hc e=>(hk c o (fun q=>ha c q hc) e).1
 obtain ⟨h1,h2,o,h3⟩:=I.avAp c hc
 obtain ⟨sl,e⟩:=(hk c o (fun q=>ha c q hc) h3).1
 exact ⟨h1,h2,_,e⟩
theorem entry_new {L e:Addr} {oe:Obj} {vs:Array Value} {head:Value} {hadNext:Bool} {Q:Unit->Shared->Prop} (hfr:A.frames=some (env::outer)) (hl:s.heap.FunFrames T.h0 (env::outer)) (hf:env.frame=some L)
 (he:s.heap.get? e=some oe) (hd:oe.data=.fields vs) (hsz:1 < vs.size)
 (h:∀ h' tb oe' ts,CQ [e] (Af (env::outer)) s.heap h'->s.heap.get? tb=none->h'.get? e=some oe'->(oe'.cls=oe.cls/\oe'.dict=oe.dict)->oe'.data=.fields (vs.setIfInBounds 1 (.ref tb)) ->
  h'.get? tb=some { cls:=.type "traceback",dict:=none,data:=.fields ts,slots:=#[] } -> ts[3]? = some (rawInt L)->Q () { s with heap:=h' }) :
 wpAny (model T.prog T.w) A (do let a <-frameOf env; let pl <-entryPlaceOf L hadNext; let b <-EntryCells.newEntry head a .none (rawInt L) .none pl; setField (.ref e) 1 b) Q Er s:=by
 have hene:e∉(env::outer).filterMap (·.frame):=fun hm=>by
  obtain ⟨_,o,ho,hnf⟩:=hl.mem hm
  rw [he] at ho; injection ho with ho; subst ho; exact hnf vs hd
 refine wpAny_bind (wpAny_frameOf_fun hfr hl hf fun h₁ hs1=>?_)
 refine wpAny_bind (wpAny_entryPlaceOf fun pl hpl=>?_)
 unfold EntryCells.newEntry newFields
 refine wpAny_bind (wpAny_newObj_type ?_ (hpl.sizeOk5 _ _ _ _ _))
 have he1:h₁.get? e=some oe:=(hs1.2.1 e hene).trans he
 have he2:=Heap.get?_push_of_some (h:=h₁) { cls:=.type "traceback",dict:=none,data:=.fields ([head,.ref L,.none,rawInt L,.none]++(if pl.isEmpty then List.replicate 6 Value.none else pl)).toArray } he1
 have hTe:h₁.objs.size≠e:=Nat.ne_of_gt (Heap.lt_size he1)
 have hd3:=Obj.data_mapFields hd (·.setIfInBounds 1 (Value.ref h₁.objs.size))
 have he3:=Heap.get?_update_self (Obj.mapFields (·.setIfInBounds 1 (Value.ref h₁.objs.size))) he2 (Obj.isFreed_of_fields hd3)
 have hT3:=(Heap.get?_update_other (h₁.push { cls:=.type "traceback",dict:=none,data:=.fields ([head,.ref L,.none,rawInt L,.none]++(if pl.isEmpty then List.replicate 6 Value.none else pl)).toArray })
  (Obj.mapFields (·.setIfInBounds 1 (Value.ref h₁.objs.size))) (Ne.symm hTe)).trans (Heap.get?_push_size h₁ rfl)
 refine wpAny_setField he2 hd hsz (h _ h₁.objs.size _ _ ?_ ?_ he3 ⟨Obj.cls_mapFields _ _,by unfold Obj.mapFields; split <;> rfl⟩ hd3 hT3 ?_)
 ·intro b o hb e'
  have hbe:b≠e:=fun q=>hb (by rw [q]; exact List.mem_singleton.mpr rfl)
  have up:∀ o',h₁.get? b=some o'->((h₁.push { cls:=.type "traceback",dict:=none,data:=.fields ([head,.ref L,.none,rawInt L,.none]++(if pl.isEmpty then List.replicate 6 Value.none else pl)).toArray }).update e (Obj.mapFields (·.setIfInBounds 1 (Value.ref h₁.objs.size)))).get? b=some o':=fun o' q=>by
   rw [Heap.get?_update_other _ _ (Ne.symm hbe)]
   exact Heap.get?_push_of_some _ q
  refine ⟨?_,fun hnf=>up o ((hs1.2.1 b hnf).trans e')⟩
  obtain ⟨sl,q⟩:=hs1.2.2 b o e'
  exact ⟨sl,up _ q⟩
 ·show s.heap.get? h₁.objs.size=none
  rw [hs1.1]; exact BA _
 ·first | (simp; done) | (rcases hpl with rfl | ⟨_,_,_,_,_,_,_,rfl⟩ <;> simp)
theorem FN {L:Addr} {Q:Unit->Shared->Prop} (hfr:A.frames=some (env::outer)) (hf:env.frame=some L) (st:St T g σ s.heap) (fr:BI g s.heap (env::outer)) (fl:CC T g s.heap s₀.heap c x PAny) (k0:∀ a,s.heap.get? a=none->s₀.heap.get? a=none)
 (h:∀ h' its,CQ its (Af (env::outer)) s.heap h'->(∀ a,a∈its->g.fz a=none/\a∉g.mu/\s₀.heap.get? a=none)->CC T g h' s₀.heap c x (PAt (rawInt L))->Q () { s with heap:=h' }) :
 wpAny (model T.prog T.w) A (noteFrame x env) Q Er s:=by
 have hl:=fr.funFrames st.base
 obtain ⟨e,oe,vs,rfl,q2,q3,q4,q5,q6,q7,q8,q9⟩:=fl
 have hsz2:2 < vs.size:=by obtain ⟨u,h1,_,_⟩:=q8; exact (Array.getElem?_eq_some_iff.mp h1).1
 unfold noteFrame
 simp only [hf]
 rcases q9 with ⟨h1,_⟩ | ⟨tb,ot,ts,f,k1,k2,k3,k4,k5,k6,k7,k8,k9⟩
 ·refine wpAny_bind (wpAny_field q2 q4 h1 ?_)
  rw [if_neg (by decide)]
  refine entry_new hfr hl hf q2 q4 (by (exact Nat.le_of_lt ‹_›)) fun h' tb oe' ts nr hn he' hc' hd' ht h3=>?_
  refine h h' [e] nr (fun a ha=>by rw [List.mem_singleton.mp ha]; exact ⟨q5,q6,q7⟩) ⟨e,oe',_,rfl,he',⟨by rw [hc'.1]; exact q3.1,by rw [hc'.2]; exact q3.2⟩,hd',q5,q6,q7,?_,.inr ⟨tb,_,ts,_,by simp [show 1 < vs.size by (exact Nat.le_of_lt ‹_›)],ht,rfl,?_,st.fz_none hn,st.mu_none hn,k0 tb hn,h3,rfl⟩⟩
  ·rw [Array.getElem?_setIfInBounds_ne (by decide)]; exact q8
  ·intro q; rw [q,q2] at hn; exact AT hn
 ·refine wpAny_bind (wpAny_field q2 q4 k1 ?_)
  rw [if_pos (show (Value.ref tb != Value.none)=true from by rfl)]
  refine wpAny_bind (wpAny_field k2 k3 k8 ?_)
  by_cases k9:(f == rawInt L)=true
  case neg =>
   rw [if_neg k9]
   have hsz3:3 < ts.size:=(Array.getElem?_eq_some_iff.mp k8).1
   refine wpAny_bind (wpAny_setField k2 k3 hsz3 ?_)
   have other:∀ b,b≠tb->(s.heap.update tb (Obj.mapFields (·.setIfInBounds 3 Value.none))).get? b=s.heap.get? b:=fun b hb=>Heap.get?_update_other _ _ (Ne.symm hb)
   have noRecord:∀ b o,s.heap.get? b=some o->(∀ vs,o.data≠.fields vs)->b≠tb:=fun b o hb hnf q=>by
    rw [q,k2] at hb; injection hb with hb; subst hb; exact hnf ts k3
   refine entry_new hfr (hl.of_keeps fun b o hb hnf=>⟨o,(other b (noRecord b o hb hnf)).trans hb,rfl⟩) hf ((other e (Ne.symm k4)).trans q2) q4 (by (exact Nat.le_of_lt ‹_›)) fun h' tb' oe' ts' nr hn he' hc' hd' ht h3=>?_
   have hn':s.heap.get? tb'=none:=by
    by_cases q:tb'=tb
    ·subst q
     exact AT ((Eq.symm (Heap.get?_update_self _ k2 (Obj.isFreed_of_fields (Obj.data_mapFields k3 _)))).trans hn)
    ·rw [<-other tb' q]; exact hn
   refine h h' [e,tb] (CQ.trans (CQ.of_same fun b o hb eb=>(other b fun q=>hb (by exact .tail _ (q▸.head _))).trans eb) (nr.wide fun b hb=>by rw [List.mem_singleton.mp hb]; simp)) (fun a ha=>?_)
    ⟨e,oe',_,rfl,he',⟨by rw [hc'.1]; exact q3.1,by rw [hc'.2]; exact q3.2⟩,hd',q5,q6,q7,?_,.inr ⟨tb',_,ts',_,by simp [show 1 < vs.size by (exact Nat.le_of_lt ‹_›)],ht,rfl,?_,st.fz_none hn',st.mu_none hn',k0 tb' hn',h3,rfl⟩⟩
   ·simp only [List.mem_cons,List.not_mem_nil,or_false] at ha
    rcases ha with rfl | rfl
    ·exact ⟨q5,q6,q7⟩
    ·exact ⟨k5,k6,k7⟩
   ·rw [Array.getElem?_setIfInBounds_ne (by decide)]; exact q8
   ·intro q; rw [q,q2] at hn'; exact AT hn'
  case pos =>
   rw [if_pos k9]
   have k9:=eq_of_beq k9
   subst k9
   exact wpAny_pure (h s.heap [] (CQ.refl _ _ _) (fun a ha=>by cases ha) ⟨e,oe,vs,rfl,q2,q3,q4,q5,q6,q7,q8,.inr ⟨tb,ot,ts,_,k1,k2,k3,k4,k5,k6,k7,k8,rfl⟩⟩)
theorem C7 {L:Option Addr} {Q:Unit->Shared->Prop} (fl:CC T g s.heap s₀.heap c x PTb)
 (h:∀ h' its,CQ its fs s.heap h'->(∀ a,a∈its->g.fz a=none/\a∉g.mu/\s₀.heap.get? a=none)->CC T g h' s₀.heap c x (PAt (L.elim .none fun f=>rawInt f))->Q () { s with heap:=h' }) :
 wpAny (model T.prog T.w) A (setFlight x L) Q Er s:=by
 obtain ⟨e,oe,vs,rfl,q2,q3,q4,q5,q6,q7,q8,q9⟩:=fl
 rcases q9 with ⟨_,h1⟩ | ⟨tb,ot,ts,f,k1,k2,k3,k4,k5,k6,k7,k8,k9⟩
 ·exact h1.elim
 ·unfold setFlight
  refine wpAny_bind (wpAny_field q2 q4 k1 ?_)
  rw [if_pos (show (Value.ref tb != Value.none)=true from by rfl)]
  have hsz3:3 < ts.size:=(Array.getElem?_eq_some_iff.mp k8).1
  refine wpAny_setField k2 k3 hsz3 ?_
  have other:∀ b,b≠tb->(s.heap.update tb (Obj.mapFields (·.setIfInBounds 3 (L.elim Value.none fun f=>rawInt f)))).get? b=s.heap.get? b:=fun b hb=>Heap.get?_update_other _ _ (Ne.symm hb)
  refine h _ [tb] (CQ.of_same fun b o hb eb=>(other b fun q=>hb (by exact q▸.head _)).trans eb) (fun a ha=>by rw [List.mem_singleton.mp ha]; exact ⟨k5,k6,k7⟩)
   ⟨e,oe,vs,rfl,(other e (Ne.symm k4)).trans q2,q3,q4,q5,q6,q7,q8,.inr ⟨tb,_,_,_,k1,Heap.get?_update_self _ k2 (Obj.isFreed_of_fields (Obj.data_mapFields k3 _)),Obj.data_mapFields k3 _,k4,k5,k6,k7,by simp [hsz3],rfl⟩⟩
theorem CC.field (fl:CC T g s.heap s₀.heap c x PTb) {Q:Value->Shared->Prop} (h:∀ tb,Q (.ref tb) s):wpAny (model T.prog T.w) A (field x 1) Q Er s:=by
 obtain ⟨e,oe,vs,rfl,q2,q3,q4,q5,q6,q7,q8,q9⟩:=fl
 rcases q9 with ⟨_,h1⟩ | ⟨tb,ot,ts,f,k1,k2,k3,k4,k5,k6,k7,k8,k9⟩
 ·exact h1.elim
 ·exact wpAny_field q2 q4 k1 (h tb)
end
section
variable {T:Top} {K:Kx} {C:Cfg} {fe:List Env} {own av fs X:List Addr} {wr:List Str} {env:Env} {A:Around} {n:Nat} {ρ ρ':Au} {g g':G} {σ σ':Store} {s s':Shared} {L:Option Addr} {Er:Value->Shared->Prop}
structure CompAt (T:Top) (fe:List Env) (K':Kx) (cenv:Env) (Cc D:Addr) (its:List Addr) (a:Addr) (hd b:Bool) (ρc:Au) (f:V->Store->Res (Option V)) (whole:Res (List V)) (g0:G) (s₀:Shared) (N:Nat)
 (n:Nat) (vs:Src) (ys:List V) (xs:Array Value) (g:G) (σ:Store) (s:Shared):Prop where
 eq:whole=(BQ f n vs σ).bind fun zs σ'=>.ok (ys++zs) σ'
 cnt:ys.length+n<=N
 step:Step T g0.mu (Af fe) g0 s₀ g σ s
 inv:Inv T fe [Cc] K'.wr cenv K'.vars ρc g σ s.heap
 it:Dp T (D::B0 fe [Cc] cenv) g s.heap hd b its a vs
 list:s.heap.PlainList D xs
 rep:RepVs T g ys xs.toList
 ap:Bq g s.heap D
structure CompFin (T:Top) (fe:List Env) (K':Kx) (cenv:Env) (Cc D:Addr) (its:List Addr) (ρc:Au) (g0:G) (s₀:Shared) (ys:List V) (xs:Array Value) (g:G) (σ:Store) (s:Shared) (h':Heap):Prop where
 step:Step T g0.mu (Af fe) g0 s₀ g σ s
 inv:Inv T fe [Cc] K'.wr cenv K'.vars ρc g σ s.heap
 lone:∀ c,c∈its->(g.fz c=none/\c∉g.mu)/\c∉D::B0 fe [Cc] cenv
 list:s.heap.PlainList D xs
 rep:RepVs T g ys xs.toList
 ap:Bq g s.heap D
 hk:∀ c o,c∉its->s.heap.get? c=some o->h'.get? c=some o
theorem comp_end {K':Kx} {cenv:Env} {Cc D:Addr} {its:List Addr} {fz:Bool} {ρc:Au} {g0 g:G} {s₀ s:Shared} {σ:Store} {ys:List V} {xs:Array Value} {h':Heap} {Q:Value->Shared->Prop} (F:CompFin T fe K' cenv Cc D its ρc g0 s₀ ys xs g σ s h')
 (hw:A2 fz ys σ≠.bad) (hDn:s₀.heap.get? D=none) (hCn:s₀.heap.get? Cc=none) (hin:∀ c,c∈its->s₀.heap.get? c=none) (hDa:D∉B0 fe [Cc] cenv) (hloc:cenv.locals=Cc)
 (hQ:∀ s',(OkR T (Af fe) g0 s₀ (Aj T) (A2 fz ys σ) (.ref D) s')->Q (.ref D) s'):compPost (model T.prog T.w) A Er none Q (.ref D) Cc (.ok .next) { s with heap:=h' }:=by
 have hCa:Cc∈B0 fe [Cc] cenv:=List.mem_append.mpr (.inr (List.mem_append.mpr (.inl (List.mem_singleton.mpr rfl))))
 have hDC:D≠Cc:=fun q=>hDa (q▸hCa)
 obtain ⟨m,hm⟩:=F.inv.blk.ns
 rw [hloc] at hm
 have nC:∀ c,c∈its->c≠Cc:=fun c hc q=>(F.lone c hc).2 (List.mem_cons_of_mem _ (q▸hCa))
 have nD:∀ c,c∈its->c≠D:=fun c hc q=>(F.lone c hc).2 (by rw [q]; exact List.mem_cons_self ..)
 have hCi:Cc∉its:=fun q=>nC Cc q rfl
 have hDi:D∉its:=fun q=>nD D q rfl
 refine ⟨m,?_,fun h'' hs''=>?_⟩
 ·obtain ⟨o,es,ep,ho,r⟩:=hm
  exact ⟨o,es,ep,F.hk Cc o hCi ho,r⟩
 ·-- all but the loop's own things is as it was
  have kk:∀ c o,c∉Cc::its->s.heap.get? c=some o->h''.get? c=some o:=fun c o hc e =>
   (hs''.2 c fun q=>hc (by rw [q]; exact List.mem_cons_self ..)).trans (F.hk c o (fun q=>hc (List.mem_cons_of_mem _ q)) e)
  have ll:∀ c,c∈Cc::its->g.fz c=none/\c∉g.mu:=fun c hc=>by
   rcases List.mem_cons.mp hc with rfl | hc
   ·have:=F.inv.oap c (List.mem_singleton.mpr rfl); exact ⟨this.1,this.2.1⟩
   ·exact (F.lone c hc).1
  have nn:∀ c,c∈Cc::its->s₀.heap.get? c=none:=fun c hc=>by
   rcases List.mem_cons.mp hc with rfl | hc
   ·exact hCn
   ·exact hin c hc
  have stp:=F.step.rest ll nn kk
  obtain ⟨mm,hDo⟩:=F.list
  have hDo':h''.get? D=some _:=kk D _ (fun q=>by rcases List.mem_cons.mp q with q | q; exact hDC q; exact hDi q) hDo
  obtain ⟨v,σ',g',e1,e2,e3,e4,e5,e6⟩:=made_own (fz:=fz) stp.st ⟨F.ap.1,F.ap.2.1,_,hDo'⟩ hDo' F.rep hw
  refine hQ _ ⟨v,σ',g',e1,⟨stp.le.trans e3,e2,stp.kept,⟨fun c hc=>?_,fun c o hc=>?_⟩,stp.gens,stp.os⟩,e4⟩
  ·rcases e5 c hc with q | q
   ·exact stp.new.mu c q
   ·exact .inr (q▸hDn)
  ·rcases e6 c o hc with q | q
   ·exact stp.new.fz c o q
   ·exact .inr (.inl (q▸hDn))
theorem comp_exc {Cc:Addr} {ρc:Au} {cenv:Env} {K':Kx} {g0 g₁ g':G} {σ1 σ':Store} {s₀ s₁ s':Shared} {c:Nat} {q acc:Value} {Q:Value->Shared->Prop} {use:Option (Value->Sem Unit)} (cx:Cx T K' C fe cenv A n) (S1:Step T g0.mu (Af fe) g0 s₀ g₁ σ1 s₁)
 (I1:Inv T fe [Cc] K'.wr cenv K'.vars ρc g₁ σ1 s₁.heap) (hloc:cenv.locals=Cc) (hCn:s₀.heap.get? Cc=none) (st:Step T g₁.mu (Af fe) g₁ s₁ g' σ' s') (fl:CC T g' s'.heap s₁.heap c q PTb)
 (hE:∀ s'',Step T g0.mu (Af fe) g0 s₀ g' σ' s''->CC T g' s''.heap s₀.heap c q PTb->Er q s''):notedBy (model T.prog T.w) A cenv (fun x s=>compPost (model T.prog T.w) A Er use Q acc Cc (.error x) s) q s':=by
 obtain ⟨e0,r,hfe,hf0⟩:=I1.top
 have fr:=I1.fr
 rw [hfe] at fr
 obtain ⟨_,⟨L,_,hf,_⟩,_⟩:=fr
 have hfr:A.frames=some (e0::r):=by rw [<-hfe]; exact cx.ha.frames
 have hnote:(noteFrame q cenv:Sem Unit)=noteFrame q e0:=by unfold noteFrame frameOf; rw [hf0]
 have S':=S1.transW st fun c hc=>S1.new.mu c hc
 have I':=I1.step st
 have dead:∀ its:List Addr,(∀ a,a∈its->g'.fz a=none/\a∉g'.mu/\s₁.heap.get? a=none)->(∀ c,c∈its->c∉B0 fe [Cc] cenv):=fun its hi c hc q=>by
  obtain ⟨o,eo⟩:=(I1.avAp c q).2.2
  exact Ab ((Eq.symm ((hi c hc).2.2)).trans eo)
 unfold notedBy
 rw [hnote]
 refine FN (s₀:=s₁) hfr hf I'.st (by rw [<-hfe]; exact I'.fr) (fl.le (fun _ h=>h) fun _ _=>trivial) (fun a e=>st.kept.dead e) fun h₁ its1 nr1 hi1 fl1=>?_
 have nr1:CQ its1 (Af fe) s'.heap h₁:=by rw [hfe]; exact nr1
 have S'':=S'.near I'.fr (fun a ha=>⟨(hi1 a ha).1,(hi1 a ha).2.1⟩) (fun a ha=>S1.kept.dead (hi1 a ha).2.2) nr1
 have I'':=I'.near (fun a ha=>⟨(hi1 a ha).1,(hi1 a ha).2.1⟩) (dead its1 hi1) nr1
 obtain ⟨m,hm⟩:=I''.blk.ns
 rw [hloc] at hm
 obtain ⟨oC,alC⟩:=(I1.oap Cc (List.mem_singleton.mpr rfl)).2.2
 have apC:=I'.oap Cc (List.mem_singleton.mpr rfl)
 have key:∃ m,Heap.Ns h₁ Cc m/\∀ h',Heap.SameBut Cc h₁ h'->∀ cenv:Env,cenv.locals=Cc->wpAny (model T.prog T.w) A (passOn "comprehension.variables-let-go" q cenv:Sem Value) (fun _ _=>False) Er { s' with heap:=h' }:=?_
 ·cases use <;> exact key
 refine ⟨m,hm,fun h₂ hs2 cenv' _=>?_⟩
 have fl2:CC T g' h₂ s₁.heap c q PTb:=fl1.tb.same fun b o hb e=>(hs2.2 b fun w=>by rw [w,alC] at hb; exact AT hb).trans e
 unfold passOn
 refine wpAny_bind (CC.field (s:={ s' with heap:=h₂ }) fl2 fun tb=>?_)
 rw [if_neg (show ¬ ((Value.ref tb == Value.none)=true) from by exact fun h=>nomatch h)]
 show wpAny _ _ (setFlight q cenv'.frame>>=_) _ _ _
 refine wpAny_bind (C7 (s:={ s' with heap:=h₂ }) (fs:=[]) fl2 fun h₃ its3 nr3 hi3 fl3=>wpAny_throw ?_)
 refine hE _ (S''.rest (its:=Cc::its3) (fun a ha=>?_) (fun a ha=>?_) fun a o ha e=>?_) (fl3.tb.le (fun _ e=>S1.kept.dead e) fun _ h=>h)
 ·rcases List.mem_cons.mp ha with rfl | ha
  ·exact ⟨apC.1,apC.2.1⟩
  ·exact ⟨(hi3 a ha).1,(hi3 a ha).2.1⟩
 ·rcases List.mem_cons.mp ha with rfl | ha
  ·exact hCn
  ·exact S1.kept.dead (hi3 a ha).2.2
 ·exact (nr3 a o (fun w=>ha (List.mem_cons_of_mem _ w)) ((hs2.2 a fun w=>ha (by rw [w]; exact List.mem_cons_self ..)).trans e)).2 (by exact List.not_mem_nil)
theorem comp_turns {elt:E} {ifs:List E} {ts:List Nat} (he:SE elt) (hf:Gf ifs) {K':Kx} {cenv:Env} {Cc D a:Addr} {its:List Addr} {b fz:Bool} {x t i:Expr} {cs:List Expr} {sc:Scope} {pos:Pos} {g0:G} {s₀:Shared}
 {Q:Value->Shared->Prop} {whole:Res (List V)} {N:Nat} (cx:Cx T K' C fe cenv A n) (hH:HOk g0 A)
 (h4:IsT K' ts t) (h5:IsE elt K' x) (h6:IsEs ifs K' cs) (ht:b=true->∃ es c p,t=.Tuple es c p)
 (hw:BT fz N whole≠.bad) (hDn:s₀.heap.get? D=none) (hCn:s₀.heap.get? Cc=none) (hin:∀ c,c∈its->s₀.heap.get? c=none) (hDa:D∉B0 fe [Cc] cenv)
 {use:Option (Value->Sem Unit)} (hfin:∀ ys xs g σ s h',whole=.ok ys σ->CompFin T fe K' cenv Cc D its (Bv ρ ts) g0 s₀ ys xs g σ s h'->compPost (model T.prog T.w) A Er use Q (.ref D) Cc (.ok .next) { s with heap:=h' })
 (hE:∀ x s',(ExR T (Af fe) L g0 s₀ (BT fz N whole) x s')->Er x s')
 {s:Shared} (h:∃ nf vs ys xs g σ,CompAt T fe K' cenv Cc D its a C.hd b (Bv ρ ts) (AP C.hd ρ ts (fun ρ σ=>evalIfs C ifs ρ σ) (fun ρ σ=>Ac C elt ρ σ)) whole g0 s₀ N nf vs ys xs g σ s) (hloc:cenv.locals=Cc) :
 codeAny (model T.prog T.w) A (.compLoop (.ListComp x [⟨t,i,cs,0⟩] sc pos) 0 (.ref a) (.ref D) cenv) (compPost (model T.prog T.w) A Er use Q (.ref D) Cc) s:=by
 have hCa:Cc∈B0 fe [Cc] cenv:=List.mem_append.mpr (.inr (List.mem_append.mpr (.inl (List.mem_singleton.mpr rfl))))
 have hDC:D≠Cc:=fun q=>hDa (q▸hCa)
 have hfa:∀ c,c∈Af fe->c∈B0 fe [Cc] cenv:=fun c h=>List.mem_append.mpr (.inl h)
 have hDf:D∉Af fe:=fun q=>hDa (hfa D q)
 have hwb:whole≠.bad:=fun q=>hw (by rw [q]; rfl)
 have hN:∀ {cc:Nat} {σ':Store},whole=.exc cc σ'->N<=line:=fun {cc σ'} e=>by
  rw [e] at hw
  by_cases h:N<=line
  ·exact h
  ·exact absurd (if_neg h) hw
 have exc:∀ {cc:Nat} {σ':Store},whole=.exc cc σ'->BT fz N whole=.exc cc σ':=fun {cc σ'} e=>by
  have h:=hN e
  rw [e]; exact if_pos h
 obtain ⟨n1,vs1,ys1,xs1,g₁,σ1,h⟩:=h
 refine compLoop_any (I:=fun k s=>∃ vs ys xs g σ,CompAt T fe K' cenv Cc D its a C.hd b (Bv ρ ts) (AP C.hd ρ ts (fun ρ σ=>evalIfs C ifs ρ σ) (fun ρ σ=>Ac C elt ρ σ)) whole g0 s₀ N k vs ys xs g σ s) ?_ n1 ⟨vs1,ys1,xs1,g₁,σ1,h⟩
 rintro k s ⟨vs,ys,xs,g,σ,P⟩
 have HH:=hH.mono P.step.le
 have itn:∀ c,c∈its->c∉D::B0 fe [Cc] cenv:=fun c hc=>(P.it.lone c hc).2
 have itl:∀ c,c∈its->g.fz c=none/\c∉g.mu:=fun c hc=>⟨(P.it.lone c hc).1.1,(P.it.lone c hc).1.2.1⟩
 induction k with
 | zero=>exact absurd P.eq hwb
 | succ k =>
 generalize hF:AP C.hd ρ ts (fun ρ σ=>evalIfs C ifs ρ σ) (fun ρ σ=>Ac C elt ρ σ)=F at P
 have eqk:whole=((compOne (BQ F k) F σ (vs.next σ)).bind fun zs σ'=>.ok (ys++zs) σ'):=P.eq
 refine draw (fs:=Af fe) (target:=t) HH P.inv.st P.it ⟨cx.ha.handled,ht,fun q=>hwb (by rw [eqk,q]; rfl),fun e h' hk=>?_,fun v rest e xv s₁ lt=>?_⟩
 ·-- the end
  have eqw:whole=.ok ys σ:=by rw [eqk,e]; show Res.ok (ys++[]) σ=_; rw [List.append_nil]
  exact hfin ys xs g σ s h' eqw ⟨P.step,P.inv,fun c hc=>⟨itl c hc,itn c hc⟩,P.list,P.rep,P.ap,hk⟩
 ·-- one turn
  have eqs:whole=(match F v σ with
   | .ok x σ=>((BQ F k rest σ).bind fun xs σ=>.ok (ys++(match x with | some y=>y::xs | none=>xs)) σ)
   | .exc c σ=>.exc c σ
   | .bad=>.bad):=by
   rw [eqk,e]
   unfold compOne
   dsimp only
   induction F v σ with
   | ok y σ'=>dsimp only; cases BQ F k rest σ' <;> rfl
   | exc=>rfl
   | bad=>rfl
  refine lt _ _ fun g2 s2 st2 it2 r2=>?_
  have farX:∀ c,c∈g.mu++its->c∈g.mu\/c∉B0 fe [Cc] cenv:=fun c hc=>(List.mem_append.mp hc).imp id fun h q=>itn c h (List.mem_cons_of_mem _ q)
  have I2:=Inv.far st2 farX P.inv
  have D2:Bq g2 s2.heap D:=P.ap.step st2
  have nDX:D∉g.mu++its:=fun q=>(List.mem_append.mp q).elim P.ap.2.1 fun h=>itn D h (List.mem_cons_self ..)
  have L2:s2.heap.PlainList D xs:=by obtain ⟨m,ho⟩:=P.list; exact ⟨m,st2.kept.same D _ ho nDX hDf⟩
  have S2:Step T g0.mu (Af fe) g0 s₀ g2 σ s2:=P.step.transW st2 fun c hc=>(List.mem_append.mp hc).elim (fun h=>P.step.new.mu c h) fun h=>.inr (hin c h)
  have R2:RepVs T g2 ys xs.toList:=RepVs.mono st2.le _ _ P.rep
  induction eb:BG C.hd (Bv ρ ts) ts v with
  | none=>exact absurd (by rw [eqs,<-hF]; simp only [AP,eb]) hwb
  | some ρ3 =>
  refine G5 I2 cx.names cx.ha.handled h4 r2 eb fun s3 st3 I3=>?_
  have inX:∀ c,c∈g2.mu++[Cc]->c∈g2.mu\/c∈D::B0 fe [Cc] cenv:=fun c hc=>(List.mem_append.mp hc).imp id fun h=>by rw [List.mem_singleton.mp h]; exact List.mem_cons_of_mem _ hCa
  have fin':∀ c,c∈Af fe->c∈D::B0 fe [Cc] cenv:=fun c h=>List.mem_cons_of_mem _ (hfa c h)
  have it3:=it2.step st3 inX fin'
  have D3:Bq g2 s3.heap D:=D2.step st3
  have L3:s3.heap.PlainList D xs:=by obtain ⟨m,ho⟩:=L2; exact ⟨m,st3.kept.same D _ ho (fun q=>(List.mem_append.mp q).elim D2.2.1 fun h=>hDC (List.mem_singleton.mp h)) hDf⟩
  have S3:Step T g0.mu (Af fe) g0 s₀ g2 σ s3:=S2.transW st3 fun c hc=>(List.mem_append.mp hc).elim (fun h=>S2.new.mu c h) fun h=>.inr (by rw [List.mem_singleton.mp h]; exact hCn)
  have H3:=hH.mono S3.le
  have hti:evalIfs C ifs ρ3 σ≠.bad:=fun q=>hwb (by rw [eqs,<-hF]; simp only [AP,eb,q,Res.bind])
  refine wpAny_mono (tests_sim hf cs g2 σ s3 h6 cx I3 H3 hti) (fun ok s4 hz_=>?_) fun q s' hz_=>by obtain ⟨cc,σ',g',e',st',fl⟩:=hz_; exact comp_exc cx S3 I3 hloc hCn st' fl fun s'' S'' fl''=>hE q s'' ⟨cc,σ',g',exc (by rw [eqs,<-hF]; simp only [AP,eb,e',Res.bind]),S'',fl''⟩
  obtain ⟨b',σ4,g4,e4,st4,r4⟩:=hz_
  have r4:ok=b':=r4
  subst r4
  have inM:∀ (g:G) c,c∈g.mu->c∈g.mu\/c∈D::B0 fe [Cc] cenv:=fun g c h=>.inl h
  have I4:=I3.step st4
  have it4:=it3.step st4 (inM g2) fin'
  have D4:Bq g4 s4.heap D:=D3.step st4
  have L4:s4.heap.PlainList D xs:=by obtain ⟨m,ho⟩:=L3; exact ⟨m,st4.kept.same D _ ho D3.2.1 hDf⟩
  have S4:=S3.transW st4 fun c hc=>S3.new.mu c hc
  have R4:RepVs T g4 ys xs.toList:=RepVs.mono st4.le _ _ R2
  have less:∀ (i:Nat) (v:V),(Bv ρ ts)[i]? = some (some v)->ρ3[i]? = some (some v):=fun i u hu=>bindTs_get eb (D7 hu).1 hu
  induction ok with
  | false =>
   rw [if_neg Bool.false_ne_true]
   have eqf:whole=(BQ F k rest σ4).bind fun zs σ'=>.ok (ys++zs) σ':=by
    rw [eqs,show F v σ=.ok none σ4 from by rw [<-hF]; simp only [AP,eb,e4,Res.bind]]
   refine ⟨k,Nat.lt_succ_self k,rest,ys,xs,g4,σ4,eqf,Nat.le_of_succ_le P.cnt,S4,I4.less less,it4,L4,R4,D4⟩
  | true =>
   rw [if_pos rfl]
   have hel:Ac C elt ρ3 σ4≠.bad:=fun q=>hwb (by rw [eqs,<-hF]; simp only [AP,eb,e4,Res.bind,q])
   refine wpAny_mono (he _ h5 cx I4 (hH.mono S4.le) hel) (fun y s5 hz_=>?_) fun q s' hz_=>by obtain ⟨cc,σ',g',e',st',fl⟩:=hz_; exact comp_exc cx S4 I4 hloc hCn st' fl fun s'' S'' fl''=>hE q s'' ⟨cc,σ',g',exc (by rw [eqs,<-hF]; simp only [AP,eb,e4,e',Res.bind]),S'',fl''⟩
   obtain ⟨u,σ5,g5,e5,st5,r5⟩:=hz_
   have I5:=I4.step st5
   have it5:=it4.step st5 (inM g4) fin'
   have D5:Bq g5 s5.heap D:=D4.step st5
   have L5:s5.heap.PlainList D xs:=by obtain ⟨m,ho⟩:=L4; exact ⟨m,st5.kept.same D _ ho D4.2.1 hDf⟩
   have S5:=S4.transW st5 fun c hc=>S4.new.mu c hc
   have R5:RepVs T g5 ys xs.toList:=RepVs.mono st5.le _ _ R4
   have eqs':whole=(BQ F k rest σ5).bind fun zs σ'=>.ok ((ys++[u])++zs) σ':=by
    rw [eqs]
    rw [show F v σ=.ok (some u) σ5 from by rw [<-hF]; simp only [AP,eb,e4,e5,Res.bind]]
    dsimp only
    cases BQ F k rest σ5 <;> simp [Res.bind]
   have hsz:xs.size<=sizeLine:=by
    have hl:=R5.length
    rw [<-B1]
    induction eg:BQ F k rest σ5 with
    | ok zs σ' =>
     rw [eg] at eqs'
     rw [eqs'] at hw
     have:=mkList_ne hw
     simp at this hl
     omega
    | exc=>rw [eg] at eqs'; have h1:=hN eqs'; have h2:=P.cnt; simp at hl; omega
    | bad=>rw [eg] at eqs'; exact absurd eqs' hwb
   refine wpAny_list_append_plain L5 (fun h' hp hs=>?_) hsz
   have al:∃ o,h'.get? D=some o:=by obtain ⟨m,ho⟩:=hp; exact ⟨_,ho⟩
   have st6:Step T (g5.mu++[D]) (Af fe) g5 s5 g5 σ5 { s5 with heap:=h' }:=.sameBut I5.st D5 (by exact List.mem_append_right _ (.head _)) hs al
   refine ⟨k,Nat.lt_succ_self k,rest,ys++[u],xs.push y,g5,σ5,eqs',by rw [List.length_append,Nat.add_assoc,List.length_singleton,Nat.add_comm 1 k]; exact P.cnt,S5.transW st6 fun c hc=>(List.mem_append.mp hc).elim (fun h=>S5.new.mu c h) fun h=>.inr (by rw [List.mem_singleton.mp h]; exact hDn),?_,?_,hp,?_,D5.step st6⟩
   ·exact (Inv.far st6 (fun c hc=>(List.mem_append.mp hc).imp id fun h q=>by rw [List.mem_singleton.mp h] at q; exact hDa q) I5).less less
   ·exact it5.step st6 (fun c hc=>(List.mem_append.mp hc).imp id fun h=>by rw [List.mem_singleton.mp h]; exact List.mem_cons_self ..) fin'
   ·rw [Array.toList_push]; exact RepVs.append R5 ⟨r5,trivial⟩
theorem comp_run {fz:Bool} {elt:E} {ts:List Nat} {it:It} {ifs:List E} (hI:SI it) (he:SE elt) (hf:Gf ifs) {x t i:Expr} {cs:List Expr} {sc:Scope} {pos P:Pos} {use:Option (Value->Sem Unit)} {Q:Value->Shared->Prop}
 (h1:IsI it K i) (h2:Ey i=true) (h3:FI K ts sc=true) (h7:zipOk ts it=true) (h4:IsT (K.sub ts sc) ts t) (h5:IsE elt (K.sub ts sc) x) (h6:IsEs ifs (K.sub ts sc) cs) (cx:Cx T K C fe env A n) (I:Inv T fe own K.wr env K.vars ρ g σ s.heap) (hH:HOk g A)
 (hr:((evalIt C it ρ σ).bind fun vs σ=>BT fz (vs.fuel σ) (BQ (AP C.hd ρ ts (fun ρ σ=>evalIfs C ifs ρ σ) (fun ρ σ=>Ac C elt ρ σ)) (vs.fuel σ) vs σ))≠.bad)
 (hexc:∀ q s',ExR T (Af fe) env.frame g s ((evalIt C it ρ σ).bind fun vs σ=>BT fz (vs.fuel σ) (BQ (AP C.hd ρ ts (fun ρ σ=>evalIfs C ifs ρ σ) (fun ρ σ=>Ac C elt ρ σ)) (vs.fuel σ) vs σ)) q s'->Er q s')
 (hfin:∀ Cc D its ys xs g' σ' s' h',(((evalIt C it ρ σ).bind fun vs σ=>BT fz (vs.fuel σ) (BQ (AP C.hd ρ ts (fun ρ σ=>evalIfs C ifs ρ σ) (fun ρ σ=>Ac C elt ρ σ)) (vs.fuel σ) vs σ))=A2 fz ys σ')->(∀ c,c∈its->s.heap.get? c=none)->s.heap.get? D=none->s.heap.get? Cc=none->D∉B0 fe [Cc] (compEnvC sc (BW env sc.names []) Cc env) ->
  CompFin T fe (K.sub ts sc) (compEnvC sc (BW env sc.names []) Cc env) Cc D its (Bv ρ ts) g s ys xs g' σ' s' h'->compPost (model T.prog T.w) A Er use Q (.ref D) Cc (.ok .next) { s' with heap:=h' }) :
 wpAny (model T.prog T.w) A (comprehension (.ListComp x [⟨t,i,cs,0⟩] sc pos) sc env P (newList []) false (eval i env) use) Q Er s:=by
 have sk:=scopeOk_ok h3
 have hset:∀ y,foldedSetIterable i env y=pure y:=fun y=>by
  unfold foldedSetIterable
  cases i <;> first | rfl | exact ff_ h2
 refine wpAny_comprehension_free (use:=use) rfl hset (closureFor_eq sc fun m hm=>?_) sk.kind (fun p hp hl=>by rw [sk.uni p hp,hl]) ?_
 ·have hk:env.kindOf m=some .cell\/env.kindOf m=some .free:=by rw [AL cx.names]; exact sk.fre m hm
  obtain ⟨c,_,hl,_⟩:=I.blk.cell m hk
  exact ⟨c,hl⟩
 ·have exc:∀ (q:Value) (s':Shared),(ExR T (Af fe) env.frame g s (evalIt C it ρ σ) q s')->Er q s' :=
   fun q s' hz_=>by obtain ⟨c,σ',g',e,st,fl⟩:=hz_; exact hexc q s' ⟨c,σ',g',by rw [e]; rfl,st,fl⟩
  refine wpAny_mono (hI i (B0 fe own env) h1 cx I hH (fun c hc=>(I.avAp c hc).2.2) (AH hr)) (fun xv s₁ h₁=>wpAny_mono h₁ (fun itv s2 hz_=>?_) exc) exc
  obtain ⟨vs,σ₂,g2,b,its,a,e2,st2,hv,it2,new2,hb2⟩:=hz_
  subst hv
  have e3:((evalIt C it ρ σ).bind fun vs σ=>BT fz (vs.fuel σ) (BQ (AP C.hd ρ ts (fun ρ σ=>evalIfs C ifs ρ σ) (fun ρ σ=>Ac C elt ρ σ)) (vs.fuel σ) vs σ)) =
   BT fz (vs.fuel σ₂) (BQ (AP C.hd ρ ts (fun ρ σ=>evalIfs C ifs ρ σ) (fun ρ σ=>Ac C elt ρ σ)) (vs.fuel σ₂) vs σ₂):=by rw [e2]; rfl
  rw [e3] at hr hexc hfin
  have I2:=I.step st2
  refine wpAny_newList ?_ (by exact Nat.zero_le _)
  refine wpAny_newFunctionEnv sk.noc (by intro y hy; simp at hy) (fun h₁ hns1 hsb1=>?_) sk.kind
  dsimp only at hns1 hsb1 ⊢
  generalize hH2:s2.heap.push { cls:=.type "list",dict:=none,data:=.seq ([]:List Value).toArray } = H2 at hns1 hsb1 ⊢
  have hC:H2.objs.size=s2.heap.objs.size+1:=by rw [<-hH2,Heap.size_push]
  have hDC:s2.heap.objs.size≠H2.objs.size:=by rw [hC]; exact Nat.ne_of_lt (Nat.lt_succ_self _)
  have hC0:s2.heap.get? H2.objs.size=none:=Heap.get?_none_of_le (by rw [hC]; exact Nat.le_succ _)
  have hD0:s2.heap.get? s2.heap.objs.size=none:=BA _
  have hD1:h₁.get? s2.heap.objs.size=some { cls:=.type "list",dict:=none,data:=.seq #[],slots:=#[] }:=(hsb1.2 _ hDC).trans (Heap.get?_push_of_some _ (hH2▸Heap.get?_push_size _ rfl))
  have old:∀ c o,s2.heap.get? c=some o->h₁.get? c=some o:=fun c o e=>(hsb1.2 c fun q=>by rw [q,hC0] at e; exact Ab e).trans (Heap.get?_push_of_some _ (hH2▸Heap.get?_push_of_some _ e))
  have Ic:=comp_inv (h':=h₁) sk I2 cx.names old hC0 (by exact hns1)
  have st3:Step T g2.mu (Af fe) g2 s2 g2 σ₂ { s2 with heap:=h₁,toks:=s2.toks+([]:List (Str×Value)).length }:=.grow I2.st old
  have DA:Bq g2 h₁ s2.heap.objs.size:=⟨I2.st.fz_none hD0,I2.st.mu_none hD0,_,hD1⟩
  have cellsub:∀ c,c∈CV (compEnvC sc (BW env sc.names []) H2.objs.size env)->s2.heap.get? c≠none:=fun c hc=>by
   obtain ⟨nm,hk,hl⟩:=Ee hc
   have hm:=mem_of_lookup (show (BW env sc.names []).lookup nm=some c from hl)
   rcases E9 hm with h | ⟨h',h⟩
   ·simp at h
   ·have hk':env.kindOf nm=some .cell\/env.kindOf nm=some .free:=by rw [AL cx.names]; exact sk.fre nm h'
    obtain ⟨c',v,q1,⟨o,q2,_⟩,_⟩:=I2.blk.cell nm hk'
    rw [q1] at h
    have h:c=c':=h
    rw [h,q2]; simp
  have avc:∀ c,c∈B0 fe [H2.objs.size] (compEnvC sc (BW env sc.names []) H2.objs.size env)->s2.heap.get? c≠none\/c=H2.objs.size:=fun c hc=>by
   rcases List.mem_append.mp hc with h | h
   ·obtain ⟨o,e⟩:=(I2.fr.mem h).2.2
    exact .inl (by rw [e]; simp)
   ·rcases List.mem_append.mp h with h | h
    ·exact .inr (List.mem_singleton.mp h)
    ·exact .inl (cellsub c h)
  have hDa:s2.heap.objs.size∉B0 fe [H2.objs.size] (compEnvC sc (BW env sc.names []) H2.objs.size env):=fun q=>(avc _ q).elim (fun h=>h hD0) hDC
  have cx':Cx T (K.sub ts sc) C fe (compEnvC sc (BW env sc.names []) H2.objs.size env) A n:=⟨cx.rd,Fb I.blk.kind cx.names,cx.ha,cx.cf⟩
  have av2:∀ c,c∈B0 fe own env->s.heap.get? c≠none:=fun c hc=>by obtain ⟨o,e⟩:=(I.avAp c hc).2.2; rw [e]; simp
  have itav:∀ c,c∈its->c∉s2.heap.objs.size::B0 fe [H2.objs.size] (compEnvC sc (BW env sc.names []) H2.objs.size env):=fun c hc q=>by
   have hal:=(it2.lone c hc).1.2.2
   obtain ⟨o,hal⟩:=hal
   rcases List.mem_cons.mp q with q | q
   ·rw [q,hD0] at hal; exact Ab hal
   ·rcases List.mem_append.mp q with h | h
    ·exact (it2.lone c hc).2 (List.mem_append.mpr (.inl h))
    ·rcases List.mem_append.mp h with h | h
     ·rw [List.mem_singleton.mp h,hC0] at hal; exact Ab hal
     ·-- a cell of the block around
      obtain ⟨nm,hk,hl⟩:=Ee h
      have hm:=mem_of_lookup (show (BW env sc.names []).lookup nm=some c from hl)
      rcases E9 hm with h' | ⟨h',h''⟩
      ·simp at h'
      ·have hk':env.kindOf nm=some .cell\/env.kindOf nm=some .free:=by rw [AL cx.names]; exact sk.fre nm h'
       obtain ⟨c',v,q1,_,_⟩:=I.blk.cell nm hk'
       rw [q1] at h''
       have h'':c=c':=h''
       exact (it2.lone c hc).2 (List.mem_append.mpr (.inr (List.mem_append.mpr (.inr (Dw hk' (h''▸q1))))))
  have it2':=it2.step st3 (fun c h=>.inl h) fun c h=>List.mem_append.mpr (.inl h)
  have loop:codeAny (model T.prog T.w) A (.compLoop (.ListComp x [⟨t,i,cs,0⟩] sc pos) 0 (.ref a) (.ref s2.heap.objs.size) (compEnvC sc (BW env sc.names []) H2.objs.size env))
   (compPost (model T.prog T.w) A Er use Q (.ref s2.heap.objs.size) H2.objs.size) { s2 with heap:=h₁,toks:=s2.toks+([]:List (Str×Value)).length }:=by
   refine comp_turns (b:=b) (its:=its) (fz:=fz) (Cc:=H2.objs.size) (g0:=g) (s₀:=s) he hf cx' hH h4 h5 h6 (zip_tup h4 h7 hb2) hr (st2.kept.dead hD0) (st2.kept.dead hC0) new2 hDa (use:=use) (fun ys xs g' σ' s' h' e F=>hfin H2.objs.size s2.heap.objs.size its ys xs g' σ' s' h' (by rw [e]; rfl) new2 (st2.kept.dead hD0) (st2.kept.dead hC0) hDa F) hexc ⟨vs.fuel σ₂,vs,[],#[],g2,σ₂,?_,Nat.le_of_eq (Nat.zero_add _),st2.trans st3,Ic,it2'.avoid itav,⟨_,hD1⟩,trivial,DA⟩ rfl
   ·induction eg:BQ (AP C.hd ρ ts (fun ρ σ=>evalIfs C ifs ρ σ) (fun ρ σ=>Ac C elt ρ σ)) (vs.fuel σ₂) vs σ₂ with
    | ok _ _=>rfl
    | bad=>rfl
    | exc _ _=>rfl
  exact codeAny_compStart_list loop (pyIter_self it2' loop)
theorem se_comp (fz:Bool) {elt:E} (ts:List Nat) {it:It} {ifs:List E} (hI:SI it) (he:SE elt) (hf:Gf ifs):SE (.comp fz elt ts it ifs):=by
 intro T K C fe own env A n ρ g σ s ex hc cx I hH
 induction hc with
 | @mk x t i cs sc pos h1 h2 h3 h4 h5 h6 =>
  obtain ⟨h3,h7⟩:=h3
  intro hr
  (first | rw [Ah] at hr ⊢ | rw [eA_2] at hr ⊢ | rw [G2] at hr ⊢ | rw [eA_4] at hr ⊢ | rw [Ad] at hr ⊢ | rw [A5] at hr ⊢ | rw [eA_7] at hr ⊢ | rw [eA_8] at hr ⊢ | rw [Gb] at hr ⊢ | rw [Ao] at hr ⊢ | rw [eA_11] at hr ⊢ | rw [Bj] at hr ⊢ | rw [Cn] at hr ⊢ | rw [eA_14] at hr ⊢ | rw [Am] at hr ⊢ | rw [Bm] at hr ⊢ | rw [A6] at hr ⊢ | rw [A1] at hr ⊢ | rw [By] at hr ⊢ | rw [E6] at hr ⊢ | rw [eA_21] at hr ⊢)
  rw [eval_ListComp]
  exact comp_run hI he hf h1 h2 h3 h7 h4 h5 h6 cx I hH hr (fun q s' h=>h) fun Cc D its ys xs g' σ' s' h' e hin hDn hCn hDa F=>comp_end (fz:=fz) F (by rw [e] at hr; exact hr) hDn hCn hin hDa rfl fun s'' h=>by rw [e]; exact h
end
theorem pt_cst (x:PyData):ST (.cst x):=Bd (se_cst x) fun h env w=>by cases h; rfl
theorem pt_var (i:Nat):ST (.var i):=Bd (se_var i) fun h env w=>by cases h; rfl
theorem pt_ty (x:String):ST (.ty x):=Bd (se_ty x) fun h env w=>by cases h; rfl
theorem pt_cls (x:Nat):ST (.cls x):=Bd (se_cls x) fun h env w=>by cases h; rfl
theorem pt_glo (x:PyData):ST (.glo x):=Bd (se_glo x) fun h env w=>by cases h; rfl
theorem pt_bin {fz:Bool} {op:Operator} {a b:E} (h:SE (.bin fz op a b)):ST (.bin fz op a b):=Bd h fun h env w=>by cases h; rfl
theorem pt_neg {a:E} (h:SE (.neg a)):ST (.neg a):=Bd h fun h env w=>by cases h; rfl
theorem pt_tup {es:List E} (h:SE (.tup es)):ST (.tup es):=Bd h fun h env w=>by cases h; rfl
theorem pt_lst {fz:Bool} {es:List E} (h:SE (.lst fz es)):ST (.lst fz es):=Bd h fun h env w=>by cases h; rfl
theorem pt_sub {a i:E} (h:SE (.sub a i)):ST (.sub a i):=Bd h fun h env w=>by cases h; rfl
theorem pt_slc {fz:Bool} {a:E} {lo hi:Option E} (h:SE (.slc fz a lo hi)):ST (.slc fz a lo hi):=Bd h fun h env w=>by cases h; rfl
theorem pt_bcall {b:Bi} {fz:Bool} {es:List E} (h:SE (.bcall b fz es)):ST (.bcall b fz es):=Bd h fun h env w=>by cases h; rfl
theorem pt_fcall {m:Mode} {f:Nat} {es:List E} (h:SE (.fcall m f es)):ST (.fcall m f es):=Bd h fun h env w=>by cases h; rfl
theorem pt_meth {m:Meth} {fz:Bool} {o:E} {es:List E} (h:SE (.meth m fz o es)):ST (.meth m fz o es):=Bd h fun h env w=>by cases h; rfl
theorem pt_comp {fz:Bool} {elt:E} {ts:List Nat} {it:It} {ifs:List E} (h:SE (.comp fz elt ts it ifs)):ST (.comp fz elt ts it ifs):=Bd h fun h env w=>by cases h; rfl
theorem pt_sset {fz:Bool} {a:E} (h:SE (.sset fz a)):ST (.sset fz a):=Bd h fun h env w=>by cases h; rfl
mutual
theorem A7:∀ e:E,SE e/\ST e
 | .cst x=>⟨se_cst x,pt_cst x⟩
 | .var i=>⟨se_var i,pt_var i⟩
 | .ty t=>⟨se_ty t,pt_ty t⟩
 | .cls c=>⟨se_cls c,pt_cls c⟩
 | .glo x=>⟨se_glo x,pt_glo x⟩
 | .bin fz op a b=>⟨se_bin fz op (A7 a).1 (A7 b).1,pt_bin (se_bin fz op (A7 a).1 (A7 b).1)⟩
 | .neg a=>⟨se_neg (A7 a).1,pt_neg (se_neg (A7 a).1)⟩
 | .not a=>se_not (A7 a).2 (A7 a).1
 | .bop op es=>se_bop op (soundEs es)
 | .cmp op a b=>se_cmp op (A7 a).1 (A7 b).1
 | .cmp2 op op' a b c=>se_cmp2 op op' (A7 a).1 (A7 b).1 (A7 c).1
 | .tup es=>⟨se_tup (soundEs es).ses,pt_tup (se_tup (soundEs es).ses)⟩
 | .lst fz es=>⟨se_lst fz (soundEs es).ses,pt_lst (se_lst fz (soundEs es).ses)⟩
 | .sub a i=>⟨se_sub (A7 a).1 (A7 i).1,pt_sub (se_sub (A7 a).1 (A7 i).1)⟩
 | .slc fz a lo hi=>⟨se_slc fz (A7 a).1 (soundO lo) (soundO hi),pt_slc (se_slc fz (A7 a).1 (soundO lo) (soundO hi))⟩
 | .bcall b fz es=>⟨se_bcall b fz (soundEs es).ses,pt_bcall (se_bcall b fz (soundEs es).ses)⟩
 | .fcall m f es=>⟨se_fcall m f (soundEs es).ses,pt_fcall (se_fcall m f (soundEs es).ses)⟩
 | .meth m fz o es=>⟨se_meth m fz (A7 o).1 (soundEs es).ses,pt_meth (se_meth m fz (A7 o).1 (soundEs es).ses)⟩
 | .comp fz elt ts it ifs=>⟨se_comp fz ts (soundI it) (A7 elt).1 (soundEs ifs),pt_comp (se_comp fz ts (soundI it) (A7 elt).1 (soundEs ifs))⟩
 | .sset fz a=>⟨se_sset fz (ses_cons (A7 a).1 (Gf.ses (es:=[]) trivial)),pt_sset (se_sset fz (ses_cons (A7 a).1 (Gf.ses (es:=[]) trivial)))⟩
theorem soundEs:∀ es:List E,Gf es
 | []=>trivial
 | e::r=>⟨A7 e,soundEs r⟩
theorem soundO:∀ o:Option E,SO o
 | none=>so_none
 | some e=>so_some (A7 e).1
theorem soundI:∀ it:It,SI it
 | .of e=>si_of (A7 e).1
 | .range es=>si_range (soundEs es).ses
 | .zip a b=>si_zip (A7 a).1 (A7 b).1
 | .enum a=>si_enum (A7 a).1
end
inductive BH (T:Top) (K:Kx) (fe:List Env) (own:List Addr) (env:Env) (g:G) (s:Shared) (ρ:Au) (as:List Nat) (r:Res Fl) (f:Flow) (s':Shared):Prop
 | mk (fl:Fl) (σ':Store) (g':G) (e:r=.ok fl σ') (st:Step T (g.mu++own) (Af fe) g s g' σ' s') (h:match fl with
  | .next ρ'=>f=.next/\Inv T fe own K.wr env K.vars ρ' g' σ' s'.heap/\∀ i,i∉as->ρ'[i]? = ρ[i]?
  | .ret v=>∃ x,f=.ret x/\Aj T g' v x/\∃ ρ',Inv T fe own K.wr env K.vars ρ' g' σ' s'.heap):BH T K fe own env g s ρ as r f s'
inductive Bb (T:Top) (K:Kx) (fe:List Env) (own:List Addr) (env:Env) (g:G) (s:Shared) (ρ:Au) (as:List Nat) (r:Res Fl) (x:Value) (s':Shared):Prop
 | mk (c:Nat) (σ':Store) (g':G) (ρ':Au) (e:r=.exc c σ') (st:Step T (g.mu++own) (Af fe) g s g' σ' s') (fl:CC T g' s'.heap s.heap c x PAny) (I:Inv T fe own K.wr env K.vars ρ' g' σ' s'.heap) (h:∀ i,i∉as->ρ'[i]? = ρ[i]?):Bb T K fe own env g s ρ as r x s'
noncomputable def SS (st:S):Prop:=∀ {T:Top} {K:Kx} {C:Cfg} {fe outer:List Env} {own:List Addr} {env:Env} {A:Around} {n:Nat} {ρ:Au} {g:G} {σ:Store} {s:Shared} (x:Stmt),
 IsS st K x->fe=env::outer->Cx T K C fe env A n->Inv T fe own K.wr env K.vars ρ g σ s.heap->HOk g A->CK C st ρ σ≠.bad ->
 wpAny (model T.prog T.w) A (exec x env) (BH T K fe own env g s ρ (EW st) (CK C st ρ σ)) (Bb T K fe own env g s ρ (EW st) (CK C st ρ σ)) s
noncomputable def SSs (l:List S):Prop:=∀ {T:Top} {K:Kx} {C:Cfg} {fe outer:List Env} {own:List Addr} {env:Env} {A:Around} {n:Nat} {ρ:Au} {g:G} {σ:Store} {s:Shared} (xs:List Stmt),
 IsSs l K xs->fe=env::outer->Cx T K C fe env A n->Inv T fe own K.wr env K.vars ρ g σ s.heap->HOk g A->execSs C l ρ σ≠.bad ->
 wpAny (model T.prog T.w) A (execs xs env) (BH T K fe own env g s ρ (asgAll l) (execSs C l ρ σ)) (Bb T K fe own env g s ρ (asgAll l) (execSs C l ρ σ)) s
section
variable {T:Top} {K:Kx} {C:Cfg} {fe outer:List Env} {own:List Addr} {env:Env} {A:Around} {n:Nat} {ρ ρ1:Au} {g g₁:G} {σ σ1:Store} {s s₁ s':Shared} {as as':List Nat} {r r':Res Fl}
theorem BH.after (st:Step T (g.mu++own) (Af fe) g s g₁ σ1 s₁) (ha:∀ i,i∉as->ρ1[i]? = ρ[i]?) (hr:r=r') {f:Flow}
 (h:BH T K fe own env g₁ s₁ ρ1 as r f s'):BH T K fe own env g s ρ as r' f s':=by
 subst hr
 obtain ⟨fl,σ',g',e,st',h⟩:=h
 refine ⟨fl,σ',g',e,st.transO st',?_⟩
 induction fl with
 | next ρ'=>exact ⟨h.1,h.2.1,fun i hi=>(h.2.2 i hi).trans (ha i hi)⟩
 | ret v=>exact h
theorem Bb.after (st:Step T (g.mu++own) (Af fe) g s g₁ σ1 s₁) (ha:∀ i,i∉as->ρ1[i]? = ρ[i]?) (hr:r=r') {x:Value}
 (h:Bb T K fe own env g₁ s₁ ρ1 as r x s'):Bb T K fe own env g s ρ as r' x s':=by
 subst hr
 obtain ⟨c,σ',g',ρ',e,st',fl,I,h⟩:=h
 exact ⟨c,σ',g',ρ',e,st.transO st',fl.le (fun _ e=>st.kept.dead e) fun _ h=>h,I,fun i hi=>(h i hi).trans (ha i hi)⟩
theorem BH.wide {f:Flow} (hs:∀ i,i∈as'->i∈as) (h:BH T K fe own env g s ρ as' r f s'):BH T K fe own env g s ρ as r f s':=by
 obtain ⟨fl,σ',g',e,st',h⟩:=h
 refine ⟨fl,σ',g',e,st',?_⟩
 induction fl with
 | next ρ'=>exact ⟨h.1,h.2.1,fun i hi=>h.2.2 i fun q=>hi (hs i q)⟩
 | ret v=>exact h
theorem Bb.wide {x:Value} (hs:∀ i,i∈as'->i∈as) (h:Bb T K fe own env g s ρ as' r x s'):Bb T K fe own env g s ρ as r x s':=by
 obtain ⟨c,σ',g',ρ',e,st',fl,I,h⟩:=h
 exact ⟨c,σ',g',ρ',e,st',fl,I,fun i hi=>h i fun q=>hi (hs i q)⟩
theorem Bb.ofE {α:Type} {re:Res α} {r:Res Fl} (I:Inv T fe own K.wr env K.vars ρ g σ s.heap) (he:∀ c σ',re=.exc c σ'->r=.exc c σ') {x:Value}
 (h:ExR T (Af fe) env.frame g s (re) x s'):Bb T K fe own env g s ρ as r x s':=by
 obtain ⟨c,σ',g',e,st,fl⟩:=h
 exact ⟨c,σ',g',ρ,he c σ' e,st.toO,fl.le (fun _ h=>h) fun _ _=>trivial,I.step st,fun _ _=>rfl⟩
theorem DQ {v:Expr} (h:CH v=true) (t:Option Expr) (l:Nat) (env:Env):swapsWith v t l env=pure false:=by
 unfold swapsWith
 cases v <;> first | rfl | exact ff_ h
theorem ss_ret (e:E):SS (.ret e):=by
 intro T K C fe outer own env A n ρ g σ s x hc hfe cx I hH hr
 induction hc with
 | @mk v p hc =>
  rw [arm_exec_Return]
  rw [xA_10] at hr ⊢
  refine wpAny_bind (wpAny_standAt ?_)
  refine wpAny_bind (wpAny_mono ((A7 e).1 _ hc cx I hH (AH hr)) (fun v s₁ ⟨b,σ1,g₁,e1,st1,r₁⟩=>wpAny_pure ?_) fun _ _ h=>.ofE I (fun c σ' q=>by rw [q]; rfl) h)
  exact ⟨.ret b,σ1,g₁,by rw [e1]; rfl,st1.toO,v,rfl,r₁,ρ,I.step st1⟩
theorem drop_any {prog:Program} {w:World} {A:Around} {s:Shared} {Q:Flow->Shared->Prop} {E:Value->Shared->Prop} {e:Expr} {p:Pos} {v:Value} (h:Q .next s):wpAny (model prog w) A (dropValue e p v) Q E s:=by
 have key:∀ a,wpAny (model prog w) A (dropValue (.List [] default) p (.ref a)) Q E s:=fun a=>by
  refine wpAny_bind (wpAny_standAt (wpAny_bind (wpAny_runValue (codeAny_builtin entry_let_go ?_))))
  unfold Builtin.«proto.let_go»
  exact wpAny_pure (wpAny_pure h)
 have key2:wpAny (model prog w) A (dropValue (.List [] default) p v) Q E s:=by
  cases v <;> first | exact wpAny_pure h | exact key _
 have to:∀ t,t=dropValue (.List [] default) p v->wpAny (model prog w) A t Q E s:=fun t e=>e▸key2
 cases e <;> first | exact wpAny_pure h | exact to _ (by kernel_rfl)
theorem ss_exp (e:E):SS (.exp e):=by
 intro T K C fe outer own env A n ρ g σ s x hc hfe cx I hH hr
 induction hc with
 | @mk v p h1 h2 =>
  rw [arm_exec_Expr]
  rw [xA_6] at hr ⊢
  refine wpAny_bind (wpAny_standAt ?_)
  have hi:interactive env=false:=by unfold interactive; rw [I.blk.kind]; rfl
  rw [hi]
  show wpAny _ _ (swapsWith v none p.line env>>=_) _ _ _
  rw [DQ h2,pure_bind]
  simp only [Bool.false_eq_true,if_false]
  refine wpAny_bind (wpAny_mono ((A7 e).1 _ h1 cx I hH (AH hr)) (fun v s₁ hz_=>?_) fun _ _ h=>.ofE I (fun c σ' q=>by rw [q]; rfl) h)
  obtain ⟨b,σ1,g₁,e1,st1,r₁⟩:=hz_
  have fin:BH T K fe own env g s ρ (EW (.exp e)) ((Ac C e ρ σ).bind fun _ σ=>.ok (.next ρ) σ) .next s₁:=⟨.next ρ,σ1,g₁,by rw [e1]; rfl,st1.toO,rfl,I.step st1,fun _ _=>rfl⟩
  exact drop_any fin
theorem ss_nil:SSs []:=by
 intro T K C fe outer own env A n ρ g σ s xs hc hfe cx I hH hr
 cases hc
 (first | rw [xB_1] | rw [DJ])
 exact wpAny_execs_nil ⟨_,σ,g,rfl,.refl I.st,rfl,I,fun _ _=>rfl⟩
theorem ss_cons {st:S} {l:List S} (h1:SS st) (h2:SSs l):SSs (st::l):=by
 intro T K C fe outer own env A n ρ g σ s xs hc hfe cx I hH hr
 induction hc with
 | @mk x t c1 c2 =>
  (first | rw [xB_1] at hr ⊢ | rw [DJ] at hr ⊢)
  rw [execs_cons]
  have wide:∀ i,i∈EW st->i∈asgAll (st::l):=fun i h=>show i∈_++_ from List.mem_append.mpr (.inl h)
  have wide':∀ i,i∈asgAll l->i∈asgAll (st::l):=fun i h=>show i∈_++_ from List.mem_append.mpr (.inr h)
  refine wpAny_bind (wpAny_mono (h1 x c1 hfe cx I hH (AH hr)) (fun f s₁ hz_=>?_) fun q s' hz_=>by obtain ⟨c,σ',g',ρ',e',st',fl,I',hv⟩:=hz_; exact ⟨c,σ',g',ρ',by rw [e']; rfl,st',fl,I',fun i hi=>hv i fun q=>hi (wide i q)⟩)
  obtain ⟨fl,σ1,g₁,e1,st1,hf⟩:=hz_
  rw [e1] at hr
  induction fl with
  | ret v =>
   obtain ⟨y,rfl,ry⟩:=hf
   exact wpAny_pure ⟨.ret v,σ1,g₁,by rw [e1]; rfl,st1,y,rfl,ry⟩
  | next ρ1 =>
   obtain ⟨rfl,I1,hv⟩:=hf
   have hv':∀ i,i∉asgAll (st::l)->ρ1[i]? = ρ[i]?:=fun i hi=>hv i fun q=>hi (wide i q)
   have er:execSs C l ρ1 σ1=(CK C st ρ σ).bind fun f σ=>(match f with | .next ρ=>execSs C l ρ σ | .ret v=>.ok (.ret v) σ):=by rw [e1]; rfl
   refine wpAny_mono (h2 t c2 hfe cx I1 (hH.mono st1.le) hr) (fun f s' h=>?_) fun q s' h=>?_
   ·exact BH.after st1 hv' er (h.wide wide')
   ·exact Bb.after st1 hv' er (h.wide wide')
end
section
variable {T:Top} {K:Kx} {C:Cfg} {fe outer:List Env} {own:List Addr} {env:Env} {A:Around} {n:Nat} {ρ:Au} {g:G} {σ:Store} {s:Shared}
theorem asg_comp {fz:Bool} {elt:E} {ts:List Nat} {it:It} {ifs:List E} {k:Nat} {nm:Str} {p p' vp:Pos} {x t i:Expr} {cs:List Expr} {sc:Scope} (hc:IsE (.comp fz elt ts it ifs) K (.ListComp x [⟨t,i,cs,0⟩] sc vp)) (hw:K.canWr k nm=true)
 (hl:K.names.lookup nm=some .local) (hp:p.line=vp.line) (hs:(sc.names.any fun q=>q.1 == nm&&(q.2 == .local||q.2 == .cell))=false) (hfe:fe=env::outer) (cx:Cx T K C fe env A n) (I:Inv T fe own K.wr env K.vars ρ g σ s.heap) (hH:HOk g A)
 (hr:(Ac C (.comp fz elt ts it ifs) ρ σ).bind (fun v σ=>Res.ok (Fl.next (ρ.set k (some v))) σ)≠.bad) :
 wpAny (model T.prog T.w) A (exec (.Assign [.Name nm p] (.ListComp x [⟨t,i,cs,0⟩] sc vp) p') env) (BH T K fe own env g s ρ [k] ((Ac C (.comp fz elt ts it ifs) ρ σ).bind fun v σ=>.ok (.next (ρ.set k (some v))) σ))
  (Bb T K fe own env g s ρ [k] ((Ac C (.comp fz elt ts it ifs) ρ σ).bind fun v σ=>.ok (.next (ρ.set k (some v))) σ)) s:=by
 cases hc with
 | @mk x t i cs sc pos h1 h2 h3 h4 h5 h6 =>
 obtain ⟨h3,h7⟩:=h3
 rw [arm_exec_Assign]
 refine wpAny_bind (wpAny_standAt ?_)
 show wpAny _ _ (swapsWith (.ListComp x [⟨t,i,cs,0⟩] sc vp) (some (.Name nm p)) p'.line env>>=_) _ _ _
 have hb:(env.blockKind == .function)=true:=by unfold Env.blockKind; rw [I.blk.kind]; rfl
 have hk:(env.kindOf nm == some .local)=true:=by rw [AL cx.names,hl]; rfl
 have hsw:swapsWith (.ListComp x [⟨t,i,cs,0⟩] sc vp) (some (.Name nm p)) p'.line env=pure true:=by
  unfold swapsWith
  show (pure (env.blockKind == .function&&env.kindOf nm == some .local&&p.line == vp.line && !(sc.names.any fun q=>q.1 == nm&&(q.2 == .local||q.2 == .cell))):Sem Bool)=_
  rw [hb,hk,hp,hs]; simp
 rw [hsw,pure_bind]
 simp only [if_true]
 have hall:∀ v,assignAll v [assign (.Name nm p) env]=(assign (.Name nm p) env v):=fun v=>by
  first | rfl | (unfold assignAll; rfl)
 show wpAny _ _ ((comprehension (.ListComp x [⟨t,i,cs,0⟩] sc vp) sc env (firstIterPos [⟨t,i,cs,0⟩] vp) (newList []) false (eval i env) (some fun v=>assignAll v [assign (.Name nm p) env])>>=fun _=>pure ())>>=fun _=>pure Flow.next) _ _ _
 have hne:=AH hr
 rw [E6] at hne
 refine wpAny_bind (wpAny_bind (wpAny_mono (comp_run (Q:=fun _ s'=>BH T K fe own env g s ρ [k] ((Ac C (.comp fz elt ts it ifs) ρ σ).bind fun v σ=>.ok (.next (ρ.set k (some v))) σ) .next s') (soundI it) (A7 elt).1 (soundEs ifs) h1 h2 h3 h7 h4 h5 h6 cx I hH hne (fun q s' h=>.ofE I (fun c σ' e=>?_) h) ?_) (fun _ s' h=>wpAny_pure (wpAny_pure h)) fun _ _ h=>h))
 rotate_left
 ·rw [E6,e]; rfl
 ·intro Cc D its ys xs g' σ' s' h' e hin hDn hCn hDa F
  show wpAny _ A (assignAll (.ref D) [assign (.Name nm p) env]) _ _ _
  rw [hall]
  have hwk:A2 fz ys σ'≠.bad:=fun q=>hne (by rw [e]; exact q)
  have stp:=F.step.rest (its:=its) (h':=h') (fun c hc=>(F.lone c hc).1) hin F.hk
  obtain ⟨mm,hDo⟩:=F.list
  have hDi:D∉its:=fun q=>(F.lone D q).2 (List.mem_cons_self ..)
  have hDo':=F.hk D _ hDi hDo
  obtain ⟨v,σ'',g'',e1,e2,e3,e4,e5,e6⟩:=made_own (fz:=fz) stp.st ⟨F.ap.1,F.ap.2.1,_,hDo'⟩ hDo' F.rep hwk
  have S2:Step T g.mu (Af fe) g s g'' σ'' { s' with heap:=h' }:=by
   refine ⟨stp.le.trans e3,e2,stp.kept,⟨fun c hc=>?_,fun c o hc=>?_⟩,stp.gens,stp.os⟩
   ·rcases e5 c hc with q | q
    ·exact stp.new.mu c q
    ·exact .inr (q▸hDn)
   ·rcases e6 c o hc with q | q
    ·exact stp.new.fz c o q
    ·exact .inr (.inl (q▸hDn))
  have I2:=I.step S2
  have hCa:Cc∈B0 fe [Cc] (compEnvC sc (BW env sc.names []) Cc env):=List.mem_append.mpr (.inr (List.mem_append.mpr (.inl (List.mem_singleton.mpr rfl))))
  have hDC:D≠Cc:=fun q=>hDa (q▸hCa)
  have hCi:Cc∉its:=fun q=>(F.lone Cc q).2 (List.mem_cons_of_mem _ hCa)
  have apC:=F.inv.oap Cc (List.mem_singleton.mpr rfl)
  have nz:g''.fz Cc=none:=by
   induction q:g''.fz Cc with
   | none=>rfl
   | some o =>
    rcases e6 Cc o q with q | q
    ·exact Ab ((Eq.symm (apC.1)).trans q)
    ·exact absurd q.symm hDC
  have nm':Cc∉g''.mu:=fun q=>(e5 Cc q).elim apC.2.1 fun q=>hDC q.symm
  have nav:Cc∉B0 fe own env:=fun q=>by
   obtain ⟨o,eo⟩:=(I.avAp Cc q).2.2
   exact Ab (hCn.symm.trans eo)
  refine D8 (fs:=Af fe) I2 cx.names hw e4 fun s3 st3 I3=>?_
  obtain ⟨m,hm⟩:=F.inv.blk.ns
  obtain ⟨o,es,ep,ho,rr⟩:=hm
  have ho':=F.hk Cc o hCi ho
  have ho3:s3.heap.get? Cc=some o:=st3.kept.same Cc o ho' (fun q=>(List.mem_append.mp q).elim nm' fun q=>nav (List.mem_append.mpr (.inr (List.mem_append.mpr (.inl q))))) fun q=>nav (List.mem_append.mpr (.inl q))
  refine ⟨m,⟨o,es,ep,ho3,rr⟩,fun h'' hs''=>?_⟩
  have kk:∀ c o,c∉[Cc]->s3.heap.get? c=some o->h''.get? c=some o:=fun c o hc e=>(hs''.2 c fun q=>hc (by rw [q]; exact List.mem_singleton.mpr rfl)).trans e
  have S4:=(S2.toO.transO st3).rest (its:=[Cc]) (h':=h'') (fun c hc=>by rw [List.mem_singleton.mp hc]; exact ⟨nz,nm'⟩) (fun c hc=>by rw [List.mem_singleton.mp hc]; exact hCn) kk
  have I4:=Inv.near (its:=[Cc]) (h':=h'') I3 (fun c hc=>by rw [List.mem_singleton.mp hc]; exact ⟨nz,nm'⟩) (fun c hc=>by rw [List.mem_singleton.mp hc]; exact nav) (CQ.of_same kk)
  refine ⟨.next (ρ.set k (some v)),σ'',g'',by rw [E6,e,e1]; rfl,S4,rfl,I4,fun j hj=>?_⟩
  exact List.getElem?_set_ne fun q=>hj (List.mem_singleton.mpr q.symm)
theorem ss_asg (i:Nat) (e:E):SS (.asg i e):=by
 intro T K C fe outer own env A n ρ g σ s x hc hfe cx I hH hr
 induction hc with
 | @mk nm p v p' h1 h2 h3 =>
  by_cases hnc:CH v=true
  case neg =>
   rw [Bool.not_eq_true _ |>.mp hnc,Bool.false_or] at h3
   cases v with
   | ListComp x gs sc vp =>
    have h9:(decide (K.names.lookup nm=some .local)&&(decide (p.line=vp.line) && !(sc.names.any fun q=>q.1 == nm&&(q.2 == .local||q.2 == .cell))))=true:=h3
    rw [Bool.and_eq_true,Bool.and_eq_true,Bool.not_eq_true',decide_eq_true_eq,decide_eq_true_eq] at h9
    rw [xA_1] at hr ⊢
    cases e with
    | comp fz elt ts it ifs =>
     have h2':=h2
     cases h2' with
     | @mk x t j cs sc vp k1 k2 k3 k4 k5 k6=>exact asg_comp h2 h1 h9.1 h9.2.1 h9.2.2 hfe cx I hH hr
    | _=>exfalso; cases h2
   | _=>exact ff_ h3
  case pos =>
  rw [arm_exec_Assign]
  rw [xA_1] at hr ⊢
  refine wpAny_bind (wpAny_standAt ?_)
  show wpAny _ _ (swapsWith v (some (.Name nm p)) p'.line env>>=_) _ _ _
  rw [DQ hnc,pure_bind]
  simp only [Bool.false_eq_true,if_false]
  refine wpAny_bind (wpAny_mono ((A7 e).1 _ h2 cx I hH (AH hr)) (fun xv s₁ hz_=>?_) fun _ _ h=>.ofE I (fun c σ' q=>by rw [q]; rfl) h)
  obtain ⟨b,σ1,g₁,e1,st1,r₁⟩:=hz_
  have hsw:swappedStores [.Name nm p] v env=pure none:=by unfold swappedStores; rfl
  rw [hsw,pure_bind]
  unfold assignStores
  show wpAny _ _ (assignAll xv [assign (.Name nm p) env]>>=fun _=>pure Flow.next) _ _ _
  have I1:=I.step st1
  have hall:assignAll xv [assign (.Name nm p) env]=(assign (.Name nm p) env xv):=by
   first | rfl | (unfold assignAll; rfl)
  rw [hall]
  refine wpAny_bind (D8 (fs:=Af fe) I1 cx.names h1 r₁ fun s2 st2 I2=>wpAny_pure ?_)
  refine ⟨.next (ρ.set i (some b)),σ1,g₁,by rw [e1]; rfl,st1.toO.transO st2,rfl,I2,fun j hj=>?_⟩
  exact List.getElem?_set_ne fun q=>hj (List.mem_singleton.mpr q.symm)
end
section
variable {T:Top} {K:Kx} {C:Cfg} {fe outer:List Env} {own:List Addr} {env:Env} {A:Around} {n:Nat} {ρ ρ1:Au} {g g₁:G} {σ σ1:Store} {s s₁ s':Shared} {as as':List Nat} {r r':Res Fl}
theorem Fw (hfe:fe=env::outer) (I:Inv T fe own K.wr env K.vars ρ g σ s.heap):∃ L,env.frame=some L:=by
 have fr:=I.fr
 rw [hfe] at fr
 obtain ⟨_,⟨L,_,hf,_⟩,_⟩:=fr
 exact ⟨L,hf⟩
theorem Bb.came2 {A':Around} (hfe:fe=env::outer) (hfr':A'.frames=some fe) (I:Inv T fe own K.wr env K.vars ρ g σ s.heap) {x:Value} (h:Bb T K fe own env g s ρ as r x s') :
 notedBy (model T.prog T.w) A' env (fun e s''=>cameBackBy (model T.prog T.w) A env (Bb T K fe own env g s ρ as r) e s'') x s':=by
 obtain ⟨L,hL⟩:=Fw hfe I
 obtain ⟨c,σ',g',ρ',e,st,fl,I',hv⟩:=h
 have hfr:A'.frames=some (env::outer):=by rw [<-hfe]; exact hfr'
 have dead:∀ its:List Addr,(∀ a,a∈its->g'.fz a=none/\a∉g'.mu/\s.heap.get? a=none)->(∀ c,c∈its->c∉B0 fe own env):=fun its hi c hc q=>by
  obtain ⟨o,eo⟩:=(I.avAp c q).2.2
  exact Ab ((Eq.symm ((hi c hc).2.2)).trans eo)
 unfold notedBy
 refine FN (s₀:=s) hfr hL I'.st (by rw [<-hfe]; exact I'.fr) fl (fun a e=>st.kept.dead e) fun h₁ its1 nr1 hi1 fl1=>?_
 have nr1:CQ its1 (Af fe) s'.heap h₁:=by rw [hfe]; exact nr1
 have st1:=st.near I'.fr (fun a ha=>⟨(hi1 a ha).1,(hi1 a ha).2.1⟩) (fun a ha=>(hi1 a ha).2.2) nr1
 have I1:=I'.near (fun a ha=>⟨(hi1 a ha).1,(hi1 a ha).2.1⟩) (dead its1 hi1) nr1
 unfold cameBackBy
 refine wpAny_bind (CC.field (s:={ s' with heap:=h₁ }) fl1.tb fun tb=>?_)
 rw [if_neg (show ¬ ((Value.ref tb == Value.none)=true) from by simp)]
 show wpAny _ _ (setFlight x env.frame) _ _ _
 rw [hL]
 refine C7 (s:={ s' with heap:=h₁ }) (fs:=Af fe) fl1.tb fun h₂ its2 nr2 hi2 fl2=>?_
 have st2:=st1.near I1.fr (fun a ha=>⟨(hi2 a ha).1,(hi2 a ha).2.1⟩) (fun a ha=>(hi2 a ha).2.2) nr2
 have I2:=Inv.near (s:={ s' with heap:=h₁ }) I1 (fun a ha=>⟨(hi2 a ha).1,(hi2 a ha).2.1⟩) (dead its2 hi2) nr2
 exact ⟨c,σ',g',ρ',e,st2,fl2.le (fun _ h=>h) fun _ _=>trivial,I2,hv⟩
theorem Bb.came (hfe:fe=env::outer) (cx:Cx T K C fe env A n) (I:Inv T fe own K.wr env K.vars ρ g σ s.heap) {x:Value} (h:Bb T K fe own env g s ρ as r x s') :
 notedBy (model T.prog T.w) A env (fun e s''=>cameBackBy (model T.prog T.w) A env (Bb T K fe own env g s ρ as r) e s'') x s':=Bb.came2 hfe cx.ha.frames I h
theorem iteB {C:Cfg} {c:E} {a b:List S} {ρ:Au} {σ:Store}:CK C (.ite c a b) ρ σ=((Ac C c ρ σ).bind toB).bind fun q σ=>cond q (execSs C a ρ σ) (execSs C b ρ σ):=by
 rw [xA_7]
 cases Ac C c ρ σ with
 | ok v σ' =>
  dsimp only [Res.bind,toB]
  cases B2 σ' v with
  | none=>rfl
  | some q=>cases q <;> rfl
 | exc c σ'=>rfl
 | bad=>rfl
theorem ss_ite (c:E) {a b:List S} (ha:SSs a) (hb:SSs b):SS (.ite c a b):=by
 intro T K C fe outer own env A n ρ g σ s x hc hfe cx I hH hr
 induction hc with
 | @mk t x y p h1 h2 h3 =>
  rw [iteB] at hr ⊢
  have wa:∀ i,i∈asgAll a->i∈EW (.ite c a b):=fun i h=>show i∈_++_ from List.mem_append.mpr (.inl h)
  have wb:∀ i,i∈asgAll b->i∈EW (.ite c a b):=fun i h=>show i∈_++_ from List.mem_append.mpr (.inr h)
  refine wpAny_If ?_
  refine wpAny_mono ((A7 c).2 _ h1 cx I hH (AH hr)) (fun bb s₁ hz=>?_) fun q s' h=>.ofE I (fun cc σ' e'=>by rw [e']; rfl) h
  obtain ⟨b',σ1,g₁,e1,st1,r₁⟩:=hz
  obtain rfl:bb=b':=r₁
  rw [e1] at hr ⊢
  have I1:=I.step st1
  induction bb with
  | true=>exact wpAny_mono (ha x h2 hfe cx I1 (hH.mono st1.le) hr) (fun f s' h=>BH.after st1.toO (fun _ _=>rfl) rfl (h.wide wa)) fun q s' h=>Bb.after st1.toO (fun _ _=>rfl) rfl (h.wide wa)
  | false=>exact wpAny_mono (hb y h3 hfe cx I1 (hH.mono st1.le) hr) (fun f s' h=>BH.after st1.toO (fun _ _=>rfl) rfl (h.wide wb)) fun q s' h=>Bb.after st1.toO (fun _ _=>rfl) rfl (h.wide wb)
structure ForAt (T:Top) (K:Kx) (fe:List Env) (own:List Addr) (env:Env) (its:List Addr) (a:Addr) (hd b:Bool) (f:V->Au->Store->Res Fl) (whole:Res Fl) (as:List Nat) (ρ:Au) (g0:G) (s₀:Shared)
 (n:Nat) (vs:Src) (ρ1:Au) (g:G) (σ:Store) (s:Shared):Prop where
 eq:whole=E4 f n vs ρ1 σ
 step:Step T (g0.mu++own) (Af fe) g0 s₀ g σ s
 inv:Inv T fe own K.wr env K.vars ρ1 g σ s.heap
 it:Dp T (B0 fe own env) g s.heap hd b its a vs
 vars:∀ i,i∉as->ρ1[i]? = ρ[i]?
theorem ss_for (ts:List Nat) (it:It) {body:List S} (hb:SSs body):SS (.for_ ts it body):=by
 intro T K C fe outer own env A n ρ g σ s x hc hfe cx I hH hr
 induction hc with
 | @mk t i bd p h1 h2 h3 h4 =>
  rw [xA_8] at hr ⊢
  have hset:∀ y,foldedSetIterable i env y=pure y:=fun y=>by
   unfold foldedSetIterable
   cases i <;> first | rfl | exact ff_ h3
  have wt:∀ i,i∈ts->i∈EW (.for_ ts it body):=fun i h=>show i∈_++_ from List.mem_append.mpr (.inl h)
  have wb:∀ i,i∈asgAll body->i∈EW (.for_ ts it body):=fun i h=>show i∈_++_ from List.mem_append.mpr (.inr h)
  have exc:∀ (q:Value) (s':Shared),(ExR T (Af fe) env.frame g s (evalIt C it ρ σ) q s') ->
   Bb T K fe own env g s ρ (EW (.for_ ts it body)) ((evalIt C it ρ σ).bind fun vs σ=>E4 (AF C.hd ts (fun ρ σ=>execSs C body ρ σ)) (vs.fuel σ) vs ρ σ) q s' :=
   fun q s' h=>.ofE I (fun c σ' e=>by rw [e]; rfl) h
  refine wpAny_For ?_ hset
  refine wpAny_mono (soundI it i (B0 fe own env) h2 cx I hH (fun c hc=>(I.avAp c hc).2.2) (AH hr)) (fun xv s₁ h₁=>wpAny_mono h₁ (fun itv s2 hz_=>?_) exc) exc
  obtain ⟨vs,σ₂,g2,b,its,a,e2,st2,hv,it2,new2,hb2⟩:=hz_
  subst hv
  have e3:((evalIt C it ρ σ).bind fun vs σ=>E4 (AF C.hd ts (fun ρ σ=>execSs C body ρ σ)) (vs.fuel σ) vs ρ σ) =
   E4 (AF C.hd ts (fun ρ σ=>execSs C body ρ σ)) (vs.fuel σ₂) vs ρ σ₂:=by rw [e2]; rfl
  rw [e3] at hr ⊢
  generalize hF:AF C.hd ts (fun ρ σ=>execSs C body ρ σ)=F at hr ⊢
  generalize vs.fuel σ₂=nf at hr ⊢
  generalize hW:E4 F nf vs ρ σ₂=whole at hr ⊢
  refine codeAny_forLoop_any (I:=fun k s'=>∃ vs ρ1 g₁ σ1,ForAt T K fe own env its a C.hd b F whole (EW (.for_ ts it body)) ρ g s k vs ρ1 g₁ σ1 s') ?_ nf ⟨vs,ρ,g2,σ₂,hW.symm,st2.toO,I.step st2,it2,fun _ _=>rfl⟩
  rintro k s3 ⟨vs3,ρ3,g3,σ3,P⟩
  induction k with
  | zero=>exact absurd P.eq hr
  | succ k =>
  have eqk:whole=Gz (E4 F k) F ρ3 σ3 (vs3.next σ3):=P.eq
  have itl:∀ c,c∈its->g3.fz c=none/\c∉g3.mu:=fun c hc=>⟨(P.it.lone c hc).1.1,(P.it.lone c hc).1.2.1⟩
  have itn:∀ c,c∈its->c∉B0 fe own env:=fun c hc=>(P.it.lone c hc).2
  refine draw (fs:=Af fe) (target:=t) (hH.mono P.step.le) P.inv.st P.it ⟨cx.ha.handled,zip_tup h1.1 h1.2 hb2,fun q=>hr (by rw [eqk,q]; rfl),fun e h' hk=>?_,fun v rest e xv s4 lt=>?_⟩
  ·have e4:whole=.ok (.next ρ3) σ3:=by rw [eqk,e]; rfl
   refine wpAny_execs_nil ?_
   show BH T K fe own env g s ρ (EW (.for_ ts it body)) whole .next _
   exact ⟨.next ρ3,σ3,g3,e4,P.step.rest itl new2 hk,rfl,P.inv.rest itl itn hk,P.vars⟩
  ·refine lt _ _ fun g5 s5 st5 it5 r5=>?_
   have I5:=Inv.far st5 (fun c hc=>(List.mem_append.mp hc).imp id fun h=>itn c h) P.inv
   have S5:Step T (g.mu++own) (Af fe) g s g5 σ3 s5:=P.step.transW st5 fun c hc=>(List.mem_append.mp hc).elim (fun h=>(P.step.new.mu c h).imp (fun h=>List.mem_append.mpr (.inl h)) id) fun h=>.inr (new2 c h)
   have e5:whole=(F v ρ3 σ3).bind fun x σ=>(match x with | .next ρ=>E4 F k rest ρ σ | .ret y=>.ok (.ret y) σ):=by rw [eqk,e]; rfl
   induction eb:BG C.hd ρ3 ts v with
   | none=>exact absurd (by rw [e5,<-hF]; simp only [AF,eb]; rfl) hr
   | some ρ6 =>
   have e6:F v ρ3 σ3=execSs C body ρ6 σ3:=by rw [<-hF]; simp only [AF,eb]
   rw [e6] at e5
   refine G5 I5 cx.names cx.ha.handled h1.1 r5 eb fun s6 st6 I6=>?_
   have S6:=S5.transO st6
   have own_av:∀ c,c∈g5.mu++own->c∈g5.mu\/c∈B0 fe own env:=fun c hc=>(List.mem_append.mp hc).imp id fun h=>List.mem_append.mpr (.inr (List.mem_append.mpr (.inl h)))
   have fs_av:∀ c,c∈Af fe->c∈B0 fe own env:=fun c h=>List.mem_append.mpr (.inl h)
   have it6:=it5.step st6 own_av fs_av
   have V6:∀ i,i∉EW (.for_ ts it body)->ρ6[i]? = ρ[i]?:=fun i hi=>(F4 eb fun q=>hi (wt i q)).trans (P.vars i hi)
   refine wpAny_mono (hb bd h4 hfe cx I6 (hH.mono S6.le) fun q=>hr (by rw [e5,q]; rfl)) (fun f s7 ⟨fl,σ7,g7,e7,st7,hf⟩=>?_) fun q s' h=>?_
   ·rw [e7] at e5
    induction fl with
    | ret y =>
     obtain ⟨z,rfl,rz⟩:=hf
     exact ⟨.ret y,σ7,g7,e5,S6.transO st7,z,rfl,rz⟩
    | next ρ7 =>
     obtain ⟨rfl,I7,hv⟩:=hf
     exact ⟨k,Nat.lt_succ_self k,rest,ρ7,g7,σ7,e5,S6.transO st7,I7,it6.step st7 own_av fs_av,fun i hi=>(hv i fun q=>hi (wb i q)).trans (V6 i hi)⟩
   ·refine Bb.came hfe cx I ?_
    obtain ⟨c,σ',g',ρ',e',st',fl,I',hv⟩:=h
    exact ⟨c,σ',g',ρ',by rw [e5,e']; rfl,S6.transO st',fl.le (fun _ e=>S6.kept.dead e) fun _ h=>h,I',fun i hi=>(hv i fun q=>hi (wb i q)).trans (V6 i hi)⟩
end
section
variable {T:Top} {K:Kx} {C:Cfg} {fe outer:List Env} {own fs:List Addr} {env:Env} {A:Around} {n:Nat} {ρ ρ1:Au} {g g₁:G} {σ σ1:Store} {s s₁ s':Shared} {as as':List Nat} {r r':Res Fl} {Er:Value->Shared->Prop}
theorem bind_inv {α β:Type} {r:Res α} {f:α->Store->Res β} {b:β} {σ':Store} (h:r.bind f=.ok b σ'):∃ a σ1,r=.ok a σ1/\f a σ1=.ok b σ':=by
 cases r with
 | ok a σ=>exact ⟨a,σ,rfl,h⟩
 | exc c σ=>exact exc_ok h
 | bad=>exact bad_ok h
theorem evalEs_len {es:List E}:∀ {ρ:Au} {σ:Store} {vs:List V} {σ':Store},evalEs C es ρ σ=.ok vs σ'->vs.length=es.length:=by
 induction es with
 | nil=>intro ρ σ vs σ' h; cases (show Res.ok [] σ=.ok vs σ' from h); rfl
 | cons e es ih =>
  intro ρ σ vs σ' h
  obtain ⟨v,σ1,_,h⟩:=bind_inv (show (Ac C e ρ σ).bind _=_ from h)
  obtain ⟨ws,σ₂,h2,h⟩:=bind_inv (show (evalEs C es ρ σ1).bind _=_ from h)
  obtain ⟨rfl,rfl⟩:=ok_inj h
  exact congrArg (· + 1) (ih h2)
theorem ss_raise (c:Nat) (es:List E):SS (.raise c es):=by
 intro T K C fe outer own env A n ρ g σ s x hc hfe cx I hH hr
 induction hc with
 | @mk nm np vs cp p h1 h2 h3 =>
  obtain ⟨⟨h1,e⟩,h5,h6⟩:=h1
  ·skip
   rw [xA_11] at hr ⊢
   have hcls:∃ v,T.cls c=some v:=by
    obtain ⟨mg,mb,_,_,ht⟩:=cx.rd.ns
    obtain ⟨v,hv,_⟩:=ht nm _ e
    exact ⟨v,hv⟩
   obtain ⟨v,hv⟩:=hcls
   refine cx.rd.raise c v h5.1 hv A env s nm np cp p vs _ _ g hH (CB _ _ h2) ?_
   refine Cf cx I h1 e fun y hy=>?_
   have hy:T.cls c=some y:=hy
   rw [hv] at hy
   obtain rfl:=Option.some.inj hy
   refine ⟨rfl,Db h2 ?_⟩
   refine wpAny_mono ((soundEs es).ses _ cp h2 cx I hH (AH hr)) (fun xs s₁ hz_=>?_) fun _ _ h=>.ofE I (fun c σ' q=>by rw [q]; rfl) h
   obtain ⟨ws,σ1,g₁,e1,st1,r₁⟩:=hz_
   have hlen:xs.length<=sizeLine:=by
    rw [<-r₁.length,evalEs_len e1,<-B1]; unfold line; omega
   refine ⟨rfl,hlen,st1.st.keepsBase,fun b o q=>st1.st.fz b o (st1.le.fz b o q),fun h' ex oe ds hnew hk ho hcl hdi hda hv1 u hu hch hnn=>?_⟩
   have st2:Step T g₁.mu (Af fe) g₁ s₁ g₁ σ1 { s₁ with heap:=h' }:=.grow st1.st hk
   have hlt:=h5.2
   refine ⟨exNo C.hd c,σ1,g₁,ρ,by rw [e1]; rfl,(st1.trans st2).toO,⟨ex,oe,ds,rfl,ho,⟨?_,hdi⟩,hda,st1.st.fz_none hnew,st1.st.mu_none hnew,st1.kept.dead hnew,⟨u,hu,hch.mono st1.le,fun q=>?_⟩,.inl ⟨hv1,trivial⟩⟩,(I.step st1).step st2,fun _ _=>rfl⟩
   ·rw [hcl]
    induction C.hd with
    | false=>rw [show kl (exNo false c)=c from Nat.mod_eq_of_lt hlt]; exact hv
    | true=>rw [show kl (exNo true c)=c from (Nat.add_mod_right c 1000).trans (Nat.mod_eq_of_lt hlt)]; exact hv
   ·induction hd:C.hd with
    | false=>exact hnn (cx.ha.handled hd)
    | true=>rw [hd] at q; exact absurd q (Nat.not_lt.mpr (Nat.le_add_left 1000 c))
theorem not_tup_swap {es:List Expr} {k:Nat} {p:Pos} {v:Expr} (h:notTup v=true) (env:Env):swappedStores [.Tuple es k p] v env=pure none:=by
 unfold swappedStores
 cases v <;> first | rfl | exact ff_ h
theorem ss_unp (xs:List Nat) (e:E):SS (.unp xs e):=by
 intro T K C fe outer own env A n ρ g σ s x hc hfe cx I hH hr
 induction hc with
 | @mk es k p v p' h1 h2 h3 h4 =>
  rw [arm_exec_Assign]
  rw [xA_2] at hr ⊢
  refine wpAny_bind (wpAny_standAt ?_)
  show wpAny _ _ (swapsWith v (some (.Tuple es k p)) p'.line env>>=_) _ _ _
  rw [DQ h3,pure_bind]
  simp only [Bool.false_eq_true,if_false]
  refine wpAny_bind (wpAny_mono ((A7 e).1 _ h2 cx I hH (AH hr)) (fun xv s₁ hz_=>?_) fun _ _ h=>.ofE I (fun c σ' q=>by rw [q]; rfl) h)
  obtain ⟨b,σ1,g₁,e1,st1,r₁⟩:=hz_
  rw [not_tup_swap h4,pure_bind]
  unfold assignStores
  show wpAny _ _ (assignAll xv [assign (.Tuple es k p) env]>>=fun _=>pure Flow.next) _ _ _
  have I1:=I.step st1
  have hall:assignAll xv [assign (.Tuple es k p) env]=(assign (.Tuple es k p) env xv):=by
   first | rfl | (unfold assignAll; rfl)
  rw [hall]
  rw [e1] at hr ⊢
  simp only [okb] at hr ⊢
  induction eb:BG C.hd ρ xs b with
  | none=>rw [eb] at hr; exact absurd rfl hr
  | some ρ' =>
  refine wpAny_bind (G5 I1 cx.names cx.ha.handled h1 r₁ eb fun s2 st2 I2=>wpAny_pure ?_)
  exact ⟨.next ρ',σ1,g₁,rfl,st1.toO.transO st2,rfl,I2,fun j hj=>F4 eb hj⟩
end
noncomputable def SHs:List (Nat×Option Nat×List S)->Prop
 | []=>True
 | (_,_,body)::r=>SSs body/\SHs r
section
variable {T:Top} {K:Kx} {C:Cfg} {fe outer:List Env} {own fs X:List Addr} {env:Env} {A:Around} {n:Nat} {ρ ρ1:Au} {g g₁:G} {σ σ1:Store} {s s₁ s':Shared} {as as':List Nat} {r r':Res Fl} {Er:Value->Shared->Prop}
theorem Cx.held (cx:Cx T K C fe env A n) (x:Value):Cx T K { C with hd:=true } fe env (A.mark (some x)) n :=
 ⟨cx.rd,cx.names,⟨cx.ha.frames,cx.ha.depth,cx.ha.units,fun h=>by exact tt_ h⟩,cx.cf⟩
theorem freeze {e:Addr} {oe:Obj} {wr:List Str} (st:Step T X fs g s g₁ σ1 s₁) (I:Inv T fe own wr env K.vars ρ g₁ σ1 s₁.heap) (he:s₁.heap.get? e=some oe) (h1:g₁.fz e=none) (h2:e∉g₁.mu) (hn:s.heap.get? e=none) (ha:e∉B0 fe own env) :
 Step T X fs g s (g₁.put e oe) σ1 s₁/\Inv T fe own wr env K.vars ρ (g₁.put e oe) σ1 s₁.heap:=by
 have le:G.le g₁ (g₁.put e oe):=.put h1
 have st':St T (g₁.put e oe) σ1 s₁.heap:=by
  refine ⟨fun b x q=>?_,I.st.len,I.st.nd,fun b hb=>?_,fun k b x e1 e2=>?_,fun b x q=>le.fz b x (I.st.base b x q)⟩
  ·by_cases hb:b=e
   ·subst hb
    have q':(if b=b then some oe else g₁.fz b)=some x:=q
    obtain rfl:=Option.some.inj ((Eq.symm (if_pos rfl)).trans q'); exact he
   ·have q':(if b=e then some oe else g₁.fz b)=some x:=q
    rw [if_neg hb] at q'
    exact I.st.fz b x q'
  ·show (if b=e then some oe else g₁.fz b)=none
   rw [if_neg (fun (q:b=e)=>h2 (q▸hb))]
   exact I.st.ap b hb
  ·obtain ⟨y,k1,k2⟩:=I.st.ob k b x e1 e2
   exact ⟨y,k1,G6.mono le _ _ k2⟩
 refine ⟨⟨st.le.trans le,st',st.kept,⟨st.new.mu,fun b x q=>?_⟩,st.gens,st.os⟩,I.keep le st' (fun c hc=>?_) fun c o _ q=>⟨o.slots,q⟩⟩
 ·by_cases hb:b=e
  ·exact .inr (.inl (hb▸hn))
  ·have q':(if b=e then some oe else g₁.fz b)=some x:=q
   rw [if_neg hb] at q'
   exact st.new.fz b x q'
 ·obtain ⟨k1,k2,o,k3⟩:=I.avAp c hc
  refine ⟨?_,k2,o,k3⟩
  show (if c=e then some oe else g₁.fz c)=none
  rw [if_neg (fun (q:c=e)=>ha (q▸hc))]
  exact k1
theorem handle_sim:∀ {hs:List (Nat×Option Nat×List S)},SHs hs->∀ {T:Top} {K:Kx} {C:Cfg} {fe outer:List Env} {own:List Addr} {env:Env} {A:Around} {n:Nat} {ρ0 ρ:Au} {g g₁:G} {σ σ1:Store} {s s₁:Shared} {as:List Nat} {c:Nat} {x:Value} (l:List ExceptHandler),
 IsHs hs K l->fe=env::outer->Cx T K C fe env A n->Inv T fe own K.wr env K.vars ρ0 g σ s.heap->HOk g A->Step T (g.mu++own) (Af fe) g s g₁ σ1 s₁->Inv T fe own K.wr env K.vars ρ g₁ σ1 s₁.heap ->
 CC T g₁ s₁.heap s.heap c x (PAt .none)->(∀ i,i∉as->ρ[i]? = ρ0[i]?)->(∀ i,i∈asgHs hs->i∈as)->handle C hs c ρ σ1≠.bad ->
 wpAny (model T.prog T.w) A (handleBy x env l) (BH T K fe own env g s ρ0 as (handle C hs c ρ σ1)) (Bb T K fe own env g s ρ0 as (handle C hs c ρ σ1)) s₁:=by
 intro hs
 induction hs with
 | nil =>
  intro _ T K C fe outer own env A n ρ0 ρ g g₁ σ σ1 s s₁ as c x l hc hfe cx I hH st I1 fl hv _ hr
  cases hc
  obtain ⟨L,hL⟩:=Fw hfe I
  (first | rw [hA_1] | rw [hA_2])
  refine wpAny_handleBy_nil ?_
  unfold passOn
  refine wpAny_bind (fl.tb.field fun tb=>?_)
  rw [if_neg (show ¬ ((Value.ref tb == Value.none)=true) from by exact fun h=>nomatch h)]
  show wpAny _ _ (setFlight x env.frame>>=_) _ _ _
  rw [hL]
  refine wpAny_bind (C7 (fs:=Af fe) fl.tb fun h₂ its2 nr2 hi2 fl2=>wpAny_throw ?_)
  have dead:∀ a,a∈its2->a∉B0 fe own env:=fun a ha q=>by
   obtain ⟨o,eo⟩:=(I.avAp a q).2.2
   exact Ab ((Eq.symm ((hi2 a ha).2.2)).trans eo)
  exact ⟨c,σ1,g₁,ρ,rfl,st.near I1.fr (fun a ha=>⟨(hi2 a ha).1,(hi2 a ha).2.1⟩) (fun a ha=>(hi2 a ha).2.2) nr2,fl2.le (fun _ h=>h) fun _ _=>trivial,I1.near (fun a ha=>⟨(hi2 a ha).1,(hi2 a ha).2.1⟩) dead nr2,hv⟩
 | cons h0 r ih =>
  obtain ⟨k,nm,body⟩:=h0
  intro hS T K C fe outer own env A n ρ0 ρ g g₁ σ σ1 s s₁ as c x l hc hfe cx I hH st I1 fl hv has hr
  induction hc with
  | @mk cn np xn bd p t h1 h2 hne h3 h4 =>
   obtain ⟨h1,ek⟩:=h1
   ·skip
    have fl0:=fl
    obtain ⟨e,oe,vs,hx,q2,q3,q4,q5,q6,q7,q8,-⟩:=fl0
    subst hx
    (first | rw [hA_1] at hr ⊢ | rw [hA_2] at hr ⊢)
    have cx':=cx.held (.ref e)
    refine wpAny_handleBy_cons (codeAny_handlers_test (Cf cx' I1 h1 ek fun w hw=>?_)) (by intro q; cases q)
    have hw:T.cls k=some w:=hw
    induction hb:C.isExc c k with
    | none=>rw [hb] at hr; exact absurd rfl hr
    | some b =>
    refine cx.rd.catch_ c k b w hb hw _ _ _ _ e oe I1.st.keepsBase q2 ⟨q3.1,q3.2,vs,q4⟩ ?_
    rw [hb] at hr
    induction b with
    | false =>
     exact ih hS.2 t h4 hfe cx I hH st I1 fl hv (fun i hi=>has i (by unfold asgHs; exact List.mem_append.mpr (.inr hi))) hr
    | true =>
     dsimp only at hr ⊢
     have eav:∀ {its:List Addr},(∀ a,a∈its->g₁.fz a=none/\a∉g₁.mu/\s.heap.get? a=none)->∀ a,a∈its->a∉B0 fe own env:=fun hi a ha q=>by
      obtain ⟨o,eo⟩:=(I.avAp a q).2.2
      exact Ab ((Eq.symm ((hi a ha).2.2)).trans eo)
     obtain ⟨b0,bs,rfl⟩:∃ b0 bs,bd=b0::bs:=by
      induction bd with
      | nil=>exact absurd rfl hne
      | cons b0 bs=>exact ⟨b0,bs,rfl⟩
     have land:∀ {Q:Unit->Shared->Prop} {E':Value->Shared->Prop},(∀ s2 g2,Step T (g.mu++own) (Af fe) g s g2 σ1 s2->Inv T fe own K.wr env K.vars ρ g2 σ1 s2.heap->HOk g2 (A.mark (some (.ref e)))->Aj T g2 (.exc c) (.ref e)->Q () s2) ->
      wpAny (model T.prog T.w) (A.mark (some (.ref e))) (setFlight (.ref e) none) Q E' s₁:=fun {Q E'} hQ=>by
      refine C7 (L:=none) (fs:=Af fe) fl.tb fun h₂ its2 nr2 hi2 fl2=>?_
      have st2:=st.near I1.fr (fun a ha=>⟨(hi2 a ha).1,(hi2 a ha).2.1⟩) (fun a ha=>(hi2 a ha).2.2) nr2
      have I2:=I1.near (fun a ha=>⟨(hi2 a ha).1,(hi2 a ha).2.1⟩) (eav hi2) nr2
      obtain ⟨e',oe',vs',hx',k2,k3,k4,k5,k6,k7,k8,-⟩:=fl2
      obtain rfl:=PySem.Value.ref.inj hx'
      obtain ⟨st3,I3⟩:=freeze st2 I2 k2 k5 k6 k7 (fun q=>by obtain ⟨o,eo⟩:=(I.avAp _ q).2.2; exact Ab (k7.symm.trans eo))
      obtain ⟨u,hu1,hu2,_⟩:=k8
      refine hQ _ _ st3 I3 (.inr ⟨e,rfl,.one G.put_self k4 hu1 (hu2.mono (.put k5))⟩) ⟨e,oe',rfl,G.put_self,k3.1,k3.2,vs',k4⟩
     have wb:∀ i,i∈asgAll body->i∈as:=fun i hi=>has i (by unfold asgHs; exact List.mem_append.mpr (.inl (List.mem_append.mpr (.inr hi))))
     induction nm with
     | none =>
      cases h3
      refine codeAny_handlers_suite (land fun s2 g2 st2 I2 H2 r2=>?_)
      dsimp only at hr ⊢
      refine wpAny_mono (hS.1 (b0::bs) h2 hfe cx' I2 H2 hr) (fun f s3 hz_=>?_) fun q s3 hz_=>by obtain ⟨cc,σ3,g3,ρ3,e3,st3,fl3,I3,hv3⟩:=hz_; exact Bb.came2 hfe cx'.ha.frames I ⟨cc,σ3,g3,ρ3,e3,st2.transO st3,fl3.le (fun a e=>st2.kept.dead e) (fun _ h=>h),I3,fun i hi=>(hv3 i fun q=>hi (wb i q)).trans (hv i hi)⟩
      obtain ⟨f',σ3,g3,e3,st3,hf⟩:=hz_
      rw [e3]
      refine ⟨f',σ3,g3,rfl,st2.transO st3,?_⟩
      induction f' with
      | next ρ'=>exact ⟨hf.1,hf.2.1,fun i hi=>(hf.2.2 i fun q=>hi (wb i q)).trans (hv i hi)⟩
      | ret v=>exact hf
     | some i =>
      cases h3 with
      | @yes _ m hw1 hw2 =>
      obtain ⟨v1,v2,v3⟩:=canWr_ok cx.names hw1
      have hloc:env.kindOf m=some .local:=by
       rw [AL cx.names]; exact hw2
      have ias:i∈as:=has i (by unfold asgHs; exact List.mem_append.mpr (.inl (List.mem_append.mpr (.inl (by exact .head _)))))
      refine codeAny_handlers_suite_as (land fun s2 g2 st2 I2 H2 r2=>?_)
      refine Fo (fs:=Af fe) I2 v1 v2 v3 r2 fun s3 st3 I3=>?_
      dsimp only at hr ⊢
      have hrb:execSs { C with hd:=true } body (ρ.set i (some (.exc c))) σ1≠.bad:=fun q=>hr (by rw [q])
      refine wpAny_mono (hS.1 (b0::bs) h2 hfe cx' I3 H2 hrb) (fun f s4 hz_=>?_) fun q s4 hz_=>by obtain ⟨cc,σ4,g4,ρ4,e4,_,_,_,_⟩:=hz_; exact absurd (by rw [e4]) hr
      obtain ⟨f',σ4,g4,e4,st4,hf⟩:=hz_
      have S4:Step T (g.mu++own) (Af fe) g s g4 σ4 s4:=(st2.transO st3).transO st4
      rw [e4]
      have gone:∀ ρ4 (I4:Inv T fe own K.wr env K.vars ρ4 g4 σ4 s4.heap) (Q:Unit->Shared->Prop),(∀ s5,Step T (g.mu++own) (Af fe) g s g4 σ4 s5->Inv T fe own K.wr env K.vars (ρ4.set i none) g4 σ4 s5.heap->Q () s5) ->
       ∀ E',wpAny (model T.prog T.w) A (bindName env m .none>>=fun _=>unbindBehindTheSuite env m p) Q E' s4:=fun ρ4 I4 Q hQ E'=>by
       obtain ⟨m0,hm0⟩:=I4.blk.ns
       refine wpAny_bind (wpAny_bindName (wpAny_storeName_local hloc hm0 (fun h5 hn5 hs5=>?_) (Dj I4.blk.kind)))
       obtain ⟨I5,stp5⟩:=Inv.setLocal (fs:=Af fe) (v:=some (.d .none)) I4 v1 hloc hm0 hn5 hs5 (fun w q=>⟨.none,rfl,by cases q; rfl⟩)
       have st5:=stp5 { s4 with heap:=h5,toks:=s4.toks+1 } rfl rfl rfl
       unfold unbindBehindTheSuite
       refine wpAny_onRaise (wpAny_unbindName_local (v:=.none) hloc hn5 (by simp) (Dj I5.blk.kind) fun h' u hn' hs'=>?_)
       obtain ⟨I6,stp⟩:=Inv.setLocal (s:={ s4 with heap:=h5,toks:=s4.toks+1 }) (fs:=Af fe) (v:=none) I5 v1 hloc hn5 hn' hs' (fun w q=>by exact Ab q)
       refine hQ _ ((S4.transO st5).transO (stp _ rfl rfl rfl)) ?_
       have eset:(ρ4.set i (some (.d .none))).set i none=ρ4.set i none:=List.set_set ..
       rw [<-eset]; exact I6
      induction f' with
      | next ρ' =>
       obtain ⟨rfl,I4,hv4⟩:=hf
       refine gone ρ' I4 _ (fun s5 S5 I5=>⟨.next (ρ'.set i none),σ4,g4,rfl,S5,rfl,I5,fun j hj=>?_⟩) _
       have hji:i≠j:=fun q=>hj (q▸ias)
       rw [List.getElem?_set_ne hji,hv4 j fun q=>hj (wb j q),List.getElem?_set_ne hji]
       exact hv j hj
      | ret v =>
       obtain ⟨y,rfl,ry,ρ',I4⟩:=hf
       exact gone ρ' I4 _ (fun s5 S5 I5=>⟨.ret v,σ4,g4,rfl,S5,y,rfl,ry,_,I5⟩) _
end
section
variable {T:Top} {K:Kx} {C:Cfg} {fe outer:List Env} {own fs X:List Addr} {env:Env} {A:Around} {n:Nat} {ρ ρ1:Au} {g g₁:G} {σ σ1:Store} {s s₁ s':Shared} {as as':List Nat} {r r':Res Fl} {Er:Value->Shared->Prop}
theorem clearTs_out:∀ {ts:List Nat} {ρ:Au} {i:Nat},i∉ts->(Bv ρ ts)[i]? = ρ[i]?
 | [],ρ,i,_=>rfl
 | j::ts,ρ,i,h=>by
  show (Bv (ρ.set j none) ts)[i]? = _
  rw [clearTs_out fun q=>h (by exact .tail _ q),List.getElem?_set_ne fun q=>h (by exact q▸.head _)]
theorem ss_try {body:List S} {hs:List (Nat×Option Nat×List S)} (hb:SSs body) (hh:SHs hs):SS (.try_ body hs):=by
 intro T K C fe outer own env A n ρ g σ s x hc hfe cx I hH hr
 induction hc with
 | @mk b l p h1 h2 h3 =>
  obtain ⟨l0,ls,rfl⟩:∃ l0 ls,l=l0::ls:=by
   induction l with
   | nil=>exact absurd rfl h3
   | cons l0 ls=>exact ⟨l0,ls,rfl⟩
  have wb:∀ i,i∈asgAll body->i∈EW (.try_ body hs):=fun i h=>show i∈_++_ from List.mem_append.mpr (.inl h)
  have wh:∀ i,i∈asgHs hs->i∈EW (.try_ body hs):=fun i h=>show i∈_++_ from List.mem_append.mpr (.inr h)
  obtain ⟨L,hL⟩:=Fw hfe I
  have hfr:A.frames=some (env::outer):=by rw [<-hfe]; exact cx.ha.frames
  rw [xA_12] at hr ⊢
  refine wpAny_Try_except ?_
  refine wpAny_mono (hb b h1 hfe cx I hH fun q=>hr (by rw [q])) (fun f s₁ ⟨fl,σ1,g₁,e1,st1,hf⟩=>?_) fun x s₁ ⟨c,σ1,g₁,ρ1,e1,st1,fl,I1,hv⟩=>?_
  ·rw [e1]
   induction fl with
   | next ρ' =>
    obtain ⟨rfl,I',hv'⟩:=hf
    exact wpAny_execs_nil ⟨.next ρ',σ1,g₁,rfl,st1,rfl,I',fun i hi=>hv' i fun q=>hi (wb i q)⟩
   | ret v =>
    obtain ⟨y,rfl,ry,hy⟩:=hf
    exact ⟨.ret v,σ1,g₁,rfl,st1,y,rfl,ry,hy⟩
  ·rw [e1] at hr ⊢
   dsimp only at hr ⊢
   have dead:∀ its:List Addr,(∀ a,a∈its->g₁.fz a=none/\a∉g₁.mu/\s.heap.get? a=none)->(∀ c,c∈its->c∉B0 fe own env):=fun its hi c hc q=>by
    obtain ⟨o,eo⟩:=(I.avAp c q).2.2
    exact Ab ((Eq.symm ((hi c hc).2.2)).trans eo)
   refine FN (s₀:=s) hfr hL I1.st (by rw [<-hfe]; exact I1.fr) fl (fun a e=>st1.kept.dead e) fun h₂ its2 nr2 hi2 fl2=>?_
   have nr2:CQ its2 (Af fe) s₁.heap h₂:=by rw [hfe]; exact nr2
   have st2:=st1.near I1.fr (fun a ha=>⟨(hi2 a ha).1,(hi2 a ha).2.1⟩) (fun a ha=>(hi2 a ha).2.2) nr2
   have I2:=I1.near (fun a ha=>⟨(hi2 a ha).1,(hi2 a ha).2.1⟩) (dead its2 hi2) nr2
   refine C7 (s:={ s₁ with heap:=h₂ }) (L:=none) (fs:=Af fe) fl2.tb fun h₃ its3 nr3 hi3 fl3=>?_
   have st3:=st2.near I2.fr (fun a ha=>⟨(hi3 a ha).1,(hi3 a ha).2.1⟩) (fun a ha=>(hi3 a ha).2.2) nr3
   have I3:=Inv.near (s:={ s₁ with heap:=h₂ }) I2 (fun a ha=>⟨(hi3 a ha).1,(hi3 a ha).2.1⟩) (dead its3 hi3) nr3
   have I3':Inv T fe own K.wr env K.vars (Bv ρ (asgAll body)) g₁ σ1 h₃:=Inv.less (s:={ s₁ with heap:=h₃ }) I3 fun i v hi=>by
    obtain ⟨q1,q2⟩:=D7 hi
    rw [hv i q1]; exact q2
   exact handle_sim hh (s₁:={ s₁ with heap:=h₃ }) (l0::ls) h2 hfe cx I hH st3 I3' fl3 (fun i hi=>clearTs_out fun q=>hi (wb i q)) wh hr
theorem bind_names:∀ (is:List Nat) (nms:List Str) (vs:List V) (xs:List Value) (ρ:Au) (s:Shared) (Q:Unit->Shared->Prop),Inv T fe own K.wr env K.vars ρ g σ s.heap->is.length=nms.length->vs.length=is.length ->
 (∀ p,p∈is.zip nms->K.vars[p.1]? = some p.2/\p.2∈K.wr/\(env.kindOf p.2=some .local\/env.kindOf p.2=some .cell))->RepVs T g vs xs->(∀ s',Step T (g.mu++own) fs g s g σ s'->Inv T fe own K.wr env K.vars (Cz ρ is vs) g σ s'.heap->Q () s') ->
 wpAny (model T.prog T.w) A (assignInOrder (nms.map fun n=>bindName env n) xs) Q Er s:=by
 intro is
 induction is with
 | nil =>
  intro nms vs xs ρ s Q I h1 h2 hk r h
  rcases nms with _ | ⟨nm,nms⟩
  ·rcases vs with _ | ⟨v,vs⟩
   ·rcases xs with _ | ⟨x,xs⟩
    ·exact wpAny_pure (h s (.refl I.st) I)
    ·exact r.elim
   ·exact BV h2 rfl
  ·exact BV h1 rfl
 | cons i is ih =>
  intro nms vs xs ρ s Q I h1 h2 hk r h
  rcases nms with _ | ⟨nm,nms⟩
  ·exact BV h1 rfl
  ·rcases vs with _ | ⟨v,vs⟩
   ·exact BV h2 rfl
   ·rcases xs with _ | ⟨x,xs⟩
    ·exact r.elim
    ·have k:=hk (i,nm) (.head _)
     refine wpAny_bind (wpAny_holding (wpAny_bindName (Fo (fs:=fs) I k.1 k.2.1 k.2.2 r.1 fun s₁ st1 I1=>?_)))
     exact ih nms vs xs _ s₁ Q I1 (Nat.succ.inj h1) (Nat.succ.inj h2) (fun p hp=>hk p (.tail _ hp)) r.2 fun s' st' I'=>h s' (st1.transO st') I'
set_option backward.match.sparseCases true in
theorem swapNames_get {line:Nat} {xs:List Nat} {ts:List Expr} (h:IsSw K line xs ts):∃ nms:List Str,nms.length=xs.length/\ts.length=xs.length ∧
 (∀ env:Env,env.scope.names=K.names->ts.filterMap (fun | .Name id pos=>if env.kindOf id == some .local&&pos.line == line then some id else none | _=>none)=nms)/\(∀ p,p∈xs.zip nms->K.canWr p.1 p.2=true):=by
 induction h with
 | nil=>exact ⟨[],rfl,rfl,fun _ _=>rfl,fun p hp=>by simp at hp⟩
 | @cons i nm p r l h1 h2 h3 h4 ih =>
  obtain ⟨nms,q1,q2,q3,q4⟩:=ih
  refine ⟨nm::nms,congrArg (· + 1) q1,congrArg (· + 1) q2,fun env hn=>?_,fun p hp=>?_⟩
  ·have hk:env.kindOf nm=some .local:=by rw [AL hn]; exact h2
   have e:(if (env.kindOf nm == some .local&&p.line == line)=true then some nm else none)=some nm:=if_pos (by rw [hk,h3,beq_self_eq_true,beq_self_eq_true]; rfl)
   refine (List.filterMap_cons_some ?_).trans (congrArg _ (q3 env hn))
   exact e
  ·simp only [List.zip_cons_cons,List.mem_cons] at hp
   rcases hp with rfl | hp
   ·exact h1
   ·exact q4 p hp
end
end Mine.Internal
set_option backward.match.sparseCases true
namespace Mine.Internal
open PySem PySem.Calls
theorem EP {α:Type} {l:List α} (h:l.length=3):∃ a b c,l=[a,b,c]:=by
 rcases l with _ | ⟨a,_ | ⟨b,_ | ⟨c,_ | ⟨d,l⟩⟩⟩⟩
 ·exact BV h rfl
 ·exact BV h rfl
 ·exact BV h rfl
 ·exact ⟨a,b,c,rfl⟩
 ·exact BV h rfl
theorem Ep:∀ l:List Str,l.Nodup->l.eraseDups=l
 | [],_=>by simp
 | a::as,h=>by
  rw [List.eraseDups_cons]
  have h':=List.nodup_cons.mp h
  have hf:as.filter (fun b=>!b == a)=as:=by
   rw [List.filter_eq_self]
   intro b hb
   simp only [Bool.not_eq_true',beq_eq_false_iff_ne]
   intro q
   exact h'.1 (q▸hb)
  rw [hf,Ep as h'.2]
theorem GG {vars:List Str} (hv:vars.Nodup):∀ {xs:List Nat} {nms:List Str},nms.length=xs.length->xs.Nodup->(∀ p,p∈xs.zip nms->vars[p.1]? = some p.2)->nms.Nodup
 | [],[],_,_,_=>List.nodup_nil
 | i::xs,nm::nms,hl,hn,hp=>by
  have hn':=List.nodup_cons.mp hn
  refine List.nodup_cons.mpr ⟨fun hm=>?_,GG hv (by simpa using hl) hn'.2 fun p h=>hp p (by simp [h])⟩
  obtain ⟨k,hk,e⟩:=List.mem_iff_getElem.mp hm
  have hk':k < xs.length:=by simp at hl; lia
  have h1:=hp (xs[k],nms[k]) (by
   simp only [List.zip_cons_cons,List.mem_cons]
   exact .inr (List.mem_iff_getElem.mpr ⟨k,by simp; lia,by simp⟩))
  have h2:=hp (i,nm) (by simp)
  rw [e] at h1
  have hx:xs[k]=i:=EO hv h1 h2
  exact hn'.1 (by rw [<-hx]; exact List.getElem_mem hk')
 | [],_::_,hl,_,_=>by simp at hl
 | _::_,[],hl,_,_=>by simp at hl
theorem noStar_any {es:List E} {K:Kx}:∀ {vs:List Expr},IsEs es K vs->(vs.any fun | .Starred .. => true | _=>false)=false:=by
 induction es with
 | nil=>intro vs h; cases h; rfl
 | cons e es ih =>
  intro vs h
  induction h with
  | @mk x l h1 h2 h3 =>
   rw [List.any_cons,ih h3]
   cases x <;> first | rfl | exact ff_ h2
section
variable {T:Top} {K:Kx} {C:Cfg} {fe outer:List Env} {own fs X:List Addr} {env:Env} {A:Around} {n:Nat} {ρ ρ1:Au} {g g₁:G} {σ σ1:Store} {s s₁ s':Shared} {Er:Value->Shared->Prop}
theorem sw_eq {ts vs:List Expr} {k k':Nat} {p p':Pos} {nms:List Str} (hk:env.scope.kind=.function) (h1:ts.length=2\/ts.length=3) (h2:vs.length=ts.length) (h3:(vs.any fun | .Starred .. => true | _=>false)=false)
 (h4:ts.filterMap (fun | .Name id pos=>if env.kindOf id == some .local&&pos.line == FV ts then some id else none | _=>none)=nms) (h5:nms.length=ts.length) (h6:nms.Nodup)
 (h7':vs.all (foldedForSure 8)=false) (h8':vs.all (constantsAlone 8)=false):swappedStores [.Tuple ts k p] (.Tuple vs k' p') env=pure (some nms):=by
 have hl:(ts.head?.map (·.pos.line)).getD 0=FV ts:=by cases ts <;> rfl
 have hc1:(!(ts.length == 2||ts.length == 3)||vs.length != ts.length||env.blockKind != .function)=false:=by
  have:env.blockKind=.function:=by simp [Env.blockKind,hk]
  rw [this,h2]
  rcases h1 with h | h <;> rw [h] <;> rfl
 have hc2:(nms.length != ts.length||nms.eraseDups.length != nms.length)=false:=by
  rw [Ep nms h6,h5]; simp
 rw [<-hl] at h4
 refine (if_neg (by rw [hc1]; exact Bool.false_ne_true)).trans ?_
 refine (if_neg fun q=>?_).trans ?_
 ·have q':(vs.any fun | .Starred .. => true | _=>false)=true:=q
  exact ff_ (h3.symm.trans q')
 ·have key:∀ N:List Str,N=nms->(if (N.length != ts.length||N.eraseDups.length != N.length)=true then (pure none:Sem (Option (List Str))) else if vs.all (foldedForSure 8)=true then pure none else
   if vs.all (constantsAlone 8)=true then unsupported "assign.tuple-of-constant-expressions:order-of-the-stores" else pure (some N))=pure (some nms):=fun N hN=>by
   subst hN
   rw [hc2,h7',h8']; rfl
  exact key _ h4
theorem ss_swp (xs:List Nat) (es:List E):SS (.swp xs es):=by
 intro T K C fe outer own env A n ρ g σ s x hc hfe cx I hH hr
 induction hc with
 | @mk ts k p vs k' p' pos h1 h2 h3 h4 h6 h7 =>
  obtain ⟨h1,h5⟩:=h1
  obtain ⟨nms,q1,q2,q3,q4⟩:=swapNames_get h1
  have wr:∀ p,p∈xs.zip nms->K.vars[p.1]? = some p.2/\p.2∈K.wr/\(env.kindOf p.2=some .local\/env.kindOf p.2=some .cell):=fun p hp=>canWr_ok cx.names (q4 p hp)
  have hnd:nms.Nodup:=GG I.nd q1 h5 fun p hp=>(wr p hp).1
  rw [arm_exec_Assign]
  rw [xA_3] at hr ⊢
  refine wpAny_bind (wpAny_standAt ?_)
  show wpAny _ _ (swapsWith (.Tuple vs k' p') (some (.Tuple ts k p)) pos.line env>>=_) _ _ _
  rw [DQ (v:=.Tuple vs k' p') rfl,pure_bind]
  simp only [Bool.false_eq_true,if_false]
  rw [arm_eval_Tuple,sw_eq I.blk.kind (.inr h3) h4 (noStar_any h2) (q3 env cx.names) (by rw [q1,q2]) hnd h6 h7]
  refine wpAny_bind (wpAny_bind (wpAny_standAt (wpAny_bind (wpAny_mono ((soundEs es).ses vs p' h2 cx I hH (AH hr)) (fun ys s₁ hz_=>?_) fun _ _ h=>.ofE I (fun c σ' q=>by rw [q]; rfl) h))))
  obtain ⟨ws,σ1,g₁,e1,st1,r₁⟩:=hz_
  rw [e1] at hr ⊢
  simp only [okb] at hr ⊢
  by_cases hq:ws.length=xs.length/\C.hd=false
  ·rw [if_pos hq]
   have hyl:ys.length=xs.length:=by rw [<-r₁.length]; exact hq.1
   have hxl:xs.length<=3:=by rw [<-q2]; (exact Nat.le_of_eq ‹_›)
   refine wpAny_newTuple ?_ (by rw [hyl,<-B1]; unfold line; (exact Nat.le_trans ‹_› (by decide)))
   rw [pure_bind]
   unfold assignStores
   have st2:Step T g₁.mu (Af fe) g₁ s₁ g₁ σ1 { s₁ with heap:=s₁.heap.push { cls:=.type "tuple",data:=.seq ys.toArray } }:=.grow st1.st fun b o e=>Heap.get?_push_of_some _ e
   refine wpAny_bind (wpAny_rule (wpAny_bind ?_))
   have hsz:nms.length=ys.toArray.size:=by simp [q1,hyl]
   rw [hsz]
   refine wpAny_unpackItems_tuple (cx.ha.handled hq.2) ⟨_,Heap.get?_push_size _ rfl,rfl,_,rfl⟩ fun h' he=>?_
   have st3:Step T g₁.mu (Af fe) g₁ { s₁ with heap:=s₁.heap.push { cls:=.type "tuple",data:=.seq ys.toArray } } g₁ σ1 { s₁ with heap:=h' }:=.ext_size st2.st he
   have I3:=((I.step st1).step st2).step st3
   have S3:=(st1.trans st2).trans st3
   rw [show (ys.toArray.toList)=ys by simp]
   have fin:∀ s',Step T (g₁.mu++own) (Af fe) g₁ { s₁ with heap:=h' } g₁ σ1 s'->Inv T fe own K.wr env K.vars (Cz ρ xs ws) g₁ σ1 s'.heap ->
    BH T K fe own env g s ρ (EW (.swp xs es)) (Res.ok (.next (Cz ρ xs ws)) σ1) .next s':=fun s' st' I' =>
    ⟨.next (Cz ρ xs ws),σ1,g₁,rfl,S3.toO.transO st',rfl,I',fun j hj=>Go hj⟩
   refine wpAny_bind ?_
   ·rw [h3] at q2
    obtain ⟨i,j,l,rfl⟩:=EP q2.symm
    obtain ⟨a,b,c,rfl⟩:=EP (q1.trans q2.symm)
    obtain ⟨u,v,w,rfl⟩:=EP (hq.1.trans q2.symm)
    obtain ⟨y,z,yz,rfl⟩:=EP (hyl.trans q2.symm)
    have hij:i≠j/\i≠l/\j≠l:=by simp at h5; exact ⟨fun q=>h5.1.1 q,fun q=>h5.1.2 q,fun q=>h5.2 q⟩
    refine bind_names (fs:=Af fe) [l,j,i] [c,b,a] [w,v,u] [yz,z,y] ρ _ _ I3 rfl rfl (fun p hp=>wr p (by simp at hp ⊢; rcases hp with h | h | h <;> simp [h])) ⟨r₁.2.2.1,r₁.2.1,r₁.1,trivial⟩ fun s' st' I'=>wpAny_pure (fin s' st' ?_)
    have e:Cz ρ [l,j,i] [w,v,u]=Cz ρ [i,j,l] [u,v,w]:=by
     show ((ρ.set l (some w)).set j (some v)).set i (some u)=((ρ.set i (some u)).set j (some v)).set l (some w)
     rw [List.set_comm _ _ (Ne.symm hij.2.2),List.set_comm _ _ (Ne.symm hij.2.1),List.set_comm _ _ (Ne.symm hij.1)]
    rw [<-e]; exact I'
  ·rw [if_neg hq] at hr; exact absurd rfl hr
end
end Mine.Internal
set_option backward.match.sparseCases false
namespace Mine.Internal
open PySem PySem.Calls
section
variable {T:Top} {A:Around} {s:Shared} {g:G} {Er:Value->Shared->Prop}
theorem setItem_plain {l:Addr} {items:Array Value} {m:Nat} {k:Int} {t:Tok} {v:Value} {Q:Unit->Shared->Prop} (ho:s.heap.get? l=some { cls:=.type "list",dict:=none,data:=.seq items m,slots:=#[] }) (h0:0<=k) (hfit:k < 2 ^ 63) (hn:k < items.size)
 (hQ:∀ h' m',h'.get? l=some { cls:=.type "list",dict:=none,data:=.seq (items.setIfInBounds k.toNat v) m',slots:=#[] } -> Heap.SameBut l s.heap h'->Q () { s with heap:=h' }):wpAny (model T.prog T.w) A (setItem (.ref l) (.int k t) v) Q Er s:=by
 have hT:s.TypeIs (.ref l) "list" := ⟨_,ho,rfl⟩
 unfold setItem
 refine wpAny_holding (wpAny_bind (wpAny_sequenceKey hT (by decide) (wpAny_bind (wpAny_callSpecial?_slot (name:=Str.ofString "__setitem__") hT slot_list_setitem (wpAny_call_entry slot_list_setitem hT entry_list_setitem ?_ (args_list_setitem _ _ _))))))
 show wpAny _ _ (Builtin.List.listSubscript? (.int k t)>>=_) _ _ s
 refine wpAny_bind (wpAny_listSubscript_int (fitsIndex_of h0 hfit) ?_)
 clear hfit
 obtain ⟨j,rfl⟩:=Int.eq_ofNat_of_zero_le h0
 have hj:j < items.size:=Int.ofNat_lt.mp hn
 show wpAny _ _ ((seqItemAt l j>>=fun r=>pure (r.map (j,·)))>>=_) _ _ s
 refine wpAny_bind (wpAny_bind (wpAny_seqItemAt ho rfl (wpAny_pure ?_)))
 rw [Array.getElem?_eq_getElem hj]
 show wpAny _ _ (setSeqItemAt l j v>>=_) _ _ s
 refine wpAny_bind (wpAny_setSeqItemAt ho rfl ?_)
 have e:=Heap.get?_update_self (Obj.mapSeq (·.setIfInBounds j v)) ho rfl
 exact wpAny_bind (wpAny_pure (wpAny_pure ⟨.none,rfl,wpAny_pure (hQ _ _ e (Heap.SameBut.update ..))⟩))
theorem RepVs.set:∀ {ws:List V} {xs:List Value} (j:Nat) {v:V} {x:Value},RepVs T g ws xs->Aj T g v x->RepVs T g (ws.set j v) (xs.set j x)
 | [],[],_,_,_,_,_=>trivial
 | _::_,_::_,0,_,_,h,r=>⟨r,h.2⟩
 | _::_,_::_,j+1,_,_,h,r=>⟨h.1,RepVs.set j h.2 r⟩
 | [],_::_,_,_,_,h,_=>h.elim
 | _::_,[],_,_,_,h,_=>h.elim
end
theorem ss_set (o i v:E):SS (.set o i v):=by
 intro T K C fe outer own env A n ρ g σ s x hc hfe cx I hH hr
 induction hc with
 | @mk oe ie p ve p' h1 h2 h3 h4 =>
 rw [arm_exec_Assign]
 rw [xA_4] at hr ⊢
 refine wpAny_bind (wpAny_standAt ?_)
 show wpAny _ _ (swapsWith ve (some (.Subscript oe ie p)) p'.line env>>=_) _ _ _
 rw [DQ h4,pure_bind]
 simp only [Bool.false_eq_true,if_false]
 refine wpAny_bind (wpAny_mono ((A7 v).1 _ h1 cx I hH (AH hr)) (fun xv s₁ hz_=>?_) fun _ _ h=>.ofE I (fun c σ' q=>by rw [q]; rfl) h)
 obtain ⟨b,σ1,g₁,e1,st1,r₁⟩:=hz_
 rw [e1] at hr ⊢
 have hr:((Ac C o ρ σ1).bind fun y σ=>(Ac C i ρ σ).bind fun z σ=>(Cb y z b σ).bind fun _ σ=>(Res.ok (Fl.next ρ) σ:Res Fl))≠.bad:=hr
 have hsw:swappedStores [.Subscript oe ie p] ve env=pure none:=by unfold swappedStores; rfl
 rw [hsw,pure_bind]
 unfold assignStores
 show wpAny _ _ (assignAll xv [assign (.Subscript oe ie p) env]>>=fun _=>pure Flow.next) _ _ _
 have hall:assignAll xv [assign (.Subscript oe ie p) env]=(assign (.Subscript oe ie p) env xv):=by
  first | rfl | (unfold assignAll; rfl)
 rw [hall,arm_assign_Subscript]
 have I1:=I.step st1
 have H1:=hH.mono st1.le
 refine wpAny_bind (wpAny_bind (wpAny_holding (wpAny_mono ((A7 o).1 _ h2 cx I1 H1 (AH hr)) (fun ov s2 hz_=>?_) fun _ _ h=>.ofE I (r:=(Ac C o ρ σ1).bind _) (fun c σ' q=>by rw [q]; rfl) (h.after st1))))
 obtain ⟨ob,σ₂,g2,e2,st2,r2⟩:=hz_
 rw [e2] at hr
 have hr:((Ac C i ρ σ₂).bind fun z σ=>(Cb ob z b σ).bind fun _ σ=>(Res.ok (Fl.next ρ) σ:Res Fl))≠.bad:=hr
 have I2:=I1.step st2
 refine wpAny_bind (wpAny_holding (wpAny_mono ((A7 i).1 _ h3 cx I2 (H1.mono st2.le) (AH hr)) (fun iv s3 hz_=>?_) fun _ _ h=>.ofE I (r:=(Ac C o ρ σ1).bind _) (fun c σ' q=>by rw [e2]; show (Ac C i ρ σ₂).bind _=_; rw [q]; rfl) ((h.after st2).after st1)))
 obtain ⟨ib,σ3,g3,e3,st3,r3⟩:=hz_
 rw [e3] at hr
 have hr:((Cb ob ib b σ3).bind fun _ σ=>(Res.ok (Fl.next ρ) σ:Res Fl))≠.bad:=hr
 refine wpAny_bind (wpAny_standAt ?_)
 have S3:=(st1.trans st2).trans st3
 have rb:Aj T g3 b xv:=Aj.mono st3.le _ _ (Aj.mono st2.le _ _ r₁)
 have ro:Aj T g3 ob ov:=Aj.mono st3.le _ _ r2
 have eq:((Res.ok b σ1).bind fun x σ=>(Ac C o ρ σ).bind fun y σ=>(Ac C i ρ σ).bind fun z σ=>(Cb y z x σ).bind fun _ σ=>(Res.ok (Fl.next ρ) σ:Res Fl))=((Cb ob ib b σ3).bind fun _ σ=>(Res.ok (Fl.next ρ) σ:Res Fl)):=by
  show ((Ac C o ρ σ1).bind _)=_
  rw [e2]
  show ((Ac C i ρ σ₂).bind _)=_
  rw [e3]; rfl
 rw [eq]
 cases ob with
 | ref k =>
  obtain ⟨a,hk,rfl⟩:=ro
  induction ej:Az ib with
  | none=>exact absurd (by show Res.bind (match Az ib with | some j=>setAt k j b σ3 σ3[k]? | none=>.bad) _=_; rw [ej]; rfl) hr
  | some j =>
  obtain ⟨t,rfl⟩:=AN r3 ej
  have e4:Cb (.ref k) ib b σ3=setAt k j b σ3 σ3[k]?:=by show (match Az ib with | some j=>setAt k j b σ3 σ3[k]? | none=>.bad)=_; rw [ej]
  rw [e4] at hr ⊢
  induction eo:σ3[k]? with
  | none=>rw [eo] at hr; exact absurd rfl hr
  | some oo=>induction oo with
  | dead=>rw [eo] at hr; exact absurd rfl hr
  | list ws =>
  rw [eo] at hr
  by_cases hj:0<=j/\j < ws.length
  ·have es:setAt k j b σ3 (some (.list ws))=.ok (.next []) (σ3.set k (.list (ws.set j.toNat b))):=if_pos hj
   rw [es]
   obtain ⟨x,hx,ys,m',q,hrp,hl⟩:=st3.st.ob k a _ hk eo
   subst q
   have hsz:ys.size=ws.length:=by have:=hrp.length; simp at this; lia
   refine wpAny_bind (wpAny_holding (setItem_plain hx hj.1 (by have:=Fp hl; lia) (by lia) fun h' m'' ho' hs=>?_))
   have st4:Step T g3.mu (Af fe) g3 s3 g3 (σ3.set k (.list (ws.set j.toNat b))) { s3 with heap:=h' }:=.turn st3.st hk hs ho' ⟨_,m'',rfl,by rw [Array.toList_setIfInBounds]; exact RepVs.set _ hrp rb,by rw [List.length_set]; exact hl⟩
   ·exact wpAny_release (wpAny_pure ⟨.next ρ,_,g3,rfl,(S3.trans st4).toO,rfl,((I2.step st3).step st4),fun _ _=>rfl⟩)
  ·rw [show setAt k j b σ3 (some (.list ws))=.bad from if_neg hj] at hr
   exact absurd rfl hr
 | _=>exact absurd rfl hr
mutual
theorem soundS:∀ st:S,SS st
 | .asg x e=>ss_asg x e
 | .unp xs e=>ss_unp xs e
 | .swp xs es=>ss_swp xs es
 | .set o i v=>ss_set o i v
 | .exp e=>ss_exp e
 | .ite c a b=>ss_ite c (soundSs a) (soundSs b)
 | .for_ ts it body=>ss_for ts it (soundSs body)
 | .ret e=>ss_ret e
 | .raise c es=>ss_raise c es
 | .try_ body hs=>ss_try (soundSs body) (soundHs hs)
theorem soundSs:∀ l:List S,SSs l
 | []=>ss_nil
 | st::r=>ss_cons (soundS st) (soundSs r)
theorem soundHs:∀ hs:List (Nat×Option Nat×List S),SHs hs
 | []=>trivial
 | (_,_,body)::r=>⟨soundSs body,soundHs r⟩
end
theorem DE:∀ {names:List (Str×NameKind)} {k:Nat} {acc:List (Str×Addr)} {n:Str},(∃ c,(n,c)∈acc)->∃ c,(n,c)∈cellsFrom k names acc
 | [],_,_,_,h=>h
 | (m,kd)::r,k,acc,n,h=>by
  unfold cellsFrom
  split
  ·obtain ⟨c,h⟩:=h; exact DE ⟨c,List.mem_cons_of_mem _ h⟩
  ·exact DE h
theorem CI:∀ {names:List (Str×NameKind)} {k:Nat} {acc:List (Str×Addr)} {n:Str},(n,NameKind.cell)∈names->∃ c,(n,c)∈cellsFrom k names acc
 | (m,kd)::r,k,acc,n,h=>by
  unfold cellsFrom
  rcases List.mem_cons.mp h with h | h
  ·cases h
   rw [if_pos (by decide)]
   exact DE ⟨k,List.mem_cons_self ..⟩
  ·split
   ·exact CI h
   ·exact CI h
set_option tactic.hygienic true in
theorem DC {α:Type} {n:Str}:∀ {l:List (Str×α)},(∃ c,(n,c)∈l)->∃ c,l.lookup n=some c
 | p::r,⟨c,h⟩=>by
  rw [List.lookup_cons]
  split
  ·exact ⟨_,rfl⟩
  ·rename_i hne
   rcases List.mem_cons.mp h with h | h
   ·rw [<-h] at hne; simp at hne
   ·exact DC ⟨c,h⟩
theorem bindL_out (kf:Str->Option NameKind):∀ {bs:List (Str×Value)} {m:Str->Option Value} {n:Str},(∀ p,p∈bs->p.1≠n)->bindL kf bs m n=m n
 | [],m,n,_=>rfl
 | (k,v)::r,m,n,h=>by
  show bindL kf r (if kf k=some .local then fun y=>if y=k then some v else m y else m) n=m n
  rw [bindL_out kf fun p hp=>h p (List.mem_cons_of_mem _ hp)]
  have:=h (k,v) (List.mem_cons_self ..)
  split
  ·show (if n=k then some v else m n)=m n
   rw [if_neg (fun q=>this (Eq.symm q))]
  ·rfl
theorem bindC_out (kf:Str->Option NameKind):∀ {bs:List (Str×Value)} {m:Str->Option Value} {n:Str},(∀ p,p∈bs->p.1≠n)->bindC kf bs m n=m n
 | [],m,n,_=>rfl
 | (k,v)::r,m,n,h=>by
  show bindC kf r (if kf k=some .local then m else fun y=>if y=k then some v else m y) n=m n
  rw [bindC_out kf fun p hp=>h p (List.mem_cons_of_mem _ hp)]
  have:=h (k,v) (List.mem_cons_self ..)
  split
  ·rfl
  ·show (if n=k then some v else m n)=m n
   rw [if_neg (fun q=>this (Eq.symm q))]
theorem zip_fst {ns:List Str} {vs:List Value} {p:Str×Value} (h:p∈ns.zip vs):p.1∈ns:=(List.of_mem_zip (a:=p.1) (b:=p.2) h).1
theorem bind_get (kf:Str->Option NameKind):∀ {ns:List Str} {vs:List Value} {m:Str->Option Value} {i:Nat} {n:Str} {v:Value},ns.Nodup->ns[i]? = some n->vs[i]? = some v ->
 (kf n=some .local->bindL kf (ns.zip vs) m n=some v)/\(kf n≠some .local->bindC kf (ns.zip vs) m n=some v)
 | k::ns,w::vs,m,0,n,v,hn,h1,h2=>by
  obtain rfl:=Option.some.inj h1; obtain rfl:=Option.some.inj h2
  have hn':=List.nodup_cons.mp hn
  have out:∀ p,p∈ns.zip vs->p.1≠k:=fun p hp q=>hn'.1 (q▸zip_fst hp)
  refine ⟨fun hk=>?_,fun hk=>?_⟩
  ·show bindL kf (ns.zip vs) (if kf k=some .local then fun y=>if y=k then some w else m y else m) k=some w
   rw [bindL_out kf out,if_pos hk]; exact if_pos rfl
  ·show bindC kf (ns.zip vs) (if kf k=some .local then m else fun y=>if y=k then some w else m y) k=some w
   rw [bindC_out kf out,if_neg hk]; exact if_pos rfl
 | k::ns,w::vs,m,i+1,n,v,hn,h1,h2=>by
  have hn':=List.nodup_cons.mp hn
  have ih:=fun m=>bind_get kf (m:=m) (i:=i) (n:=n) (v:=v) hn'.2 (by exact h1) (by exact h2)
  exact ⟨fun hk=>(ih _).1 hk,fun hk=>(ih _).2 hk⟩
 | [],_,_,_,_,_,_,h1,_=>by simp at h1
 | _::_,[],_,_,_,_,_,_,h2=>by simp at h2
structure FnOk (T:Top) (gl:Str->Option GV) (fn:Fn) (a:Addr):Prop where
 ex:∃ (name:Str) (params:Arguments) (body:List Stmt) (scope:Scope) (pm cd doc:Value) (o:Obj) (vars:List Str),
  T.h0.get? a=some o/\o.data=.func (docDef name params body scope pm cd doc)/\T.h0.CodeRec cd name/\scope.kind=.function/\scope.isGenerator=false/\scope.isCoroutine=false ∧
  vars.Nodup/\vars.length=fn.nvars/\fn.nparams<=fn.nvars/\(∀ vals:List Value,vals.length=fn.nparams->bindArgs (docDef name params body scope pm cd doc) ⟨vals,[]⟩=pure ((vars.take fn.nparams).zip vals)) ∧
  (∀ n,n∈vars.take fn.nparams->scope.names.lookup n=some .local\/scope.names.lookup n=some .cell)/\(∀ p,p∈scope.names->p.2≠.free) ∧
  IsSs fn.body ⟨vars,scope.names,vars,gl⟩ body
section
variable {T:Top} {fe:List Env} {own fs X:List Addr} {A:Around} {n:Nat} {g g':G} {σ σ':Store} {s s₁ s':Shared} {hd:Bool}
theorem Step.out {fs':List Addr} (hk:∀ b o,s.heap.get? b=some o->s₁.heap.get? b=some o) (hg:s₁.gens=s.gens) (ho:s₁.os=s.os) (x:Step T (g.mu++own) fs' g s₁ g' σ' s') (hown:∀ c,c∈own->s.heap.get? c=none)
 (hfs:∀ c,c∈fs'->c∈fs\/s.heap.get? c=none):Step T g.mu fs g s g' σ' s':=by
 have no:∀ b o,s.heap.get? b=some o->b∉own:=fun b o e q=>by exact Ab ((Eq.symm (hown b q)).trans e)
 have dd:∀ a,s₁.heap.get? a=none->s.heap.get? a=none:=fun a e=>by
  induction q:s.heap.get? a with
  | none=>rfl
  | some o=>exact AT ((Eq.symm (hk a o q)).trans e)
 refine ⟨x.le,x.st,⟨fun b o e=>x.kept.alive b o (hk b o e),fun b o e nb nf=>?_,fun b o e nb hf=>?_⟩,⟨fun a h=>(x.new.mu a h).imp id (dd a),fun a o h=>(x.new.fz a o h).imp id fun h=>h.imp (dd a) id⟩,x.gens.trans hg,x.os.trans ho⟩
 ·exact x.kept.same b o (hk b o e) (fun q=>(List.mem_append.mp q).elim nb (no b o e)) fun q=>(hfs b q).elim nf fun h=>by exact Ab (h.symm.trans e)
 ·have nb':b∉g.mu++own:=fun q=>(List.mem_append.mp q).elim nb (no b o e)
  by_cases q:b∈fs'
  ·exact x.kept.slots b o (hk b o e) nb' q
  ·exact ⟨o.slots,x.kept.same b o (hk b o e) nb' q⟩
theorem fn_sim {C:Cfg} {gl:Str->Option GV} {fn:Fn} {a:Addr} {vs:List V} {xs:List Value} (rd:Ready T gl C.isExc) (fo:FnOk T gl fn a) (cf:CallOk T C.cf n) (st:St T g σ s.heap) (fr:BI g s.heap fe) (hA:AOk fe C.hd (n+1) A) (hH:HOk g A)
 (r:RepVs T g vs xs):Sim T (Af fe) none A g s (call (.ref a) xs) (Aj T) (Bu C fn vs σ):=by
 unfold Bu
 by_cases hl:vs.length=fn.nparams
 ·rw [if_pos hl]
  intro hr
  obtain ⟨name,params,body,scope,pm,cd,doc,o,vars,ho,hdat,hcd,hk,hgen,hco,hnd,hnv,hnp,hbind,hpk,hnf,hchk⟩:=fo.ex
  have hxl:xs.length=fn.nparams:=by rw [<-r.length]; exact hl
  have hnd':(vars.take fn.nparams).Nodup:=List.Nodup.sublist (List.take_sublist _ _) hnd
  refine wpAny_call ?_
  refine codeAny_call_cells (by show A.depth < 1000; have:=hA.depth; lia) (st.keepsBase _ _ ho) hdat (rd.ok.nolimit.keeps st.keepsBase) (hcd.keeps st.keepsBase) rfl (hbind xs hxl) rfl (fun p hp=>?_) (fun s₁ ic=>?_) hco hgen hk
  ·have hm:=zip_fst hp
   rcases hpk p.1 hm with h | h
   ·exact .inl h
   ·obtain ⟨c,hc⟩:=DC (CI (k:=s.heap.objs.size+1) (acc:=[]) (mem_of_lookup h))
    exact .inr ⟨h,by show (List.lookup p.1 (cellsFrom (s.heap.objs.size+1) scope.names [])).isSome=true; rw [hc]; rfl⟩
  ·generalize hE:callEnvC (docDef name params body scope pm cd doc) s.heap.objs.size a=env at ic ⊢
   have eloc:env.locals=s.heap.objs.size:=by rw [<-hE]; rfl
   have esc:env.scope=scope:=by rw [<-hE]; rfl
   have ecl:env.cells=cellsFrom (s.heap.objs.size+1) scope.names []:=by rw [<-hE]; rfl
   have efr:env.frame=some s.heap.objs.size:=by rw [<-hE]; rfl
   have egl:env.globals=mainGlobals:=by rw [<-hE]; rfl
   have ebl:env.builtins=builtinsNs:=by rw [<-hE]; rfl
   have ekd:∀ x,env.kindOf x=scope.names.lookup x:=fun x=>by unfold Env.kindOf; rw [esc]
   obtain ⟨h₁,tk1,hs1⟩:=ic.toInCall.same
   have st1:St T g σ s₁.heap:=(Step.grow (X:=g.mu) (fs:=Af fe) st ic.toInCall.keep (by rw [hs1]) (by rw [hs1])).st
   have fr1:BI g s₁.heap fe:=fr.step (Step.grow (fs:=Af fe) st ic.toInCall.keep (by rw [hs1]) (by rw [hs1]))
   have hLn:s.heap.get? s.heap.objs.size=none:=BA _
   have hns:=ic.toInCall.ns
   rw [eloc] at hns
   obtain ⟨oL,esL,epL,hoL,hdL,_⟩:=id hns
   have apL:Bq g s₁.heap s.heap.objs.size:=⟨st.fz_none hLn,st.mu_none hLn,oL,hoL⟩
   have cell:∀ x,env.kindOf x=some .cell\/env.kindOf x=some .free->∃ c v,env.cells.lookup x=some c/\s₁.heap.IsCell c v/\Bq g s₁.heap c/\s.heap.get? c=none:=fun x hx=>by
    have hc:scope.names.lookup x=some .cell:=by
     rcases hx with h | h
     ·rw [<-ekd]; exact h
     ·rw [ekd] at h; exact absurd rfl (hnf _ (mem_of_lookup h))
    obtain ⟨c,hc'⟩:=DC (CI (k:=s.heap.objs.size+1) (acc:=[]) (mem_of_lookup hc))
    rw [<-ecl] at hc'
    have hic:=ic.cell x c hc'
    have hab:=ic.above x c (mem_of_lookup hc')
    rw [eloc] at hab
    have hcn:s.heap.get? c=none:=Heap.get?_none_of_le (Nat.le_of_lt hab)
    obtain ⟨oc,hoc,hdc⟩:=id hic
    exact ⟨c,_,hc',hic,⟨st.fz_none hcn,st.mu_none hcn,oc,hoc⟩,hcn⟩
   have cav:∀ c,c∈CV env->Bq g s₁.heap c/\s.heap.get? c=none:=fun c hc=>by
    obtain ⟨x,hx,hl'⟩:=Ee hc
    obtain ⟨c',v,q1,_,q3,q4⟩:=cell x hx
    obtain rfl:=Option.some.inj (hl'.symm.trans q1); exact ⟨q3,q4⟩
   have I:Inv T (env::fe) (env.locals::CV env) vars env vars (vs.map some++List.replicate (fn.nvars-fn.nparams) none) g σ s₁.heap:=by
    refine ⟨st1,⟨⟨by rw [esc,hk]; decide,by rw [esc]; exact hgen,by rw [esc]; exact hco,ebl,egl⟩,⟨s.heap.objs.size,oL,efr,hoL,(fun ws q=>by rw [hdL] at q; cases q),apL.1,apL.2.1⟩,fr1⟩,⟨env,fe,rfl,rfl⟩,
     ⟨by rw [esc]; exact hk,egl,ebl,by rw [eloc]; exact apL,⟨_,by rw [eloc]; exact hns⟩,fun x hx=>?_,fun x y c hx hy=>name_of_addr ic.apart (mem_of_lookup hx) (mem_of_lookup hy)⟩,fun i x v hi hv=>?_,hnd,by exact .head _,fun x hx c hk' hc=>?_,fun c hc=>?_⟩
    ·obtain ⟨c,v,q1,q2,q3,_⟩:=cell x hx
     exact ⟨c,v,q1,q2,q3⟩
    ·have hi':i < vs.length:=by
      rcases Nat.lt_or_ge i vs.length with h | h
      ·exact h
      ·rw [List.getElem?_append_right (by simpa using h)] at hv
       rw [List.getElem?_replicate] at hv
       split at hv <;> cases hv
     rw [List.getElem?_append_left (by simpa using hi'),List.getElem?_map] at hv
     have hv':vs[i]? = some v:=by
      induction q:vs[i]? with
      | none=>rw [q] at hv; exact Ab hv
      | some w=>rw [q] at hv; simpa using hv
     obtain ⟨y,hy,ry⟩:=r.get hv'
     have hx:(vars.take fn.nparams)[i]? = some x:=by rw [List.getElem?_take_of_lt (by lia)]; exact hi
     have hg:=bind_get env.kindOf (m:=fun _=>none) hnd' hx hy
     refine ⟨fun hloc=>⟨_,y,by rw [eloc]; exact hns,hg.1 hloc,ry⟩,fun hce=>?_⟩
     obtain ⟨c,w,q1,q2,_⟩:=cell x hce
     have hq:=ic.cell x c q1
     have hnl:env.kindOf x≠some .local:=by rcases hce with h | h <;> rw [h] <;> simp
     rw [hg.2 hnl] at hq
     exact ⟨c,y,q1,hq,ry⟩
    ·exact List.mem_cons_of_mem _ (Dw (.inl hk') hc)
    ·rcases List.mem_cons.mp hc with rfl | hc
     ·rw [eloc]; exact apL
     ·exact (cav c hc).1
   have hA':AOk (env::fe) C.hd n (A.deeper env):=⟨by show A.frames.map _=_; rw [hA.frames]; rfl,by show A.depth+1+n<=600; have:=hA.depth; lia,by show A.units+3+100 * n<=9000; have:=hA.units; lia,hA.handled⟩
   have cx:Cx T ⟨vars,scope.names,vars,gl⟩ C (env::fe) env (A.deeper env) n:=⟨rd,by rw [esc],hA',cf⟩
   have hown:∀ c,c∈env.locals::CV env->s.heap.get? c=none:=fun c hc=>by
    rcases List.mem_cons.mp hc with rfl | hc
    ·rw [eloc]; exact hLn
    ·exact (cav c hc).2
   have hfs:∀ c,c∈Af (env::fe)->c∈Af fe\/s.heap.get? c=none:=fun c hc=>by
    unfold Af at hc
    rw [List.filterMap_cons_some efr] at hc
    rcases List.mem_cons.mp hc with rfl | hc
    ·exact .inr hLn
    ·exact .inl hc
   have dd:∀ a,s₁.heap.get? a=none->s.heap.get? a=none:=fun a e=>by
    induction q:s.heap.get? a with
    | none=>rfl
    | some o=>exact AT ((Eq.symm (ic.toInCall.keep a o q)).trans e)
   have hg1:s₁.gens=s.gens:=by rw [hs1]
   have ho1:s₁.os=s.os:=by rw [hs1]
   have hrb:execSs C fn.body (vs.map some++List.replicate (fn.nvars-fn.nparams) none) σ≠.bad:=fun q=>hr (by rw [q]; rfl)
   refine wpAny_mono (soundSs fn.body (outer:=fe) body hchk rfl cx I hH hrb) (fun f s2 ⟨fl,σ₂,g2,e2,st2,hf⟩=>?_) fun x s2 ⟨c,σ₂,g2,ρ2,e2,st2,fl,I2,_⟩=>?_
   ·have S2:=Step.out (fs:=Af fe) ic.toInCall.keep hg1 ho1 st2 hown hfs
    rw [e2]
    induction fl with
    | next ρ' =>
     obtain ⟨rfl,_,_⟩:=hf
     exact ⟨.d .none,σ₂,g2,rfl,S2,rfl⟩
    | ret v =>
     obtain ⟨y,rfl,ry,_⟩:=hf
     exact ⟨v,σ₂,g2,rfl,S2,ry⟩
   ·rw [e2]
    have dead:∀ its:List Addr,(∀ a,a∈its->g2.fz a=none/\a∉g2.mu/\s₁.heap.get? a=none)->(∀ c,c∈its->c∉B0 (env::fe) (env.locals::CV env) env):=fun its hi c hc q=>by
     obtain ⟨o,eo⟩:=(Inv.avAp (K:=⟨vars,scope.names,vars,gl⟩) I c q).2.2
     exact Ab ((Eq.symm ((hi c hc).2.2)).trans eo)
    unfold leaving
    refine wpAny_bind (FN (s₀:=s₁) hA'.frames efr I2.st I2.fr fl (fun a e=>st2.kept.dead e) fun h₃ its3 nr3 hi3 fl3=>?_)
    have st3:=st2.near I2.fr (fun a ha=>⟨(hi3 a ha).1,(hi3 a ha).2.1⟩) (fun a ha=>(hi3 a ha).2.2) nr3
    have I3:=I2.near (fun a ha=>⟨(hi3 a ha).1,(hi3 a ha).2.1⟩) (dead its3 hi3) nr3
    refine C7 (s:={ s2 with heap:=h₃ }) (L:=none) (fs:=Af (env::fe)) fl3.tb fun h4 its4 nr4 hi4 fl4=>?_
    have st4:=st3.near I3.fr (fun a ha=>⟨(hi4 a ha).1,(hi4 a ha).2.1⟩) (fun a ha=>(hi4 a ha).2.2) nr4
    exact ⟨c,σ₂,g2,rfl,Step.out ic.toInCall.keep hg1 ho1 st4 hown hfs,fl4.le dd PAt.tb⟩
 ·rw [if_neg hl]; exact Sim.bad
end
section
variable {T:Top} {fe:List Env} {A:Around} {n:Nat} {g g':G} {σ σ':Store} {s s':Shared} {hd:Bool} {fz':Addr->Option Obj}
theorem noList_rep {f f':Addr->Option Obj} {y:PyData} {x:Value} (h:noList y=true) (r:B7 f y x):B7 f' y x:=by
 cases y with
 | none=>exact r
 | bool b=>exact r
 | int i=>exact r
 | str s=>exact r
 | list _=>exact ff_ h
 | tuple _=>exact ff_ h
 | dict _=>exact ff_ h
theorem BI.other {h:Heap}:∀ {l:List Env},(∀ c,c∈Af l->g'.fz c=none/\c∉g'.mu)->BI g h l->BI g' h l
 | [],_,_=>trivial
 | e::r,hc,⟨k,⟨L,o,hf,ho,hd,h1,h2⟩,hr⟩=>by
  have hm:L∈Af (e::r):=by unfold Af; rw [List.filterMap_cons_some hf]; exact List.mem_cons_self ..
  exact ⟨k,⟨L,o,hf,ho,hd,(hc L hm).1,(hc L hm).2⟩,BI.other (fun c h=>hc c (by unfold Af; rw [List.filterMap_cons_some hf]; exact List.mem_cons_of_mem _ h)) hr⟩
theorem Step.quiet {gc gc':G} {σc:Store} (st:St T g σ s.heap) (fr:BI g s.heap fe) (x:Step T [] (Af fe) gc s gc' σc s'):Step T g.mu (Af fe) g s g σ s':=by
 have keepM:∀ a o,a∈g.mu->s.heap.get? a=some o->s'.heap.get? a=some o:=fun a o hm e=>x.kept.same a o e (by simp) fun q=>(fr.mem q).2.1 hm
 have keepF:∀ a o,g.fz a=some o->s'.heap.get? a=some o:=fun a o e=>x.kept.same a o (st.fz a o e) (by simp) fun q=>by exact Ab ((Eq.symm ((fr.mem q).1)).trans e)
 refine ⟨.refl g,⟨keepF,st.len,st.nd,st.ap,fun k a o e1 e2=>?_,st.base⟩,⟨x.kept.alive,fun b o e _ nf=>x.kept.same b o e (by simp) nf,fun b o e _ hf=>x.kept.slots b o e (by simp) hf⟩,.refl ..,x.gens,x.os⟩
 obtain ⟨y,h1,h2⟩:=st.ob k a o e1 e2
 exact ⟨y,keepM a y (List.mem_of_getElem? e1) h1,h2⟩
theorem CC.caller {gc':G} {h h0:Heap} {c:Nat} {x:Value} {P:Option Value->Prop} (hc:c < 1000) (hz:∀ a,h0.get? a=none->g.fz a=none/\a∉g.mu) (f:CC T gc' h h0 c x P):CC T g h h0 c x P:=by
 obtain ⟨e,oe,vs,q1,q2,q3,q4,_,_,q7,q8,q9⟩:=f
 obtain ⟨u,h1,_,h3⟩:=q8
 refine ⟨e,oe,vs,q1,q2,q3,q4,(hz e q7).1,(hz e q7).2,q7,⟨.none,by rw [h1,h3 hc],.none,fun _=>rfl⟩,q9.imp id ?_⟩
 rintro ⟨tb,ot,ts,f,k1,k2,k3,k4,_,_,k7,k8,k9⟩
 exact ⟨tb,ot,ts,f,k1,k2,k3,k4,(hz tb k7).1,(hz tb k7).2,k7,k8,k9⟩
theorem iso_core {run:List V->Store->Res V} {vs:List V} {a:Addr} {xs:List Value} {gc:G} {flat:Bool} (hg:gc.mu=[]) (st:St T g σ s.heap) (fr:BI g s.heap fe) (hb:Sim T (Af fe) none A gc s (call (.ref a) xs) (Aj T) (run vs []))
 (hF:∀ (v:V) (x:Value) (y:PyData) (σ':Store) (g':G) (s':Shared),Step T [] (Af fe) gc s g' σ' s'->Aj T g' v x->ansOf1 flat σ' v=some y->∃ F:Addr->Option Obj,FzLe g.fz F/\(∀ b o,F b=some o->g.fz b=some o\/(s.heap.get? b=none/\s'.heap.get? b=some o))/\B7 F y x) :
 Sim T (Af fe) none A g s (call (.ref a) xs) (Aj T) (BK run vs flat σ):=by
 intro hr
 unfold BK at hr ⊢
 have hrun:run vs []≠.bad:=fun q=>hr (by rw [q])
 refine wpAny_mono (hb hrun) (fun x s' ⟨v,σ',g',e,st',rv⟩=>?_) fun x s' ⟨c,σ',g',e,st',fl⟩=>?_
 ·rw [e] at hr ⊢
  rw [hg] at st'
  dsimp only at hr ⊢
  induction hs:ansOf1 flat σ' v with
  | none=>rw [hs] at hr; exact absurd rfl hr
  | some y =>
  obtain ⟨F,h1,h2,h3⟩:=hF v x y σ' g' s' st' rv hs
  have q:=Step.quiet st fr st'
  have le:G.le g ⟨F,g.mu⟩:=⟨h1,fun _ _ h=>h⟩
  refine ⟨.d y,σ,⟨F,g.mu⟩,rfl,⟨le,⟨fun b o hb=>(h2 b o hb).elim (fun h=>q.st.fz b o h) fun h=>h.2,st.len,st.nd,fun b hb=>?_,fun k b o e1 e2=>?_,fun b o hb=>h1 b o (st.base b o hb)⟩,q.kept,⟨fun _ h=>.inl h,fun b o hb=>(h2 b o hb).imp id fun h=>.inl h.1⟩,q.gens,q.os⟩,h3⟩
  ·induction hz:F b with
   | none=>exact hz
   | some o =>
    obtain ⟨o',al⟩:=st.mu_alive hb
    rcases h2 b o hz with h | h
    ·exact Ab ((Eq.symm (st.ap b hb)).trans h)
    ·exact Ab ((Eq.symm (h.1)).trans al)
  ·obtain ⟨z,h1,h2⟩:=q.st.ob k b o e1 e2
   exact ⟨z,h1,G6.mono le _ _ h2⟩
 ·rw [e] at hr ⊢
  rw [hg] at st'
  dsimp only at hr ⊢
  by_cases hc:c < 1000
  ·rw [if_pos hc]
   exact ⟨c,σ,g,rfl,Step.quiet st fr st',fl.caller hc fun b hb=>⟨st.fz_none hb,st.mu_none hb⟩⟩
  ·exact absurd (if_neg hc) hr
theorem iso_inert {run:List V->Store->Res V} {vs:List V} {a:Addr} {xs:List Value} (st:St T g σ s.heap) (fr:BI g s.heap fe) (hb:Sim T (Af fe) none A ⟨g.fz,[]⟩ s (call (.ref a) xs) (Aj T) (run vs [])) :
 Sim T (Af fe) none A g s (call (.ref a) xs) (Aj T) (BK run vs false σ):=by
 refine iso_core rfl st fr hb fun v x y σ' g' s' st' rv hs=>?_
 have nm:∀ {b:Addr},b∈g'.mu->s.heap.get? b=none:=fun {b} hb=>(st'.new.mu b hb).elim (fun h=>by cases h) id
 have out:∀ {b:Addr} {o:Obj},g'.fz b=some o->b∉g'.mu:=fun {b o} hb hm=>by exact Ab ((Eq.symm (st'.st.ap b hm)).trans hb)
 refine ⟨fun b=>if b∈g'.mu then s'.heap.get? b else g'.fz b,fun b o hb=>?_,fun b o hb=>?_,snap_fz st'.st (fun b o hb=>?_) (fun b hb o ho=>?_) 8 v x y rv hs⟩
 ·have h1:g'.fz b=some o:=st'.le.fz b o hb
  show (if b∈g'.mu then s'.heap.get? b else g'.fz b)=some o
  rw [if_neg (out h1)]; exact h1
 ·have hb':(if b∈g'.mu then s'.heap.get? b else g'.fz b)=some o:=hb
  by_cases hm:b∈g'.mu
  ·rw [if_pos hm] at hb'; exact .inr ⟨nm hm,hb'⟩
  ·rw [if_neg hm] at hb'
   rcases st'.new.fz b o hb' with h | h | h
   ·exact .inl h
   ·exact .inr ⟨h,st'.st.fz b o hb'⟩
   ·exfalso; cases h
 ·show (if b∈g'.mu then s'.heap.get? b else g'.fz b)=some o
  rw [if_neg (out hb)]; exact hb
 ·show (if b∈g'.mu then s'.heap.get? b else g'.fz b)=some o
  rw [if_pos hb]; exact ho
theorem fresh_fz {fz':Addr->Option Obj} (st:St T g σ s.heap) (h2:∀ a,a∈g.mu->∀ o,s.heap.get? a=some o->fz' a=some o):∀ (n:Nat) (v:V) (x:Value) (d:PyData),Aj T g v x->fresh σ n v=some d->B7 fz' d x:=by
 intro n
 induction n with
 | zero =>
  intro v x d r e
  cases v with
  | d y=>obtain ⟨hn,rfl⟩:=Cg e; exact noList_rep hn r
  | _=>exact Ab e
 | succ n ih =>
  intro v x d r e
  cases v with
  | d y=>obtain ⟨hn,rfl⟩:=Cg e; exact noList_rep hn r
  | ref k =>
   obtain ⟨a,e1,rfl⟩:=r
   have e:snapO (fresh σ n) σ[k]? = some d:=e
   induction ho:σ[k]? with
   | none=>rw [ho] at e; exact Ab e
   | some o=>induction o with
   | dead=>rw [ho] at e; exact Ab e
   | list ws =>
   rw [ho] at e
   have e:(match Ca (fresh σ n) ws with | some xs=>some (.list xs) | none=>none)=some d:=e
   induction hx:Ca (fresh σ n) ws with
   | none=>rw [hx] at e; exact Ab e
   | some ds =>
    rw [hx] at e
    rw [<-Option.some.inj e]
    obtain ⟨y,hy,xs,m,q,hr,hl⟩:=st.ob k a _ e1 ho
    subst q
    have h3:=FF ih ws xs.toList ds hr hx
    exact ⟨a,_,xs,m,rfl,h2 a (List.mem_of_getElem? e1) _ hy,rfl,rfl,h3,by rw [h3.length,<-hr.length]; exact hl⟩
  | _=>exact Ab e
theorem iso_lent {run:List V->Store->Res V} {vs:List V} {a:Addr} {xs:List Value} {gc:G} (hg:gc.mu=[]) (st:St T g σ s.heap) (fr:BI g s.heap fe) (hb:Sim T (Af fe) none A gc s (call (.ref a) xs) (Aj T) (run vs [])) :
 Sim T (Af fe) none A g s (call (.ref a) xs) (Aj T) (BK run vs true σ):=by
 refine iso_core hg st fr hb fun v x y σ' g' s' st' rv hs=>?_
 have nm:∀ {b:Addr},b∈g'.mu->s.heap.get? b=none:=fun {b} hb=>(st'.new.mu b hb).elim (fun h=>by rw [hg] at h; exfalso; cases h) id
 refine ⟨fun b=>if b∈g'.mu then s'.heap.get? b else g.fz b,fun b o hb=>?_,fun b o hb=>?_,fresh_fz st'.st (fun b hb o ho=>?_) 8 v x y rv hs⟩
 ·show (if b∈g'.mu then s'.heap.get? b else g.fz b)=some o
  rw [if_neg (fun hm=>by have:=st.fz b o hb; exact Ab ((Eq.symm (nm hm)).trans this))]; exact hb
 ·have hb':(if b∈g'.mu then s'.heap.get? b else g.fz b)=some o:=hb
  by_cases hm:b∈g'.mu
  ·rw [if_pos hm] at hb'; exact .inr ⟨nm hm,hb'⟩
  ·rw [if_neg hm] at hb'; exact .inl hb'
 ·show (if b∈g'.mu then s'.heap.get? b else g.fz b)=some o
  rw [if_pos hb]; exact ho
theorem inert_rep {vs:List V}:∀ {xs:List Value},CR vs=true->RepVs T g vs xs->RepVs T ⟨g.fz,[]⟩ vs xs:=by
 induction vs with
 | nil=>intro xs _ r; rcases xs with _ | ⟨x,xs⟩; exact trivial; exact r.elim
 | cons v vs ih =>
  intro xs h r
  rcases xs with _ | ⟨x,xs⟩
  ·exact r.elim
  ·cases v with
   | d y=>exact ⟨r.1,ih h r.2⟩
   | exc c=>exact ⟨r.1,ih h r.2⟩
   | cls c=>exact ⟨r.1,ih h r.2⟩
   | _=>exact (Bool.false_ne_true h).elim
noncomputable def G.lend (g:G) (h:Heap):G:=⟨fun b=>if b∈g.mu then h.get? b else g.fz b,[]⟩
theorem lent_rep (st:St T g σ s.heap):∀ {vs:List V} {xs:List Value} {ws:List V},DR σ vs=some ws->RepVs T g vs xs->RepVs T (g.lend s.heap) ws xs:=by
 have h1:FzLe g.fz (g.lend s.heap).fz:=fun b o hb=>by
  show (if b∈g.mu then s.heap.get? b else g.fz b)=some o
  rw [if_neg (fun hm=>by exact Ab ((Eq.symm (st.ap b hm)).trans hb))]; exact hb
 have h2:∀ a,a∈g.mu->∀ o,s.heap.get? a=some o->(g.lend s.heap).fz a=some o:=fun b hb o ho=>by
  show (if b∈g.mu then s.heap.get? b else g.fz b)=some o
  rw [if_pos hb]; exact ho
 have dat:∀ {v:V} {x:Value} {d:PyData},Be σ 8 v=some d->Aj T g v x->Aj T (g.lend s.heap) (.d d) x:=fun hs r=>snap_fz st h1 h2 8 _ _ _ r hs
 intro vs
 induction vs with
 | nil =>
  intro xs ws h r
  obtain rfl:[]=ws:=Option.some.inj h
  induction xs with
  | nil=>exact trivial
  | cons _ _=>exact r.elim
 | cons v vs ih =>
  intro xs ws h r
  induction xs with
  | nil=>exact r.elim
  | cons x xs =>
   have gen:∀ (d:PyData) (ys:List V),Be σ 8 v=some d->DR σ vs=some ys->RepVs T (g.lend s.heap) (.d d::ys) (x::xs):=fun d ys e1 e2=>⟨dat e1 r.1,ih e2 r.2⟩
   cases v with
   | exc c =>
    have h:(match DR σ vs with | some xs=>some (V.exc c::xs) | none=>none)=some ws:=h
    induction e:DR σ vs with
    | none=>rw [e] at h; exact Ab h
    | some ys =>
     rw [e] at h
     obtain rfl:=Option.some.inj h
     obtain ⟨a,o,q1,q2,q3⟩:=r.1
     exact ⟨⟨a,o,q1,h1 a o q2,q3⟩,ih e r.2⟩
   | _ =>
    have key:∀ u:V,(match Be σ 8 u,DR σ vs with | some x,some xs=>some (V.d x::xs) | _,_=>none)=some ws->∃ d ys,Be σ 8 u=some d/\DR σ vs=some ys/\ws=.d d::ys:=fun u h=>by
     induction e1:Be σ 8 u with
     | none=>rw [e1] at h; exact Ab h
     | some d=>induction e2:DR σ vs with
      | none=>rw [e1,e2] at h; exact Ab h
      | some ys=>rw [e1,e2] at h; exact ⟨d,ys,rfl,rfl,(Option.some.inj h).symm⟩
    first | exact Ab h | (obtain ⟨d,ys,e1,e2,rfl⟩:=key _ h; exact gen d ys e1 e2)
theorem callF_ok {P:Nat->Option Fn} {isExc:Nat->Nat->Option Bool} {gl:Str->Option GV} (fuel:Nat) (rd:Ready T gl isExc) (fns:∀ f fn a,P f=some fn->T.fn f=some a->FnOk T gl fn a):∀ n,CallOk T (Ag P isExc fuel n) n:=by
 intro n
 induction n with
 | zero =>
  intro fe hd A g σ s m f a vs xs hf st fr hne hA hH r
  exact Sim.bad
 | succ n ih =>
  intro fe hd A g σ s m f a vs xs hf st fr hne hA hH r
  show Sim _ _ _ _ _ _ _ _ (match P f with | none=>.bad | some fn=>(match m with | .shared=>Bu ⟨Ag P isExc fuel n,isExc,fuel,hd⟩ fn vs σ | .frz=>(match CR vs with | true=>BK (Bu ⟨Ag P isExc fuel n,isExc,fuel,hd⟩ fn) vs false σ | false=>(match DR σ vs with | some xs=>BK (Bu ⟨Ag P isExc fuel n,isExc,fuel,hd⟩ fn) xs true σ | none=>.bad))):Res V)
  induction hP:P f with
  | none=>exact Sim.bad
  | some fn =>
   have fo:=fns f fn a hP hf
   have base:∀ {g:G} {σ:Store} {vs:List V},St T g σ s.heap->BI g s.heap fe->HOk g A->RepVs T g vs xs->Sim T (Af fe) none A g s (call (.ref a) xs) (Aj T) (Bu ⟨Ag P isExc fuel n,isExc,fuel,hd⟩ fn vs σ) :=
    fun st fr hH r=>fn_sim (C:=⟨Ag P isExc fuel n,isExc,fuel,hd⟩) rd fo ih st fr hA hH r
   induction m with
   | shared=>exact base st fr hH r
   | frz =>
    dsimp only
    induction hi:CR vs with
    | true =>
     dsimp only
     refine iso_inert st fr (base ⟨st.fz,rfl,List.nodup_nil,(fun b hb=>by cases hb),(fun k b o e1 _=>by simp at e1),st.base⟩ (fr.other fun c hc=>⟨(fr.mem hc).1,by simp⟩) ?_ (inert_rep hi r))
     exact hH.imp id fun hz_=>by obtain ⟨b,q1,q2⟩:=hz_; exact ⟨b,q1,CT.up (g:=g) (g':=⟨g.fz,[]⟩) (fun _ _ h=>h) q2⟩
    | false =>
     dsimp only
     induction hl:DR σ vs with
     | none=>exact Sim.bad
     | some ws =>
      dsimp only
      have fzl:∀ b o,(g.lend s.heap).fz b=some o->s.heap.get? b=some o:=fun b o hb=>by
       have hb':(if b∈g.mu then s.heap.get? b else g.fz b)=some o:=hb
       split at hb'
       ·exact hb'
       ·exact st.fz b o hb'
      have up:∀ b o,g.fz b=some o->(g.lend s.heap).fz b=some o:=fun b o hb=>by
       show (if b∈g.mu then s.heap.get? b else g.fz b)=some o
       rw [if_neg (fun hm=>by exact Ab ((Eq.symm (st.ap b hm)).trans hb))]; exact hb
      refine iso_lent (gc:=g.lend s.heap) rfl st fr (base ⟨fzl,rfl,List.nodup_nil,(fun b hb=>by cases hb),(fun k b o e1 _=>by simp [G.lend] at e1),fun b o hb=>up b o (st.base b o hb)⟩ (fr.other fun c hc=>⟨?_,by simp [G.lend]⟩) ?_ (lent_rep st hl r))
      ·show (if c∈g.mu then s.heap.get? c else g.fz c)=none
       rw [if_neg (fr.mem hc).2.1]; exact (fr.mem hc).1
      ·exact hH.imp id fun hz_=>by obtain ⟨b,q1,q2⟩:=hz_; exact ⟨b,q1,q2.up up⟩
end
end Mine.Internal
set_option maxRecDepth 100000
namespace Mine.Internal
open PySem PySem.Calls PySem.W
structure ExcK (K:Frag) (D:Addr):Prop where
 ga:findIn K (.ref D) "__getattribute__" = some (some (.builtin "BaseException.__getattribute__"))
 gh:findIn K (.ref D) "__getattr__" = some none
 fo:findObj K D none "__class__" = some (.bind (.builtin "getset_descriptor.__get__") (.builtin "object.__class__"))
 mo:mroIn K D (.type "object")=some true
 mb:mroIn K D (.type "BaseException")=some true
 is:(clsIn K D).isSome=true
theorem exc_class {prog:Program} {w:World} {A:Around} {E:Value->Shared->Prop} {s:Shared} {K:Frag} {x D:Addr} {ox:Obj} {Q:Option Value->Shared->Prop} (X:K.In s.heap) (I:PySem.W.InstAt s.heap x ox D none) (F':ExcK K D)
 (hq:Q (some (.ref D)) { s with toks:=s.toks+1 }):wpAny (model prog w) A (getAttr? (.ref x) "__class__") Q E s:=by
 obtain ⟨hga,hgh,hf,hm,hmB,_⟩:=F'
 obtain ⟨hh,g,d,t,os⟩:=s
 have L0:=I.type (M:=model prog w)
 have L1:=looks_findIn (M:=model prog w) X hga
 have L2:=looks_findIn (M:=model prog w) X hgh
 have L3:=looks_find (M:=model prog w) X I hf
 have LB:=looks_mroIn (M:=model prog w) X hmB
 have f3:=F.excAttr_ValueError.ga.bind (.ref x)
 unfold getAttr? getAttrBy? getAttrBy
 refine wpAny_bind (wpAny_mkText (wpAny_bind (wpAny_attempt (wpAny_holding (wpAny_bind (L0.at (wpAny_bind (L1.at ?_))))))))
 have hx2:(Value.builtin "BaseException.__getattribute__" == Value.builtin "object.__getattribute__")=false:=by decide +kernel
 show wpAny _ _ (if (onTheHeap (Value.ref D)&&Value.builtin "BaseException.__getattribute__" == Value.builtin "object.__getattribute__")=true then _ else _) _ _ _
 rw [hx2,Bool.and_false,if_neg Bool.false_ne_true]
 unfold getAttrByItsOwn
 show wpAny _ _ (typeLookup (.ref D) "__getattr__" >>= _) _ _ _
 refine wpAny_bind (L2.at ?_)
 refine wpAny_bind (wpAny_attempt (wpAny_holding ?_))
 show wpAny _ _ (bindSpecial (.builtin "BaseException.__getattribute__") (.ref x)>>=fun p=>call p.1 (p.2++[.str "__class__" t])) _ _ _
 refine wpAny_bind (wpAny_of_eq f3 ?_)
 show wpAny _ _ (call (.builtin "BaseException.__getattribute__") [.ref x,.str "__class__" t]) _ _ _
 refine wpAny_call (codeAny_call_builtin F.excAttr_ValueError.ga.plain F.entry_bexc_ga ?_)
 have hk:builtinKind "BaseException.__getattribute__" = some .slot:=by decide +kernel
 have hsplit:splitId "BaseException.__getattribute__" = some ("BaseException","__getattribute__"):=by decide +kernel
 have ha:=F.args_bexc_ga (.ref x) (.str "__class__" t)
 have LI:Looks (model prog w) hh (isInstance (.ref x) (.type "BaseException")) true:=L0.andThen LB
 simp only [checkBuiltinCall,hk,hsplit]
 refine wpAny_bind (LI.at ?_)
 repeat (first | assumption | wp_step)
 refine wpAny_loadPart I.at_ (wpAny_pure ?_)
 rw [I.cls]
 refine wpAny_bind (L3.at ?_)
 unfold Builtin.ObjectAttr.bindTo
 show wpAny _ _ (holding [.builtin "object.__class__"] (call (.builtin "getset_descriptor.__get__") [.builtin "object.__class__",.ref x,.ref D])>>=fun v=>ret v) _ _ _
 refine wpAny_bind (wpAny_holding (wpAny_call (class_get (s:=⟨hh,g,d,t+1,os⟩) (ox:=ox) (od:=none) X I hm ?_)))
 exact wpAny_pure (wpAny_pure (wpAny_pure hq))
set_option tactic.hygienic true in
set_option tactic.hygienic true in
theorem kitx_exc {K:Frag} {x D:Addr} {ox:Obj} (F':ExcK K D):KitX K (.ref x) (.ref D) (fun h=>PySem.W.InstAt h x ox D none) where
 ty:=fun _ _ _ I=>I.type
 it:=fun _ _ X _=>by
  have hcD:=F'.is
  unfold clsIn at hcD
  split at hcD
  ·rename_i c' d' cd' sl' ho
   intro A' Q' E' s' k q
   unfold isType loadHead
   exact wpAny_bind (wpAny_loadPart (k _ _ (X _ _ ho)) (wpAny_pure q))
  ·exact ff_ hcD
 ne:=fun h tp dd its n sl X htp=>by
  have hcD:=F'.is
  refine Bool.eq_false_iff.mpr fun q=>?_
  have e:D=tp:=Value.ref.inj (beq_iff_eq.mp q)
  subst e
  unfold clsIn at hcD
  split at hcD
  ·rename_i c' d' cd' sl' ho
   have z:=(X _ _ ho).symm.trans htp
   exfalso; cases z
  ·exact ff_ hcD
 ca:=fun X I k=>exc_class X I F' k
theorem inst_exc {h:Heap} {e D:Addr} {o:Obj} (he:h.get? e=some o) (hc:o.cls=.ref D) (hd:o.dict=none) (hf:∃ ws,o.data=.fields ws):PySem.W.InstAt h e o D none:=by
 obtain ⟨ws,hf⟩:=hf
 refine ⟨he,hc,?_,?_⟩
 ·obtain ⟨c,dd,dt,sl⟩:=o
  simp only at hf; subst hf; rfl
 ·rw [hd]; trivial
theorem isi_of {T:Top} {isExc:Nat->Nat->Option Bool} {K:Frag} (X:K.In T.h0) (cls:∀ c k b,isExc c k=some b->∃ D,T.cls (kl c)=some (.ref D)/\ExcK K D)
 (one:∀ c k b D w,isExc c k=some b->T.cls (kl c)=some (.ref D)->T.cls k=some w->kitOne K (.ref D) w=some b):IsiOk T isExc:=by
 intro c k b w hb hw A Q E s e o hk he hc h
 obtain ⟨D,hD,F'⟩:=cls c k b hb
 have ho:o.cls=.ref D:=by have:=hc.1; rw [hD] at this; exact (Option.some.inj this).symm
 exact kia_one (kitx_exc (ox:=o) F') (fun a o e=>hk a o (X a o e)) (inst_exc he ho hc.2.1 hc.2.2) (one c k b D w hb hD hw) (by intro q; exfalso; cases q) h
theorem catch_of {T:Top} {isExc:Nat->Nat->Option Bool} {K:Frag} (X:K.In T.h0) (cls:∀ c k b,isExc c k=some b->∃ D,T.cls (kl c)=some (.ref D)/\ExcK K D)
 (one:∀ c k b D w,isExc c k=some b->T.cls (kl c)=some (.ref D)->T.cls k=some w->kitCls K (.ref D) w=some b/\kitCls K w (.type "BaseException")=some true):CatchOk T isExc:=by
 intro c k b w hb hw A Q E s e o hk he hc h
 obtain ⟨D,hD,F'⟩:=cls c k b hb
 have ho:o.cls=.ref D:=by have:=hc.1; rw [hD] at this; exact (Option.some.inj this).symm
 have X':K.In s.heap:=fun a o e=>hk a o (X a o e)
 obtain ⟨e1,e2⟩:=one c k b D w hb hD hw
 obtain ⟨L1,L2,L3⟩:=kit_cls (M:=model T.prog T.w) X' e1
 obtain ⟨_,_,L4⟩:=kit_cls (M:=model T.prog T.w) X' e2
 have L0:=(inst_exc he ho hc.2.1 hc.2.2).type (M:=model T.prog T.w)
 have LT:Looks (model T.prog T.w) s.heap (isInstance w (.type "tuple")) false:=L1.andThen (Looks.of_pure (by rw [isSubtype_type]; kernel_rfl))
 unfold excMatches
 refine wpAny_bind (LT.at ?_)
 have LE:Looks (model T.prog T.w) s.heap (isExcClass w) true:=by
  unfold isExcClass
  exact L2.andThen L4
 simp only [Bool.false_eq_true,if_false,pure_bind,List.forIn_cons,List.forIn_nil]
 refine wpAny_bind (wpAny_bind (wpAny_bind (LE.at ?_)))
 simp only [Bool.not_true,Bool.false_eq_true,if_false]
 refine wpAny_pure (wpAny_pure ?_)
 refine wpAny_bind (L0.at (wpAny_bind (wpAny_bind (wpAny_bind (L3.at ?_)))))
 induction b with
 | true =>
  simp only [if_true]
  exact wpAny_pure (wpAny_pure (wpAny_pure h))
 | false =>
  simp only [Bool.false_eq_true,if_false]
  exact wpAny_pure (wpAny_pure (wpAny_pure h))
end Mine.Internal
namespace Mine.Internal
open PySem PySem.Calls PyProof.Rows
section
variable {prog:Program} {w:World} {A:Around} {E:Value->Shared->Prop} {env:Env}
variable {nm q:Str} {C N:Addr} {bs bm:List Value} {hdct:Bool} {sn:List Str} {sub:List Value} {ab:Bool} {col:Option Bool} {dd:Option Addr} {k0 k1 k2 k3 k5:Option Value} {newId:String}
theorem raiseStmt_any {s:Shared} {g:G} {x:Sem Value} {Q:Flow->Shared->Prop} (hbase:bm.contains (.type "BaseException")=true) (hH:HOk g A)
 (h:wpAny (model prog w) A x (fun v s₁=>∃ e t,v=.ref e/\s₁.heap.get? C=some (excClassObj nm q C N bs bm hdct sn sub ab col dd k0 k1 k2 k3 k5 newId) ∧
  s₁.heap.get? e=some { cls:=.ref C,data:=.fields #[.ref t,.none,.none,.none,.bool false,.none] }/\g.fz e=none/\(∀ b o,g.fz b=some o->s₁.heap.get? b=some o) ∧
  ∀ h' oe vs u,Heap.SameBut e s₁.heap h'->h'.get? e=some oe->oe.cls=.ref C->oe.dict=none->oe.data=.fields vs->vs[1]? = some .none->vs[2]? = some u->CT g u->(A.handled=none->u=.none)->E (.ref e) { s₁ with heap:=h' }) E s) :
 wpAny (model prog w) A (raiseStmt env (some x) none) Q E s:=by
 have hcB:(Value.ref C::bm).contains (.type "BaseException")=true:=by rw [List.contains_cons,hbase,Bool.or_true]
 unfold raiseStmt
 refine wpAny_bind (wpAny_mono h (fun v s₁ h₁=>?_) fun _ _ x=>x)
 obtain ⟨e,t,rfl,hC,he,hz,hf,hE⟩:=h₁
 obtain ⟨hp,g',d,tk,os⟩:=s₁
 repeat (first | with_reducible refine wpAny_loadPart_at he ?_ | with_reducible refine wpAny_loadPart_at hC ?_ | (with_reducible refine wpAny_isSubtype_exc hC ?_; rw [hcB]) | wp_step)
 refine FK hH hf he rfl (by simp) hz fun h' o' hs ho hc hdi hd=>?_
 rcases hd with ⟨hh,hd⟩ | ⟨b,hb,hh,hd⟩
 ·exact hE h' o' _ .none hs ho hc hdi hd rfl rfl .none fun _=>rfl
 ·exact hE h' o' _ (.ref b) hs ho hc hdi hd rfl rfl hb fun q=>absurd q hh
end
theorem raise_of {T:Top} (own:∀ c v,c≠0->T.cls c=some v->∃ (x:Str) (C:Addr) (bm:List Value) (newId B initId:String) (mg:Str->Option Value),v=.ref C/\OwnCls x C bm newId mg T.h0/\ExcBaseFacts B newId initId bm):RaiseOk T:=by
 intro c v hc hv A env s nm np cp pos args Q E g hH hplain h
 obtain ⟨x,C,bm,newId,B,initId,mg,rfl,O,FB⟩:=own c v hc hv
 obtain ⟨tl,N,nm',q,bs,hdct,sn,sub,ab,col,dd,k0,k1,k2,k3,k5,mN,hC,hN,hni,Tl⟩:=O.obj
 rw [arm_exec_Raise]
 refine wpAny_bind (wpAny_standAt (raiseStmt_any (C:=C) (nm:=nm') (q:=q) (N:=N) (bs:=bs) (bm:=tl) (hdct:=hdct) (sn:=sn) (sub:=sub) (ab:=ab) (col:=col) (dd:=dd) (k0:=k0) (k1:=k1) (k2:=k2) (k3:=k3) (k5:=k5) (newId:=newId)
  (Tl.hasType FB.hasBase) hH (wpAny_bind (wpAny_mono (wpAny_Call_ofName (wpAny_mono h (fun f s₁ h₁=>?_) fun _ _ x=>x)) (fun v s3 h₃=>wpAny_bind (wpAny_standAt (wpAny_pure h₃))) fun _ _ x=>x))))
 obtain ⟨rfl,h₁⟩:=h₁
 unfold callWith
 refine wpAny_bind (wpAny_holding (wpAny_mono h₁ (fun a s2 h₂=>wpAny_bind (wpAny_standAt ?_)) fun _ _ x=>x))
 obtain ⟨apos,akw⟩:=a
 obtain ⟨hkw,hlen,hbase,hfz,h₂⟩:=h₂
 obtain rfl:akw=[]:=hkw
 have hC:=hbase _ _ hC
 have hN:=hN.keeps hbase
 have Tl:=Tl.keeps hbase
 obtain ⟨hp,g',d,tk,os⟩:=s2
 rw [hplain]
 refine wpAny_bind (wpAny_keeperOf_exc hC ?_)
 refine wpAny_bind (wpAny_call_exc_subT (hrest:=hlen) FB Tl hC hN hni fun h' e hm=>wpAny_bind (wpAny_holding (wpAny_point (wpAny_pure ?_))))
 obtain ⟨t,ht,_,_⟩:=hm.there
 have hnew:∀ b o,g.fz b=some o->b≠e:=fun b o hb w=>by
  have:=hfz b o hb
  rw [w] at this
  exact Ab ((Eq.symm (hm.new)).trans this)
 refine ⟨e,t,rfl,hm.keeps _ _ hC,ht,?_,fun b o hb=>hm.keeps b o (hfz b o hb),fun h'' oe vs u hs ho hcl hdi hda h1 hu hch hnn=>h₂ h'' e oe vs hm.new (fun b o hb=>?_) ho hcl hdi hda h1 u hu hch hnn⟩
 ·induction hz:g.fz e with
  | none=>rfl
  | some o=>exact absurd rfl (hnew e o hz)
 ·exact (hs.2 b fun w=>by rw [w,hm.new] at hb; exact Ab hb).trans (hm.keeps b o hb)
end Mine.Internal
namespace Mine.Internal
open PySem PySem.Calls
theorem lookup_zip_some {ns:List Str} {vals:List Value} (h:vals.length=ns.length) {n:Str} (hn:n∈ns):((ns.zip vals).lookup n).isNone=false:=by
 induction ns generalizing vals with
 | nil=>simp at hn
 | cons a ns ih =>
  induction vals with
  | nil=>simp at h
  | cons v vals =>
   rw [List.zip_cons_cons,List.lookup_cons]
   by_cases e:n == a
   ·rw [e]; rfl
   ·have e':(n == a)=false:=by exact Bool.not_eq_true _ |>.mp e
    rw [e']
    refine ih (by exact Nat.succ.inj h) ?_
    simp only [List.mem_cons] at hn
    rcases hn with hn | hn
    ·rw [hn] at e; simp at e
    ·exact hn
theorem Ff:∀ {ns:List Str} {vals:List Value},vals.length=ns.length->ns.Nodup->ns.filterMap (fun n=>((ns.zip vals).lookup n).map (n,·))=ns.zip vals
 | [],[],_,_=>rfl
 | [],_::_,h,_=>by simp at h
 | _::_,[],h,_=>by simp at h
 | a::ns,v::vals,h,hn=>by
  rw [List.nodup_cons] at hn
  rw [List.zip_cons_cons,List.filterMap_cons]
  have h0:List.lookup a ((a,v)::ns.zip vals)=some v:=by rw [List.lookup_cons]; simp
  rw [h0]
  simp only [Option.map_some]
  congr 1
  have:∀ x∈ns,(List.lookup x ((a,v)::ns.zip vals))=List.lookup x (ns.zip vals):=by
   intro x hx
   rw [List.lookup_cons]
   have:(x == a)=false:=by
    simp only [beq_eq_false_iff_ne]; intro e; exact hn.1 (e▸hx)
   rw [this]
  have e:∀ l:List Str,(∀ x∈l,x∈ns)->l.filterMap (fun n=>Option.map (n,·) (List.lookup n ((a,v)::ns.zip vals)))=l.filterMap (fun n=>Option.map (n,·) (List.lookup n (ns.zip vals))):=by
   intro l hl
   induction l with
   | nil=>rfl
   | cons b l ih=>rw [List.filterMap_cons,List.filterMap_cons,this b (hl b (by exact .head _)),ih (fun x hx=>hl x (by exact .tail _ hx))]
  rw [e ns (fun _ h=>h)]
  exact Ff (ns:=ns) (vals:=vals) (by exact Nat.succ.inj h) hn.2
theorem bind_plain {name:Str} {as:List Arg} {kd:List (Option Expr)} {df:List Expr} {body:List Stmt} {scope:Scope} {pm cd doc:Value} {vals:List Value} (h:vals.length=as.length) (hn:(as.map (·.arg)).Nodup) :
 bindArgs (docDef name ⟨[],as,none,[],kd,none,df⟩ body scope pm cd doc) ⟨vals,[]⟩=pure ((as.map (·.arg)).zip vals):=by
 have hl:vals.length=(as.map (·.arg)).length:=by simpa using h
 have h1:(List.filter (fun n=>(List.lookup n ((as.map (·.arg)).zip vals)).isNone) (as.map (·.arg)))=[]:=by
  rw [List.filter_eq_nil_iff]
  intro n hn
  rw [lookup_zip_some hl hn]; simp
 have h2:=Ff hl hn
 have h3:¬ (as.map (·.arg)).length < vals.length:=by lia
 have h4:decide (vals.length > (as.map (·.arg)).length)=false:=by rw [decide_eq_false_iff_not]; (with_reducible assumption)
 have h5:notAStandIn .none=pure ():=rfl
 unfold bindArgs docDef seqItems?
 simp only [List.map_nil,List.nil_append,List.forIn_nil,pure_bind,List.append_nil,Option.isNone_none,Bool.and_true,List.length_nil,h4,h5,Option.getD_none,Bool.false_eq_true,if_false,List.drop_nil,List.zip_nil_right,Nat.sub_zero,List.take_length,h1,List.isEmpty_nil,Bool.not_true,h2]
end Mine.Internal
namespace Mine.Internal
open PySem PySem.Calls PyProof.Rows
noncomputable def Ak (p:Program) (n:Str):List Stmt:=match (recsOf p).find? (·.name == n) with | some d=>d.body | none=>[]
noncomputable def parOk (o:Option NameKind):Bool:=match o with | some .local=>true | some .cell=>true | _=>false
noncomputable def okRec (gl:Str->Option GV) (x:Nat×Str×Fn×List Str) (d:DefRec):Bool :=
 decide (d.scope.kind=.function) && !d.scope.isGenerator && !d.scope.isCoroutine&&decide (x.2.2.2.Nodup)&&decide (x.2.2.2.length=x.2.2.1.nvars)&&decide (x.2.2.1.nparams<=x.2.2.1.nvars) &&
  (x.2.2.2.take x.2.2.1.nparams).all (fun n=>parOk (d.scope.names.lookup n))&&d.scope.names.all (fun q=>decide (q.2≠.free)) &&
  (d.params.posonlyargs.isEmpty&&d.params.vararg.isNone&&d.params.kwonlyargs.isEmpty&&d.params.kwarg.isNone&&decide (d.params.args.map (·.arg)=x.2.2.2.take x.2.2.1.nparams)) &&
  okSs x.2.2.1.body ⟨x.2.2.2,d.scope.names,x.2.2.2,gl⟩ d.body
noncomputable def Bw (p:Program) (gl:Str->Option GV) (x:Nat×Str×Fn×List Str):Bool:=((recsOf p).find? (·.name == x.2.1)).any (okRec gl x)
theorem Ge {α:Type} {f:α->Bool} {o:Option α} (h:o.any f=true):∃ d,o=some d/\f d=true:=by
 induction o with
 | none=>exact (Bool.false_ne_true h).elim
 | some d=>exact ⟨d,rfl,h⟩
section
variable {p:Program} {loose:List Str} {mean:ExcName->Option Value} {mg mb:Str->Option Value} {T:Mine.Internal.Top} {gl:Str->Option GV}
theorem okFn_rec {x:Nat×Str×Fn×List Str} (h:Bw p gl x=true):∃ d,d∈recsOf p/\d.name=x.2.1:=by
 obtain ⟨d,hd,_⟩:=Ge h
 exact ⟨d,List.mem_of_find?_eq_some hd,eq_of_beq (show (d.name == x.2.1)=true from List.find?_some (p:=fun (y:DefRec)=>y.name == x.2.1) hd)⟩
theorem parOk_of {o:Option NameKind} (h:parOk o=true):o=some .local\/o=some .cell:=by
 induction o with
 | none=>exact (Bool.false_ne_true h).elim
 | some k =>
  induction k with
  | «local»=>exact .inl rfl
  | cell=>exact .inr rfl
  | _=>exact (Bool.false_ne_true h).elim
theorem fnOk_of (Tp:PyProof.Rows.Top p loose mean mg mb T.h0) {x:Nat×Str×Fn×List Str} (h:Bw p gl x=true) (hem:emSs x.2.2.1.body (Ak p x.2.1)=Ak p x.2.1) {a:Addr} (ha:mg x.2.1=some (.ref a)):FnOk T gl x.2.2.1 a:=by
 obtain ⟨d,hd,h⟩:=Ge h
 ·have hm:=List.mem_of_find?_eq_some hd
  have hn:d.name=x.2.1:=eq_of_beq (show (d.name == x.2.1)=true from List.find?_some (p:=fun (y:DefRec)=>y.name == x.2.1) hd)
  unfold okRec at h
  simp only [Bool.and_eq_true,decide_eq_true_eq,Bool.not_eq_true',List.all_eq_true,List.isEmpty_iff,Option.isNone_iff_eq_none] at h
  obtain ⟨⟨⟨⟨⟨⟨⟨⟨⟨h1,h2⟩,h3⟩,h4⟩,h5⟩,h6⟩,h7⟩,h8⟩,⟨⟨⟨⟨p1,p2⟩,p3⟩,p4⟩,p5⟩⟩,h9⟩:=h
  obtain ⟨a',o,pm,code,doc,e1,e2,e3,e4⟩:=Tp.fn d hm
  rw [hn,ha] at e1
  cases e1
  have hbo:Ak p x.2.1=d.body:=by show (match (recsOf p).find? (·.name == x.2.1) with | some d=>d.body | none=>[])=_; rw [hd]
  rw [hbo] at hem
  refine ⟨d.name,d.params,d.body,d.scope,pm,code,doc,o,x.2.2.2,e2,e3,e4,h1,h2,h3,h4,h5,h6,fun vals hv=>?_,fun n hn=>?_,fun q hq=>?_,hem▸isSs_of _ h9⟩
  ·rcases hP:d.params with ⟨po,as,va,ko,kd,kw,df⟩
   rw [hP] at p1 p2 p3 p4 p5
   simp only at p1 p2 p3 p4 p5
   subst p1 p2 p3 p4
   rw [<-p5]
   refine bind_plain ?_ ?_
   ·have:as.length=(as.map (·.arg)).length:=by simp
    rw [this,p5,List.length_take,h5,hv]; lia
   ·rw [p5]; exact List.Nodup.sublist (List.take_sublist _ _) h4
  ·exact parOk_of (h7 n hn)
  ·exact h8 q hq
noncomputable def Ei (p:Program) (loose:List Str) (x:Str):Bool :=
 !startupNames.contains x && !loose.contains x && !((recsOf p).map (·.name)).contains x && !((litsOf p).map (·.1)).contains x && !((clssOf p loose).map (·.name)).contains x&&(x != ("__name__" : Str))
theorem free_of (Tp:PyProof.Rows.Top p loose mean mg mb T.h0) {x:Str} (h:Ei p loose x=true):mg x=none/\mb x=bootBuiltins x:=by
 unfold Ei at h
 simp only [Bool.and_eq_true,Bool.not_eq_true',bne_iff_ne,ne_eq] at h
 obtain ⟨⟨⟨⟨⟨h1,h2⟩,h3⟩,h4⟩,h5⟩,h6⟩:=h
 have nc:∀ (l:List Str),l.contains x=false->x∉l:=fun l hl hm=>by
  exact tt_ ((Eq.symm (List.contains_iff_mem.mpr hm)).trans hl)
 exact ⟨Tp.free x (nc _ h1) (nc _ h2) (nc _ h3) (nc _ h4) (nc _ h5),Tp.builtins x h6⟩
noncomputable def conOk (d:PyData):Bool:=match d with | .int _=>true | .str x=>decide (x.length<=line) | _=>false
noncomputable def okGl (p:Program) (loose:List Str) (fns:List (Nat×Str×Fn×List Str)) (cn:List (Nat×Str)) (e:Str×GV):Bool :=
 match e.2 with
 | .fn f=>(fns.find? (·.1 == f)).any fun x=>x.2.1 == e.1
 | .cls c=>bif c == 0 then Ei p loose e.1&&(bootBuiltins e.1 == some (.type "ValueError")) else (cn.lookup c == some e.1)&&(ownsOf p).any (·.name == e.1)
 | .con d=>(valOf p e.1).any fun d'=>dataIs d d'&&conOk d
 | .bi b=>Ei p loose e.1&&(bootBuiltins e.1 == some (Dn b))
 | .ty t=>Ei p loose e.1&&(bootBuiltins e.1 == some (.type t))
noncomputable def refOf (v:Value):Option Addr:=match v with | .ref a=>some a | _=>none
theorem refOf_eq {o:Option Value} {a:Addr} (h:o.bind refOf=some a):o=some (.ref a):=by
 induction o with
 | none=>exact Ab h
 | some v=>cases v with
  | ref b=>rw [Option.some.inj (show some b=some a from h)]
  | _=>exact Ab h
noncomputable def fnsOf (mg:Str->Option Value) (fns:List (Nat×Str×Fn×List Str)) (f:Nat):Option Addr :=
 (fns.find? (·.1 == f)).bind fun x=>(mg x.2.1).bind refOf
theorem Fy {fns:List (Nat×Str×Fn×List Str)} {f:Nat} {x:Nat×Str×Fn×List Str} (h:fns.find? (·.1 == f)=some x):fnsOf mg fns f=(mg x.2.1).bind refOf:=by
 show (fns.find? (·.1 == f)).bind _=_
 rw [h]; rfl
noncomputable def clsOf (mg:Str->Option Value) (cn:List (Nat×Str)) (c:Nat):Option Value :=
 if c=0 then some (.type "ValueError") else match cn.lookup c with
  | some n=>mg n
  | none=>none
noncomputable def okOwn (p:Program) (e:Nat×Str):Bool:=(ownsOf p).any fun o=>o.name == e.2&&o.newId == "ValueError.__new__" && o.bm == [.type "ValueError",.type "Exception",.type "BaseException",.type "object"]
theorem ns_of (Tp:PyProof.Rows.Top p loose mean mg mb T.h0) {fns:List (Nat×Str×Fn×List Str)} {cn:List (Nat×Str)} {L:List (Str×GV)} (hfn:T.fn=fnsOf mg fns) (hcl:T.cls=clsOf mg cn)
 (hok:∀ x∈fns,Bw p gl x=true) (h:∀ e∈L,okGl p loose fns cn e=true) :
 ∃ mg mb,T.h0.Ns mainGlobals mg/\T.h0.Ns builtinsNs mb/\∀ n v,L.lookup n=some v->(match v with
  | .fn f=>∃ a,T.fn f=some a/\mg n=some (.ref a)
  | .cls c=>∃ x,T.cls c=some x/\(mg n=some x\/(mg n=none/\mb n=some x))
  | .con d=>∃ x,mg n=some x/\B7 (fun a=>T.h0.get? a) d x
  | .bi b=>mg n=none/\mb n=some (Dn b)
  | .ty t=>mg n=none/\mb n=some (.type t)):=by
 refine ⟨mg,mb,Tp.g,Tp.b,fun n v hv=>?_⟩
 have he:=h (n,v) (mem_of_lookup hv)
 induction v with
 | fn f =>
  obtain ⟨x,hx,he⟩:=Ge (show (fns.find? (·.1 == f)).any (fun x=>x.2.1 == n)=true from he)
  ·have hn:x.2.1=n:=eq_of_beq he
   obtain ⟨d,hd,hdn⟩:=okFn_rec (hok x (List.mem_of_find?_eq_some hx))
   obtain ⟨a,o,pm,code,doc,e1,_⟩:=Tp.fn d hd
   rw [hdn,hn] at e1
   refine ⟨a,?_,e1⟩
   rw [hfn,Fy hx,hn,e1]
   rfl
 | cls c =>
  by_cases hc:c=0
  ·subst hc
   have he:=Bool.and_eq_true_iff.mp (show (Ei p loose n&&(bootBuiltins n == some (.type "ValueError")))=true from he)
   obtain ⟨f1,f2⟩:=free_of Tp he.1
   refine ⟨.type "ValueError",by rw [hcl]; rfl,.inr ⟨f1,by rw [f2]; exact beq_iff_eq.mp he.2⟩⟩
  ·replace he:(bif c == 0 then Ei p loose n&&(bootBuiltins n == some (.type "ValueError")) else (cn.lookup c == some n)&&(ownsOf p).any (·.name == n))=true:=he
   rw [beq_eq_false_iff_ne.mpr hc] at he
   obtain ⟨h1,h2⟩:=Bool.and_eq_true_iff.mp he
   obtain ⟨o,h2,h3⟩:=List.any_eq_true.mp h2
   obtain ⟨C,O,_⟩:=Tp.own o h2
   have hn:o.name=n:=eq_of_beq h3
   have hb:=O.bound
   rw [hn] at hb
   have h1:cn.lookup c=some n:=eq_of_beq h1
   refine ⟨.ref C,?_,.inl hb⟩
   rw [hcl]; show (if c=0 then _ else match cn.lookup c with | some n=>mg n | none=>none)=_
   rw [if_neg hc,h1]; exact hb
 | con d =>
  obtain ⟨d',hd,he⟩:=Ge (show (valOf p n).any (fun d'=>dataIs d d'&&conOk d)=true from he)
  ·obtain ⟨h1,h2⟩:=Bool.and_eq_true_iff.mp he
   have:=dataIs_eq h1; subst this
   obtain ⟨v,q1,q2⟩:=Tp.const n d hd
   refine ⟨v,q1,?_⟩
   cases d with
   | int i =>
    have:=q2 default
    cases this
    exact ⟨_,rfl⟩
   | str x =>
    have:=q2 default
    cases this
    exact ⟨_,rfl,of_decide_eq_true h2⟩
   | _=>exact (Bool.false_ne_true h2).elim
 | bi b =>
  have he:=Bool.and_eq_true_iff.mp (show (Ei p loose n&&(bootBuiltins n == some (Dn b)))=true from he)
  obtain ⟨f1,f2⟩:=free_of Tp he.1
  exact ⟨f1,by rw [f2]; exact beq_iff_eq.mp he.2⟩
 | ty t =>
  have he:=Bool.and_eq_true_iff.mp (show (Ei p loose n&&(bootBuiltins n == some (.type t)))=true from he)
  obtain ⟨f1,f2⟩:=free_of Tp he.1
  exact ⟨f1,by rw [f2]; exact beq_iff_eq.mp he.2⟩
theorem fnob_of (Tp:PyProof.Rows.Top p loose mean mg mb T.h0) {fns:List (Nat×Str×Fn×List Str)} (hfn:T.fn=fnsOf mg fns) (hok:∀ x∈fns,Bw p gl x=true) :
 ∀ f a,T.fn f=some a->∃ o fd,T.h0.get? a=some o/\o.data=.func fd:=by
 intro f a h
 rw [hfn] at h
 obtain ⟨x,hx,h⟩:=Option.bind_eq_some_iff.mp (show (fns.find? (·.1 == f)).bind (fun x=>(mg x.2.1).bind refOf)=some a from h)
 ·obtain ⟨d,hd,hdn⟩:=okFn_rec (hok x (List.mem_of_find?_eq_some hx))
  obtain ⟨a',o,pm,code,doc,e1,e2,e3,_⟩:=Tp.fn d hd
  rw [<-hdn,e1] at h
  cases (show some a'=some a from h)
  exact ⟨o,_,e2,e3⟩
theorem fns_ok (Tp:PyProof.Rows.Top p loose mean mg mb T.h0) {fns:List (Nat×Str×Fn×List Str)} (hfn:T.fn=fnsOf mg fns) (hok:∀ x∈fns,Bw p gl x=true) (hem:∀ x∈fns,emSs x.2.2.1.body (Ak p x.2.1)=Ak p x.2.1) {P:Nat->Option Fn}
 (hP:∀ f fn,P f=some fn->∃ x,fns.find? (·.1 == f)=some x/\x.2.2.1=fn):∀ f fn a,P f=some fn->T.fn f=some a->FnOk T gl fn a:=by
 intro f fn a h1 h2
 obtain ⟨x,hx,rfl⟩:=hP f fn h1
 rw [hfn,Fy hx] at h2
 exact fnOk_of Tp (hok x (List.mem_of_find?_eq_some hx)) (hem x (List.mem_of_find?_eq_some hx)) (refOf_eq h2)
set_option tactic.hygienic true in
theorem Dh {c:Nat} {n:Str}:∀ {l:List (Nat×Str)},l.lookup c=some n->(c,n)∈l
 | [],h=>by exact Ab h
 | b::l,h=>by
  rw [List.lookup_cons] at h
  split at h
  ·rename_i hb
   have:c=b.1:=by exact eq_of_beq hb
   obtain rfl:=Option.some.inj h; subst this; exact List.mem_cons_self ..
  ·exact List.mem_cons_of_mem _ (Dh h)
set_option tactic.hygienic true in
set_option tactic.hygienic true in
theorem own_of (Tp:PyProof.Rows.Top p loose mean mg mb T.h0) {cn:List (Nat×Str)} (hcl:T.cls=clsOf mg cn) (hok:∀ e∈cn,okOwn p e=true) :
 ∀ c v,c≠0->T.cls c=some v->∃ (x:Str) (C:Addr) (bm:List Value) (newId B initId:String) (mg:Str->Option Value),v=.ref C/\OwnCls x C bm newId mg T.h0/\ExcBaseFacts B newId initId bm:=by
 intro c v hc hv
 rw [hcl] at hv
 unfold clsOf at hv
 rw [if_neg hc] at hv
 split at hv
 ·rename_i n hn
  have he:=hok (c,n) (Dh hn)
  unfold okOwn at he
  rw [List.any_eq_true] at he
  obtain ⟨o,ho,h⟩:=he
  simp only [Bool.and_eq_true,beq_iff_eq] at h
  obtain ⟨⟨h1,h2⟩,h3⟩:=h
  obtain ⟨C,O,_⟩:=Tp.own o ho
  have hb:=O.bound
  rw [h1] at hb
  have:v=.ref C:=by
   have:=hv.symm.trans hb
   exact Option.some.inj this
  refine ⟨o.name,C,o.bm,o.newId,"ValueError","ValueError.__init__",mg,this,O.own,?_⟩
  rw [h2,h3]
  exact F.excBase_ValueError
 ·exact Ab hv
end
end Mine.Internal
set_option maxRecDepth 100000
namespace Mine.Internal
open PySem PySem.W PyProof.Rows
theorem excOk_of {K:Frag} {D:Addr} (h:excOk K D=true):ExcK K D:=by
 unfold excOk at h
 simp only [Bool.and_eq_true] at h
 obtain ⟨⟨⟨⟨⟨h1,h2⟩,h3⟩,h4⟩,h5⟩,h6⟩:=h
 refine ⟨isVal_eq h1,isVal_eq h2,isBind_eq h3,DT h4,DT h5,h6⟩
end Mine.Internal
namespace Mine.Internal
noncomputable def AB:List Nat:=[97,98,99,100,101,102,103,104,105,106,107,108,109,110,111,112,113,114,115,116,117,118,119,120,121,122,48,49,50,51,52,53,54,55,56,57]
noncomputable def Aq (t:List Nat):Bool:=!(decide ((t.length:Int) < 1)||decide ((t.length:Int) > 12))&&t.all fun c=>decide (c∈AB)
theorem name_in {t:List Nat} (h:Aq t=true):∀ c∈t,c∈AB:=by
 simp only [Aq,Bool.and_eq_true,List.all_eq_true,decide_eq_true_eq] at h
 exact h.2
theorem B4 {t:List Nat} (h:Aq t=true):1<=t.length/\t.length<=12:=by
 simp only [Aq,Bool.and_eq_true,Bool.not_eq_true',Bool.or_eq_false_iff,decide_eq_false_iff_not] at h
 omega
noncomputable def AY (sep:List Nat):List (List Nat)->List Nat
 | []=>[]
 | a::r=>(match r with | []=>a | b::q=>a++sep++AY sep (b::q))
theorem Bt (sep a:List Nat):AY sep [a]=a:=by rw [AY]
theorem AO (sep a b:List Nat) (r:List (List Nat)):AY sep (a::b::r)=a++sep++AY sep (b::r):=by rw [AY]
theorem app_free {c:Nat}:∀ {a b x y:List Nat},c∉a->c∉b->a++c::x=b++c::y->a=b/\x=y
 | [],[],x,y,_,_,h=>⟨rfl,by simpa using h⟩
 | [],b::l,x,y,_,hb,h=>by
  simp only [List.nil_append,List.cons_append,List.cons.injEq] at h
  exact absurd (by rw [h.1]; simp) hb
 | a::l,[],x,y,ha,_,h=>by
  simp only [List.nil_append,List.cons_append,List.cons.injEq] at h
  exact absurd (by rw [h.1]; simp) ha
 | a::l,b::m,x,y,ha,hb,h=>by
  simp only [List.cons_append,List.cons.injEq] at h
  obtain ⟨h1,h2⟩:=app_free (fun e=>ha (List.mem_cons_of_mem _ e)) (fun e=>hb (List.mem_cons_of_mem _ e)) h.2
  exact ⟨by rw [h.1,h1],h2⟩
theorem sepL_inj {c:Nat}:∀ {A B:List (List Nat)},A≠[]->B≠[]->(∀ a∈A,c∉a)->(∀ b∈B,c∉b)->AY [c] A=AY [c] B->A=B
 | [],_,h,_,_,_,_=>absurd rfl h
 | _,[],_,h,_,_,_=>absurd rfl h
 | [a],[b],_,_,_,_,h=>by rw [Bt,Bt] at h; rw [h]
 | [a],b::b'::r,_,_,ha,_,h=>by
  rw [Bt,AO] at h
  exact absurd (by rw [h]; simp) (ha a (by simp))
 | a::a'::r,[b],_,_,_,hb,h=>by
  rw [Bt,AO] at h
  exact absurd (by rw [<-h]; simp) (hb b (by simp))
 | a::a'::r,b::b'::q,_,_,ha,hb,h=>by
  rw [AO,AO,List.append_assoc,List.append_assoc] at h
  obtain ⟨h1,h2⟩:=app_free (ha a (by simp)) (hb b (by simp)) h
  have:=sepL_inj (by simp) (by simp) (fun x hx=>ha x (List.mem_cons_of_mem _ hx)) (fun x hx=>hb x (List.mem_cons_of_mem _ hx)) h2
  rw [h1,this]
noncomputable def hang (x:Nat):List (List Nat)->List (List Nat)
 | []=>[[x]]
 | w::ws=>(x::w)::ws
noncomputable def Ai (c:Nat):List Nat->List (List Nat)
 | []=>[[]]
 | x::r=>if x=c then []::Ai c r else hang x (Ai c r)
theorem Bk (c:Nat):∀ t,Ai c t≠[]
 | []=>by simp [Ai]
 | x::r=>by
  rw [Ai]
  split
  ·simp
  ·cases h:Ai c r <;> simp [hang]
theorem hang_sep (c x:Nat) (W:List (List Nat)) (h:W≠[]):AY [c] (hang x W)=x::AY [c] W:=by
 cases W with
 | nil=>exact absurd rfl h
 | cons a r=>cases r with
  | nil=>rw [hang,Bt,Bt]
  | cons b q=>rw [hang,AO,AO]; rfl
set_option tactic.hygienic true in
theorem DN (c:Nat):∀ t,AY [c] (Ai c t)=t
 | []=>rfl
 | x::r=>by
  have ih:=DN c r
  rw [Ai]
  split
  ·rename_i h
   cases hs:Ai c r with
   | nil=>exact absurd hs (Bk c r)
   | cons b q=>rw [AO,<-hs,ih,h]; rfl
  ·rw [hang_sep c x _ (Bk c r),ih]
set_option tactic.hygienic true in
theorem split_free (c:Nat):∀ t,∀ w∈Ai c t,c∉w
 | [],w,h=>by simp [Ai] at h; simp [h]
 | x::r,w,h=>by
  have ih:=split_free c r
  rw [Ai] at h
  split at h
  ·rcases List.mem_cons.mp h with rfl | h
   ·simp
   ·exact ih w h
  ·rename_i hx
   cases hs:Ai c r with
   | nil=>exact absurd hs (Bk c r)
   | cons b q =>
    rw [hs,hang] at h
    rw [hs] at ih
    rcases List.mem_cons.mp h with rfl | h
    ·have:=ih b (by simp)
     simp only [List.mem_cons,not_or]
     exact ⟨fun e=>hx e.symm,this⟩
    ·exact ih w (by simp [h])
theorem Gm (c:Nat) (W:List (List Nat)) (h:W≠[]) (hf:∀ w∈W,c∉w):Ai c (AY [c] W)=W :=
 sepL_inj (Bk c _) h (split_free c _) hf (DN c _)
theorem split_one {c:Nat} {t:List Nat} (h:c∉t):Ai c t=[t]:=by
 have:=Gm c [t] (by simp) (by simpa using h)
 rwa [Bt] at this
theorem DL (c:Nat) (b:List Nat):∀ a,Ai c (a++c::b)=Ai c a++Ai c b
 | []=>by simp [Ai]
 | x::r=>by
  have ih:=DL c b r
  rw [List.cons_append,Ai,Ai,ih]
  split
  ·rfl
  ·cases hs:Ai c r with
   | nil=>exact absurd hs (Bk c r)
   | cons d q=>rfl
set_option tactic.hygienic true in
theorem CX (c:Nat):∀ t:List Nat,(Ai c t).length=t.count c+1
 | []=>rfl
 | x::r=>by
  have ih:=CX c r
  rw [Ai]
  split
  ·rename_i h; simp [h,ih]
  ·rename_i h
   rw [List.count_cons_of_ne h,<-ih]
   cases hs:Ai c r with
   | nil=>exact absurd hs (Bk c r)
   | cons d q=>rfl
theorem B3 (c:Nat) (t:List Nat):(Ai c t).length<=t.length+1:=by
 rw [CX]; have:=List.count_le_length (a:=c) (l:=t); (exact Nat.lt_succ_of_le ‹_›)
theorem split_mem (c:Nat) {x:Nat} (hx:x≠c) (t:List Nat) (h:x∈t):∃ w∈Ai c t,x∈w:=by
 induction t with
 | nil=>exfalso; cases h
 | cons y r ih =>
  rw [Ai]
  rcases List.mem_cons.mp h with rfl | h
  ·rw [if_neg hx]
   cases hs:Ai c r with
   | nil=>exact absurd hs (Bk c r)
   | cons d q=>exact ⟨_,List.mem_cons_self,by simp⟩
  ·obtain ⟨w,h1,h2⟩:=ih h
   split
   ·exact ⟨w,by simp [h1],h2⟩
   ·cases hs:Ai c r with
    | nil=>exact absurd hs (Bk c r)
    | cons d q =>
     rw [hs] at h1
     rcases List.mem_cons.mp h1 with rfl | h1
     ·exact ⟨_,List.mem_cons_self,by simp [h2]⟩
     ·exact ⟨w,by simp [hang,h1],h2⟩
noncomputable def LP (l:List Nat):Prop:=58∈l\/∀ p x q,l=p++32::x::q->x∉AB
theorem LP_words {l:List Nat} (h:LP l) (hw:∀ w∈Ai 32 l,Aq w=true):(Ai 32 l).length<=1:=by
 rcases h with h | h
 ·obtain ⟨w,h1,h2⟩:=split_mem 32 (by decide) l h
  exact absurd (name_in (hw w h1) _ h2) (by decide)
 ·have e:=DN 32 l
  cases hs:Ai 32 l with
  | nil=>simp
  | cons a r=>cases r with
   | nil=>simp
   | cons b q =>
    rw [hs] at e hw
    have hb:=hw b (by simp)
    have hl:=(B4 hb).1
    cases b with
    | nil=>simp at hl
    | cons y b =>
     have hy:y∈AB:=name_in hb y (by simp)
     exfalso
     rw [AO] at e
     cases q with
     | nil=>rw [Bt] at e; exact h a y b (by rw [<-e]; simp) hy
     | cons d q=>rw [AO] at e; exact h a y _ (by rw [<-e]; simp; rfl) hy
noncomputable def FewW (r:List Nat):Prop:=(∀ w∈(Ai 32 r).drop 3,Aq w=true)->Aq ((Ai 32 r).getD (min 1 ((Ai 32 r).length-1)) [])=true->(Ai 32 r).length<=63
theorem Da {r:List Nat} (h:r.count 32<=60):FewW r:=by
 intro _ _; rw [CX]; (exact Nat.lt_of_le_of_lt ‹_› (by decide))
theorem few_tail {a l:List Nat} (h1:2<=a.count 32) (h2:a.count 32<=60) (hl:LP l):FewW (a++32::l):=by
 intro hw _
 rw [DL] at hw ⊢
 have h3:=CX 32 a
 rw [List.drop_append_of_le_length (by lia)] at hw
 have h4:=LP_words hl (fun w hm=>hw w (by simp [hm]))
 rw [List.length_append]; lia
noncomputable def row0:List Nat->List Nat
 | []=>[]
 | x::r=>if x=10 then [] else x::row0 r
theorem Eb:∀ t,∃ r,Ai 10 t=row0 t::r
 | []=>⟨[],rfl⟩
 | x::t=>by
  obtain ⟨r,h⟩:=Eb t
  rw [Ai,row0]
  split
  ·exact ⟨_,rfl⟩
  ·rw [h]; exact ⟨r,rfl⟩
theorem CY {b:List Nat}:∀ {a:List Nat},10∉a->row0 (a++b)=a++row0 b
 | [],_=>rfl
 | x::a,h=>by
  rw [List.cons_append,row0,if_neg (fun e=>h (by simp [e])),CY (fun e=>h (List.mem_cons_of_mem _ e))]; rfl
theorem row0_at {a b:List Nat} (h:10∉a):row0 (a++10::b)=a:=by
 rw [CY h,row0,if_pos rfl,List.append_nil]
theorem row0_all {a:List Nat} (h:10∉a):row0 a=a:=by
 have:=CY (b:=[]) h
 simpa [row0] using this
theorem Df:∀ t,(row0 t).length<=t.length
 | []=>Nat.le_refl _
 | x::t=>by
  rw [row0]
  split
  ·exact Nat.zero_le _
  ·have:=Df t
   simp only [List.length_cons]; (exact Nat.lt_succ_of_le ‹_›)
theorem Cl (c:Nat):∀ t,∀ w∈Ai c t,w.length<=t.length
 | [],w,h=>by simp [Ai] at h; simp [h]
 | x::t,w,h=>by
  have ih:=Cl c t
  rw [Ai] at h
  split at h
  ·rcases List.mem_cons.mp h with rfl | h
   ·simp
   ·have:=ih w h; simp only [List.length_cons]; (exact Nat.le_succ_of_le ‹_›)
  ·cases hs:Ai c t with
   | nil=>exact absurd hs (Bk c t)
   | cons b q =>
    rw [hs,hang] at h
    rw [hs] at ih
    rcases List.mem_cons.mp h with rfl | h
    ·have:=ih b (by simp); simp only [List.length_cons]; (exact Nat.lt_succ_of_le ‹_›)
    ·have:=ih w (by simp [h]); simp only [List.length_cons]; (exact Nat.le_succ_of_le ‹_›)
theorem turned_row {H R x:List Nat} {k j:Nat} (hH:10∉H) (hR:R=[]\/∃ R',R=10::R') (hk:k<=(H++R).length) (hj:j=k\/j=k+1) (hx:x.length<=1) :
 (row0 ((H++R).take k++x++(H++R).drop j)).count 32<=2 * H.count 32+1\/∃ R',R=10::R'/\row0 ((H++R).take k++x++(H++R).drop j)=H++x++row0 R':=by
 have hc:∀ {l m:List Nat},l.Sublist m->l.count 32<=m.count 32:=fun h=>h.count_le 32
 have hx1:x.count 32<=1:=Nat.le_trans List.count_le_length hx
 have hr:row0 R=[]:=by
  rcases hR with rfl | ⟨R',rfl⟩
  ·rfl
  ·rw [row0,if_pos rfl]
 by_cases hkH:k<=H.length
 ·have ht:(H++R).take k=H.take k:=List.take_append_of_le_length hkH
  have hf:10∉H.take k:=fun e=>hH (List.mem_of_mem_take e)
  have hp:=hc (List.take_sublist k H)
  rw [ht,List.append_assoc,CY hf]
  by_cases hs:10∈x
  ·have:x=[10]:=by
    match x,hx,hs with
    | [y],_,hs=>simp at hs; rw [hs]
   rw [this,List.cons_append,row0,if_pos rfl,List.append_nil]
   exact .inl (by lia)
  ·rw [CY hs]
   by_cases hjH:j<=H.length
   ·rw [List.drop_append_of_le_length hjH,CY (fun e=>hH (List.mem_of_mem_drop e)),hr]
    have hq:=hc (List.drop_sublist j H)
    refine .inl ?_
    simp only [List.count_append,List.append_nil]
    lia
   ·have hkk:k=H.length:=by lia
    have hjj:j=H.length+1:=by lia
    rw [hkk,List.take_length,hjj,List.drop_append,List.drop_eq_nil_of_le (by (exact Nat.le_add_right _ _)),Nat.add_sub_cancel_left]
    rcases hR with rfl | ⟨R',rfl⟩
    ·refine .inl ?_
     simp [List.count_append,row0]; lia
    ·exact .inr ⟨R',rfl,by simp⟩
 ·rcases hR with rfl | ⟨R',rfl⟩
  ·simp at hk; lia
  ·obtain ⟨m,rfl⟩:∃ m,k=H.length+1+m:=⟨k-H.length-1,by omega⟩
   refine .inl ?_
   rw [List.take_append,List.take_of_length_le (by lia),show H.length+1+m-H.length=m+1 by lia,List.take_succ_cons,List.append_assoc,List.append_assoc,List.cons_append,row0_at hH]
   lia
end Mine.Internal
namespace Mine.Internal
open PySem
noncomputable def F_is_name:Fn:=⟨1,2,
 [
  .ite (.bop .Or [.cmp .Lt (.bcall .len true [.var 0]) (.cst (.int 1)),.cmp .Gt (.bcall .len true [.var 0]) (.glo (.int 12))])
   [
    .ret (.cst (.bool false))]
   [],
  .for_ [1] (.of (.var 0))
   [
    .ite (.cmp .NotIn (.var 1) (.glo (.str "abcdefghijklmnopqrstuvwxyz0123456789")))
     [
      .ret (.cst (.bool false))]
     []],
  .ret (.cst (.bool true))]⟩
noncomputable def F_is_line:Fn:=⟨1,2,
 [
  .ite (.cmp .Gt (.bcall .len true [.var 0]) (.glo (.int 200)))
   [
    .ret (.cst (.bool false))]
   [],
  .for_ [1] (.of (.var 0))
   [
    .ite (.bop .Or [.cmp .Lt (.bcall .ord true [.var 1]) (.cst (.int 32)),.cmp .Gt (.bcall .ord true [.var 1]) (.cst (.int 126))])
     [
      .ret (.cst (.bool false))]
     []],
  .ret (.cst (.bool true))]⟩
noncomputable def Fk:Fn:=⟨2,5,
 [
  .ite (.not (.fcall .frz 1 [.var 0]))
   [
    .raise 2 [.cst (.str "no name")]]
   [],
  .for_ [2] (.of (.var 1))
   [
    .ite (.not (.fcall .frz 1 [.var 2]))
     [
      .raise 2 [.cst (.str "no name to lean on")]]
     []],
  .for_ [3,4] (.zip (.var 1) (.slc true (.var 1) (some (.cst (.int 1))) none))
   [
    .ite (.cmp .GtE (.var 3) (.var 4))
     [
      .raise 2 [.cst (.str "the leans do not rise")]]
     []],
  .ite (.cmp .In (.var 0) (.var 1))
   [
    .raise 2 [.cst (.str "a change leans on itself")]]
   []]⟩
noncomputable def Gi:Fn:=⟨1,1,
 [
  .ite (.bop .And [.cmp .NotEq (.sub (.var 0) (.cst (.int 0))) (.cst (.str "add")),.cmp .NotEq (.sub (.var 0) (.cst (.int 0))) (.cst (.str "cut")),.cmp .NotEq (.sub (.var 0) (.cst (.int 0))) (.cst (.str "set"))])
   [
    .raise 2 [.cst (.str "no deed")]]
   [],
  .ite (.bop .And [.cmp .NotEq (.sub (.var 0) (.cst (.int 0))) (.cst (.str "add")),.cmp .Is (.sub (.var 0) (.cst (.int 1))) (.cst .none)])
   [
    .raise 2 [.cst (.str "no line to cut or to set")]]
   [],
  .ite (.bop .And [.cmp .NotEq (.sub (.var 0) (.cst (.int 0))) (.cst (.str "cut")),.not (.fcall .frz 2 [.sub (.var 0) (.cst (.int 2))])])
   [
    .raise 2 [.cst (.str "no line")]]
   []]⟩
noncomputable def F_check:Fn:=⟨1,5,
 [
  .swp [1,2,3] [.sub (.var 0) (.cst (.int 0)),.sub (.var 0) (.cst (.int 1)),.sub (.var 0) (.cst (.int 2))],
  .exp (.fcall .frz 3 [.var 1,.var 2]),
  .ite (.cmp .Gt (.bcall .len true [.var 3]) (.glo (.int 20)))
   [
    .raise 2 [.cst (.str "too many deeds")]]
   [],
  .for_ [4] (.of (.var 3))
   [
    .exp (.fcall .frz 4 [.var 4])],
  .for_ [4] (.of (.var 3))
   [
    .ite (.bop .And [.cmp .IsNot (.sub (.var 4) (.cst (.int 1))) (.cst .none),.cmp .NotEq (.sub (.sub (.var 4) (.cst (.int 1))) (.cst (.int 0))) (.var 1),.cmp .NotIn (.sub (.sub (.var 4) (.cst (.int 1))) (.cst (.int 0))) (.var 2)])
     [
      .raise 3 [.cst (.str "a mark of a change that is not leaned on")]]
     []]]⟩
noncomputable def D9:Fn:=⟨1,1,
 [
  .ite (.cmp .Is (.var 0) (.cst .none))
   [
    .ret (.cst (.str "-"))]
   [],
  .ret (.bin true .Add (.bin true .Add (.sub (.var 0) (.cst (.int 0))) (.cst (.str " "))) (.bcall .str true [.sub (.var 0) (.cst (.int 1))]))]⟩
noncomputable def GA:Fn:=⟨1,5,
 [
  .asg 1 (.bin true .Add (.cst (.str "change ")) (.sub (.var 0) (.cst (.int 0)))),
  .ite (.cmp .Gt (.bcall .len true [.sub (.var 0) (.cst (.int 1))]) (.cst (.int 0)))
   [
    .asg 1 (.bin true .Add (.bin true .Add (.var 1) (.cst (.str " on "))) (.meth .join true (.cst (.str " ")) [.sub (.var 0) (.cst (.int 1))]))]
   [],
  .asg 2 (.lst false [.var 1]),
  .for_ [3] (.of (.sub (.var 0) (.cst (.int 2))))
   [
    .asg 4 (.bin true .Add (.bin true .Add (.sub (.var 3) (.cst (.int 0))) (.cst (.str " "))) (.fcall .frz 6 [.sub (.var 3) (.cst (.int 1))])),
    .ite (.cmp .NotEq (.sub (.var 3) (.cst (.int 0))) (.cst (.str "cut")))
     [
      .asg 4 (.bin true .Add (.bin true .Add (.var 4) (.cst (.str ": "))) (.sub (.var 3) (.cst (.int 2))))]
     [],
    .exp (.meth .append true (.var 2) [.var 4])],
  .ret (.meth .join true (.cst (.str "\n")) [.var 2])]⟩
noncomputable def F_number_of:Fn:=⟨1,2,
 [
  .ite (.bop .Or [.cmp .Lt (.bcall .len true [.var 0]) (.cst (.int 1)),.cmp .Gt (.bcall .len true [.var 0]) (.glo (.int 9))])
   [
    .raise 4 [.cst (.str "no number")]]
   [],
  .ite (.bop .And [.cmp .Eq (.sub (.var 0) (.cst (.int 0))) (.cst (.str "0")),.cmp .Gt (.bcall .len true [.var 0]) (.cst (.int 1))])
   [
    .raise 4 [.cst (.str "no number")]]
   [],
  .for_ [1] (.of (.var 0))
   [
    .ite (.cmp .NotIn (.var 1) (.glo (.str "0123456789")))
     [
      .raise 4 [.cst (.str "no number")]]
     []],
  .ret (.bcall .int true [.var 0])]⟩
noncomputable def F_mark_of:Fn:=⟨1,2,
 [
  .ite (.cmp .Eq (.var 0) (.cst (.str "-")))
   [
    .ret (.cst .none)]
   [],
  .asg 1 (.meth .partition true (.var 0) [.cst (.str " ")]),
  .ret (.tup [.sub (.var 1) (.cst (.int 0)),.fcall .frz 8 [.sub (.var 1) (.cst (.int 2))]])]⟩
noncomputable def F_deed_of:Fn:=⟨1,3,
 [
  .asg 1 (.slc true (.var 0) none (some (.cst (.int 3)))),
  .ite (.bop .Or [.bop .And [.cmp .NotEq (.var 1) (.cst (.str "add")),.cmp .NotEq (.var 1) (.cst (.str "cut")),.cmp .NotEq (.var 1) (.cst (.str "set"))],.cmp .NotEq (.slc true (.var 0) (some (.cst (.int 3))) (some (.cst (.int 4)))) (.cst (.str " "))])
   [
    .raise 4 [.cst (.str "no deed")]]
   [],
  .ite (.cmp .Eq (.var 1) (.cst (.str "cut")))
   [
    .ret (.tup [.var 1,.fcall .frz 9 [.slc true (.var 0) (some (.cst (.int 4))) none]])]
   [],
  .asg 2 (.meth .find true (.var 0) [.cst (.str ": ")]),
  .ite (.cmp .Lt (.var 2) (.cst (.int 4)))
   [
    .raise 4 [.cst (.str "no line")]]
   [],
  .ret (.tup [.var 1,.fcall .frz 9 [.slc true (.var 0) (some (.cst (.int 4))) (some (.var 2))],.slc true (.var 0) (some (.bin true .Add (.var 2) (.cst (.int 2)))) none])]⟩
noncomputable def F_head_of:Fn:=⟨1,2,
 [
  .asg 1 (.meth .split true (.var 0) [.cst (.str " ")]),
  .ite (.bop .Or [.cmp .Lt (.bcall .len true [.var 1]) (.cst (.int 2)),.cmp .NotEq (.sub (.var 1) (.cst (.int 0))) (.cst (.str "change"))])
   [
    .raise 4 [.cst (.str "no change")]]
   [],
  .ite (.cmp .Eq (.bcall .len true [.var 1]) (.cst (.int 2)))
   [
    .ret (.tup [.sub (.var 1) (.cst (.int 1)),.lst true []])]
   [],
  .ite (.bop .Or [.cmp .NotEq (.sub (.var 1) (.cst (.int 2))) (.cst (.str "on")),.cmp .Lt (.bcall .len true [.var 1]) (.cst (.int 4))])
   [
    .raise 4 [.cst (.str "no leans")]]
   [],
  .ret (.tup [.sub (.var 1) (.cst (.int 1)),.slc true (.var 1) (some (.cst (.int 3))) none])]⟩
noncomputable def F_read:Fn:=⟨1,5,
 [
  .asg 1 (.meth .split true (.var 0) [.cst (.str "\n")]),
  .asg 2 (.fcall .frz 11 [.sub (.var 1) (.cst (.int 0))]),
  .asg 3 (.tup [.sub (.var 2) (.cst (.int 0)),.sub (.var 2) (.cst (.int 1)),.comp true (.fcall .frz 10 [.var 4]) [4] (.of (.slc true (.var 1) (some (.cst (.int 1))) none)) []]),
  .try_
   [
    .exp (.fcall .frz 5 [.var 3])]
   [(1,none,
    [
     .raise 4 [.cst (.str "no change that can come")]])],
  .ite (.cmp .NotEq (.fcall .frz 7 [.var 3]) (.var 0))
   [
    .raise 4 [.cst (.str "not as a change is written")]]
   [],
  .ret (.var 3)]⟩
noncomputable def Flaw_cell:Fn:=⟨2,2,
 [
  .ite (.cmp .Lt (.var 1) (.bcall .len true [.var 0]))
   [
    .ret (.sub (.var 0) (.var 1))]
   [],
  .ret (.cst (.int 0))]⟩
noncomputable def Flaw_mixed:Fn:=⟨2,2,
 [
  .ret (.bin true .Mod (.bin true .Mult (.bin true .Add (.var 0) (.bin true .Mult (.cst (.int 7919)) (.var 1))) (.cst (.int 48271))) (.cst (.int 2147483647)))]⟩
noncomputable def G7:Fn:=⟨2,7,
 [
  .asg 2 (.cst (.str "abcdefghijklmnopqrstuvwxyz0123456789")),
  .asg 3 (.fcall .frz 14 [.var 0,.cst (.int 5)]),
  .asg 4 (.meth .join true (.cst (.str "")) [.comp true (.sub (.var 2) (.bin true .Mod (.fcall .frz 14 [.var 0,.var 5]) (.cst (.int 36)))) [5] (.range [.bin true .Add (.cst (.int 1)) (.bin true .Mod (.var 3) (.cst (.int 12)))]) []]),
  .ite (.cmp .Eq (.bin true .Mod (.var 0) (.cst (.int 8))) (.cst (.int 1)))
   [
    .asg 4 (.bcall .str true [.bin true .Mod (.var 3) (.cst (.int 130))])]
   [],
  .ite (.bop .And [.cmp .Eq (.bin true .Mod (.var 0) (.cst (.int 8))) (.cst (.int 2)),.var 1])
   [
    .asg 4 (.bin true .Add (.slc true (.sub (.var 1) (.neg (.cst (.int 1)))) none (some (.cst (.int 11)))) (.sub (.var 2) (.bin true .Mod (.var 3) (.cst (.int 36)))))]
   [],
  .ite (.bop .And [.cmp .Gt (.bin true .Mod (.var 0) (.cst (.int 8))) (.cst (.int 4)),.var 1])
   [
    .asg 4 (.sub (.var 1) (.bin true .Mod (.var 3) (.bcall .len true [.var 1]))),
    .asg 6 (.bin true .Mod (.bin true .FloorDiv (.var 3) (.cst (.int 60))) (.bcall .len true [.var 4])),
    .asg 4 (.bin true .Add (.bin true .Add (.slc true (.var 4) none (some (.var 6))) (.sub (.var 2) (.bin true .Mod (.bin true .FloorDiv (.var 3) (.cst (.int 720))) (.cst (.int 36))))) (.slc true (.var 4) (some (.bin true .Add (.var 6) (.cst (.int 1)))) none))]
   [],
  .ite (.cmp .NotIn (.var 4) (.var 1))
   [
    .ret (.var 4)]
   [],
  .ret (.sub (.comp true (.bcall .str true [.var 5]) [5] (.range [.bin true .Add (.bcall .len true [.var 1]) (.cst (.int 1))]) [.cmp .NotIn (.bcall .str true [.var 5]) (.var 1)]) (.cst (.int 0)))]⟩
noncomputable def G8:Fn:=⟨1,5,
 [
  .asg 1 (.cst (.str " !\"#$&'()*+,-./0123456789:;<=>?\x40ABCDEFGHIJKLMNOPQRSTUVWXYZ[\\]^_`")),
  .asg 1 (.bin true .Add (.var 1) (.cst (.str "abcdefghijklmnopqrstuvwxyz{|}~"))),
  .asg 2 (.bin true .Mod (.var 0) (.cst (.int 4))),
  .ite (.cmp .Eq (.bin true .Mod (.bin true .FloorDiv (.var 0) (.cst (.int 4))) (.cst (.int 9))) (.cst (.int 1)))
   [
    .asg 2 (.bin true .Mod (.bin true .FloorDiv (.var 0) (.cst (.int 36))) (.cst (.int 201)))]
   [],
  .asg 3 (.meth .join true (.cst (.str "")) [.comp true (.sub (.var 1) (.bin true .Mod (.bin true .Add (.bin true .FloorDiv (.var 0) (.cst (.int 7))) (.bin true .Mult (.var 4) (.bin true .Add (.cst (.int 1)) (.bin true .Mod (.var 0) (.cst (.int 5)))))) (.cst (.int 94)))) [4] (.range [.var 2]) []]),
  .ite (.bop .And [.cmp .Eq (.bin true .Mod (.bin true .FloorDiv (.var 0) (.cst (.int 3))) (.cst (.int 8))) (.cst (.int 1)),.cmp .Lt (.var 2) (.cst (.int 199))])
   [
    .ret (.bin true .Add (.bin true .Add (.slc true (.var 3) none (some (.cst (.int 1)))) (.cst (.str ": "))) (.slc true (.var 3) (some (.cst (.int 1))) none))]
   [],
  .ret (.var 3)]⟩
noncomputable def F8:Fn:=⟨2,7,
 [
  .asg 2 (.fcall .frz 14 [.var 0,.cst (.int 1)]),
  .asg 3 (.lst false []),
  .for_ [4,5] (.enum (.var 1))
   [
    .asg 6 (.bop .And [.cmp .Eq (.var 4) (.bin true .Sub (.bcall .len true [.var 1]) (.cst (.int 1))),.cmp .Eq (.bin true .Mod (.var 0) (.cst (.int 7))) (.cst (.int 3))]),
    .ite (.bop .Or [.var 6,.bop .And [.cmp .Eq (.bin true .Mod (.var 2) (.bin true .Add (.cst (.int 2)) (.bin true .Mod (.var 0) (.cst (.int 3))))) (.cst (.int 0)),.bop .Or [.cmp .Lt (.bcall .len true [.var 1]) (.cst (.int 20)),.cmp .Eq (.bin true .Mod (.var 4) (.cst (.int 7))) (.bin true .Mod (.bin true .FloorDiv (.var 2) (.cst (.int 4))) (.cst (.int 7)))]]])
     [
      .exp (.meth .append true (.var 3) [.sub (.var 5) (.cst (.int 0))])]
     [],
    .asg 2 (.bin true .FloorDiv (.var 2) (.cst (.int 3))),
    .ite (.cmp .Lt (.var 2) (.cst (.int 100)))
     [
      .asg 2 (.fcall .frz 14 [.var 0,.bin true .Add (.var 4) (.cst (.int 2))])]
     []],
  .ret (.bcall .sorted false [.var 3])]⟩
noncomputable def F7:Fn:=⟨1,4,
 [
  .asg 1 (.bcall .len true [.comp true (.var 2) [2] (.of (.sub (.var 0) (.cst (.int 2)))) [.cmp .Eq (.sub (.var 2) (.cst (.int 0))) (.cst (.str "add"))]]),
  .ret (.comp true (.tup [.sub (.var 0) (.cst (.int 0)),.var 3]) [3] (.range [.var 1]) [])]⟩
noncomputable def F9:Fn:=⟨4,13,
 [
  .asg 4 (.lst false []),
  .asg 5 (.cst (.int 0)),
  .for_ [6] (.range [.var 2])
   [
    .asg 7 (.bin true .Add (.var 3) (.comp true (.tup [.var 0,.var 12]) [12] (.range [.var 5]) [])),
    .asg 8 (.fcall .frz 14 [.var 1,.var 6]),
    .asg 9 (.bin true .Mod (.bin true .FloorDiv (.var 8) (.cst (.int 5))) (.bin true .Add (.bcall .len true [.var 7]) (.cst (.int 1)))),
    .asg 10 (.fcall .frz 16 [.bin true .FloorDiv (.var 8) (.cst (.int 365))]),
    .ite (.bop .Or [.cmp .Lt (.bin true .Mod (.var 8) (.cst (.int 5))) (.cst (.int 3)),.not (.var 7)])
     [
      .asg 11 (.cst .none),
      .ite (.cmp .Gt (.var 9) (.cst (.int 0)))
       [
        .asg 11 (.sub (.var 7) (.bin true .Sub (.var 9) (.cst (.int 1))))]
       [],
      .exp (.meth .append true (.var 4) [.tup [.cst (.str "add"),.var 11,.var 10]]),
      .asg 5 (.bin true .Add (.var 5) (.cst (.int 1)))]
     [
      .ite (.cmp .Eq (.bin true .Mod (.var 8) (.cst (.int 5))) (.cst (.int 3)))
       [
        .exp (.meth .append true (.var 4) [.tup [.cst (.str "cut"),.sub (.var 7) (.bin true .Mod (.var 9) (.bcall .len true [.var 7]))]])]
       [
        .exp (.meth .append true (.var 4) [.tup [.cst (.str "set"),.sub (.var 7) (.bin true .Mod (.var 9) (.bcall .len true [.var 7])),.var 10]])]]],
  .ret (.var 4)]⟩
noncomputable def CW:Fn:=⟨2,10,
 [
  .asg 2 (.lst false []),
  .asg 3 (.lst false [.cst (.str "0")]),
  .for_ [4] (.range [.bcall .min true [.bin true .FloorDiv (.bcall .len true [.var 0]) (.cst (.int 4)),.var 1]])
   [
    .asg 5 (.fcall .frz 15 [.sub (.var 0) (.bin true .Mult (.cst (.int 4)) (.var 4)),.var 3]),
    .exp (.meth .append true (.var 3) [.var 5]),
    .asg 6 (.fcall .frz 17 [.sub (.var 0) (.bin true .Add (.bin true .Mult (.cst (.int 4)) (.var 4)) (.cst (.int 1))),.var 2]),
    .asg 7 (.lst true []),
    .for_ [8] (.of (.var 2))
     [
      .ite (.cmp .In (.sub (.var 8) (.cst (.int 0))) (.var 6))
       [
        .asg 7 (.bin true .Add (.var 7) (.fcall .frz 18 [.var 8]))]
       []],
    .asg 9 (.bin true .Mod (.sub (.var 0) (.bin true .Add (.bin true .Mult (.cst (.int 4)) (.var 4)) (.cst (.int 3)))) (.cst (.int 5))),
    .ite (.cmp .Eq (.bin true .Mod (.bin true .FloorDiv (.sub (.var 0) (.bin true .Add (.bin true .Mult (.cst (.int 4)) (.var 4)) (.cst (.int 3)))) (.cst (.int 5))) (.cst (.int 16))) (.cst (.int 1)))
     [
      .asg 9 (.bin true .Sub (.cst (.int 20)) (.bin true .Mod (.bin true .FloorDiv (.sub (.var 0) (.bin true .Add (.bin true .Mult (.cst (.int 4)) (.var 4)) (.cst (.int 3)))) (.cst (.int 80))) (.cst (.int 16))))]
     [],
    .exp (.meth .append true (.var 2) [.tup [.var 5,.var 6,.fcall .frz 19 [.var 5,.sub (.var 0) (.bin true .Add (.bin true .Mult (.cst (.int 4)) (.var 4)) (.cst (.int 2))),.var 9,.var 7]]])],
  .ret (.var 2)]⟩
noncomputable def DI:Fn:=⟨2,6,
 [
  .asg 2 (.lst false []),
  .for_ [3,4] (.enum (.sub (.var 0) (.cst (.int 2))))
   [
    .asg 5 (.sub (.var 4) (.cst (.int 1))),
    .ite (.bop .And [.cmp .IsNot (.var 5) (.cst .none),.cmp .Eq (.bin true .Mod (.bin true .Add (.var 1) (.var 3)) (.cst (.int 3))) (.cst (.int 1))])
     [
      .asg 5 (.tup [.sub (.var 5) (.cst (.int 0)),.bin true .Mod (.fcall .frz 14 [.var 1,.var 3]) (.cst (.int 1000000000))])]
     [],
    .ite (.bop .And [.cmp .IsNot (.var 5) (.cst .none),.cmp .Eq (.bin true .Mod (.bin true .Add (.var 1) (.var 3)) (.cst (.int 5))) (.cst (.int 2))])
     [
      .asg 5 (.tup [.sub (.var 0) (.cst (.int 0)),.sub (.var 5) (.cst (.int 1))])]
     [],
    .exp (.meth .append true (.var 2) [.bin true .Add (.tup [.sub (.var 4) (.cst (.int 0)),.var 5]) (.slc true (.var 4) (some (.cst (.int 2))) none)])],
  .ret (.tup [.sub (.var 0) (.cst (.int 0)),.sub (.var 0) (.cst (.int 1)),.var 2])]⟩
noncomputable def Flaw_one:Fn:=⟨2,4,
 [
  .asg 2 (.fcall .frz 20 [.var 0,.var 1]),
  .ite (.not (.var 2))
   [
    .ret (.tup [.cst (.str "a"),.lst true [],.lst true []])]
   [],
  .asg 3 (.fcall .frz 13 [.var 0,.cst (.int 1)]),
  .ret (.fcall .frz 21 [.sub (.var 2) (.bin true .Mod (.var 3) (.bcall .len true [.var 2])),.bin true .FloorDiv (.var 3) (.cst (.int 7))])]⟩
noncomputable def Flaw_mark_row:Fn:=⟨1,1,
 [
  .ite (.cmp .Is (.var 0) (.cst .none))
   [
    .ret (.cst (.str "-"))]
   [],
  .ret (.bin true .Add (.bin true .Add (.sub (.var 0) (.cst (.int 0))) (.cst (.str " "))) (.bcall .str true [.sub (.var 0) (.cst (.int 1))]))]⟩
noncomputable def Fj:Fn:=⟨1,1,
 [
  .ite (.cmp .Eq (.sub (.var 0) (.cst (.int 0))) (.cst (.str "cut")))
   [
    .ret (.bin true .Add (.cst (.str "cut ")) (.fcall .frz 23 [.sub (.var 0) (.cst (.int 1))]))]
   [],
  .ret (.bin true .Add (.bin true .Add (.bin true .Add (.bin true .Add (.sub (.var 0) (.cst (.int 0))) (.cst (.str " "))) (.fcall .frz 23 [.sub (.var 0) (.cst (.int 1))])) (.cst (.str ": "))) (.sub (.var 0) (.cst (.int 2))))]⟩
noncomputable def Em:Fn:=⟨1,3,
 [
  .asg 1 (.lst false [.bin true .Add (.cst (.str "change ")) (.sub (.var 0) (.cst (.int 0)))]),
  .ite (.sub (.var 0) (.cst (.int 1)))
   [
    .set (.var 1) (.cst (.int 0)) (.meth .join true (.cst (.str " ")) [.bin true .Add (.lst true [.sub (.var 1) (.cst (.int 0)),.cst (.str "on")]) (.sub (.var 0) (.cst (.int 1)))])]
   [],
  .ret (.meth .join true (.cst (.str "\n")) [.bin true .Add (.var 1) (.comp true (.fcall .frz 24 [.var 2]) [2] (.of (.sub (.var 0) (.cst (.int 2)))) [])])]⟩
noncomputable def ED:Fn:=⟨2,4,
 [
  .ite (.bop .Or [.not (.bcall .isinstance true [.var 0,.ty "tuple"]),.cmp .NotEq (.bcall .len true [.var 0]) (.bcall .len true [.var 1]),.not (.bcall .isinstance true [.sub (.var 0) (.cst (.int 0)),.ty "str"])])
   [
    .ret (.cst (.bool false))]
   [],
  .ite (.cmp .IsNot (.sub (.var 1) (.cst (.int 1))) (.cst .none))
   [
    .asg 2 (.sub (.var 0) (.cst (.int 1))),
    .ite (.bop .Or [.not (.bcall .isinstance true [.var 2,.ty "tuple"]),.cmp .NotEq (.bcall .len true [.var 2]) (.cst (.int 2)),.not (.bcall .isinstance true [.sub (.var 2) (.cst (.int 0)),.ty "str"])])
     [
      .ret (.cst (.bool false))]
     [],
    .ite (.bop .Or [.not (.bcall .isinstance true [.sub (.var 2) (.cst (.int 1)),.ty "int"]),.bcall .isinstance true [.sub (.var 2) (.cst (.int 1)),.ty "bool"]])
     [
      .ret (.cst (.bool false))]
     []]
   [],
  .ret (.bop .And [.bcall .all true [.comp true (.bcall .isinstance true [.var 3,.ty "str"]) [3] (.of (.slc true (.var 0) (some (.cst (.int 2))) none)) []],.cmp .Eq (.var 0) (.var 1)])]⟩
noncomputable def DX:Fn:=⟨2,5,
 [
  .ite (.bop .Or [.not (.bcall .isinstance true [.var 0,.ty "tuple"]),.cmp .NotEq (.bcall .len true [.var 0]) (.cst (.int 3)),.not (.bcall .isinstance true [.sub (.var 0) (.cst (.int 0)),.ty "str"])])
   [
    .ret (.cst (.bool false))]
   [],
  .ite (.bop .Or [.not (.bcall .isinstance true [.sub (.var 0) (.cst (.int 1)),.ty "list"]),.not (.bcall .isinstance true [.sub (.var 0) (.cst (.int 2)),.ty "list"])])
   [
    .ret (.cst (.bool false))]
   [],
  .ite (.bop .Or [.not (.bcall .all true [.comp true (.bcall .isinstance true [.var 2,.ty "str"]) [2] (.of (.sub (.var 0) (.cst (.int 1)))) []]),.cmp .NotEq (.bcall .len true [.sub (.var 0) (.cst (.int 2))]) (.bcall .len true [.sub (.var 1) (.cst (.int 2))])])
   [
    .ret (.cst (.bool false))]
   [],
  .ite (.bop .Or [.cmp .NotEq (.sub (.var 0) (.cst (.int 0))) (.sub (.var 1) (.cst (.int 0))),.cmp .NotEq (.sub (.var 0) (.cst (.int 1))) (.sub (.var 1) (.cst (.int 1)))])
   [
    .ret (.cst (.bool false))]
   [],
  .ret (.bcall .all true [.comp true (.fcall .frz 26 [.var 3,.var 4]) [3,4] (.zip (.sub (.var 0) (.cst (.int 2))) (.sub (.var 1) (.cst (.int 2)))) []])]⟩
noncomputable def Gh:Fn:=⟨1,2,
 [
  .asg 1 (.lst true [.cst (.str ""),.cst (.str "change"),.cst (.str "change "),.cst (.str "change b on"),.cst (.str "change b on "),.cst (.str "change b at a"),.cst (.str "Change b")]),
  .asg 1 (.bin true .Add (.var 1) (.lst true [.cst (.str "change b\n"),.cst (.str "add -:x"),.cst (.str "add - : x"),.cst (.str "add  -: x"),.cst (.str "cut -"),.cst (.str "set -: x"),.cst (.str "cut b 0: x")])),
  .asg 1 (.bin true .Add (.var 1) (.lst true [.cst (.str "add b 00: x"),.cst (.str "add b +1: x"),.cst (.str "add b 1234567890: x"),.cst (.str "add a 0: x"),.cst (.str "put -: x")])),
  .asg 1 (.bin true .Add (.var 1) (.lst true [.cst (.str "add -"),.cst (.str "add b: x"),.cst (.str ""),.cst (.str "add - x"),.cst (.str "cut b"),.cst (.str "change b on b"),.cst (.str "change c on b a")])),
  .asg 1 (.bin true .Add (.var 1) (.lst true [.cst (.str "change c on a a"),.cst (.str " change b"),.cst (.str "change b  on a"),.cst (.str "add -: x\t")])),
  .ite (.bop .Or [.cmp2 .Lt .Lt (.cst (.int 7)) (.var 0) (.cst (.int 24)),.cmp .Eq (.var 0) (.cst (.int 29))])
   [
    .ret (.bin true .Add (.cst (.str "change b\n")) (.sub (.var 1) (.var 0)))]
   [],
  .ret (.sub (.var 1) (.var 0))]⟩
noncomputable def CD:Fn:=⟨2,5,
 [
  .asg 2 (.cst (.str "a0 -:\nbcdnsuz9.A")),
  .ite (.cmp .Eq (.bin true .Mod (.var 1) (.cst (.int 2))) (.cst (.int 1)))
   [
    .asg 2 (.bin true .Add (.var 2) (.cst (.str " !\"#$&'()*+,-./:;<=>?\x40[\\]^_`{|}~BCDEFGHIJKLMNOPQRSTUVWXYZefghijklm")))]
   [],
  .asg 3 (.bin true .Mod (.bin true .FloorDiv (.var 1) (.cst (.int 8))) (.bin true .Add (.bcall .len true [.var 0]) (.cst (.int 1)))),
  .asg 4 (.sub (.var 2) (.bin true .Mod (.bin true .FloorDiv (.bin true .FloorDiv (.var 1) (.cst (.int 8))) (.bin true .Add (.bcall .len true [.var 0]) (.cst (.int 1)))) (.bcall .len true [.var 2]))),
  .ite (.cmp .Eq (.bin true .Mod (.bin true .FloorDiv (.var 1) (.cst (.int 2))) (.cst (.int 4))) (.cst (.int 0)))
   [
    .ret (.bin true .Add (.bin true .Add (.slc true (.var 0) none (some (.var 3))) (.var 4)) (.slc true (.var 0) (some (.var 3)) none))]
   [],
  .ite (.cmp .Eq (.bin true .Mod (.bin true .FloorDiv (.var 1) (.cst (.int 2))) (.cst (.int 4))) (.cst (.int 1)))
   [
    .ret (.bin true .Add (.slc true (.var 0) none (some (.var 3))) (.slc true (.var 0) (some (.bin true .Add (.var 3) (.cst (.int 1)))) none))]
   [],
  .ret (.bin true .Add (.bin true .Add (.slc true (.var 0) none (some (.var 3))) (.var 4)) (.slc true (.var 0) (some (.bin true .Add (.var 3) (.cst (.int 1)))) none))]⟩
noncomputable def CE:Fn:=⟨2,5,
 [
  .asg 2 (.meth .split true (.var 0) [.cst (.str "\n")]),
  .asg 3 (.bin true .Mod (.bin true .FloorDiv (.var 1) (.cst (.int 3))) (.bcall .len true [.var 2])),
  .ite (.cmp .Eq (.bin true .Mod (.var 1) (.cst (.int 3))) (.cst (.int 0)))
   [
    .ret (.meth .join true (.cst (.str "\n")) [.bin true .Add (.slc true (.var 2) none (some (.var 3))) (.slc true (.var 2) (some (.bin true .Add (.var 3) (.cst (.int 1)))) none)])]
   [],
  .ite (.cmp .Eq (.bin true .Mod (.var 1) (.cst (.int 3))) (.cst (.int 1)))
   [
    .ret (.meth .join true (.cst (.str "\n")) [.bin true .Add (.bin true .Add (.slc true (.var 2) none (some (.var 3))) (.lst true [.sub (.var 2) (.var 3)])) (.slc true (.var 2) (some (.var 3)) none)])]
   [],
  .asg 4 (.slc true (.var 2) (some (.bin true .Add (.var 3) (.cst (.int 2)))) none),
  .ret (.meth .join true (.cst (.str "\n")) [.bin true .Add (.bin true .Add (.bin true .Add (.slc true (.var 2) none (some (.var 3))) (.slc true (.var 2) (some (.bin true .Add (.var 3) (.cst (.int 1)))) (some (.bin true .Add (.var 3) (.cst (.int 2)))))) (.lst true [.sub (.var 2) (.var 3)])) (.var 4)])]⟩
noncomputable def EC:Fn:=⟨2,3,
 [
  .ite (.bop .Or [.cmp .NotIn (.sub (.var 0) (.cst (.int 0))) (.tup [.cst (.str "add"),.cst (.str "cut"),.cst (.str "set")]),.bop .And [.cmp .Is (.sub (.var 0) (.cst (.int 1))) (.cst .none),.cmp .NotEq (.sub (.var 0) (.cst (.int 0))) (.cst (.str "add"))]])
   [
    .ret (.cst (.bool false))]
   [],
  .ite (.bop .And [.cmp .IsNot (.sub (.var 0) (.cst (.int 1))) (.cst .none),.bop .Or [.cmp .NotIn (.sub (.sub (.var 0) (.cst (.int 1))) (.cst (.int 0))) (.var 1),.cmp .Lt (.sub (.sub (.var 0) (.cst (.int 1))) (.cst (.int 1))) (.cst (.int 0))]])
   [
    .ret (.cst (.bool false))]
   [],
  .ret (.bop .Or [.cmp .Eq (.sub (.var 0) (.cst (.int 0))) (.cst (.str "cut")),.bop .And [.cmp .LtE (.bcall .len true [.sub (.var 0) (.cst (.int 2))]) (.cst (.int 200)),.bcall .all true [.comp true (.cmp2 .LtE .LtE (.cst (.str " ")) (.var 2) (.cst (.str "~"))) [2] (.of (.sub (.var 0) (.cst (.int 2)))) []]]])]⟩
noncomputable def G9:Fn:=⟨1,9,
 [
  .asg 1 (.cst (.str "abcdefghijklmnopqrstuvwxyz0123456789")),
  .unp [2,3,4] (.var 0),
  .for_ [5] (.of (.bin true .Add (.lst true [.var 2]) (.var 3)))
   [
    .asg 6 (.comp true (.var 7) [7] (.of (.var 5)) [.cmp .NotIn (.var 7) (.var 1)]),
    .ite (.bop .Or [.var 6,.not (.cmp2 .LtE .LtE (.cst (.int 1)) (.bcall .len true [.var 5]) (.cst (.int 12)))])
     [
      .ret (.cst (.bool false))]
     []],
  .ite (.bop .Or [.cmp .NotEq (.var 3) (.sset true (.var 3)),.cmp .In (.var 2) (.var 3),.cmp .Gt (.bcall .len true [.var 4]) (.cst (.int 20))])
   [
    .ret (.cst (.bool false))]
   [],
  .ret (.bcall .all true [.comp true (.fcall .frz 33 [.var 8,.bin true .Add (.lst true [.var 2]) (.var 3)]) [8] (.of (.var 4)) []])]⟩
noncomputable def Flaw_number:Fn:=⟨1,2,
 [
  .ite (.bop .Or [.not (.cmp2 .LtE .LtE (.cst (.int 1)) (.bcall .len true [.var 0]) (.cst (.int 9))),.not (.bcall .all true [.comp true (.cmp .In (.var 1) (.cst (.str "0123456789"))) [1] (.of (.var 0)) []])])
   [
    .ret (.neg (.cst (.int 1)))]
   [],
  .ret (.bcall .int true [.var 0])]⟩
noncomputable def Dq:Fn:=⟨1,15,
 [
  .asg 1 (.meth .split true (.var 0) [.cst (.str "\n")]),
  .asg 2 (.meth .split true (.sub (.var 1) (.cst (.int 0))) [.cst (.str " ")]),
  .asg 3 (.lst false []),
  .for_ [4] (.of (.slc true (.var 1) (some (.cst (.int 1))) none))
   [
    .unp [6,7,8] (.meth .partition true (.var 4) [.cst (.str " ")]),
    .unp [9,10,11] (.meth .partition true (.var 8) [.cst (.str ": ")]),
    .unp [12,13,14] (.meth .partition true (.var 9) [.cst (.str " ")]),
    .asg 5 (.cst .none),
    .ite (.cmp .NotEq (.var 9) (.cst (.str "-")))
     [
      .asg 5 (.tup [.var 12,.fcall .frz 35 [.var 14]])]
     [],
    .ite (.cmp .Eq (.var 6) (.cst (.str "cut")))
     [
      .exp (.meth .append true (.var 3) [.tup [.cst (.str "cut"),.var 5]])]
     [
      .exp (.meth .append true (.var 3) [.tup [.var 6,.var 5,.var 11]])]],
  .ret (.tup [.sub (.var 2) (.bcall .min true [.cst (.int 1),.bin true .Sub (.bcall .len true [.var 2]) (.cst (.int 1))]),.slc true (.var 2) (some (.cst (.int 3))) none,.var 3])]⟩
noncomputable def Flaw_alone:Fn:=⟨1,3,
 [
  .asg 1 (.lst true [.bcall .isinstance true [.var 0,.cls 2],.bcall .isinstance true [.var 0,.cls 3],.bcall .isinstance true [.var 0,.cls 5],.bcall .isinstance true [.var 0,.cls 6]]),
  .asg 1 (.bin true .Add (.var 1) (.lst true [.bcall .isinstance true [.var 0,.cls 7],.bcall .isinstance true [.var 0,.cls 8],.bcall .isinstance true [.var 0,.cls 9],.bcall .isinstance true [.var 0,.cls 4]])),
  .ret (.bop .And [.cmp .Eq (.bcall .len true [.comp true (.var 2) [2] (.of (.var 1)) [.var 2]]) (.cst (.int 1)),.bcall .isinstance true [.var 0,.cls 1],.bcall .isinstance true [.var 0,.cls 0]])]⟩
noncomputable def Gg:Fn:=⟨1,2,
 [
  .try_
   [
    .exp (.fcall .shared 12 [.var 0])]
   [(4,some 1,
    [
     .ret (.fcall .frz 37 [.var 1])])],
  .ret (.cst (.bool false))]⟩
noncomputable def FLaw:Fn:=⟨1,8,
 [
  .asg 1 (.fcall .frz 22 [.var 0,.cst (.int 6)]),
  .asg 2 (.bin true .Mod (.fcall .frz 13 [.var 0,.cst (.int 2)]) (.cst (.int 4))),
  .asg 3 (.bin true .FloorDiv (.fcall .frz 13 [.var 0,.cst (.int 3)]) (.cst (.int 7))),
  .asg 4 (.fcall .frz 25 [.var 1]),
  .ite (.cmp .Eq (.var 2) (.cst (.int 3)))
   [
    .asg 5 (.bin true .Mod (.var 3) (.bin true .Add (.bcall .len true [.var 4]) (.cst (.int 1)))),
    .ite (.not (.fcall .frz 38 [.bin true .Add (.bin true .Add (.slc true (.var 4) none (some (.var 5))) (.cst (.str "\t"))) (.slc true (.var 4) (some (.var 5)) none)]))
     [
      .ret (.cst (.bool false))]
     [],
    .ite (.not (.fcall .frz 38 [.bin true .Add (.bin true .Add (.var 4) (.cst (.str "\nadd -: "))) (.bin true .Mult (.cst (.str "x")) (.cst (.int 201)))]))
     [
      .ret (.cst (.bool false))]
     [],
    .ret (.bcall .all true [.comp true (.fcall .frz 38 [.fcall .frz 30 [.var 6]]) [6] (.range [.cst (.int 30)]) []])]
   [],
  .ite (.cmp .Eq (.var 2) (.cst (.int 1)))
   [
    .asg 4 (.fcall .frz 31 [.var 4,.var 3])]
   [],
  .ite (.cmp .Eq (.var 2) (.cst (.int 2)))
   [
    .asg 4 (.fcall .frz 32 [.var 4,.var 3])]
   [],
  .asg 7 (.fcall .frz 36 [.var 4]),
  .ite (.bop .Or [.not (.fcall .frz 34 [.var 7]),.cmp .NotEq (.fcall .frz 25 [.var 7]) (.var 4)])
   [
    .ret (.bop .And [.cmp .Gt (.var 2) (.cst (.int 0)),.fcall .frz 38 [.var 4]])]
   [],
  .ret (.fcall .frz 27 [.fcall .shared 12 [.var 4],.var 7])]⟩
noncomputable def Ae:List (Nat×Str×Fn×List Str):=[
 (1,Str.ofString "is_name",F_is_name,[Str.ofString "thing",Str.ofString "sign"]),
 (2,Str.ofString "is_line",F_is_line,[Str.ofString "thing",Str.ofString "sign"]),
 (3,Str.ofString "check_leans",Fk,[Str.ofString "name",Str.ofString "leans",Str.ofString "lean",Str.ofString "one",Str.ofString "other"]),
 (4,Str.ofString "check_deed",Gi,[Str.ofString "deed"]),
 (5,Str.ofString "check",F_check,[Str.ofString "change",Str.ofString "name",Str.ofString "leans",Str.ofString "deeds",Str.ofString "deed"]),
 (6,Str.ofString "mark_text",D9,[Str.ofString "mark"]),
 (7,Str.ofString "written",GA,[Str.ofString "change",Str.ofString "head",Str.ofString "rows",Str.ofString "deed",Str.ofString "row"]),
 (8,Str.ofString "number_of",F_number_of,[Str.ofString "figures",Str.ofString "sign"]),
 (9,Str.ofString "mark_of",F_mark_of,[Str.ofString "text",Str.ofString "parts"]),
 (10,Str.ofString "deed_of",F_deed_of,[Str.ofString "row",Str.ofString "word",Str.ofString "at"]),
 (11,Str.ofString "head_of",F_head_of,[Str.ofString "row",Str.ofString "words"]),
 (12,Str.ofString "read",F_read,[Str.ofString "text",Str.ofString "rows",Str.ofString "head",Str.ofString "change",Str.ofString "row"]),
 (13,Str.ofString "_law_cell",Flaw_cell,[Str.ofString "_law_script",Str.ofString "_law_k"]),
 (14,Str.ofString "_law_mixed",Flaw_mixed,[Str.ofString "_law_cell_here",Str.ofString "_law_k"]),
 (15,Str.ofString "_law_name",G7,[Str.ofString "_law_cell_here",Str.ofString "_law_taken",Str.ofString "_law_signs",Str.ofString "_law_left",Str.ofString "_law_found",Str.ofString "_law_j",Str.ofString "_law_at"]),
 (16,Str.ofString "_law_line",G8,[Str.ofString "_law_cell_here",Str.ofString "_law_some",Str.ofString "_law_size",Str.ofString "_law_found",Str.ofString "_law_j"]),
 (17,Str.ofString "_law_leans",F8,[Str.ofString "_law_cell_here",Str.ofString "_law_ahead",Str.ofString "_law_left",Str.ofString "_law_found",Str.ofString "_law_k",Str.ofString "_law_change",Str.ofString "_law_last"]),
 (18,Str.ofString "_law_marks",F7,[Str.ofString "_law_change",Str.ofString "_law_many",Str.ofString "_law_deed",Str.ofString "_law_j"]),
 (19,Str.ofString "_law_deeds",F9,[Str.ofString "_law_name_here",Str.ofString "_law_cell_here",Str.ofString "_law_many",Str.ofString "_law_marks_here",Str.ofString "_law_deeds_here",Str.ofString "_law_own",Str.ofString "_law_k",Str.ofString "_law_known",Str.ofString "_law_left",Str.ofString "_law_at",Str.ofString "_law_line_here",Str.ofString "_law_mark",Str.ofString "_law_j"]),
 (20,Str.ofString "_law_changes",CW,[Str.ofString "_law_cells",Str.ofString "_law_most",Str.ofString "_law_found",Str.ofString "_law_taken",Str.ofString "_law_k",Str.ofString "_law_name_here",Str.ofString "_law_leans_here",Str.ofString "_law_marks_here",Str.ofString "_law_change",Str.ofString "_law_many"]),
 (21,Str.ofString "_law_numbered",DI,[Str.ofString "_law_change",Str.ofString "_law_cell_here",Str.ofString "_law_deeds_here",Str.ofString "_law_k",Str.ofString "_law_deed",Str.ofString "_law_mark"]),
 (22,Str.ofString "_law_one",Flaw_one,[Str.ofString "_law_script",Str.ofString "_law_most",Str.ofString "_law_changes_here",Str.ofString "_law_cell_here"]),
 (23,Str.ofString "_law_mark_row",Flaw_mark_row,[Str.ofString "_law_mark"]),
 (24,Str.ofString "_law_deed_row",Fj,[Str.ofString "_law_deed"]),
 (25,Str.ofString "_law_written",Em,[Str.ofString "_law_change",Str.ofString "_law_rows",Str.ofString "_law_deed"]),
 (26,Str.ofString "_law_deed_like",ED,[Str.ofString "_law_found",Str.ofString "_law_due",Str.ofString "_law_mark",Str.ofString "_law_one_here"]),
 (27,Str.ofString "_law_change_like",DX,[Str.ofString "_law_found",Str.ofString "_law_due",Str.ofString "_law_lean",Str.ofString "_law_one_here",Str.ofString "_law_other"]),
 (29,Str.ofString "law",FLaw,[Str.ofString "_law_script",Str.ofString "_law_change",Str.ofString "_law_way",Str.ofString "_law_cell_here",Str.ofString "_law_text",Str.ofString "_law_at",Str.ofString "_law_k",Str.ofString "_law_due"]),
 (30,Str.ofString "_law_odd",Gh,[Str.ofString "_law_way",Str.ofString "_law_some"]),
 (31,Str.ofString "_law_turned_text",CD,[Str.ofString "_law_text",Str.ofString "_law_cell_here",Str.ofString "_law_some",Str.ofString "_law_at",Str.ofString "_law_sign"]),
 (32,Str.ofString "_law_rows_turned",CE,[Str.ofString "_law_text",Str.ofString "_law_cell_here",Str.ofString "_law_rows",Str.ofString "_law_at",Str.ofString "_law_behind"]),
 (33,Str.ofString "_law_good_deed",EC,[Str.ofString "_law_deed",Str.ofString "_law_names",Str.ofString "_law_sign"]),
 (34,Str.ofString "_law_good",G9,[Str.ofString "_law_change",Str.ofString "_law_signs",Str.ofString "_law_name_here",Str.ofString "_law_leans_here",Str.ofString "_law_deeds_here",Str.ofString "_law_one_here",Str.ofString "_law_odd_here",Str.ofString "_law_sign",Str.ofString "_law_deed"]),
 (35,Str.ofString "_law_number",Flaw_number,[Str.ofString "_law_word",Str.ofString "_law_sign"]),
 (36,Str.ofString "_law_taken_for",Dq,[Str.ofString "_law_text",Str.ofString "_law_rows",Str.ofString "_law_words",Str.ofString "_law_deeds_here",Str.ofString "_law_row",Str.ofString "_law_mark",Str.ofString "_law_word",Str.ofString "_law_blank",Str.ofString "_law_rest",Str.ofString "_law_told",Str.ofString "_law_colon",Str.ofString "_law_line_here",Str.ofString "_law_name_here",Str.ofString "_law_gap",Str.ofString "_law_number_here"]),
 (37,Str.ofString "_law_alone",Flaw_alone,[Str.ofString "_law_e",Str.ofString "_law_some",Str.ofString "_law_one_here"]),
 (38,Str.ofString "_law_refused",Gg,[Str.ofString "_law_text",Str.ofString "_law_e"])]
noncomputable def P03 (f:Nat):Option Fn:=(Ae.find? (·.1 == f)).map (·.2.2.1)
end Mine.Internal
namespace Mine.Internal
noncomputable def isExc (c k:Nat):Option Bool:=if (c % 1000 == 4&&decide (k<=9))||((c % 1000 == 2||c % 1000 == 3)&&k == 1) then some (c % 1000 == k||k == 1||k == 0) else none
end Mine.Internal
set_option maxRecDepth 100000
namespace Mine.Internal
open PySem PyProof.Rows
noncomputable def gll03:List (Str×GV):=[
 (Str.ofString "is_name",GV.fn 1),
 (Str.ofString "is_line",GV.fn 2),
 (Str.ofString "check_leans",GV.fn 3),
 (Str.ofString "check_deed",GV.fn 4),
 (Str.ofString "check",GV.fn 5),
 (Str.ofString "mark_text",GV.fn 6),
 (Str.ofString "written",GV.fn 7),
 (Str.ofString "number_of",GV.fn 8),
 (Str.ofString "mark_of",GV.fn 9),
 (Str.ofString "deed_of",GV.fn 10),
 (Str.ofString "head_of",GV.fn 11),
 (Str.ofString "read",GV.fn 12),
 (Str.ofString "_law_cell",GV.fn 13),
 (Str.ofString "_law_mixed",GV.fn 14),
 (Str.ofString "_law_name",GV.fn 15),
 (Str.ofString "_law_line",GV.fn 16),
 (Str.ofString "_law_leans",GV.fn 17),
 (Str.ofString "_law_marks",GV.fn 18),
 (Str.ofString "_law_deeds",GV.fn 19),
 (Str.ofString "_law_changes",GV.fn 20),
 (Str.ofString "_law_numbered",GV.fn 21),
 (Str.ofString "_law_one",GV.fn 22),
 (Str.ofString "_law_mark_row",GV.fn 23),
 (Str.ofString "_law_deed_row",GV.fn 24),
 (Str.ofString "_law_written",GV.fn 25),
 (Str.ofString "_law_deed_like",GV.fn 26),
 (Str.ofString "_law_change_like",GV.fn 27),
 (Str.ofString "law",GV.fn 29),
 (Str.ofString "_law_odd",GV.fn 30),
 (Str.ofString "_law_turned_text",GV.fn 31),
 (Str.ofString "_law_rows_turned",GV.fn 32),
 (Str.ofString "_law_good_deed",GV.fn 33),
 (Str.ofString "_law_good",GV.fn 34),
 (Str.ofString "_law_number",GV.fn 35),
 (Str.ofString "_law_taken_for",GV.fn 36),
 (Str.ofString "_law_alone",GV.fn 37),
 (Str.ofString "_law_refused",GV.fn 38),
 (Str.ofString "ValueError",GV.cls 0),
 (Str.ofString "WeaveError",GV.cls 1),
 (Str.ofString "BadChange",GV.cls 2),
 (Str.ofString "NotLeaned",GV.cls 3),
 (Str.ofString "NoNote",GV.cls 4),
 (Str.ofString "Twice",GV.cls 5),
 (Str.ofString "Missing",GV.cls 6),
 (Str.ofString "NoLine",GV.cls 7),
 (Str.ofString "Other",GV.cls 8),
 (Str.ofString "Ring",GV.cls 9),
 (Str.ofString "MOST_NAME",GV.con (.int 12)),
 (Str.ofString "MOST_DEEDS",GV.con (.int 20)),
 (Str.ofString "MOST_LINE",GV.con (.int 200)),
 (Str.ofString "NAME_SIGNS",GV.con (.str "abcdefghijklmnopqrstuvwxyz0123456789")),
 (Str.ofString "FIGURES",GV.con (.str "0123456789")),
 (Str.ofString "MOST_FIGURES",GV.con (.int 9)),
 (Str.ofString "len",GV.bi .len),
 (Str.ofString "ord",GV.bi .ord),
 (Str.ofString "sorted",GV.bi .sorted),
 (Str.ofString "min",GV.bi .min),
 (Str.ofString "isinstance",GV.bi .isinstance),
 (Str.ofString "all",GV.bi .all),
 (Str.ofString "list",GV.ty "list"),
 (Str.ofString "str",GV.ty "str"),
 (Str.ofString "int",GV.ty "int"),
 (Str.ofString "bool",GV.ty "bool"),
 (Str.ofString "tuple",GV.ty "tuple"),
 (Str.ofString "range",GV.ty "range"),
 (Str.ofString "zip",GV.ty "zip"),
 (Str.ofString "enumerate",GV.ty "enumerate"),
 (Str.ofString "set",GV.ty "set")]
noncomputable def Bz (n:Str):Option GV:=List.lookup n gll03
theorem okf0:Bw view03 Bz (Ae[0]'(by decide))=true:=by decide +kernel
theorem okf1:Bw view03 Bz (Ae[1]'(by decide))=true:=by decide +kernel
theorem okf2:Bw view03 Bz (Ae[2]'(by decide))=true:=by decide +kernel
theorem okf3:Bw view03 Bz (Ae[3]'(by decide))=true:=by decide +kernel
theorem okf4:Bw view03 Bz (Ae[4]'(by decide))=true:=by decide +kernel
theorem okf5:Bw view03 Bz (Ae[5]'(by decide))=true:=by decide +kernel
theorem okf6:Bw view03 Bz (Ae[6]'(by decide))=true:=by decide +kernel
theorem okf7:Bw view03 Bz (Ae[7]'(by decide))=true:=by decide +kernel
theorem okf8:Bw view03 Bz (Ae[8]'(by decide))=true:=by decide +kernel
theorem okf9:Bw view03 Bz (Ae[9]'(by decide))=true:=by decide +kernel
theorem okf10:Bw view03 Bz (Ae[10]'(by decide))=true:=by decide +kernel
theorem okf11:Bw view03 Bz (Ae[11]'(by decide))=true:=by decide +kernel
theorem okf12:Bw view03 Bz (Ae[12]'(by decide))=true:=by decide +kernel
theorem okf13:Bw view03 Bz (Ae[13]'(by decide))=true:=by decide +kernel
theorem okf14:Bw view03 Bz (Ae[14]'(by decide))=true:=by decide +kernel
theorem okf15:Bw view03 Bz (Ae[15]'(by decide))=true:=by decide +kernel
theorem okf16:Bw view03 Bz (Ae[16]'(by decide))=true:=by decide +kernel
theorem okf17:Bw view03 Bz (Ae[17]'(by decide))=true:=by decide +kernel
theorem okf18:Bw view03 Bz (Ae[18]'(by decide))=true:=by decide +kernel
theorem okf19:Bw view03 Bz (Ae[19]'(by decide))=true:=by decide +kernel
theorem okf20:Bw view03 Bz (Ae[20]'(by decide))=true:=by decide +kernel
theorem okf21:Bw view03 Bz (Ae[21]'(by decide))=true:=by decide +kernel
theorem okf22:Bw view03 Bz (Ae[22]'(by decide))=true:=by decide +kernel
theorem okf23:Bw view03 Bz (Ae[23]'(by decide))=true:=by decide +kernel
theorem okf24:Bw view03 Bz (Ae[24]'(by decide))=true:=by decide +kernel
theorem okf25:Bw view03 Bz (Ae[25]'(by decide))=true:=by decide +kernel
theorem okf26:Bw view03 Bz (Ae[26]'(by decide))=true:=by decide +kernel
theorem okf27:Bw view03 Bz (Ae[27]'(by decide))=true:=by decide +kernel
theorem okf28:Bw view03 Bz (Ae[28]'(by decide))=true:=by decide +kernel
theorem okf29:Bw view03 Bz (Ae[29]'(by decide))=true:=by decide +kernel
theorem okf30:Bw view03 Bz (Ae[30]'(by decide))=true:=by decide +kernel
theorem okf31:Bw view03 Bz (Ae[31]'(by decide))=true:=by decide +kernel
theorem okf32:Bw view03 Bz (Ae[32]'(by decide))=true:=by decide +kernel
theorem okf33:Bw view03 Bz (Ae[33]'(by decide))=true:=by decide +kernel
theorem okf34:Bw view03 Bz (Ae[34]'(by decide))=true:=by decide +kernel
theorem okf35:Bw view03 Bz (Ae[35]'(by decide))=true:=by decide +kernel
theorem okf36:Bw view03 Bz (Ae[36]'(by decide))=true:=by decide +kernel
theorem emf0:emSs (Ae[0]'(by decide)).2.2.1.body (Ak view03 (Ae[0]'(by decide)).2.1)=Ak view03 (Ae[0]'(by decide)).2.1:=by kernel_rfl
theorem emf1:emSs (Ae[1]'(by decide)).2.2.1.body (Ak view03 (Ae[1]'(by decide)).2.1)=Ak view03 (Ae[1]'(by decide)).2.1:=by kernel_rfl
theorem emf2:emSs (Ae[2]'(by decide)).2.2.1.body (Ak view03 (Ae[2]'(by decide)).2.1)=Ak view03 (Ae[2]'(by decide)).2.1:=by kernel_rfl
theorem emf3:emSs (Ae[3]'(by decide)).2.2.1.body (Ak view03 (Ae[3]'(by decide)).2.1)=Ak view03 (Ae[3]'(by decide)).2.1:=by kernel_rfl
theorem emf4:emSs (Ae[4]'(by decide)).2.2.1.body (Ak view03 (Ae[4]'(by decide)).2.1)=Ak view03 (Ae[4]'(by decide)).2.1:=by kernel_rfl
theorem emf5:emSs (Ae[5]'(by decide)).2.2.1.body (Ak view03 (Ae[5]'(by decide)).2.1)=Ak view03 (Ae[5]'(by decide)).2.1:=by kernel_rfl
theorem emf6:emSs (Ae[6]'(by decide)).2.2.1.body (Ak view03 (Ae[6]'(by decide)).2.1)=Ak view03 (Ae[6]'(by decide)).2.1:=by kernel_rfl
theorem emf7:emSs (Ae[7]'(by decide)).2.2.1.body (Ak view03 (Ae[7]'(by decide)).2.1)=Ak view03 (Ae[7]'(by decide)).2.1:=by kernel_rfl
theorem emf8:emSs (Ae[8]'(by decide)).2.2.1.body (Ak view03 (Ae[8]'(by decide)).2.1)=Ak view03 (Ae[8]'(by decide)).2.1:=by kernel_rfl
theorem emf9:emSs (Ae[9]'(by decide)).2.2.1.body (Ak view03 (Ae[9]'(by decide)).2.1)=Ak view03 (Ae[9]'(by decide)).2.1:=by kernel_rfl
theorem emf10:emSs (Ae[10]'(by decide)).2.2.1.body (Ak view03 (Ae[10]'(by decide)).2.1)=Ak view03 (Ae[10]'(by decide)).2.1:=by kernel_rfl
theorem emf11:emSs (Ae[11]'(by decide)).2.2.1.body (Ak view03 (Ae[11]'(by decide)).2.1)=Ak view03 (Ae[11]'(by decide)).2.1:=by kernel_rfl
theorem emf12:emSs (Ae[12]'(by decide)).2.2.1.body (Ak view03 (Ae[12]'(by decide)).2.1)=Ak view03 (Ae[12]'(by decide)).2.1:=by kernel_rfl
theorem emf13:emSs (Ae[13]'(by decide)).2.2.1.body (Ak view03 (Ae[13]'(by decide)).2.1)=Ak view03 (Ae[13]'(by decide)).2.1:=by kernel_rfl
theorem emf14:emSs (Ae[14]'(by decide)).2.2.1.body (Ak view03 (Ae[14]'(by decide)).2.1)=Ak view03 (Ae[14]'(by decide)).2.1:=by kernel_rfl
theorem emf15:emSs (Ae[15]'(by decide)).2.2.1.body (Ak view03 (Ae[15]'(by decide)).2.1)=Ak view03 (Ae[15]'(by decide)).2.1:=by kernel_rfl
theorem emf16:emSs (Ae[16]'(by decide)).2.2.1.body (Ak view03 (Ae[16]'(by decide)).2.1)=Ak view03 (Ae[16]'(by decide)).2.1:=by kernel_rfl
theorem emf17:emSs (Ae[17]'(by decide)).2.2.1.body (Ak view03 (Ae[17]'(by decide)).2.1)=Ak view03 (Ae[17]'(by decide)).2.1:=by kernel_rfl
theorem emf18:emSs (Ae[18]'(by decide)).2.2.1.body (Ak view03 (Ae[18]'(by decide)).2.1)=Ak view03 (Ae[18]'(by decide)).2.1:=by kernel_rfl
theorem emf19:emSs (Ae[19]'(by decide)).2.2.1.body (Ak view03 (Ae[19]'(by decide)).2.1)=Ak view03 (Ae[19]'(by decide)).2.1:=by kernel_rfl
theorem emf20:emSs (Ae[20]'(by decide)).2.2.1.body (Ak view03 (Ae[20]'(by decide)).2.1)=Ak view03 (Ae[20]'(by decide)).2.1:=by kernel_rfl
theorem emf21:emSs (Ae[21]'(by decide)).2.2.1.body (Ak view03 (Ae[21]'(by decide)).2.1)=Ak view03 (Ae[21]'(by decide)).2.1:=by kernel_rfl
theorem emf22:emSs (Ae[22]'(by decide)).2.2.1.body (Ak view03 (Ae[22]'(by decide)).2.1)=Ak view03 (Ae[22]'(by decide)).2.1:=by kernel_rfl
theorem emf23:emSs (Ae[23]'(by decide)).2.2.1.body (Ak view03 (Ae[23]'(by decide)).2.1)=Ak view03 (Ae[23]'(by decide)).2.1:=by kernel_rfl
theorem emf24:emSs (Ae[24]'(by decide)).2.2.1.body (Ak view03 (Ae[24]'(by decide)).2.1)=Ak view03 (Ae[24]'(by decide)).2.1:=by kernel_rfl
theorem emf25:emSs (Ae[25]'(by decide)).2.2.1.body (Ak view03 (Ae[25]'(by decide)).2.1)=Ak view03 (Ae[25]'(by decide)).2.1:=by kernel_rfl
theorem emf26:emSs (Ae[26]'(by decide)).2.2.1.body (Ak view03 (Ae[26]'(by decide)).2.1)=Ak view03 (Ae[26]'(by decide)).2.1:=by kernel_rfl
theorem emf27:emSs (Ae[27]'(by decide)).2.2.1.body (Ak view03 (Ae[27]'(by decide)).2.1)=Ak view03 (Ae[27]'(by decide)).2.1:=by kernel_rfl
theorem emf28:emSs (Ae[28]'(by decide)).2.2.1.body (Ak view03 (Ae[28]'(by decide)).2.1)=Ak view03 (Ae[28]'(by decide)).2.1:=by kernel_rfl
theorem emf29:emSs (Ae[29]'(by decide)).2.2.1.body (Ak view03 (Ae[29]'(by decide)).2.1)=Ak view03 (Ae[29]'(by decide)).2.1:=by kernel_rfl
theorem emf30:emSs (Ae[30]'(by decide)).2.2.1.body (Ak view03 (Ae[30]'(by decide)).2.1)=Ak view03 (Ae[30]'(by decide)).2.1:=by kernel_rfl
theorem emf31:emSs (Ae[31]'(by decide)).2.2.1.body (Ak view03 (Ae[31]'(by decide)).2.1)=Ak view03 (Ae[31]'(by decide)).2.1:=by kernel_rfl
theorem emf32:emSs (Ae[32]'(by decide)).2.2.1.body (Ak view03 (Ae[32]'(by decide)).2.1)=Ak view03 (Ae[32]'(by decide)).2.1:=by kernel_rfl
theorem emf33:emSs (Ae[33]'(by decide)).2.2.1.body (Ak view03 (Ae[33]'(by decide)).2.1)=Ak view03 (Ae[33]'(by decide)).2.1:=by kernel_rfl
theorem emf34:emSs (Ae[34]'(by decide)).2.2.1.body (Ak view03 (Ae[34]'(by decide)).2.1)=Ak view03 (Ae[34]'(by decide)).2.1:=by kernel_rfl
theorem emf35:emSs (Ae[35]'(by decide)).2.2.1.body (Ak view03 (Ae[35]'(by decide)).2.1)=Ak view03 (Ae[35]'(by decide)).2.1:=by kernel_rfl
theorem emf36:emSs (Ae[36]'(by decide)).2.2.1.body (Ak view03 (Ae[36]'(by decide)).2.1)=Ak view03 (Ae[36]'(by decide)).2.1:=by kernel_rfl
theorem okAll03:∀ x∈Ae,Bw view03 Bz x=true:=by
 intro x hx
 simp only [Ae,List.mem_cons,List.not_mem_nil,or_false] at hx
 rcases hx with rfl | rfl | rfl | rfl | rfl | rfl | rfl | rfl | rfl | rfl | rfl | rfl | rfl | rfl | rfl | rfl | rfl | rfl | rfl | rfl | rfl | rfl | rfl | rfl | rfl | rfl | rfl | rfl | rfl | rfl | rfl | rfl | rfl | rfl | rfl | rfl | rfl
 ·exact okf0
 ·exact okf1
 ·exact okf2
 ·exact okf3
 ·exact okf4
 ·exact okf5
 ·exact okf6
 ·exact okf7
 ·exact okf8
 ·exact okf9
 ·exact okf10
 ·exact okf11
 ·exact okf12
 ·exact okf13
 ·exact okf14
 ·exact okf15
 ·exact okf16
 ·exact okf17
 ·exact okf18
 ·exact okf19
 ·exact okf20
 ·exact okf21
 ·exact okf22
 ·exact okf23
 ·exact okf24
 ·exact okf25
 ·exact okf26
 ·exact okf27
 ·exact okf28
 ·exact okf29
 ·exact okf30
 ·exact okf31
 ·exact okf32
 ·exact okf33
 ·exact okf34
 ·exact okf35
 ·exact okf36
theorem emAll03:∀ x∈Ae,emSs x.2.2.1.body (Ak view03 x.2.1)=Ak view03 x.2.1:=by
 intro x hx
 simp only [Ae,List.mem_cons,List.not_mem_nil,or_false] at hx
 rcases hx with rfl | rfl | rfl | rfl | rfl | rfl | rfl | rfl | rfl | rfl | rfl | rfl | rfl | rfl | rfl | rfl | rfl | rfl | rfl | rfl | rfl | rfl | rfl | rfl | rfl | rfl | rfl | rfl | rfl | rfl | rfl | rfl | rfl | rfl | rfl | rfl | rfl
 ·exact emf0
 ·exact emf1
 ·exact emf2
 ·exact emf3
 ·exact emf4
 ·exact emf5
 ·exact emf6
 ·exact emf7
 ·exact emf8
 ·exact emf9
 ·exact emf10
 ·exact emf11
 ·exact emf12
 ·exact emf13
 ·exact emf14
 ·exact emf15
 ·exact emf16
 ·exact emf17
 ·exact emf18
 ·exact emf19
 ·exact emf20
 ·exact emf21
 ·exact emf22
 ·exact emf23
 ·exact emf24
 ·exact emf25
 ·exact emf26
 ·exact emf27
 ·exact emf28
 ·exact emf29
 ·exact emf30
 ·exact emf31
 ·exact emf32
 ·exact emf33
 ·exact emf34
 ·exact emf35
 ·exact emf36
theorem okGl03:∀ e∈gll03,okGl view03 (PySem.W.looseW view03 []) Ae cn03 e=true:=by decide +kernel
theorem okOwn03:∀ e∈cn03,okOwn view03 e=true:=by decide +kernel
theorem okP03:∀ f fn,P03 f=some fn->∃ x,Ae.find? (·.1 == f)=some x/\x.2.2.1=fn:=by
 intro f fn h
 unfold P03 at h
 cases e:Ae.find? (·.1 == f) with
 | none=>rw [e] at h; cases h
 | some x=>rw [e] at h; exact ⟨x,rfl,Option.some.inj h⟩
end Mine.Internal
namespace Mine.Internal
open PySem
theorem gz {α:Type} {a:α} {l:List α}:(a::l)[0]? = some a:=rfl
theorem gs {α:Type} {a:α} {l:List α} {i:Nat}:(a::l)[i+1]? = l[i]?:=rfl
theorem sz {α:Type} {a b:α} {l:List α}:(a::l).set 0 b=b::l:=rfl
theorem sy {α:Type} {a b:α} {l:List α} {i:Nat}:(a::l).set (i+1) b=a::l.set i b:=rfl
theorem BO {a b c:Nat} (h:a<=b) (e:Nat.ble b c=true):a<=c:=Nat.le_trans h (Nat.le_of_ble_eq_true e)
theorem lt_c {a b c:Nat} (h:a<=b) (e:Nat.ble (b+1) c=true):a < c:=Nat.lt_of_le_of_lt h (Nat.le_of_ble_eq_true e)
theorem ltc {a b c:Nat} (h:a < b) (e:Nat.ble b c=true):a < c:=Nat.lt_of_lt_of_le h (Nat.le_of_ble_eq_true e)
noncomputable def Tx (l:List Nat):Str:=⟨l.toArray⟩
theorem Tx_app (a b:List Nat):Tx a++Tx b=Tx (a++b):=by
 show Str.append _ _=_
 simp [Str.append,Tx]
theorem BS (a:List Nat):(Tx a).length=a.length:=by simp [Str.length,Tx]
theorem ET (a:List Nat):(Tx a).cps.size=a.length:=by simp [Tx]
theorem BB (a:List Nat):(Tx a).cps.toList=a:=by simp [Tx]
theorem Tx_inj {a b:List Nat} (h:Tx a=Tx b):a=b:=by
 have:=congrArg (fun s=>s.cps.toList) h
 simpa [Tx] using this
theorem F5 (x:Str):Tx x.cps.toList=x:=by simp [Tx]
theorem Tx_cut (lo hi:Option Int) (a:List Nat):cutS lo hi (Tx a)=Tx (BD lo hi a):=by simp [cutS,Tx]
theorem Tx_at (a:List Nat) (i:Int):Txt.charAt (Tx a) i=(seqIndex? i a.length).bind (a[·]?):=by
 simp [Txt.charAt,Tx,Str.length]
theorem Tx_lt (a b:List Nat):Bn (Tx a) (Tx b)=decide (a < b):=by
 unfold Bn; congr
theorem Tx_beq (a b:List Nat):(Tx a == Tx b)=decide (a=b):=by
 by_cases h:a=b
 ·subst h; simp
 ·have h1:Tx a≠Tx b:=fun e=>h (Tx_inj e)
  simp [h,h1]
theorem Tx_nil:Str.empty=Tx []:=rfl
theorem chr1_Tx (c:Nat):chr1 c=Tx [c]:=rfl
noncomputable abbrev vs (l:List Nat):V:=.d (.str (Tx l))
noncomputable abbrev vi (i:Int):V:=.d (.int i)
noncomputable abbrev vb (b:Bool):V:=.d (.bool b)
section
variable {α β:Type} {fz:Bool} {i j:Int} {x y:Str} {σ σ1 σ₂:Store} {C:Cfg} {ρ:Au} {v:V} {e c:E} {r a b:List S}
theorem Aa (a:α) (σ:Store) (f:α->Store->Res β):(Res.ok a σ).bind f=f a σ:=rfl
theorem exc_bind (c:Nat) (σ:Store) (f:α->Store->Res β):(Res.exc c σ).bind f=.exc c σ:=rfl
theorem bind_bind {γ:Type} (r:Res α) (f:α->Store->Res β) (g:β->Store->Res γ):(r.bind f).bind g=r.bind fun a σ=>(f a σ).bind g:=by cases r <;> rfl
theorem DW {X:Nat->Nat->Option Bool} {h:Bool}:bcall X h .len fz [.d (.str x)] σ=.ok (.d (.int x.cps.size)) σ:=rfl
theorem AQ {X:Nat->Nat->Option Bool} {h:Bool} {xs:List PyData}:bcall X h .len fz [.d (.list xs)] σ=.ok (.d (.int xs.length)) σ:=by
 rw [<-List.length_map (f:=V.d)]; rfl
theorem bc_len_t {X:Nat->Nat->Option Bool} {h:Bool} {xs:List PyData}:bcall X h .len fz [.d (.tuple xs)] σ=.ok (.d (.int xs.length)) σ:=by
 rw [<-List.length_map (f:=V.d)]; rfl
theorem CA {p q:V}:Bo .Eq p q σ=eqV σ p q:=rfl
theorem CN {p q:V}:Bo .NotEq p q σ=FO (eqV σ p q):=rfl
theorem c_in {p q:V}:Bo .In p q σ=inV σ p q:=rfl
theorem EA {p q:V}:Bo .NotIn p q σ=FO (inV σ p q):=rfl
theorem c_is {p q:V}:Bo .Is p q σ=isV p q:=rfl
theorem Gc {p q:V}:Bo .IsNot p q σ=FO (isV p q):=rfl
theorem c_lt {p q:V}:Bo .Lt p q σ=ltV p q:=rfl
theorem c_gt {p q:V}:Bo .Gt p q σ=gtV p q:=rfl
theorem c_ge {p q:V}:Bo .GtE p q σ=geV p q:=rfl
theorem c_le {p q:V}:Bo .LtE p q σ=leV p q:=rfl
theorem lt_i:ltV (.d (.int i)) (.d (.int j))=some (decide (i < j)):=rfl
theorem gt_i:gtV (.d (.int i)) (.d (.int j))=some (decide (i > j)):=rfl
theorem ge_s:geV (.d (.str x)) (.d (.str y))=some (!Bn x y):=rfl
theorem Bx {t:Bool}:FO (some t)=some (!t):=rfl
theorem tr_b {t:Bool}:B2 σ (.d (.bool t))=some t:=rfl
theorem BE:Dm fz .Add (.d (.int i)) (.d (.int j)) σ=.ok (.d (.int (i+j))) σ:=rfl
theorem b_sub:Dm fz .Sub (.d (.int i)) (.d (.int j)) σ=.ok (.d (.int (i-j))) σ:=rfl
theorem Gd (h:(small i||small j)=true):Dm fz .Mult (.d (.int i)) (.d (.int j)) σ=.ok (.d (.int (i * j))) σ:=if_pos h
theorem Ce (h:j≠0):Dm fz .FloorDiv (.d (.int i)) (.d (.int j)) σ=.ok (.d (.int (i.fdiv j))) σ:=if_neg h
theorem AJ (h:j≠0):Dm fz .Mod (.d (.int i)) (.d (.int j)) σ=.ok (.d (.int (i.fmod j))) σ:=if_neg h
theorem Bp (a b:List Nat) (h:a.length+b.length<=line):Dm fz .Add (.d (.str (Tx a))) (.d (.str (Tx b))) σ=.ok (.d (.str (Tx (a++b)))) σ:=by
 have h':(Tx a).length+(Tx b).length<=line:=by rw [BS,BS]; exact h
 refine (if_pos h').trans ?_
 rw [Tx_app]
theorem allD_map (l:List PyData):EX (l.map .d)=some l:=by
 induction l with
 | nil=>rfl
 | cons x r ih =>
  show (match EX (r.map .d) with | some xs=>some (x::xs) | none=>none)=_
  rw [ih]
theorem BJ (l:List PyData) (h:l.length<=line):A2 true (l.map .d) σ=.ok (.d (.list l)) σ:=by
 refine (if_pos (by rw [List.length_map]; exact h)).trans ?_
 show (match EX (l.map .d) with | some xs=>Res.ok (V.d (.list xs)) σ | none=>.bad)=_
 rw [allD_map]
theorem b_catL (a b:List PyData) (h:a.length+b.length<=line):Dm true .Add (.d (.list a)) (.d (.list b)) σ=.ok (.d (.list (a++b))) σ:=by
 show A2 true (a.map V.d++b.map V.d) σ=_
 rw [<-List.map_append]
 exact BJ _ (by rw [List.length_append]; exact h)
theorem x_append:execSs C (a++b) ρ σ=(execSs C a ρ σ).bind fun f σ=>(match f with | .next ρ=>execSs C b ρ σ | .ret v=>.ok (.ret v) σ):=by
 induction a generalizing ρ σ with
 | nil=>simp only [List.nil_append,xB_1,DJ,Aa]
 | cons s r ih =>
  simp only [List.cons_append,xB_1,DJ,bind_bind]
  congr 1; funext f σ
  induction f with
  | next ρ=>exact ih
  | ret v=>rfl
theorem x_asg {x:Nat} (h:Ac C e ρ σ=.ok v σ1):execSs C (.asg x e::r) ρ σ=execSs C r (ρ.set x (some v)) σ1:=by
 rw [DJ,xA_1,h]; rfl
theorem x_exp (h:Ac C e ρ σ=.ok v σ1):execSs C (.exp e::r) ρ σ=execSs C r ρ σ1:=by
 rw [DJ,xA_6,h]; rfl
theorem EF {k:Nat} (h:Ac C e ρ σ=.exc k σ1):execSs C (.exp e::r) ρ σ=.exc k σ1:=by
 rw [DJ,xA_6,h]; rfl
theorem x_ret (h:Ac C e ρ σ=.ok v σ1):execSs C (.ret e::r) ρ σ=.ok (.ret v) σ1:=by
 rw [DJ,xA_10,h]; rfl
theorem x_ite {t:Bool} (h:Ac C c ρ σ=.ok v σ1) (ht:B2 σ1 v=some t):execSs C (.ite c a b::r) ρ σ=execSs C ((bif t then a else b)++r) ρ σ1:=by
 rw [x_append]
 cases t <;> simp only [xB_1,DJ,xA_1,xA_2,xA_3,xA_6,xA_7,xA_8,xA_10,xA_11,xA_12,h,Aa,ht,cond] <;> rfl
theorem x_iteB {t:Bool} (h:Ac C c ρ σ=.ok (.d (.bool t)) σ1):execSs C (.ite c a b::r) ρ σ=execSs C ((bif t then a else b)++r) ρ σ1:=x_ite h rfl
theorem x_raise {k:Nat} {es:List E} {ws:List V} (hd:C.hd=false) (h:evalEs C es ρ σ=.ok ws σ1):execSs C (.raise k es::r) ρ σ=.exc k σ1:=by
 rw [DJ,xA_11,h,Aa,hd]; rfl
theorem x_nil:execSs C [] ρ σ=.ok (.next ρ) σ:=rfl
theorem forS_items {f:V->Au->Store->Res Fl}:∀ (ws:List V) (ρ:Au) (σ:Store),E4 f (ws.length+1) (.items ws) ρ σ=D1 f ws ρ σ
 | [],_,_=>rfl
 | v::r,ρ,σ=>by
  show (f v ρ σ).bind (fun x σ=>(match x with | .next ρ=>E4 f (r.length+1) (.items r) ρ σ | .ret y=>.ok (.ret y) σ))=(f v ρ σ).bind fun x σ=>(match x with | .next ρ=>D1 f r ρ σ | .ret y=>.ok (.ret y) σ)
  congr 1; funext x σ
  induction x with
  | next ρ=>exact forS_items r ρ σ
  | ret _=>rfl
theorem D6 {f:V->Store->Res (Option V)}:∀ (ws:List V) (σ:Store),BQ f (ws.length+1) (.items ws) σ=E8 f ws σ
 | [],_=>rfl
 | v::r,σ=>by
  show compOne (BQ f (r.length+1)) f σ (some (some (v,.items r)))=_
  show (match f v σ with | .ok x σ=>(match BQ f (r.length+1) (.items r) σ with | .ok xs σ=>Res.ok (match x with | some y=>y::xs | none=>xs) σ | .exc c σ=>.exc c σ | .bad=>.bad) | .exc c σ=>.exc c σ | .bad=>.bad)=(match f v σ with | .ok x σ=>(match E8 f r σ with | .ok xs σ=>Res.ok (match x with | some y=>y::xs | none=>xs) σ | .exc c σ=>.exc c σ | .bad=>.bad) | .exc c σ=>.exc c σ | .bad=>.bad)
  induction f v σ with
  | ok x σ=>dsimp only; rw [D6 r σ]
  | _=>rfl
theorem x_for {ts:List Nat} {it:It} {body:List S} {ws:List V} (h:evalIt C it ρ σ=.ok (.items ws) σ1) :
 execSs C (.for_ ts it body::r) ρ σ=(D1 (AF C.hd ts (fun ρ σ=>execSs C body ρ σ)) ws ρ σ1).bind fun f σ=>(match f with | .next ρ=>execSs C r ρ σ | .ret v=>.ok (.ret v) σ):=by
 rw [DJ,xA_8,h,Aa]
 show (E4 _ (ws.length+1) (.items ws) ρ σ1).bind _=_
 rw [forS_items] <;> rfl
theorem Fx {f:V->Au->Store->Res Fl} {γ:Type} (I:γ->Au->Store->Prop) (w:α->V) :
 ∀ (l:List α) (R:List α->γ->Prop) (pre:List α) (s:γ) (ρ:Au) (σ:Store),R pre s->I s ρ σ ->
 (∀ p a q s ρ σ,pre++l=p++a::q->R p s->I s ρ σ->∃ s' ρ' σ',R (p++[a]) s'/\I s' ρ' σ'/\f (w a) ρ σ=.ok (.next ρ') σ') ->
 ∃ s' ρ' σ',R (pre++l) s'/\I s' ρ' σ'/\D1 f (l.map w) ρ σ=.ok (.next ρ') σ'
 | [],R,pre,s,ρ,σ,hR,hI,_=>⟨s,ρ,σ,by rw [List.append_nil]; exact hR,hI,rfl⟩
 | a::l,R,pre,s,ρ,σ,hR,hI,hf=>by
  obtain ⟨s',ρ',σ',h1,h2,h3⟩:=hf pre a l s ρ σ rfl hR hI
  obtain ⟨s2,ρ2,σ2,k1,k2,k3⟩:=Fx I w l R (pre++[a]) s' ρ' σ' h1 h2 (by
   intro p b q s ρ σ he; exact hf p b q s ρ σ (by rw [List.append_assoc] at he; exact he))
  refine ⟨s2,ρ2,σ2,by rw [List.append_assoc] at k1; exact k1,k2,?_⟩
  show (f (w a) ρ σ).bind (fun x σ=>(match x with | .next ρ=>D1 f (l.map w) ρ σ | .ret y=>.ok (.ret y) σ))=_
  rw [h3]
  exact k3
theorem rangeV_eq (lo:Int) (n:Nat):CO lo n=(List.range n).map fun j:Nat=>V.d (.int (lo+(j:Int))):=by
 induction n generalizing lo with
 | zero=>rfl
 | succ n ih =>
  show V.d (.int lo)::CO (lo+1) n=_
  rw [ih,List.range_succ_eq_map]
  simp only [List.map_cons,List.map_map]
  congr 1
  ·simp
  ·apply List.map_congr_left; intro j _; show V.d (.int (lo+1+(j:Int)))=V.d (.int (lo+((j+1:Nat):Int))); rw [Int.natCast_add,Int.add_assoc,Int.add_comm 1]; rfl
theorem range0 (n:Nat):CO 0 n=(List.range n).map fun j:Nat=>V.d (.int (j:Int)):=by simp [rangeV_eq]
theorem DS {es:List E} {n:Int} (hd:C.hd=false) (h:evalEs C es ρ σ=.ok [.d (.int n)] σ1) (h1:n<=1000000) (h2:-1000000<=n) :
 evalIt C (.range es) ρ σ=.ok (.items ((List.range n.toNat).map fun j:Nat=>V.d (.int (j:Int)))) σ1:=by
 rw [eI_1,h,Aa,hd,<-range0]
 show (match (if n<=1000000/\-1000000<=n/\false=false then some (CO 0 n.toNat) else none) with | some xs=>Res.ok (Src.items xs) σ1 | none=>.bad)=_
 rw [if_pos ⟨h1,h2,rfl⟩]
theorem Cs {ws:Src} (h:Ac C e ρ σ=.ok v σ1) (h1:Dy C.hd σ1 v=some ws):evalIt C (.of e) ρ σ=.ok ws σ1:=by
 rw [eI_4,h,Aa,h1]
theorem Di {α:Type} (f:α->PyData) (l:List α) {h:Bool}:Dy h σ (.d (.list (l.map f)))=some (.items (l.map fun a=>V.d (f a))):=by
 show some (Src.items ((l.map f).map V.d))=_
 rw [List.map_map]; rfl
theorem it_mapT {α:Type} (f:α->PyData) (l:List α) (h:C.hd=false):Dy C.hd σ (.d (.tuple (l.map f)))=some (.items (l.map fun a=>V.d (f a))):=by
 rw [h]
 show some (Src.items ((l.map f).map V.d))=_
 rw [List.map_map]; rfl
theorem EQ (l:List Nat) (h:C.hd=false):Dy C.hd σ (.d (.str (Tx l)))=some (.items (l.map fun c=>V.d (.str (Tx [c])))):=by
 rw [h]
 show some (Src.items ((Tx l).cps.toList.map fun c=>V.d (.str (chr1 c))))=_
 rw [BB]; rfl
theorem F3 {f:V->Store->Res (Option V)} (w:α->V) (g:α->Option V):∀ (l:List α),(∀ a∈l,f (w a) σ=.ok (g a) σ)->E8 f (l.map w) σ=.ok (l.filterMap g) σ
 | [],_=>rfl
 | a::l,h=>by
  have h1:=h a (by simp)
  have h2:=F3 w g l (fun b hb=>h b (by simp [hb]))
  show (match f (w a) σ with | .ok x σ=>(match E8 f (l.map w) σ with | .ok xs σ=>Res.ok (match x with | some y=>y::xs | none=>xs) σ | .exc c σ=>.exc c σ | .bad=>.bad) | .exc c σ=>.exc c σ | .bad=>.bad)=_
  rw [h1]
  show (match E8 f (l.map w) σ with | .ok xs σ=>Res.ok (match g a with | some y=>y::xs | none=>xs) σ | .exc c σ=>.exc c σ | .bad=>.bad)=_
  rw [h2,List.filterMap_cons]
  cases g a <;> rfl
theorem e_comp {elt:E} {t:Nat} {it:It} {ifs:List E} {fz:Bool} {l:List α} (w:α->V) (p:α->Bool) (g:α->V)
 (hi:evalIt C it ρ σ=.ok (.items (l.map w)) σ1)
 (hp:∀ a∈l,evalIfs C ifs ((ρ.set t none).set t (some (w a))) σ1=.ok (p a) σ1)
 (hg:∀ a∈l,p a=true->Ac C elt ((ρ.set t none).set t (some (w a))) σ1=.ok (g a) σ1) :
 Ac C (.comp fz elt [t] it ifs) ρ σ=A2 fz ((l.filter p).map g) σ1:=by
 rw [E6,hi,Aa]
 show BT fz _ (BQ _ ((l.map w).length+1) (.items (l.map w)) σ1)=_
 rw [D6,F3 w (fun a=>if p a then some (g a) else none) l]
 ·show A2 fz _ σ1=_
  congr 1
  clear hi hp hg
  induction l with
  | nil=>rfl
  | cons a l ih=>cases h:p a <;> simp [List.filterMap_cons,List.filter_cons,h,ih]
 ·intro a ha
  have h1:=hp a ha
  show (evalIfs C ifs ((ρ.set t none).set t (some (w a))) σ1).bind _=_
  rw [h1,Aa]
  induction h:p a with
  | true =>
   show (Ac C elt ((ρ.set t none).set t (some (w a))) σ1).bind _=_
   rw [hg a ha h]; rfl
  | false=>rfl
theorem e_comp1 {elt:E} {t:Nat} {it:It} {fz:Bool} {l:List α} (w:α->V) (g:α->V)
 (hi:evalIt C it ρ σ=.ok (.items (l.map w)) σ1)
 (hg:∀ a∈l,Ac C elt ((ρ.set t none).set t (some (w a))) σ1=.ok (g a) σ1) :
 Ac C (.comp fz elt [t] it []) ρ σ=A2 fz (l.map g) σ1:=by
 have:=e_comp (elt:=elt) (fz:=fz) (t:=t) (ifs:=[]) w (fun _=>true) g hi (fun a _=>by simp only [eF_1,eF_2]) (fun a ha _=>hg a ha)
 rw [List.filter_eq_self.mpr (by simp)] at this
 exact this
theorem Fg {op:Operator} {a b:E} {x y:V} (h1:Ac C a ρ σ=.ok x σ1) (h2:Ac C b ρ σ1=.ok y σ₂):Ac C (.bin fz op a b) ρ σ=Dm fz op x y σ₂:=by
 rw [A5,h1,Aa,h2,Aa]
theorem e_join {l:List (List Nat)} {sep:List Nat} (h:Ac C e ρ σ=.ok (.d (.list (l.map fun t=>.str (Tx t)))) σ1) (hok:JoinOk (Tx sep) (l.map Tx)=true) :
 Ac C (.meth .join fz (.cst (.str (Tx sep))) [e]) ρ σ=.ok (.d (.str (Txt.join (Tx sep) (l.map Tx)))) σ1:=by
 have hs:CJ ((l.map fun t=>PyData.str (Tx t)).map V.d)=some (l.map Tx):=by
  clear hok h
  induction l with
  | nil=>rfl
  | cons a l ih =>
   show (match CJ ((l.map fun t=>PyData.str (Tx t)).map V.d) with | some xs=>some (Tx a::xs) | none=>none)=_
   rw [ih]; rfl
 rw [By,Ah,Aa]
 show (evalEs C [e] ρ σ).bind _=_
 rw [Ap,h,Aa,An,Aa,Aa]
 show (match CJ ((l.map fun t=>PyData.str (Tx t)).map V.d) with | some ss=>if JoinOk (Tx sep) ss=true then Res.ok (V.d (.str (Txt.join (Tx sep) ss))) σ1 else .bad | none=>.bad)=_
 rw [hs]
 exact if_pos hok
end
section
variable {P:Nat->Option Fn} {isX:Nat->Nat->Option Bool} {fuel n f:Nat} {hd:Bool} {fn:Fn} {ws xs:List V} {σ σ1:Store} {y:PyData} {v:V} {k:Nat}
theorem AR (hP:P f=some fn) (hi:CR ws=true) (h:Bu ⟨Ag P isX fuel n,isX,fuel,hd⟩ fn ws []=.ok v σ1) (hs:Be σ1 8 v=some y):Ag P isX fuel (n+1) hd .frz f ws σ=.ok (.d y) σ:=by
 show (match P f with | none=>.bad | some fn=>(match CR ws with | true=>BK (Bu ⟨Ag P isX fuel n,isX,fuel,hd⟩ fn) ws false σ | false=>(match DR σ ws with | some xs=>BK (Bu ⟨Ag P isX fuel n,isX,fuel,hd⟩ fn) xs true σ | none=>.bad)):Res V)=_
 rw [hP]
 dsimp only
 rw [hi]
 show (match Bu ⟨Ag P isX fuel n,isX,fuel,hd⟩ fn ws [] with | .ok v σ'=>(match Be σ' 8 v with | some y=>.ok (.d y) σ | none=>.bad) | .exc c _=>if c < 1000 then .exc c σ else .bad | .bad=>.bad:Res V)=_
 rw [h]
 dsimp only
 rw [hs]
theorem frz_exc (hk:k < 1000) (hP:P f=some fn) (hi:CR ws=true) (h:Bu ⟨Ag P isX fuel n,isX,fuel,hd⟩ fn ws []=.exc k σ1):Ag P isX fuel (n+1) hd .frz f ws σ=.exc k σ:=by
 show (match P f with | none=>.bad | some fn=>(match CR ws with | true=>BK (Bu ⟨Ag P isX fuel n,isX,fuel,hd⟩ fn) ws false σ | false=>(match DR σ ws with | some xs=>BK (Bu ⟨Ag P isX fuel n,isX,fuel,hd⟩ fn) xs true σ | none=>.bad)):Res V)=_
 rw [hP]
 dsimp only
 rw [hi]
 show (match Bu ⟨Ag P isX fuel n,isX,fuel,hd⟩ fn ws [] with | .ok v σ'=>(match Be σ' 8 v with | some y=>.ok (.d y) σ | none=>.bad) | .exc c _=>if c < 1000 then .exc c σ else .bad | .bad=>.bad:Res V)=_
 rw [h]
 exact if_pos hk
theorem frz_lent (hP:P f=some fn) (hi:CR ws=false) (hl:DR σ ws=some xs) (h:Bu ⟨Ag P isX fuel n,isX,fuel,hd⟩ fn xs []=.ok v σ1) (hs:fresh σ1 8 v=some y):Ag P isX fuel (n+1) hd .frz f ws σ=.ok (.d y) σ:=by
 show (match P f with | none=>.bad | some fn=>(match CR ws with | true=>BK (Bu ⟨Ag P isX fuel n,isX,fuel,hd⟩ fn) ws false σ | false=>(match DR σ ws with | some xs=>BK (Bu ⟨Ag P isX fuel n,isX,fuel,hd⟩ fn) xs true σ | none=>.bad)):Res V)=_
 rw [hP]
 dsimp only
 rw [hi]
 dsimp only
 rw [hl]
 show (match Bu ⟨Ag P isX fuel n,isX,fuel,hd⟩ fn xs [] with | .ok v σ'=>(match fresh σ' 8 v with | some y=>.ok (.d y) σ | none=>.bad) | .exc c _=>if c < 1000 then .exc c σ else .bad | .bad=>.bad:Res V)=_
 rw [h]
 dsimp only
 rw [hs]
theorem A9 {C:Cfg} (hl:ws.length=fn.nparams) (h:execSs C fn.body (ws.map some++List.replicate (fn.nvars-fn.nparams) none) []=.ok (.ret v) σ1):Bu C fn ws []=.ok v σ1:=by
 refine (if_pos hl).trans ?_
 rw [h]; rfl
theorem run_none {C:Cfg} {ρ:Au} (hl:ws.length=fn.nparams) (h:execSs C fn.body (ws.map some++List.replicate (fn.nvars-fn.nparams) none) []=.ok (.next ρ) σ1):Bu C fn ws []=.ok (.d .none) σ1:=by
 refine (if_pos hl).trans ?_
 rw [h]; rfl
theorem run_exc {C:Cfg} (hl:ws.length=fn.nparams) (h:execSs C fn.body (ws.map some++List.replicate (fn.nvars-fn.nparams) none) []=.exc k σ1):Bu C fn ws []=.exc k σ1:=by
 refine (if_pos hl).trans ?_
 rw [h]; rfl
end
theorem contains1 (l:List Nat) (c:Nat):Txt.contains (Tx l) (Tx [c])=decide (c∈l):=by
 have h:=StrLaws.found_one (Tx l) c
 rw [BB] at h
 exact h
theorem join0 (l:List (List Nat)):Txt.join (Tx []) (l.map Tx)=Tx l.flatten:=by
 show Builtin.Str.glued _ _=_
 rw [StrLaws.glued_eq_join]
 induction l with
 | nil=>rfl
 | cons a l ih =>
  induction l with
  | nil=>simp [Str.join]
  | cons b l =>
   simp only [List.map_cons,Str.join] at ih ⊢
   rw [ih,Tx_app,Tx_app]; simp
theorem joinOk0 (l:List (List Nat)) (h:l.length<=1000000) (h1:∀ t∈l,t.length<=1):JoinOk (Tx []) (l.map Tx)=true:=by
 refine PyProof.Rows.joinOk_of ?_
 have h2:((l.map Tx).map (·.length)).sum<=l.length:=by
  clear h
  induction l with
  | nil=>simp
  | cons a l ih =>
   have:=h1 a (by simp)
   have:=ih (fun t ht=>h1 t (by simp [ht]))
   simp only [List.map_cons,List.sum_cons,List.length_cons,BS]; lia
 simp only [BS,List.length_nil,Nat.mul_zero]
 lia
section
variable {σ σ1:Store} {C:Cfg} {ρ:Au} {p q r:Bool} {a b c:E} {x y:V}
theorem C1 (h1:Ac C a ρ σ=.ok (vb p) σ) (h2:p=false->Ac C b ρ σ=.ok (vb q) σ):Ac C (.bop .Or [a,b]) ρ σ=.ok (vb (p||q)) σ:=by
 rw [Gb,F2,h1,Aa]
 cases p with
 | true=>rfl
 | false=>exact h2 rfl
theorem Cv (h1:Ac C a ρ σ=.ok (vb p) σ) (h2:p=true->Ac C b ρ σ=.ok (vb q) σ):Ac C (.bop .And [a,b]) ρ σ=.ok (vb (p&&q)) σ:=by
 rw [Gb,F2,h1,Aa]
 cases p with
 | true=>exact h2 rfl
 | false=>rfl
theorem e_and3 (h1:Ac C a ρ σ=.ok (vb p) σ) (h2:p=true->Ac C b ρ σ=.ok (vb q) σ) (h3:p=true->q=true->Ac C c ρ σ=.ok (vb r) σ):Ac C (.bop .And [a,b,c]) ρ σ=.ok (vb (p&&q&&r)) σ:=by
 rw [Gb,F2,h1,Aa]
 cases p with
 | false=>rfl
 | true =>
  show evalB C .And [b,c] ρ σ=_
  rw [F2,h2 rfl,Aa]
  cases q with
  | false=>rfl
  | true=>exact h3 rfl rfl
theorem e_and2v (h1:Ac C a ρ σ=.ok (vb p) σ) (h2:p=true->Ac C b ρ σ=.ok y σ/\B2 σ y=some q):∃ z,Ac C (.bop .And [a,b]) ρ σ=.ok z σ/\B2 σ z=some (p&&q):=by
 induction p with
 | false=>exact ⟨vb false,by rw [Gb,F2,h1]; rfl,rfl⟩
 | true=>exact ⟨y,by rw [Gb,F2,h1]; exact (h2 rfl).1,(h2 rfl).2⟩
theorem Cu (h1:Ac C a ρ σ=.ok (vb p) σ):Ac C (.not a) ρ σ=.ok (vb !p) σ:=by
 rw [eA_8,h1]; rfl
end
section
variable {σ:Store} {i j:Int} {a b:List Nat}
theorem Br:eqV σ (vi i) (vi j)=some (decide (i=j)):=rfl
theorem Ba:eqV σ (vs a) (vs b)=some (decide (a=b)):=by
 show some (Tx a == Tx b)=_
 rw [Tx_beq]
theorem inD_str (a:List Nat) (l:List (List Nat)):inD (.str (Tx a)) (l.map fun t=>.str (Tx t))=some (decide (a∈l)):=by
 induction l with
 | nil=>rfl
 | cons b l ih =>
  have h:eqN AM (.str (Tx b)) (.str (Tx a))=some (decide (b=a)):=by
   show some (Tx b == Tx a)=_
   rw [Tx_beq]
  show (match eqN AM (.str (Tx b)) (.str (Tx a)),inD (.str (Tx a)) (l.map fun t=>.str (Tx t)) with | some p,some q=>some (p||q) | _,_=>none)=_
  rw [ih,h]
  show some (decide (b=a)||decide (a∈l))=_
  rw [<-Bool.decide_or]
  congr 1
  exact decide_eq_decide.mpr (by rw [List.mem_cons,eq_comm])
theorem Dz (a:List Nat) (l:List (List Nat)):inV σ (vs a) (.d (.list (l.map fun t=>.str (Tx t))))=some (decide (a∈l)):=by
 exact inD_str a l
theorem ER (c:Nat) (l:List Nat):inV σ (vs [c]) (vs l)=some (decide (c∈l)):=by
 show some (Txt.contains (Tx l) (Tx [c]))=_
 rw [contains1]
theorem seqI {k:Int} {n:Nat} (h0:0<=k) (h:k < n):seqIndex? k n=some k.toNat:=by
 have h1:¬ k < 0:=by lia
 simp [seqIndex?,h1,h0,h]
theorem sub_seq {l:List PyData} {k:Int} {j:Nat} {v:V} (h2:small k=true) (h3:seqIndex? k (l.map V.d).length=some j) (h:(l.map V.d)[j]? = some v):A4 (.d (.list l)) (vi k) σ=some v:=by
 refine (if_pos h2).trans ?_
 show (match seqIndex? k (l.map V.d).length with | some j=>(l.map V.d)[j]? | none=>none)=_
 rw [h3]; exact h
theorem sub_seqT {l:List PyData} {k:Int} {j:Nat} {v:V} (h2:small k=true) (h3:seqIndex? k (l.map V.d).length=some j) (h:(l.map V.d)[j]? = some v):A4 (.d (.tuple l)) (vi k) σ=some v:=by
 refine (if_pos h2).trans ?_
 show (match seqIndex? k (l.map V.d).length with | some j=>(l.map V.d)[j]? | none=>none)=_
 rw [h3]; exact h
theorem El {l:List PyData} {y:PyData} (k:Int) (h0:0<=k) (hs:k < 9223372036854775808) (h:l[k.toNat]? = some y):A4 (.d (.list l)) (vi k) σ=some (.d y):=by
 have h1:k.toNat < l.length:=by
  rw [List.getElem?_eq_some_iff] at h; exact h.1
 have h2:small k=true:=by simp [small]; lia
 have h3:seqIndex? k l.length=some k.toNat:=seqI h0 (by lia)
 exact sub_seq h2 (by rw [List.length_map]; exact h3) (by rw [List.getElem?_map,h]; rfl)
theorem at_text {l:List Nat} {y:Nat} (k:Int) (h0:0<=k) (hs:k < 9223372036854775808) (h:l[k.toNat]? = some y):A4 (vs l) (vi k) σ=some (vs [y]):=by
 have h1:k.toNat < l.length:=by
  rw [List.getElem?_eq_some_iff] at h; exact h.1
 have h2:small k=true:=by simp [small]; lia
 have h3:seqIndex? k l.length=some k.toNat:=seqI h0 (by lia)
 refine (if_pos h2).trans ?_
 show (match Txt.charAt (Tx l) k with | some c=>some (V.d (.str (chr1 c))) | none=>none)=_
 rw [Tx_at,h3]
 show (match l[k.toNat]? with | some c=>some (V.d (.str (chr1 c))) | none=>none)=_
 rw [h]; rfl
theorem BX {l:List PyData} {y:PyData} (k:Int) (h0:0<=k) (hs:k < 9223372036854775808) (h:l[k.toNat]? = some y):A4 (.d (.tuple l)) (vi k) σ=some (.d y):=by
 have h1:k.toNat < l.length:=by
  rw [List.getElem?_eq_some_iff] at h; exact h.1
 have h2:small k=true:=by simp [small]; lia
 have h3:seqIndex? k l.length=some k.toNat:=seqI h0 (by lia)
 exact sub_seqT h2 (by rw [List.length_map]; exact h3) (by rw [List.getElem?_map,h]; rfl)
theorem at_last {l:List PyData} {y:PyData} (hs:l.length < 9223372036854775808) (h:l.getLast? = some y):A4 (.d (.list l)) (vi (-1)) σ=some (.d y):=by
 have h0:l≠[]:=by intro e; simp [e] at h
 have h1:0 < l.length:=List.length_pos_iff.mpr h0
 have h2:small (-1)=true:=by decide
 have h3:seqIndex? (-1) l.length=some (l.length-1):=by
  have h4:(0:Int) <= -1+l.length:=by lia
  have h5:(-1+(l.length:Int)) < l.length:=by lia
  have h6:(-1+(l.length:Int)).toNat=l.length-1:=by lia
  simp [seqIndex?,h4,h5,h6]
 rw [List.getLast?_eq_getElem?] at h
 exact sub_seq h2 (by rw [List.length_map]; exact h3) (by rw [List.getElem?_map,h]; rfl)
theorem BN (h1:-1000000000000 < i) (h2:i < 1000000000000):small i=true:=by simp [small]; lia
theorem clip_nat (n k:Nat):clipAt n (k:Int)=min k n:=by
 show (max 0 (min (if (k:Int) < 0 then (k:Int)+n else k) n)).toNat=_
 rw [if_neg (Int.not_lt.mpr (Int.natCast_nonneg k))]
 rcases Nat.le_total k n with h | h
 ·rw [Int.min_eq_left (Int.ofNat_le.mpr h),Nat.min_eq_left h,Int.max_eq_right (Int.natCast_nonneg _)]; rfl
 ·rw [Int.min_eq_right (Int.ofNat_le.mpr h),Nat.min_eq_right h,Int.max_eq_right (Int.natCast_nonneg _)]; rfl
theorem cut_to {α:Type} (l:List α) (k:Nat):BD none (some (k:Int)) l=l.take k:=by
 have:=clip_nat l.length k
 simp only [BD,Option.elim,this,List.drop_zero,Nat.sub_zero]
 rcases Nat.le_total k l.length with h | h
 ·rw [Nat.min_eq_left h]
 ·rw [Nat.min_eq_right h,List.take_of_length_le (Nat.le_refl _),List.take_of_length_le h]
theorem cut_from {α:Type} (l:List α) (k:Nat):BD (some (k:Int)) none l=l.drop k:=by
 have:=clip_nat l.length k
 simp only [BD,Option.elim,this]
 rcases Nat.le_total k l.length with h | h
 ·rw [Nat.min_eq_left h,List.take_of_length_le (by simp)]
 ·rw [Nat.min_eq_right h]; simp [List.drop_eq_nil_of_le h]
theorem end_i (h:small i=true):Cm (some (vi i))=some (some i):=if_pos h
theorem sl_toI (h:small i=true):slice true (vs a) none (some (vi i)) σ=.ok (vs (BD none (some i) a)) σ:=by
 show (match Cm none with | some l=>(match Cm (some (vi i)) with | some h=>Cq true (vs a) l h σ | none=>.bad) | none=>.bad:Res V)=_
 rw [end_i h]
 show Res.ok (V.d (.str (cutS none (some i) (Tx a)))) σ=_
 rw [Tx_cut]
theorem sl_fromI (h:small i=true):slice true (vs a) (some (vi i)) none σ=.ok (vs (BD (some i) none a)) σ:=by
 show (match Cm (some (vi i)) with | some l=>(match Cm none with | some h=>Cq true (vs a) l h σ | none=>.bad) | none=>.bad:Res V)=_
 rw [end_i h]
 show Res.ok (V.d (.str (cutS (some i) none (Tx a)))) σ=_
 rw [Tx_cut]
theorem slL_toI {l':List PyData} (h:small i=true):slice true (.d (.list l')) none (some (vi i)) σ=A2 true (BD none (some i) (l'.map .d)) σ:=by
 show (match Cm none with | some l=>(match Cm (some (vi i)) with | some h=>Cq true (.d (.list l')) l h σ | none=>.bad) | none=>.bad:Res V)=_
 rw [end_i h]; rfl
theorem slL_fromI {l':List PyData} (h:small i=true):slice true (.d (.list l')) (some (vi i)) none σ=A2 true (BD (some i) none (l'.map .d)) σ:=by
 show (match Cm (some (vi i)) with | some l=>(match Cm none with | some h=>Cq true (.d (.list l')) l h σ | none=>.bad) | none=>.bad:Res V)=_
 rw [end_i h]; rfl
theorem sl_to {k:Nat} (hk:k<=1000000):slice true (vs a) none (some (vi k)) σ=.ok (vs (a.take k)) σ:=by
 rw [sl_toI (BN (by lia) (by lia)),cut_to]
theorem sl_from {k:Nat} (hk:k<=1000000):slice true (vs a) (some (vi k)) none σ=.ok (vs (a.drop k)) σ:=by
 rw [sl_fromI (BN (by lia) (by lia)),cut_from]
theorem slL_to {l:List PyData} {k:Nat} (hk:k<=1000000) (hl:l.length<=line):slice true (.d (.list l)) none (some (vi k)) σ=.ok (.d (.list (l.take k))) σ:=by
 have h2:(l.take k).length<=line:=by simp; lia
 rw [slL_toI (BN (by lia) (by lia)),cut_to,<-List.map_take,BJ _ h2]
theorem DM {l:List PyData} {k:Nat} (hk:k<=1000000) (hl:l.length<=line):slice true (.d (.list l)) (some (vi k)) none σ=.ok (.d (.list (l.drop k))) σ:=by
 have h2:(l.drop k).length<=line:=by simp; lia
 rw [slL_fromI (BN (by lia) (by lia)),cut_from,<-List.map_drop,BJ _ h2]
theorem sl_toZ (h0:0<=i) (h1:i<=1000000):slice true (vs a) none (some (vi i)) σ=.ok (vs (a.take i.toNat)) σ:=by
 rw [sl_toI (BN (by lia) (by lia)),<-cut_to,Int.toNat_of_nonneg h0]
theorem Ev (h0:0<=i) (h1:i<=1000000):slice true (vs a) (some (vi i)) none σ=.ok (vs (a.drop i.toNat)) σ:=by
 rw [sl_fromI (BN (by lia) (by lia)),<-cut_from,Int.toNat_of_nonneg h0]
theorem slL_toZ {l:List PyData} (h0:0<=i) (h1:i<=1000000) (hl:l.length<=line):slice true (.d (.list l)) none (some (vi i)) σ=.ok (.d (.list (l.take i.toNat))) σ:=by
 have:=slL_to (σ:=σ) (k:=i.toNat) (by lia) hl
 rwa [Int.toNat_of_nonneg h0] at this
theorem Gn {l:List PyData} (h0:0<=i) (h1:i<=1000000) (hl:l.length<=line):slice true (.d (.list l)) (some (vi i)) none σ=.ok (.d (.list (l.drop i.toNat))) σ:=by
 have:=DM (σ:=σ) (k:=i.toNat) (by lia) hl
 rwa [Int.toNat_of_nonneg h0] at this
theorem AG (i:Int) {j:Int} (h:0 < j):0<=i.fmod j/\i.fmod j < j:=⟨Int.fmod_nonneg_of_pos i h,Int.fmod_lt_of_pos i h⟩
end
noncomputable def Aw (Q:Res Fl->Prop) (r:Res Fl):Prop:=Q r
section
variable {α:Type} {C:Cfg} {ρ:Au} {σ σ1:Store} {Q:Res Fl->Prop} {e c:E} {v:V} {r a b:List S} {x:Nat} {w:α->V} {l:List α} {p:α->Bool} {o:Res Fl} {I:Au->Prop} {body:List S} {it:It}
theorem Al (h:Ac C e ρ σ=.ok v σ1) (k:Aw Q (execSs C r (ρ.set x (some v)) σ1)):Aw Q (execSs C (.asg x e::r) ρ σ):=by
 rw [x_asg h]; exact k
theorem C6 (h:Ac C e ρ σ=.ok v σ1) (k:Aw Q (execSs C r ρ σ1)):Aw Q (execSs C (.exp e::r) ρ σ):=by
 rw [x_exp h]; exact k
theorem go_exp_exc {i:Nat} (h:Ac C e ρ σ=.exc i σ1) (k:Q (.exc i σ1)):Aw Q (execSs C (.exp e::r) ρ σ):=by
 rw [EF h]; exact k
theorem Ax (h:Ac C e ρ σ=.ok v σ1) (k:Q (.ok (.ret v) σ1)):Aw Q (execSs C (.ret e::r) ρ σ):=by
 rw [x_ret h]; exact k
theorem Av (k:Q (.ok (.next ρ) σ)):Aw Q (execSs C [] ρ σ):=by rw [x_nil]; exact k
theorem Bg {i:Nat} {es:List E} {ws:List V} (hd:C.hd=false) (h:evalEs C es ρ σ=.ok ws σ1) (k:Q (.exc i σ1)):Aw Q (execSs C (.raise i es::r) ρ σ):=by
 rw [x_raise hd h]; exact k
theorem Ar {t:Bool} (h:Ac C c ρ σ=.ok (.d (.bool t)) σ1) (kt:t=true->Aw Q (execSs C (a++r) ρ σ1)) (kf:t=false->Aw Q (execSs C (b++r) ρ σ1)):Aw Q (execSs C (.ite c a b::r) ρ σ):=by
 rw [x_iteB h]; induction t with
 | true=>exact kt rfl
 | false=>exact kf rfl
theorem go_iteV {t:Bool} (h:∃ v,Ac C c ρ σ=.ok v σ1/\B2 σ1 v=some t) (kt:t=true->Aw Q (execSs C (a++r) ρ σ1)) (kf:t=false->Aw Q (execSs C (b++r) ρ σ1)):Aw Q (execSs C (.ite c a b::r) ρ σ):=by
 obtain ⟨v,h1,h2⟩:=h
 rw [x_ite h1 h2]; induction t with
 | true=>exact kt rfl
 | false=>exact kf rfl
theorem for_stop (hI:I ρ)
 (ho:∀ g:Fl->Store->Res Fl,(∀ y σ,g (.ret y) σ=.ok (.ret y) σ)->o.bind g=o)
 (hf:∀ a∈l,∀ ρ,I ρ->(p a=true->execSs C body (ρ.set x (some (w a))) σ=o)/\(p a=false->∃ ρ',I ρ'/\execSs C body (ρ.set x (some (w a))) σ=.ok (.next ρ') σ)) :
 (l.any p=true->D1 (AF C.hd [x] (fun ρ σ=>execSs C body ρ σ)) (l.map w) ρ σ=o)/\(l.any p=false->∃ ρ',I ρ'/\D1 (AF C.hd [x] (fun ρ σ=>execSs C body ρ σ)) (l.map w) ρ σ=.ok (.next ρ') σ):=by
 induction l generalizing ρ with
 | nil=>exact ⟨by simp,fun _=>⟨ρ,hI,rfl⟩⟩
 | cons a l ih =>
  have h1:=hf a (by simp) ρ hI
  have hs:AF C.hd [x] (fun ρ σ=>execSs C body ρ σ) (w a) ρ σ=execSs C body (ρ.set x (some (w a))) σ:=rfl
  have hg:D1 (AF C.hd [x] (fun ρ σ=>execSs C body ρ σ)) ((a::l).map w) ρ σ=(execSs C body (ρ.set x (some (w a))) σ).bind fun z σ=>(match z with | .next ρ=>D1 (AF C.hd [x] (fun ρ σ=>execSs C body ρ σ)) (l.map w) ρ σ | .ret y=>.ok (.ret y) σ):=rfl
  rw [hg,List.any_cons]
  induction hp:p a with
  | true =>
   rw [(h1.1 hp)]
   exact ⟨fun _=>ho _ (fun _ _=>rfl),by simp⟩
  | false =>
   obtain ⟨ρ',h2,h3⟩:=h1.2 hp
   rw [h3]
   simp only [Bool.false_or,Aa]
   exact ih h2 (fun b hb=>hf b (by simp [hb]))
theorem ends_ret {v:V} {σ:Store} (g:Fl->Store->Res Fl) (hg:∀ y σ,g (.ret y) σ=.ok (.ret y) σ):(Res.ok (Fl.ret v) σ).bind g=.ok (.ret v) σ:=hg v σ
theorem E5 {c:Nat} {σ:Store} (g:Fl->Store->Res Fl) (_:∀ y σ,g (.ret y) σ=.ok (.ret y) σ):(Res.exc c σ).bind g=.exc c σ:=rfl
theorem Fv (p:α->Bool) (o:Res Fl) (I:Au->Prop) (hit:evalIt C it ρ σ=.ok (.items (l.map w)) σ) (hI:I ρ)
 (ho:∀ g:Fl->Store->Res Fl,(∀ y σ,g (.ret y) σ=.ok (.ret y) σ)->o.bind g=o)
 (hf:∀ a∈l,∀ ρ,I ρ->(p a=true->execSs C body (ρ.set x (some (w a))) σ=o)/\(p a=false->∃ ρ',I ρ'/\execSs C body (ρ.set x (some (w a))) σ=.ok (.next ρ') σ))
 (kt:l.any p=true->Q o) (kf:l.any p=false->∀ ρ',I ρ'->Aw Q (execSs C r ρ' σ)):Aw Q (execSs C (.for_ [x] it body::r) ρ σ):=by
 have h:=for_stop (C:=C) (x:=x) (w:=w) (l:=l) (body:=body) hI ho hf
 rw [x_for hit]
 induction hp:l.any p with
 | true =>
  rw [h.1 hp]
  have hq:∀ g:Fl->Store->Res Fl,(∀ y σ,g (.ret y) σ=.ok (.ret y) σ)->Aw Q (o.bind g):=fun g hg=>by rw [ho g hg]; exact kt hp
  exact hq _ (fun _ _=>rfl)
 | false =>
  obtain ⟨ρ',h1,h2⟩:=h.2 hp
  rw [h2,Aa]; exact kf hp ρ' h1
theorem for_stop2 {ts:List Nat} (bd:α->Au->Au) (hI:I ρ)
 (ho:∀ g:Fl->Store->Res Fl,(∀ y σ,g (.ret y) σ=.ok (.ret y) σ)->o.bind g=o)
 (hf:∀ a∈l,∀ ρ,I ρ->BG C.hd ρ ts (w a)=some (bd a ρ)/\(p a=true->execSs C body (bd a ρ) σ=o)/\(p a=false->∃ ρ',I ρ'/\execSs C body (bd a ρ) σ=.ok (.next ρ') σ)) :
 (l.any p=true->D1 (AF C.hd ts (fun ρ σ=>execSs C body ρ σ)) (l.map w) ρ σ=o)/\(l.any p=false->∃ ρ',I ρ'/\D1 (AF C.hd ts (fun ρ σ=>execSs C body ρ σ)) (l.map w) ρ σ=.ok (.next ρ') σ):=by
 induction l generalizing ρ with
 | nil=>exact ⟨by simp,fun _=>⟨ρ,hI,rfl⟩⟩
 | cons a l ih =>
  have h1:=hf a (by simp) ρ hI
  have hs:AF C.hd ts (fun ρ σ=>execSs C body ρ σ) (w a) ρ σ=execSs C body (bd a ρ) σ:=by
   show (match BG C.hd ρ ts (w a) with | some ρ'=>execSs C body ρ' σ | none=>.bad)=_
   rw [h1.1]
  have hg:D1 (AF C.hd ts (fun ρ σ=>execSs C body ρ σ)) ((a::l).map w) ρ σ=(AF C.hd ts (fun ρ σ=>execSs C body ρ σ) (w a) ρ σ).bind fun z σ=>(match z with | .next ρ=>D1 (AF C.hd ts (fun ρ σ=>execSs C body ρ σ)) (l.map w) ρ σ | .ret y=>.ok (.ret y) σ):=rfl
  rw [hg,hs,List.any_cons]
  induction hp:p a with
  | true =>
   rw [(h1.2.1 hp)]
   exact ⟨fun _=>ho _ (fun _ _=>rfl),by simp⟩
  | false =>
   obtain ⟨ρ',h2,h3⟩:=h1.2.2 hp
   rw [h3]
   simp only [Bool.false_or,Aa]
   exact ih h2 (fun b hb=>hf b (by simp [hb]))
theorem go_for2 {ts:List Nat} (bd:α->Au->Au) (p:α->Bool) (o:Res Fl) (I:Au->Prop) (hit:evalIt C it ρ σ=.ok (.items (l.map w)) σ) (hI:I ρ)
 (ho:∀ g:Fl->Store->Res Fl,(∀ y σ,g (.ret y) σ=.ok (.ret y) σ)->o.bind g=o)
 (hf:∀ a∈l,∀ ρ,I ρ->BG C.hd ρ ts (w a)=some (bd a ρ)/\(p a=true->execSs C body (bd a ρ) σ=o)/\(p a=false->∃ ρ',I ρ'/\execSs C body (bd a ρ) σ=.ok (.next ρ') σ))
 (kt:l.any p=true->Q o) (kf:l.any p=false->∀ ρ',I ρ'->Aw Q (execSs C r ρ' σ)):Aw Q (execSs C (.for_ ts it body::r) ρ σ):=by
 have h:=for_stop2 (C:=C) (w:=w) (l:=l) (body:=body) bd hI ho hf
 rw [x_for hit]
 induction hp:l.any p with
 | true =>
  rw [h.1 hp]
  have hq:∀ g:Fl->Store->Res Fl,(∀ y σ,g (.ret y) σ=.ok (.ret y) σ)->Aw Q (o.bind g):=fun g hg=>by rw [ho g hg]; exact kt hp
  exact hq _ (fun _ _=>rfl)
 | false =>
  obtain ⟨ρ',h1,h2⟩:=h.2 hp
  rw [h2,Aa]; exact kf hp ρ' h1
theorem zipV_d (a b:List PyData):zipV (a.map .d) (b.map .d)=(a.zip b).map fun p=>V.d (.tuple [p.1,p.2]):=by
 induction a generalizing b with
 | nil=>rfl
 | cons x a ih=>induction b with
  | nil=>rfl
  | cons y b =>
   show En [.d x,.d y]::zipV (a.map .d) (b.map .d)=_
   rw [ih]; rfl
theorem FW {γ:Type} (R:List α->γ->Prop) (I:γ->Au->Store->Prop) (s:γ) (hit:evalIt C it ρ σ=.ok (.items (l.map w)) σ1) (hR:R [] s) (hI:I s ρ σ1)
 (hf:∀ p a q s ρ σ,l=p++a::q->R p s->I s ρ σ->∃ s' ρ' σ',R (p++[a]) s'/\I s' ρ' σ'/\execSs C body (ρ.set x (some (w a))) σ=.ok (.next ρ') σ')
 (k:∀ s' ρ' σ',R l s'->I s' ρ' σ'->Aw Q (execSs C r ρ' σ')):Aw Q (execSs C (.for_ [x] it body::r) ρ σ):=by
 have hs:∀ v ρ σ,AF C.hd [x] (fun ρ σ=>execSs C body ρ σ) v ρ σ=execSs C body (ρ.set x (some v)) σ:=fun _ _ _=>rfl
 obtain ⟨s',ρ',σ',h1,h2,h3⟩:=Fx (f:=AF C.hd [x] (fun ρ σ=>execSs C body ρ σ)) I w l R [] s ρ σ1 hR hI (by
  intro p a q s ρ σ he hR hI
  rw [hs]
  exact hf p a q s ρ σ (by simpa using he) hR hI)
 rw [x_for hit,h3,Aa]
 exact k s' ρ' σ' (by simpa using h1) h2
end
section
variable {α:Type} {C:Cfg} {ρ:Au} {σ σ1:Store} {Q:Res Fl->Prop} {r:List S} {s:S} {x:Nat}
theorem BP {M:Au->Store->Prop} (h:Aw (fun r=>∃ ρ' σ',M ρ' σ'/\r=.ok (.next ρ') σ') (execSs C [s] ρ σ)) (k:∀ ρ' σ',M ρ' σ'->Aw Q (execSs C r ρ' σ')):Aw Q (execSs C (s::r) ρ σ):=by
 obtain ⟨ρ',σ',h1,h2⟩:=h
 have:s::r=[s]++r:=rfl
 rw [this,x_append,h2,Aa]
 exact k ρ' σ' h1
theorem e_compD {elt:E} {t:Nat} {it:It} {ifs:List E} {l:List α} (w:α->V) (p:α->Bool) (g:α->PyData)
 (hi:evalIt C it ρ σ=.ok (.items (l.map w)) σ1) (hl:l.length<=line)
 (hp:∀ a∈l,evalIfs C ifs ((ρ.set t none).set t (some (w a))) σ1=.ok (p a) σ1)
 (hg:∀ a∈l,p a=true->Ac C elt ((ρ.set t none).set t (some (w a))) σ1=.ok (.d (g a)) σ1) :
 Ac C (.comp true elt [t] it ifs) ρ σ=.ok (.d (.list ((l.filter p).map g))) σ1:=by
 rw [e_comp (elt:=elt) w p (fun a=>.d (g a)) hi hp hg]
 have h:((l.filter p).map g).length<=line:=by
  have:=List.length_filter_le p l
  simp; (exact Nat.le_trans ‹_› ‹_›)
 rw [<-BJ _ h,List.map_map]; rfl
theorem Dk {elt:E} {t:Nat} {it:It} {l:List α} (w:α->V) (g:α->PyData)
 (hi:evalIt C it ρ σ=.ok (.items (l.map w)) σ1) (hl:l.length<=line)
 (hg:∀ a∈l,Ac C elt ((ρ.set t none).set t (some (w a))) σ1=.ok (.d (g a)) σ1) :
 Ac C (.comp true elt [t] it []) ρ σ=.ok (.d (.list (l.map g))) σ1:=by
 rw [e_comp1 (elt:=elt) w (fun a=>.d (g a)) hi hg]
 have h:(l.map g).length<=line:=by simp; (with_reducible assumption)
 rw [<-BJ _ h,List.map_map]; rfl
theorem flatten1 (l:List α) (f:α->Nat):(l.map fun j=>[f j]).flatten=l.map f:=by
 induction l with
 | nil=>rfl
 | cons a l ih=>simp [ih]
theorem e_signs {elt:E} {t:Nat} {it:It} {l:List α} {fz:Bool} (w:α->V) (g:α->Nat)
 (hi:evalIt C it ρ σ=.ok (.items (l.map w)) σ1) (hl:l.length<=1000)
 (hg:∀ a∈l,Ac C elt ((ρ.set t none).set t (some (w a))) σ1=.ok (vs [g a]) σ1) :
 Ac C (.meth .join fz (.cst (.str "")) [.comp true elt [t] it []]) ρ σ=.ok (vs (l.map g)) σ1:=by
 have h0:Str.ofString "" = Tx []:=by decide +kernel
 have h1:=Dk (elt:=elt) (t:=t) w (fun a=>.str (Tx [g a])) hi (by simp [line]; (exact BO ‹_› (by rfl))) hg
 rw [h0]
 have h2:=e_join (fz:=fz) (l:=l.map fun a=>[g a]) (sep:=[]) (h1.trans (by simp only [List.map_map]; rfl)) (joinOk0 _ (by simp; (exact BO ‹_› (by rfl))) (by simp))
 rw [h2,join0,flatten1]
theorem e_signsR {elt:E} {t:Nat} {es:List E} {fz:Bool} {m:Int} (g:Int->Nat) (hd:C.hd=false)
 (hi:evalEs C es ρ σ=.ok [.d (.int m)] σ1) (hl:m<=1000) (hl2:-1000<=m)
 (hg:∀ i:Int,0<=i->i < m->Ac C elt ((ρ.set t none).set t (some (vi i))) σ1=.ok (vs [g i]) σ1) :
 Ac C (.meth .join fz (.cst (.str "")) [.comp true elt [t] (.range es) []]) ρ σ=.ok (vs ((List.range m.toNat).map fun j:Nat=>g (j:Int))) σ1 :=
 e_signs (fun j:Nat=>vi (j:Int)) (fun j:Nat=>g (j:Int)) (DS hd hi (by lia) (by lia)) (by simp; (with_reducible assumption)) (fun j hj=>hg j (by (exact Int.natCast_nonneg _)) (by simp at hj; (with_reducible assumption)))
theorem e_compR {elt:E} {t:Nat} {es ifs:List E} {m:Int} (p:Int->Bool) (g:Int->PyData) (hd:C.hd=false)
 (hi:evalEs C es ρ σ=.ok [.d (.int m)] σ1) (hl:m<=1000000) (hl2:-1000000<=m)
 (hp:∀ i:Int,0<=i->i < m->evalIfs C ifs ((ρ.set t none).set t (some (vi i))) σ1=.ok (p i) σ1)
 (hg:∀ i:Int,0<=i->i < m->p i=true->Ac C elt ((ρ.set t none).set t (some (vi i))) σ1=.ok (.d (g i)) σ1) :
 Ac C (.comp true elt [t] (.range es) ifs) ρ σ=.ok (.d (.list (((List.range m.toNat).filter fun j:Nat=>p (j:Int)).map fun j:Nat=>g (j:Int)))) σ1 :=
 e_compD (fun j:Nat=>vi (j:Int)) (fun j:Nat=>p (j:Int)) (fun j:Nat=>g (j:Int)) (DS hd hi hl hl2) (by simp [line]; lia) (fun j hj=>hp j (by (exact Int.natCast_nonneg _)) (by simp at hj; (with_reducible assumption))) (fun j hj=>hg j (by (exact Int.natCast_nonneg _)) (by simp at hj; (with_reducible assumption)))
theorem ar3 {a:Int} {n k:Nat} (h:a < (n:Int)) (hn:n<=k) (hk:k<=1000:=by decide):a<=1000000:=by lia
theorem ar3' {a:Int} {n k:Nat} (h:a < (n:Int)) (hn:n<=k) (hk:k<=1000:=by decide):a+1<=1000000:=by lia
theorem ar3s {a:Int} {n k:Nat} (h:a < (n:Int)) (hn:n<=k) (hk:k<=1000000:=by decide):a < 9223372036854775808:=by lia
theorem ar4 {a:Int} {n:Nat} (h0:0<=a) (h:a < (n:Int)):a.toNat < n:=by lia
theorem arp {n:Nat}:(0:Int) < (n:Int)+1:=by lia
theorem arq {n:Nat}:(n:Int)+1≠0:=by lia
theorem arr {n:Nat} (h:0 < n):(0:Int) < (n:Int):=by (exact Int.ofNat_le.mpr ‹_›)
theorem ars {n:Nat} (h:0 < n):(n:Int)≠0:=by lia
theorem ar9 {a:Int} (h:0<=a):0<=a+1:=by lia
section
variable {β:Type}
theorem ln_t1 {l:List α} {y:α} {i k:Nat} (h:l.length<=k) (hk:k+1<=16777216:=by decide):(l.take i).length + [y].length<=line:=by simp [line]; lia
theorem ln_t2 {l:List α} {x:α} {i j k:Nat} (h:l.length<=k) (hk:2 * k+1<=16777216:=by decide):(l.take i++[x]).length+(l.drop j).length<=line:=by simp [line]; omega
end
theorem pigeon {β:Type} [DecidableEq β]:∀ (l m:List β),l.Nodup->(∀ x∈l,x∈m)->l.length<=m.length
 | [],m,_,_=>by exact Nat.zero_le _
 | a::l,m,hn,hs=>by
  have ha:a∈m:=hs a (by exact .head _)
  rw [List.nodup_cons] at hn
  have:=pigeon l (m.erase a) hn.2 (by
   intro x hx
   have hne:x≠a:=fun e=>hn.1 (e▸hx)
   exact (List.mem_erase_of_ne hne).mpr (hs x (by exact .tail _ hx)))
  rw [List.length_erase_of_mem ha] at this
  have h0:0 < m.length:=List.length_pos_iff.mpr (fun e=>by simp [e] at ha)
  simp; omega
end
theorem k_signs:Str.ofString "abcdefghijklmnopqrstuvwxyz0123456789" = Tx AB:=by decide +kernel
noncomputable def Cp:List Nat:=[97,100,100]
theorem k_add:Str.ofString "add" = Tx Cp:=by decide +kernel
noncomputable def AW:List Nat:=[99,117,116]
theorem E1:Str.ofString "cut" = Tx AW:=by decide +kernel
noncomputable def Fq:List Nat:=[115,101,116]
theorem k_set:Str.ofString "set" = Tx Fq:=by decide +kernel
noncomputable def AU (t:List Nat):Bool:=!decide ((t.length:Int) > 200)&&t.all fun c=>!(decide ((c:Int) < 32)||decide ((c:Int) > 126))
section
variable {fuel n:Nat} {hd:Bool} {σ:Store}
theorem P1:P03 1=some F_is_name:=rfl
theorem P2:P03 2=some F_is_line:=rfl
theorem P3:P03 3=some Fk:=rfl
theorem P4:P03 4=some Gi:=rfl
theorem P5:P03 5=some F_check:=rfl
theorem ev_is_name (t:List Nat):Ag P03 isExc fuel (n+1) false .frz 1 [vs t] σ=.ok (vb (Aq t)) σ:=by
 refine AR (v:=vb (Aq t)) (σ1:=[]) P1 rfl (A9 rfl ?_) rfl
 generalize hC:(⟨Ag P03 isExc fuel n,isExc,fuel,false⟩:Cfg)=C
 have hhd:C.hd=false:=by rw [<-hC]
 show Aw (fun r=>r=.ok (.ret (vb (Aq t))) []) (execSs C [_,_,_] [some (vs t),none] [])
 refine Ar (t:=decide ((t.length:Int) < 1)||decide ((t.length:Int) > 12)) (σ1:=[]) (C1 rfl (fun _=>by simp only [eA_2,Ad,Ao,A6,An,Ap,Aa,gz,DW,c_gt,gt_i,ET])) (fun hl=>?_) (fun hl=>?_)
 ·refine Ax rfl ?_
  rw [show Aq t=false by simp only [Aq,hl]; rfl]
 ·refine Fv (l:=t) (w:=fun c=>vs [c]) (fun c=>!decide (c∈AB)) (.ok (.ret (vb false)) []) (fun ρ=>∃ z,ρ=[some (vs t),z])
   (Cs (v:=vs t) rfl (EQ _ hhd)) ⟨_,rfl⟩ ends_ret ?_ (fun ha=>?_) ?_
  ·rintro a-ρ ⟨z,rfl⟩
   refine ⟨fun h=>?_,fun h=>⟨_,⟨some (vs [a]),rfl⟩,?_⟩⟩
   ·rw [x_iteB (t:=true) (by simp only [eA_2,Ad,Ao,Aa,gz,gs,sz,sy,EA,Bx,ER,k_signs,h] <;> rfl)]
    exact x_ret rfl
   ·rw [x_iteB (t:=false) (by simp only [eA_2,Ad,Ao,Aa,gz,gs,sz,sy,EA,Bx,ER,k_signs,h] <;> rfl)]
    exact x_nil
  ·rw [show Aq t=false by simp only [Aq,hl]; simpa using ha]
  ·rintro ha ρ ⟨z,rfl⟩
   refine Ax rfl ?_
   rw [show Aq t=true by simp only [Aq,hl]; simpa using ha]
theorem ev_is_line (t:List Nat):Ag P03 isExc fuel (n+1) false .frz 2 [vs t] σ=.ok (vb (AU t)) σ:=by
 refine AR (v:=vb (AU t)) (σ1:=[]) P2 rfl (A9 rfl ?_) rfl
 generalize hC:(⟨Ag P03 isExc fuel n,isExc,fuel,false⟩:Cfg)=C
 have hhd:C.hd=false:=by rw [<-hC]
 show Aw (fun r=>r=.ok (.ret (vb (AU t))) []) (execSs C [_,_,_] [some (vs t),none] [])
 refine Ar (t:=decide ((t.length:Int) > 200)) (σ1:=[]) rfl (fun hl=>?_) (fun hl=>?_)
 ·refine Ax rfl ?_
  rw [show AU t=false by simp only [AU,hl]; rfl]
 ·refine Fv (l:=t) (w:=fun c=>vs [c]) (fun c=>decide ((c:Int) < 32)||decide ((c:Int) > 126)) (.ok (.ret (vb false)) []) (fun ρ=>∃ z,ρ=[some (vs t),z])
   (Cs (v:=vs t) rfl (EQ _ hhd)) ⟨_,rfl⟩ ends_ret ?_ (fun ha=>?_) ?_
  ·rintro a-ρ ⟨z,rfl⟩
   have h3:(Tx [a]).cps.toList=[a]:=BB _
   refine ⟨fun h=>?_,fun h=>⟨_,⟨some (vs [a]),rfl⟩,?_⟩⟩
   all_goals
    show Aw (fun r=>r=_) _
    refine Ar (t:=decide ((a:Int) < 32)||decide ((a:Int) > 126)) (σ1:=[]) (C1 (by simp only [Ah,Ad,Ao,A6,An,Ap,Aa,gz,gs,sz,sy,c_lt,h3] <;> rfl) (fun _=>(by simp only [Ah,Ad,Ao,A6,An,Ap,Aa,gz,gs,sz,sy,c_gt,h3] <;> rfl))) (fun hl=>?_) (fun hl=>?_)
   ·exact Ax rfl rfl
   ·rw [h] at hl; exact absurd hl (by simp)
   ·rw [h] at hl; exact absurd hl (by simp)
   ·exact Av rfl
  ·rw [show AU t=false by
    simp only [AU,hl]
    rw [List.any_eq_true] at ha
    obtain ⟨c,h1,h2⟩:=ha
    rw [Bool.not_false,Bool.true_and,List.all_eq_false]
    exact ⟨c,h1,by rw [h2]; simp⟩]
  ·rintro ha ρ ⟨z,rfl⟩
   refine Ax rfl ?_
   rw [show AU t=true by
    simp only [AU,hl]
    rw [List.any_eq_false] at ha
    rw [Bool.not_false,Bool.true_and,List.all_eq_true]
    intro c hc
    have:=ha c hc
    simp only [Bool.not_eq_true] at this
    rw [this]; rfl]
end
noncomputable abbrev dl (l:List (List Nat)):PyData:=.list (l.map fun t=>.str (Tx t))
noncomputable def BF (ls:List (List Nat)):Bool:=!(ls.zip (ls.drop 1)).any fun p=>!decide (p.1 < p.2)
noncomputable def AX (t:List Nat) (ls:List (List Nat)):Bool:=Aq t&&ls.all Aq&&BF ls && !decide (t∈ls)
section
variable {fuel n:Nat} {hd:Bool} {σ:Store}
noncomputable def endC (ok:Bool) (c:Nat):Res Fl->Prop:=fun r=>if ok then ∃ ρ,r=.ok (.next ρ) [] else r=.exc c []
theorem frz_check {f c:Nat} (hk:c < 1000) {fn:Fn} {ws:List V} {ok:Bool} (hP:P03 f=some fn) (hi:CR ws=true) (hl:ws.length=fn.nparams)
 (h:Aw (endC ok c) (execSs ⟨Ag P03 isExc fuel n,isExc,fuel,hd⟩ fn.body (ws.map some++List.replicate (fn.nvars-fn.nparams) none) [])) :
 Ag P03 isExc fuel (n+1) hd .frz f ws σ=if ok then .ok (.d .none) σ else .exc c σ:=by
 induction ok with
 | true =>
  obtain ⟨ρ,h⟩:=h
  exact AR (v:=.d .none) (σ1:=[]) hP hi (run_none hl h) rfl
 | false=>exact frz_exc hk hP hi (run_exc hl h)
theorem ev_check_leans (t:List Nat) (ls:List (List Nat)) (hls:ls.length<=1000000):Ag P03 isExc fuel (n+2) false .frz 3 [vs t,.d (dl ls)] σ=if AX t ls then .ok (.d .none) σ else .exc 2 σ:=by
 refine frz_check (by decide) P3 rfl rfl ?_
 have hn:∀ t σ,Ag P03 isExc fuel (n+1) false .frz 1 [vs t] σ=.ok (vb (Aq t)) σ:=fun t σ=>ev_is_name t
 generalize hC:(⟨Ag P03 isExc fuel (n+1),isExc,fuel,false⟩:Cfg)=C
 have hhd:C.hd=false:=by rw [<-hC]
 have hcf:∀ t σ,C.cf false .frz 1 [vs t] σ=.ok (vb (Aq t)) σ:=by rw [<-hC]; exact hn
 show Aw _ (execSs C [_,_,_,_] [some (vs t),some (.d (dl ls)),none,none,none] [])
 refine Ar (t:=!Aq t) (σ1:=[]) (Cu (by simp only [Ad,A1,An,Ap,Aa,gz,hcf,hhd] <;> rfl)) (fun h1=>?_) (fun h1=>?_)
 ·refine Bg hhd rfl ?_
  rw [show AX t ls=false by simp at h1; simp [AX,h1]]; rfl
 simp only [Bool.not_eq_false'] at h1
 refine Fv (l:=ls) (w:=fun t=>vs t) (fun t=>!Aq t) (.exc 2 []) (fun ρ=>∃ z,ρ=[some (vs t),some (.d (dl ls)),z,none,none])
  (Cs (v:=.d (dl ls)) rfl (Di _ _)) ⟨_,rfl⟩ E5 ?_ (fun ha=>?_) ?_
 ·rintro a-ρ ⟨z,rfl⟩
  refine ⟨fun h=>?_,fun h=>⟨_,⟨some (vs a),rfl⟩,?_⟩⟩
  all_goals
   show Aw (fun r=>r=_) _
   refine Ar (t:=!Aq a) (σ1:=[]) (Cu (by simp only [Ad,A1,An,Ap,Aa,gz,gs,sz,sy,hcf,hhd] <;> rfl)) (fun hl=>?_) (fun hl=>?_)
  ·exact Bg hhd rfl rfl
  ·rw [h] at hl; exact absurd hl (by simp)
  ·rw [h] at hl; exact absurd hl (by simp)
  ·exact Av rfl
 ·rw [show AX t ls=false by simp only [AX]; rw [show ls.all Aq=false by simpa using ha]; simp]; rfl
 rintro h2 ρ ⟨z,rfl⟩
 have h2:ls.all Aq=true:=by simpa using h2
 refine go_for2 (l:=ls.zip (ls.drop 1)) (w:=fun p=>.d (.tuple [.str (Tx p.1),.str (Tx p.2)])) (fun p ρ=>(ρ.set 3 (some (vs p.1))).set 4 (some (vs p.2))) (fun p=>!decide (p.1 < p.2)) (.exc 2 []) (fun ρ=>∃ z y w,ρ=[some (vs t),some (.d (dl ls)),z,y,w])
  ?_ ⟨_,_,_,rfl⟩ E5 ?_ (fun ha=>?_) ?_
 ·have h3:slice true (.d (dl ls)) (some (vi ((1:Nat):Int))) none []=.ok (.d (.list ((ls.map fun t=>PyData.str (Tx t)).drop 1))) []:=DM (by (exact Nat.succ_pos _)) (by simp [line]; (exact BO ‹_› (by rfl)))
  have h4:slice true (.d (dl ls)) (some (vi 1)) none []=.ok (.d (dl (ls.drop 1))) []:=by rw [<-List.map_drop] at h3; exact h3
  have d1:∀ l:List PyData,Dl C.hd (.d (.list l))=some (l.map .d):=fun l=>by rw [hhd]; rfl
  rw [eI_2,Ad]
  simp only [Ah,Ad,Bm,CM,C8,Aa,gz,gs,h4,d1,zipV_d]
  rw [List.zip_map,List.map_map]
  rfl
 ·rintro ⟨a,b⟩ - ρ ⟨z,y,w,rfl⟩
  refine ⟨by rw [hhd]; rfl,fun h=>?_,fun h=>⟨_,⟨z,some (vs a),some (vs b),rfl⟩,?_⟩⟩
  all_goals
   show Aw (fun r=>r=_) _
   refine Ar (t:=!decide (a < b)) (σ1:=[]) (by simp only [Ad,Ao,Aa,gz,gs,sz,sy,c_ge,ge_s,Tx_lt] <;> rfl) (fun hl=>?_) (fun hl=>?_)
  ·exact Bg hhd rfl rfl
  ·rw [h] at hl; exact absurd hl (by simp)
  ·rw [h] at hl; exact absurd hl (by simp)
  ·exact Av rfl
 ·rw [show AX t ls=false by simp only [AX,BF,ha]; simp]; rfl
 rintro h3 ρ ⟨z,y,w,rfl⟩
 refine Ar (t:=decide (t∈ls)) (σ1:=[]) (by simp only [Ad,Ao,Aa,gz,gs,c_in,Dz] <;> rfl) (fun h4=>?_) (fun h4=>?_)
 ·refine Bg hhd rfl ?_
  rw [show AX t ls=false by simp only [AX,h4]; simp]; rfl
 ·refine Av ?_
  rw [show AX t ls=true by simp only [AX,BF,h1,h2,h3,h4]; rfl]
  exact ⟨_,rfl⟩
end
structure Deed where
 word:List Nat
 mark:Option (List Nat×Int)
 text:Option (List Nat)
noncomputable def Ay:Option (List Nat×Int)->PyData
 | none=>.none
 | some m=>.tuple [.str (Tx m.1),.int m.2]
noncomputable def Deed.data (d:Deed):PyData:=.tuple ([.str (Tx d.word),Ay d.mark]++(match d.text with | none=>[] | some l=>[.str (Tx l)]))
noncomputable def Bc (d:Deed):Bool :=
 !((!decide (d.word=Cp))&&(!decide (d.word=AW))&&(!decide (d.word=Fq))) && !((!decide (d.word=Cp))&&d.mark.isNone) && !((!decide (d.word=AW)) && !AU (d.text.getD []))
noncomputable def unl (t:List Nat) (ls:List (List Nat)) (d:Deed):Bool:=match d.mark with
 | none=>false
 | some m=>(!decide (m.1=t))&&(!decide (m.1∈ls))
section
variable {fuel n:Nat} {hd:Bool} {σ:Store}
theorem Bl (d:Deed):A4 (.d d.data) (vi 0) σ=some (vs d.word):=by
 unfold Deed.data; exact BX 0 (by decide) (by decide) rfl
theorem AS (d:Deed):A4 (.d d.data) (vi 1) σ=some (.d (Ay d.mark)):=by
 unfold Deed.data; exact BX 1 (by decide) (by decide) rfl
theorem Es (d:Deed) {l:List Nat} (h:d.text=some l):A4 (.d d.data) (vi 2) σ=some (vs l):=by
 unfold Deed.data; exact BX 2 (by decide) (by decide) (by rw [h]; rfl)
theorem Ct (m:Option (List Nat×Int)):isV (.d (Ay m)) (.d .none)=some m.isNone:=by
 cases m <;> rfl
theorem ev_check_deed (d:Deed) (ht:d.word≠AW->d.text≠none):Ag P03 isExc fuel (n+2) false .frz 4 [.d d.data] σ=if Bc d then .ok (.d .none) σ else .exc 2 σ:=by
 refine frz_check (by decide) P4 rfl rfl ?_
 have hn:∀ t σ,Ag P03 isExc fuel (n+1) false .frz 2 [vs t] σ=.ok (vb (AU t)) σ:=fun t σ=>ev_is_line t
 generalize hC:(⟨Ag P03 isExc fuel (n+1),isExc,fuel,false⟩:Cfg)=C
 have hhd:C.hd=false:=by rw [<-hC]
 have hcf:∀ t σ,C.cf false .frz 2 [vs t] σ=.ok (vb (AU t)) σ:=by rw [<-hC]; exact hn
 show Aw _ (execSs C [_,_,_] [some (.d d.data)] [])
 refine Ar (t:=(!decide (d.word=Cp))&&(!decide (d.word=AW))&&(!decide (d.word=Fq))) (σ1:=[]) (e_and3 (by simp only [Ah,Ad,Ao,Am,Aa,gz,CN,Bx,Ba,Bl,k_add] <;> rfl) (fun _=>(by simp only [Ah,Ad,Ao,Am,Aa,gz,CN,Bx,Ba,Bl,E1] <;> rfl)) (fun _ _=>(by simp only [Ah,Ad,Ao,Am,Aa,gz,CN,Bx,Ba,Bl,k_set] <;> rfl))) (fun h1=>?_) (fun h1=>?_)
 ·refine Bg hhd rfl ?_
  rw [show Bc d=false by simp only [Bc,h1]; rfl]; rfl
 refine Ar (t:=(!decide (d.word=Cp))&&d.mark.isNone) (σ1:=[]) (Cv (by simp only [Ah,Ad,Ao,Am,Aa,gz,CN,Bx,Ba,Bl,k_add] <;> rfl) (fun _=>(by simp only [Ah,Ad,Ao,Am,Aa,gz,c_is,AS,Ct] <;> rfl))) (fun h2=>?_) (fun h2=>?_)
 ·refine Bg hhd rfl ?_
  rw [show Bc d=false by simp only [Bc,h1,h2]; rfl]; rfl
 refine Ar (t:=(!decide (d.word=AW)) && !AU (d.text.getD [])) (σ1:=[]) (Cv (by simp only [Ah,Ad,Ao,Am,Aa,gz,CN,Bx,Ba,Bl,E1] <;> rfl) (fun hw=>?_)) (fun h3=>?_) (fun h3=>?_)
 ·induction ht':d.text with
  | none=>exact absurd ht' (ht (by simpa using hw))
  | some l=>refine Cu (by simp only [Ah,Ad,Am,A1,An,Ap,Aa,gz,Es d ht',hcf,hhd,Option.getD] <;> rfl)
 ·refine Bg hhd rfl ?_
  rw [show Bc d=false by simp only [Bc,h1,h2,h3]; rfl]; rfl
 ·refine Av ?_
  rw [show Bc d=true by simp only [Bc,h1,h2,h3]; rfl]
  exact ⟨_,rfl⟩
noncomputable def Bs (t:List Nat) (ls:List (List Nat)) (ds:List Deed):Option Nat :=
 if !AX t ls then some 2 else if decide ((ds.length:Int) > 20) then some 2 else if ds.any (fun d=>!Bc d) then some 2 else if ds.any (unl t ls) then some 3 else none
noncomputable def endR:Option Nat->Res Fl->Prop
 | none=>fun r=>∃ ρ,r=.ok (.next ρ) []
 | some c=>fun r=>r=.exc c []
noncomputable def resR (σ:Store):Option Nat->Res V
 | none=>.ok (.d .none) σ
 | some c=>.exc c σ
theorem frz_R {f:Nat} {fn:Fn} {ws:List V} {o:Option Nat} (hk:∀ c,o=some c->c < 1000) (hP:P03 f=some fn) (hi:CR ws=true) (hl:ws.length=fn.nparams)
 (h:Aw (endR o) (execSs ⟨Ag P03 isExc fuel n,isExc,fuel,hd⟩ fn.body (ws.map some++List.replicate (fn.nvars-fn.nparams) none) [])) :
 Ag P03 isExc fuel (n+1) hd .frz f ws σ=resR σ o:=by
 induction o with
 | none =>
  obtain ⟨ρ,h⟩:=h
  exact AR (v:=.d .none) (σ1:=[]) hP hi (run_none hl h) rfl
 | some c=>exact frz_exc (hk c rfl) hP hi (run_exc hl h)
theorem go_swp {C:Cfg} {ρ:Au} {σ σ1:Store} {Q:Res Fl->Prop} {xs:List Nat} {es:List E} {ws:List V} {r:List S} (hd:C.hd=false) (h:evalEs C es ρ σ=.ok ws σ1) (hl:ws.length=xs.length) (k:Aw Q (execSs C r (Cz ρ xs ws) σ1)):Aw Q (execSs C (.swp xs es::r) ρ σ):=by
 have:execSs C (.swp xs es::r) ρ σ=execSs C r (Cz ρ xs ws) σ1:=by
  simp [xB_1,DJ,xA_1,xA_2,xA_3,xA_6,xA_7,xA_8,xA_10,xA_11,xA_12,h,hl,hd,Aa]
 rw [this]; exact k
noncomputable abbrev change (t:List Nat) (ls:List (List Nat)) (ds:List Deed):PyData:=.tuple [.str (Tx t),dl ls,.list (ds.map Deed.data)]
theorem checkR_lt (t:List Nat) (ls:List (List Nat)) (ds:List Deed):∀ c,Bs t ls ds=some c->c < 1000:=by
 intro c h
 unfold Bs at h
 split at h
 ·obtain rfl:=Option.some.inj h; decide
 split at h
 ·obtain rfl:=Option.some.inj h; decide
 split at h
 ·obtain rfl:=Option.some.inj h; decide
 split at h
 ·obtain rfl:=Option.some.inj h; decide
 ·exact Ab h
theorem ev_check (t:List Nat) (ls:List (List Nat)) (ds:List Deed) (hls:ls.length<=1000000) (hds:∀ d∈ds,d.word≠AW->d.text≠none) :
 Ag P03 isExc fuel (n+3) false .frz 5 [.d (change t ls ds)] σ=resR σ (Bs t ls ds):=by
 refine frz_R (checkR_lt t ls ds) P5 rfl rfl ?_
 have h3:∀ σ,Ag P03 isExc fuel (n+2) false .frz 3 [vs t,.d (dl ls)] σ=if AX t ls then .ok (.d .none) σ else .exc 2 σ:=fun σ=>ev_check_leans t ls hls
 have h4:∀ d∈ds,∀ σ,Ag P03 isExc fuel (n+2) false .frz 4 [.d d.data] σ=if Bc d then .ok (.d .none) σ else .exc 2 σ:=fun d hd σ=>ev_check_deed d (hds d hd)
 generalize hC:(⟨Ag P03 isExc fuel (n+2),isExc,fuel,false⟩:Cfg)=C
 have hhd:C.hd=false:=by rw [<-hC]
 have h3:∀ σ,C.cf false .frz 3 [vs t,.d (dl ls)] σ=if AX t ls then .ok (.d .none) σ else .exc 2 σ:=by rw [<-hC]; exact h3
 have h4:∀ d∈ds,∀ σ,C.cf false .frz 4 [.d d.data] σ=if Bc d then .ok (.d .none) σ else .exc 2 σ:=by rw [<-hC]; exact h4
 show Aw _ (execSs C [_,_,_,_,_] [some (.d (change t ls ds)),none,none,none,none] [])
 have s0:A4 (.d (change t ls ds)) (vi 0) []=some (vs t):=BX 0 (by decide) (by decide) rfl
 have s1:A4 (.d (change t ls ds)) (vi 1) []=some (.d (dl ls)):=BX 1 (by decide) (by decide) rfl
 have s2:A4 (.d (change t ls ds)) (vi 2) []=some (.d (.list (ds.map Deed.data))):=BX 2 (by decide) (by decide) rfl
 refine go_swp (ws:=[vs t,.d (dl ls),.d (.list (ds.map Deed.data))]) (σ1:=[]) hhd (by simp only [Ah,Ad,Am,An,Ap,Aa,gz,s0,s1,s2] <;> rfl) rfl ?_
 show Aw _ (execSs C [_,_,_,_] [some (.d (change t ls ds)),some (vs t),some (.d (dl ls)),some (.d (.list (ds.map Deed.data))),none] [])
 induction hl:AX t ls with
 | false =>
  refine go_exp_exc (i:=2) (σ1:=[]) (by simp only [Ad,A1,An,Ap,Aa,gz,gs,hhd,h3,hl]; rfl) ?_
  rw [show Bs t ls ds=some 2 by simp only [Bs,hl]; rfl]; rfl
 | true =>
 refine C6 (v:=.d .none) (σ1:=[]) (by simp only [Ad,A1,An,Ap,Aa,gz,gs,hhd,h3,hl]; rfl) ?_
 refine Ar (t:=decide ((ds.length:Int) > 20)) (σ1:=[]) (by simp only [eA_2,Ad,Ao,A6,An,Ap,Aa,gz,gs,AQ,c_gt,gt_i,List.length_map] <;> rfl) (fun h5=>?_) (fun h5=>?_)
 ·refine Bg hhd rfl ?_
  rw [show Bs t ls ds=some 2 by simp only [Bs,hl,h5]; rfl]; rfl
 refine Fv (l:=ds) (w:=fun d=>.d d.data) (fun d=>!Bc d) (.exc 2 []) (fun ρ=>∃ z,ρ=[some (.d (change t ls ds)),some (vs t),some (.d (dl ls)),some (.d (.list (ds.map Deed.data))),z])
  (Cs (v:=.d (.list (ds.map Deed.data))) rfl (Di _ _)) ⟨_,rfl⟩ E5 ?_ (fun ha=>?_) ?_
 ·rintro d hd ρ ⟨z,rfl⟩
  refine ⟨fun h=>?_,fun h=>⟨_,⟨some (.d d.data),rfl⟩,?_⟩⟩
  ·exact EF (by simp only [Ad,A1,An,Ap,Aa,gz,gs,sz,sy,hhd,h4 d hd,show Bc d=false by simpa using h]; rfl)
  ·show Aw (fun r=>r=_) _
   exact C6 (v:=.d .none) (σ1:=[]) (by simp only [Ad,A1,An,Ap,Aa,gz,gs,sz,sy,hhd,h4 d hd,show Bc d=true by simpa using h]; rfl) (Av rfl)
 ·rw [show Bs t ls ds=some 2 by simp only [Bs,hl,h5,ha]; rfl]; rfl
 rintro h6 ρ ⟨z,rfl⟩
 refine Fv (l:=ds) (w:=fun d=>.d d.data) (unl t ls) (.exc 3 []) (fun ρ=>∃ z,ρ=[some (.d (change t ls ds)),some (vs t),some (.d (dl ls)),some (.d (.list (ds.map Deed.data))),z])
  (Cs (v:=.d (.list (ds.map Deed.data))) rfl (Di _ _)) ⟨_,rfl⟩ E5 ?_ (fun ha=>?_) ?_
 ·rintro d hd ρ ⟨z,rfl⟩
  have sm:∀ m,A4 (.d (Ay (some m))) (vi 0) []=some (vs m.1):=fun m=>BX 0 (by decide) (by decide) rfl
  refine ⟨fun h=>?_,fun h=>⟨_,⟨some (.d d.data),rfl⟩,?_⟩⟩
  ·show Aw (fun r=>r=_) _
   induction hm:d.mark with
   | none=>simp [unl,hm] at h
   | some m =>
    simp only [unl,hm] at h
    refine Ar (t:=true&&(!decide (m.1=t))&&(!decide (m.1∈ls))) (σ1:=[]) (e_and3 (by simp only [Ah,Ad,Ao,Am,Aa,gz,gs,sz,sy,Gc,Bx,AS,Ct,hm,Option.isNone,Bool.not_false] <;> rfl) (fun _=>(by simp only [Ah,Ad,Ao,Am,Aa,gz,gs,sz,sy,CN,Bx,Ba,AS,hm,sm] <;> rfl)) (fun _ _=>(by simp only [Ah,Ad,Ao,Am,Aa,gz,gs,sz,sy,EA,Bx,Dz,AS,hm,sm] <;> rfl))) (fun hl=>?_) (fun hl=>?_)
    ·exact Bg hhd rfl rfl
    ·rw [Bool.true_and,h] at hl; exact absurd hl (by simp)
  ·show Aw (fun r=>r=_) _
   induction hm:d.mark with
   | none =>
    refine Ar (t:=false&&false&&false) (σ1:=[]) (e_and3 (by simp only [Ah,Ad,Ao,Am,Aa,gz,gs,sz,sy,Gc,Bx,AS,Ct,hm,Option.isNone,Bool.not_true] <;> rfl) (fun h=>by simp at h) (fun h=>by simp at h)) (fun hl=>?_) (fun hl=>?_)
    ·exact absurd hl (by simp)
    ·exact Av rfl
   | some m =>
    simp only [unl,hm] at h
    refine Ar (t:=true&&(!decide (m.1=t))&&(!decide (m.1∈ls))) (σ1:=[]) (e_and3 (by simp only [Ah,Ad,Ao,Am,Aa,gz,gs,sz,sy,Gc,Bx,AS,Ct,hm,Option.isNone,Bool.not_false] <;> rfl) (fun _=>(by simp only [Ah,Ad,Ao,Am,Aa,gz,gs,sz,sy,CN,Bx,Ba,AS,hm,sm] <;> rfl)) (fun _ _=>(by simp only [Ah,Ad,Ao,Am,Aa,gz,gs,sz,sy,EA,Bx,Dz,AS,hm,sm] <;> rfl))) (fun hl=>?_) (fun hl=>?_)
    ·rw [Bool.true_and,h] at hl; exact absurd hl (by simp)
    ·exact Av rfl
 ·rw [show Bs t ls ds=some 3 by simp only [Bs,hl,h5,h6,ha]; rfl]; rfl
 rintro h7 ρ ⟨z,rfl⟩
 refine Av ?_
 rw [show Bs t ls ds=none by simp only [Bs,hl,h5,h6,h7]; rfl]
 exact ⟨_,rfl⟩
end
noncomputable def cellOf (sc:List Int) (k:Nat):Int:=sc.getD k 0
noncomputable def B9 (c k:Int):Int:=((c+7919 * k) * 48271).fmod 2147483647
section
variable {fuel n:Nat} {hd:Bool} {σ:Store}
theorem P6:P03 13=some Flaw_cell:=rfl
theorem P7:P03 14=some Flaw_mixed:=rfl
theorem P8:P03 15=some G7:=rfl
theorem sm1 (i:Int):(small 7919||small i)=true:=by rw [show small 7919=true by decide]; rfl
theorem sm2 (i:Int):(small i||small 48271)=true:=by rw [show small 48271=true by decide]; simp
noncomputable abbrev scD (sc:List Int):PyData:=.list (sc.map .int)
theorem ev_cell (sc:List Int) (k:Int) (h0:0<=k) (hk:k < 1000):Ag P03 isExc fuel (n+1) false .frz 13 [.d (scD sc),vi k] σ=.ok (vi (cellOf sc k.toNat)) σ:=by
 refine AR (v:=vi (cellOf sc k.toNat)) (σ1:=[]) P6 rfl (A9 rfl ?_) rfl
 generalize hC:(⟨Ag P03 isExc fuel n,isExc,fuel,false⟩:Cfg)=C
 show Aw (fun r=>r=_) (execSs C [_,_] [some (.d (scD sc)),some (vi k)] [])
 refine Ar (t:=decide (k < sc.length)) (σ1:=[]) (by simp only [Ad,Ao,A6,An,Ap,Aa,gz,gs,AQ,c_lt,lt_i,List.length_map] <;> rfl) (fun h=>?_) (fun h=>?_)
 ·simp at h
  refine Ax (v:=vi (cellOf sc k.toNat)) (σ1:=[]) ?_ rfl
  have h1:A4 (.d (scD sc)) (vi k) []=some (vi (cellOf sc k.toNat)):=El (y:=.int (cellOf sc k.toNat)) k (by (with_reducible assumption)) (by lia) (by
   have:k.toNat < sc.length:=by lia
   simp [cellOf,List.getD,this])
  simp only [Ad,Am,Aa,gz,gs,h1]
 ·simp at h
  refine Ax rfl ?_
  rw [show cellOf sc k.toNat=0 by
   have:sc.length<=k.toNat:=by lia
   simp [cellOf,List.getD,this]]
theorem FX (c k:Int):Ag P03 isExc fuel (n+1) false .frz 14 [vi c,vi k] σ=.ok (vi (B9 c k)) σ:=by
 refine AR (v:=vi (B9 c k)) (σ1:=[]) P7 rfl (A9 rfl ?_) rfl
 generalize hC:(⟨Ag P03 isExc fuel n,isExc,fuel,false⟩:Cfg)=C
 show Aw (fun r=>r=_) (execSs C [_] [some (vi c),some (vi k)] [])
 refine Ax (v:=vi (B9 c k)) (σ1:=[]) ?_ rfl
 simp only [Ah,Ad,A5,Aa,gz,gs,BE,Gd (sm1 _),Gd (sm2 _),AJ (show (2147483647:Int)≠0 by decide),B9]
theorem Ez (t:List Nat):Aq t=true ↔ 1<=t.length/\t.length<=12/\∀ c∈t,c∈AB:=by
 simp only [Aq,Bool.and_eq_true,Bool.not_eq_true',Bool.or_eq_false_iff,decide_eq_false_iff_not,List.all_eq_true,decide_eq_true_eq]
 constructor
 ·rintro ⟨⟨h1,h2⟩,h3⟩; exact ⟨by lia,by lia,h3⟩
 ·rintro ⟨h1,h2,h3⟩; exact ⟨⟨by lia,by lia⟩,h3⟩
noncomputable def sg (i:Int):Nat:=AB.getD i.toNat 0
theorem sg_at (i:Int) (h0:0<=i) (h:i < 36):AB[i.toNat]? = some (sg i):=by
 have:i.toNat < AB.length:=by simp [AB]; (with_reducible assumption)
 simp [sg,List.getD,this]
theorem sg_mem (i:Int) (h0:0<=i) (h:i < 36):sg i∈AB:=List.mem_of_getElem? (sg_at i h0 h)
theorem sub_sg {i:Int} (h0:0<=i) (h:i < 36):A4 (vs AB) (vi i) σ=some (vs [sg i]):=at_text i h0 (by lia) (sg_at i h0 h)
noncomputable def num (j:Nat):List Nat:=(strOf (j:Int)).cps.toList
theorem num_name:∀ j:Nat,j < 130->Aq (num j)=true:=by decide +kernel
theorem num_nodup:((List.range 130).map num).Nodup:=by decide +kernel
theorem num_str {isX:Nat->Nat->Option Bool} {j:Nat} (h:j < 130):bcall isX hd .str true [vi j] σ=.ok (vs (num j)) σ:=by
 have:(j:Int).natAbs < 1000000000000:=by (exact BO ‹_› (by rfl))
 refine (if_pos this).trans ?_
 simp only [num,vs,F5]
theorem num_free (l:List (List Nat)) (hl:l.length < 130):∃ j,j<=l.length/\num j∉l:=by
 apply Classical.byContradiction
 intro hno
 have h1:((List.range (l.length+1)).map num).Nodup:=by
  have:(List.range (l.length+1)).map num=((List.range 130).map num).take (l.length+1):=by
   rw [<-List.map_take,List.take_range]; congr 2; lia
  rw [this]
  exact List.Sublist.nodup (List.take_sublist _ _) num_nodup
 have:=pigeon _ l h1 (by
  intro x hx
  simp only [List.mem_map,List.mem_range] at hx
  obtain ⟨j,h2,rfl⟩:=hx
  apply Classical.byContradiction
  intro h3; exact hno ⟨j,by (exact Nat.le_of_lt_succ ‹_›),h3⟩)
 simp at this
 (exact Nat.lt_irrefl _ ‹_›)
end
section
variable {fuel n:Nat} {hd:Bool} {σ:Store}
theorem mixed_lt (c k:Int):0<=B9 c k/\B9 c k < 2147483647:=AG _ (by decide)
theorem name_base (m:Nat) (g:Nat->Int) (h1:1<=m) (h2:m<=12) (hg:∀ j,0<=g j/\g j < 36):Aq ((List.range m).map fun j=>sg (g j))=true:=by
 rw [Ez]
 refine ⟨by simpa using h1,by simpa using h2,?_⟩
 intro x hx
 simp only [List.mem_map] at hx
 obtain ⟨j,_,rfl⟩:=hx
 exact sg_mem _ (hg j).1 (hg j).2
theorem nm1 {q:Int} (h:0<=q/\q < 12):1+q<=1000000/\-1000000<=1+q/\(1+q).toNat<=1000/\1<=(1+q).toNat/\(1+q).toNat<=12:=by lia
theorem nm2 {q:Int} (h:0<=q/\q < 130):q.toNat < 130/\((q.toNat:Nat):Int)=q:=by lia
theorem nm3 {u:List Nat} {x:Nat} (h:u.length<=12):(u.take 11++[x]).length<=12:=by simp; (exact Nat.min_le_left _ _)
theorem nm4 {u:List Nat} {x:Nat} {a:Int} (h2:u.length<=12) (h0:0<=a) (ha:a < u.length):1<=(u.take a.toNat++[x]++u.drop (a+1).toNat).length/\(u.take a.toNat++[x]++u.drop (a+1).toNat).length<=12:=by
 obtain ⟨k,rfl⟩:=Int.eq_ofNat_of_zero_le h0
 have hk:k < u.length:=Int.ofNat_lt.mp ha
 have e:(u.take (k:Int).toNat++[x]++u.drop ((k:Int)+1).toNat).length=u.length:=by
  show (u.take k++[x]++u.drop (k+1)).length=_
  have h:=List.set_eq_take_append_cons_drop (l:=u) (i:=k) (a:=x)
  rw [if_pos hk] at h
  rw [List.append_assoc]
  exact (congrArg List.length h).symm.trans List.length_set
 rw [e]
 exact ⟨Nat.lt_of_le_of_lt (Nat.zero_le _) hk,h2⟩
theorem nm5 {j n:Nat} (h:j < n+1) (hn:n < 100):j < 130:=by lia
theorem nm6 {n:Nat} (h:n < 100):(n:Int)+1<=1000000/\-1000000<=(n:Int)+1/\((n:Int)+1).toNat=n+1:=by lia
theorem run_name {C:Cfg} (hhd:C.hd=false) (hm:∀ c k σ,C.cf false .frz 14 [vi c,vi k] σ=.ok (vi (B9 c k)) σ) (c:Int) (tk:List (List Nat)) (hg:∀ x∈tk,Aq x=true) (hl:tk.length < 100) :
 Aw (fun r=>∃ x,Aq x=true/\x∉tk/\r=.ok (.ret (vs x)) []) (execSs C G7.body [some (vi c),some (.d (dl tk)),none,none,none,none,none] []):=by
 show Aw _ (execSs C [_,_,_,_,_,_,_,_] _ [])
 refine Al (v:=vs AB) (σ1:=[]) (by simp only [Ah,k_signs] <;> rfl) ?_
 refine Al (v:=vi (B9 c 5)) (σ1:=[]) (by simp only [Ah,Ad,A1,An,Ap,Aa,gz,sz,sy,hm,hhd] <;> rfl) ?_
 have hL:=mixed_lt c 5
 generalize B9 c 5=L at hL
 have h12:=AG L (j:=12) (by decide)
 have h36:=AG L (j:=36) (by decide)
 have hr:evalIt C (.range [.bin true .Add (.cst (.int 1)) (.bin true .Mod (.var 3) (.cst (.int 12)))]) [some (vi c),some (.d (dl tk)),some (vs AB),some (vi L),none,none,none] []=.ok (.items ((List.range (1+L.fmod 12).toNat).map fun j:Nat=>vi (j:Int))) [] :=
  DS hhd (by simp only [Ah,Ad,A5,An,Ap,Aa,gz,gs,BE,AJ (show (12:Int)≠0 by decide)] <;> rfl) (nm1 h12).1 (nm1 h12).2.1
 refine Al (v:=vs ((List.range (1+L.fmod 12).toNat).map fun j:Nat=>sg ((B9 c j).fmod 36))) (σ1:=[]) (e_signs (fun j:Nat=>vi (j:Int)) (fun j:Nat=>sg ((B9 c j).fmod 36)) hr (by rw [List.length_range]; exact (nm1 h12).2.2.1) (by
  intro j _
  have h:=AG (B9 c j) (j:=36) (by decide)
  simp only [Ah,Ad,A5,Am,A1,An,Ap,Aa,gz,gs,sz,sy,hm,hhd,AJ (show (36:Int)≠0 by decide),sub_sg h.1 h.2])) ?_
 have hf:Aq ((List.range (1+L.fmod 12).toNat).map fun j:Nat=>sg ((B9 c j).fmod 36))=true:=name_base _ (fun j=>(B9 c j).fmod 36) (nm1 h12).2.2.2.1 (nm1 h12).2.2.2.2 (fun j=>AG _ (by decide))
 generalize ((List.range (1+L.fmod 12).toNat).map fun j:Nat=>sg ((B9 c j).fmod 36))=f at hf
 let K:List Nat->Option V->Au:=fun f z=>[some (vi c),some (.d (dl tk)),some (vs AB),some (vi L),some (vs f),none,z]
 let M:Au->Store->Prop:=fun ρ σ=>(∃ f z,Aq f=true/\ρ=K f z)/\σ=[]
 show Aw _ (execSs C [_,_,_,_,_] (K f none) [])
 refine BP (M:=M) ?_ ?_
 ·refine Ar (t:=decide (c.fmod 8=1)) (σ1:=[]) (by simp only [Ah,Ad,A5,Ao,Aa,gz,CA,Br,AJ (show (8:Int)≠0 by decide),K] <;> rfl) (fun h=>?_) (fun h=>?_)
  ·have hx:=AG L (j:=130) (by decide)
   refine Al (v:=vs (num (L.fmod 130).toNat)) (σ1:=[]) ?_ (Av ⟨_,_,⟨⟨num (L.fmod 130).toNat,none,num_name _ (nm2 hx).1,rfl⟩,rfl⟩,rfl⟩)
   have:=num_str (isX:=C.isExc) (hd:=C.hd) (σ:=[]) (j:=(L.fmod 130).toNat) (nm2 hx).1
   rw [(nm2 hx).2] at this
   simp only [Ah,eA_2,eA_4,Ad,A5,eA_7,eA_8,Gb,Ao,eA_11,Bj,Cn,Am,Bm,A6,A1,By,E6,An,Ap,Aa,K,gz,gs,AJ (show (130:Int)≠0 by decide),this]
  ·exact Av ⟨_,_,⟨⟨f,none,hf,rfl⟩,rfl⟩,rfl⟩
 rintro _ _ ⟨⟨f,z,hf,rfl⟩,rfl⟩
 have htk:B2 [] (.d (dl tk))=some (!(tk.map fun t=>PyData.str (Tx t)).isEmpty):=rfl
 refine BP (M:=M) ?_ ?_
 ·refine go_iteV (t:=decide (c.fmod 8=2) && !(tk.map fun t=>PyData.str (Tx t)).isEmpty) (σ1:=[]) (e_and2v (y:=.d (dl tk)) (by simp only [Ah,Ad,A5,Ao,Aa,gz,CA,Br,AJ (show (8:Int)≠0 by decide),K] <;> rfl) (fun _=>⟨(by simp only [Ad,gz,gs,K] <;> rfl),htk⟩)) (fun h=>?_) (fun h=>?_)
  ·simp only [Bool.and_eq_true] at h
   have hne:tk≠[]:=by
    intro e; simp [e] at h
   have hlast:=List.getLast?_eq_some_getLast hne
   have hgl:=(Ez _).mp (hg _ (List.getLast_mem hne))
   generalize tk.getLast hne=u at hlast hgl
   have h1:A4 (.d (dl tk)) (vi (-1)) []=some (vs u):=at_last (y:=.str (Tx u)) (by rw [List.length_map]; exact Nat.lt_trans hl (by decide)) (by simp [List.getLast?_map,hlast])
   have h2:slice true (vs u) none (some (vi 11)) []=.ok (vs (u.take 11)) []:=sl_to (k:=11) (by decide)
   have h3:=Bp (fz:=true) (σ:=[]) (u.take 11) [sg (L.fmod 36)] (ln_t1 hgl.2.1)
   refine Al (v:=vs (u.take 11++[sg (L.fmod 36)])) (σ1:=[]) (by simp only [Ah,Ad,A5,eA_7,Am,Bm,CM,C8,Aa,gz,gs,K,h1,h2,AJ (show (36:Int)≠0 by decide),sub_sg h36.1 h36.2,h3] <;> rfl) (Av ⟨_,_,⟨⟨_,z,?_,rfl⟩,rfl⟩,rfl⟩)
   rw [Ez]
   refine ⟨by simp,nm3 hgl.2.1,?_⟩
   intro x hx
   simp only [List.mem_append,List.mem_singleton] at hx
   rcases hx with hx | rfl
   ·exact hgl.2.2 x (List.mem_of_mem_take hx)
   ·exact sg_mem _ h36.1 h36.2
  ·exact Av ⟨_,_,⟨⟨f,z,hf,rfl⟩,rfl⟩,rfl⟩
 clear hf f z
 rintro _ _ ⟨⟨f,z,hf,rfl⟩,rfl⟩
 refine BP (M:=M) ?_ ?_
 ·refine go_iteV (t:=decide (c.fmod 8 > 4) && !(tk.map fun t=>PyData.str (Tx t)).isEmpty) (σ1:=[]) (e_and2v (y:=.d (dl tk)) (by simp only [Ah,Ad,A5,Ao,Aa,gz,c_gt,gt_i,AJ (show (8:Int)≠0 by decide),K] <;> rfl) (fun _=>⟨(by simp only [Ad,gz,gs,K] <;> rfl),htk⟩)) (fun h=>?_) (fun h=>?_)
  ·simp only [Bool.and_eq_true] at h
   have hne:tk≠[]:=by
    intro e; simp [e] at h
   have hpos:0 < tk.length:=List.length_pos_iff.mpr hne
   have hlt:=AG L (j:=tk.length) (arr hpos)
   obtain ⟨u,hu⟩:∃ u,tk[(L.fmod tk.length).toNat]? = some u:=⟨_,List.getElem?_eq_getElem (ar4 hlt.1 hlt.2)⟩
   have h1:A4 (.d (dl tk)) (vi (L.fmod tk.length)) []=some (vs u):=El (y:=.str (Tx u)) _ hlt.1 (ar3s hlt.2 (Nat.le_of_lt hl)) (by simp [hu])
   have hgu:=(Ez _).mp (hg u (List.mem_of_getElem? hu))
   have h0:(tk.length:Int)≠0:=ars hpos
   refine Al (v:=vs u) (σ1:=[]) (by simp only [Ad,A5,Am,A6,An,Ap,Aa,gz,gs,AQ,K,List.length_map,AJ h0,h1] <;> rfl) ?_
   have h0:(u.length:Int)≠0:=ars hgu.1
   have hat:=AG (L.fdiv 60) (j:=u.length) (arr hgu.1)
   refine Al (v:=vi ((L.fdiv 60).fmod u.length)) (σ1:=[]) (by simp only [Ah,Ad,A5,A6,An,Ap,Aa,gz,gs,sz,sy,DW,ET,K,List.length_map,AJ h0,Ce (show (60:Int)≠0 by decide)] <;> rfl) ?_
   generalize (L.fdiv 60).fmod u.length=a at hat
   have hs:=AG (L.fdiv 720) (j:=36) (by decide)
   have h2:slice true (vs u) none (some (vi a)) []=.ok (vs (u.take a.toNat)) []:=sl_toZ hat.1 (ar3 hat.2 hgu.2.1)
   have h3:slice true (vs u) (some (vi (a+1))) none []=.ok (vs (u.drop (a+1).toNat)) []:=Ev (ar9 hat.1) (ar3' hat.2 hgu.2.1)
   have h4:=Bp (fz:=true) (σ:=[]) (u.take a.toNat) [sg ((L.fdiv 720).fmod 36)] (ln_t1 hgu.2.1)
   have h5:=Bp (fz:=true) (σ:=[]) (u.take a.toNat++[sg ((L.fdiv 720).fmod 36)]) (u.drop (a+1).toNat) (ln_t2 hgu.2.1)
   refine Al (v:=vs (u.take a.toNat++[sg ((L.fdiv 720).fmod 36)]++u.drop (a+1).toNat)) (σ1:=[]) (by simp only [Ah,Ad,A5,Am,Bm,CM,C8,Aa,gz,gs,sz,sy,BE,K,h2,h3,AJ (show (36:Int)≠0 by decide),Ce (show (720:Int)≠0 by decide),sub_sg hs.1 hs.2,h4,h5] <;> rfl) (Av ⟨_,_,⟨⟨_,some (vi a),?_,rfl⟩,rfl⟩,rfl⟩)
   rw [Ez]
   refine ⟨(nm4 hgu.2.1 hat.1 hat.2).1,(nm4 hgu.2.1 hat.1 hat.2).2,?_⟩
   intro x hx
   simp only [List.mem_append,List.mem_singleton] at hx
   rcases hx with (hx | rfl) | hx
   ·exact hgu.2.2 x (List.mem_of_mem_take hx)
   ·exact sg_mem _ hs.1 hs.2
   ·exact hgu.2.2 x (List.mem_of_mem_drop hx)
  ·exact Av ⟨_,_,⟨⟨f,z,hf,rfl⟩,rfl⟩,rfl⟩
 clear hf f z
 rintro _ _ ⟨⟨f,z,hf,rfl⟩,rfl⟩
 refine Ar (t:=!decide (f∈tk)) (σ1:=[]) (by simp only [Ad,Ao,Aa,gz,gs,EA,Bx,Dz,K] <;> rfl) (fun h=>?_) (fun h=>?_)
 ·exact Ax (v:=vs f) (σ1:=[]) (by simp only [Ad,gz,gs,K] <;> rfl) ⟨f,hf,by simpa using h,rfl⟩
 ·have hnl:∀ (j:Nat),j < tk.length+1->bcall C.isExc C.hd .str true [vi j] []=.ok (vs (num j)) []:=fun j hj=>num_str (nm5 hj hl)
  have hc:Ac C (.comp true (.bcall .str true [.var 5]) [5] (.range [.bin true .Add (.bcall .len true [.var 1]) (.cst (.int 1))]) [.cmp .NotIn (.bcall .str true [.var 5]) (.var 1)]) (K f z) []=.ok (.d (.list (((List.range ((tk.length:Int)+1).toNat).filter fun j=>!decide (num j∈tk)).map fun j=>.str (Tx (num j))))) []:=by
   refine e_compD (fun j:Nat=>vi (j:Int)) (fun j=>!decide (num j∈tk)) (fun j=>.str (Tx (num j))) (DS hhd (by simp only [Ah,Ad,A5,A6,An,Ap,Aa,gz,gs,AQ,BE,K,List.length_map] <;> rfl) (nm6 hl).1 (nm6 hl).2.1) (by rw [List.length_range,(nm6 hl).2.2]; exact Nat.le_trans hl (by decide)) ?_ ?_
   ·intro j hj
    have hj:j < tk.length+1:=by rw [List.mem_range,(nm6 hl).2.2] at hj; exact hj
    have:=hnl j hj
    simp only [eF_1,eF_2,Ah,eA_2,eA_4,Ad,A5,eA_7,eA_8,Gb,Ao,eA_11,Bj,Cn,Am,Bm,A6,A1,By,E6,An,Ap,Aa,K,gz,gs,sz,sy,this,CA,CN,c_in,EA,c_is,Gc,c_lt,c_gt,c_ge,Dz,FO,tr_b]
    cases decide (num j∈tk) <;> rfl
   ·intro j hj _
    have hj:j < tk.length+1:=by rw [List.mem_range,(nm6 hl).2.2] at hj; exact hj
    have:=hnl j hj
    simp only [Ah,eA_2,eA_4,Ad,A5,eA_7,eA_8,Gb,Ao,eA_11,Bj,Cn,Am,Bm,A6,A1,By,E6,An,Ap,Aa,K,gz,gs,sz,sy,this]
  obtain ⟨j,hj1,hj2⟩:=num_free tk (Nat.lt_trans hl (by decide))
  have hmem:j∈(List.range ((tk.length:Int)+1).toNat).filter fun j=>!decide (num j∈tk):=by
   simp only [List.mem_filter,List.mem_range]
   exact ⟨by rw [(nm6 hl).2.2]; exact Nat.lt_succ_of_le hj1,by simpa using hj2⟩
  induction hfl:(List.range ((tk.length:Int)+1).toNat).filter fun j=>!decide (num j∈tk) with
  | nil=>rw [hfl] at hmem; simp at hmem
  | cons i rest =>
   have hi:i∈(List.range ((tk.length:Int)+1).toNat).filter fun j=>!decide (num j∈tk):=by rw [hfl]; simp
   simp only [List.mem_filter,List.mem_range] at hi
   rw [hfl] at hc
   have h0:A4 (.d (.list ((i::rest).map fun j=>.str (Tx (num j))))) (vi 0) []=some (vs (num i)):=El 0 (by decide) (by decide) rfl
   refine Ax (v:=vs (num i)) (σ1:=[]) ?_ ⟨num i,num_name i (nm5 (by rw [(nm6 hl).2.2] at hi; exact hi.1) hl),by simpa using hi.2,rfl⟩
   rw [Am,hc]
   simp only [Ah,eA_2,eA_4,Ad,A5,eA_7,eA_8,Gb,Ao,eA_11,Bj,Cn,Am,Bm,A6,A1,By,E6,Aa,h0]
end
section
variable {fuel n:Nat} {hd:Bool} {σ:Store}
theorem P9:P03 16=some G8:=rfl
theorem snapL_d (l:List PyData) (k:Nat):Ca (Be σ (k+1)) (l.map .d)=some l:=by
 induction l with
 | nil=>rfl
 | cons a l ih =>
  show (match Ca (Be σ (k+1)) (l.map .d) with | some xs=>some (a::xs) | none=>none)=_
  rw [ih]
theorem FE {k:Nat} {l:List PyData} (h:σ[k]? = some (.list (l.map .d))):Be σ 8 (.ref k)=some (.list l):=by
 show snapO (Be σ 7) σ[k]? = _
 rw [h]
 show (match Ca (Be σ 7) (l.map .d) with | some xs=>some (PyData.list xs) | none=>none)=_
 rw [snapL_d]
theorem ev_name (c:Int) (tk:List (List Nat)) (hg:∀ x∈tk,Aq x=true) (hl:tk.length < 100) :
 ∃ x,Aq x=true/\x∉tk/\(∀ σ,Ag P03 isExc fuel (n+2) false .frz 15 [vi c,.d (dl tk)] σ=.ok (vs x) σ) ∧
  (∀ σ k,σ[k]? = some (.list (tk.map vs))->Ag P03 isExc fuel (n+2) false .frz 15 [vi c,.ref k] σ=.ok (vs x) σ):=by
 obtain ⟨x,h1,h2,h3⟩:=run_name (C:=⟨Ag P03 isExc fuel (n+1),isExc,fuel,false⟩) rfl (fun c k σ=>FX c k) c tk hg hl
 refine ⟨x,h1,h2,fun σ=>AR P8 rfl (A9 rfl h3) rfl,fun σ k hk=>?_⟩
 refine frz_lent (xs:=[vi c,.d (dl tk)]) P8 rfl ?_ (A9 rfl h3) rfl
 have:Be σ 8 (.ref k)=some (dl tk):=FE (by rw [hk,List.map_map]; rfl)
 have e:Be σ 8 (vi c)=some (.int c):=rfl
 show (match Be σ 8 (vi c),(match Be σ 8 (.ref k),DR σ [] with | some x,some xs=>some (V.d x::xs) | _,_=>none) with | some x,some xs=>some (V.d x::xs) | _,_=>none)=_
 rw [e,this]; rfl
noncomputable def Ft (x:List Nat):List (List Nat)->List (List Nat)
 | []=>[x]
 | y::r=>if decide (x < y) then x::y::r else y::Ft x r
noncomputable def AI:List (List Nat)->List (List Nat)
 | []=>[]
 | x::r=>Ft x (AI r)
theorem insStr_Tx (x:List Nat) (l:List (List Nat)):Eg (Tx x) (l.map Tx)=(Ft x l).map Tx:=by
 induction l with
 | nil=>rfl
 | cons y l ih =>
  show (if Bn (Tx x) (Tx y)=true then Tx x::Tx y::l.map Tx else Tx y::Eg (Tx x) (l.map Tx))=(if decide (x < y)=true then x::y::l else y::Ft x l).map Tx
  rw [Tx_lt,ih]
  cases decide (x < y) <;> rfl
theorem sortStr_Tx (l:List (List Nat)):CG (l.map Tx)=(AI l).map Tx:=by
 induction l with
 | nil=>rfl
 | cons y l ih =>
  show Eg (Tx y) (CG (l.map Tx))=(Ft y (AI l)).map Tx
  rw [ih,insStr_Tx]
theorem insL_mem (x z:List Nat) (l:List (List Nat)):z∈Ft x l ↔ z=x\/z∈l:=by
 induction l with
 | nil=>simp [Ft]
 | cons y l ih =>
  simp only [Ft]
  split
  ·simp
  ·simp [ih]; constructor <;> (rintro (h | h | h) <;> simp [h])
theorem isort_mem (z:List Nat) (l:List (List Nat)):z∈AI l ↔ z∈l:=by
 induction l with
 | nil=>simp [AI]
 | cons y l ih=>simp [AI,insL_mem,ih]
theorem insL_len (x:List Nat) (l:List (List Nat)):(Ft x l).length=l.length+1:=by
 induction l with
 | nil=>rfl
 | cons y l ih=>simp only [Ft]; split <;> simp [ih]
theorem Gw (l:List (List Nat)):(AI l).length=l.length:=by
 induction l with
 | nil=>rfl
 | cons y l ih=>simp [AI,insL_len,ih]
theorem lt_tot:∀ (x y:List Nat),¬ x < y->x≠y->y < x
 | [],[],_,h=>absurd rfl h
 | [],_::_,h,_=>absurd (List.nil_lt_cons _ _) h
 | _::_,[],_,_=>List.nil_lt_cons _ _
 | a::x,b::y,h,hn=>by
  rw [List.cons_lt_cons_iff] at h ⊢
  rcases Nat.lt_trichotomy a b with hab | hab | hab
  ·exact absurd (Or.inl hab) h
  ·subst hab
   refine Or.inr ⟨rfl,lt_tot x y (fun h'=>h (Or.inr ⟨rfl,h'⟩)) (fun e=>hn (by rw [e]))⟩
  ·exact Or.inl hab
theorem B8 (a b:List Nat) (r:List (List Nat)):BF (a::b::r)=(decide (a < b)&&BF (b::r)):=by
 simp [BF,List.zip_cons_cons]
theorem rising_one (a:List Nat):BF [a]=true:=rfl
theorem rising_nil:BF []=true:=rfl
set_option tactic.hygienic true in
theorem rising_ins (x:List Nat) (l:List (List Nat)) (h:BF l=true) (hx:x∉l):BF (Ft x l)=true:=by
 induction l with
 | nil=>rfl
 | cons y l ih =>
  simp only [Ft]
  split
  ·rename_i hlt; rw [B8,hlt,h]; rfl
  ·rename_i hlt
   have hyx:y < x:=lt_tot x y (by simpa using hlt) (fun e=>hx (by exact e▸.head _))
   have hr:BF l=true:=by
    induction l with
    | nil=>rfl
    | cons z l=>rw [B8] at h; simp at h; exact h.2
   have ih:=ih hr (fun h=>hx (by exact .tail _ h))
   induction l with
   | nil=>rw [Ft,B8]; simp [hyx,rising_one]
   | cons z l =>
    rw [B8] at h; simp only [Bool.and_eq_true,decide_eq_true_eq] at h
    simp only [Ft] at ih ⊢
    split at ih
    ·rename_i hxz; rw [if_pos hxz,B8,ih]; simp [hyx]
    ·rename_i hxz; rw [if_neg hxz,B8,ih]; simp [h.1]
theorem FT (l:List (List Nat)) (h:l.Nodup):BF (AI l)=true:=by
 induction l with
 | nil=>rfl
 | cons x l ih =>
  rw [List.nodup_cons] at h
  exact rising_ins x _ (ih h.2) (fun hx=>h.1 ((isort_mem x l).mp hx))
theorem strsV_vs (l:List (List Nat)):CJ (l.map vs)=some (l.map Tx):=by
 induction l with
 | nil=>rfl
 | cons a l ih=>show (match CJ (l.map vs) with | some xs=>some (Tx a::xs) | none=>none)=_; rw [ih]; rfl
end
section
variable {fuel n:Nat} {hd:Bool} {σ:Store}
noncomputable def someA:List Nat:=[32,33,34,35,36,38,39,40,41,42,43,44,45,46,47,48,49,50,51,52,53,54,55,56,57,58,59,60,61,62,63,64,65,66,67,68,69,70,71,72,73,74,75,76,77,78,79,80,81,82,83,84,85,86,87,88,89,90,91,92,93,94,95,96]
noncomputable def someB:List Nat:=[97,98,99,100,101,102,103,104,105,106,107,108,109,110,111,112,113,114,115,116,117,118,119,120,121,122,123,124,125,126]
noncomputable def FD:List Nat:=someA++someB
theorem k_someA:Str.ofString " !\"#$&'()*+,-./0123456789:;<=>?@ABCDEFGHIJKLMNOPQRSTUVWXYZ[\\]^_`" = Tx someA:=by decide +kernel
theorem k_someB:Str.ofString "abcdefghijklmnopqrstuvwxyz{|}~" = Tx someB:=by decide +kernel
theorem k_col:Str.ofString ": " = Tx [58,32]:=by decide +kernel
theorem some_ok:∀ c∈FD,32<=c/\c<=126:=by decide +kernel
noncomputable def so (i:Int):Nat:=FD.getD i.toNat 0
theorem so_at (i:Int) (h0:0<=i) (h:i < 94):FD[i.toNat]? = some (so i):=by
 have:i.toNat < FD.length:=Int.toNat_lt h0 |>.mpr h
 simp [so,List.getD,this]
theorem so_ok (i:Int) (h0:0<=i) (h:i < 94):32<=so i/\so i<=126:=some_ok _ (List.mem_of_getElem? (so_at i h0 h))
theorem sub_so {i:Int} (h0:0<=i) (h:i < 94):A4 (vs FD) (vi i) σ=some (vs [so i]):=at_text i h0 (by lia) (so_at i h0 h)
theorem FS (t:List Nat):AU t=true ↔ t.length<=200/\∀ c∈t,32<=c/\c<=126:=by
 simp only [AU,Bool.and_eq_true,Bool.not_eq_true',decide_eq_false_iff_not,List.all_eq_true,Bool.or_eq_false_iff]
 constructor
 ·rintro ⟨h1,h3⟩; exact ⟨by lia,fun c hc=>by have:=h3 c hc; lia⟩
 ·rintro ⟨h1,h3⟩; exact ⟨by lia,fun c hc=>by have:=h3 c hc; lia⟩
theorem so_blank:∀ i:Nat,i < 94->FD.getD i 0=32->i=0:=by decide +kernel
theorem so_step:∀ i:Nat,i < 5->FD.getD (i+1) 0∉AB:=by decide +kernel
theorem line_LP (a b:Int) (h1:1<=b) (h2:b<=5) (m:Nat):LP ((List.range m).map fun j:Nat=>so ((a+j * b).fmod 94)):=by
 refine .inr fun p x q h=>?_
 have at0:=congrArg (·[p.length]?) h
 have at1:=congrArg (·[p.length+1]?) h
 simp only [List.getElem?_map,List.getElem?_append_right (Nat.le_refl p.length),List.getElem?_append_right (Nat.le_succ p.length),Nat.sub_self,Nat.succ_sub (Nat.le_refl p.length),gz,gs,Option.map_eq_some_iff] at at0 at1
 obtain ⟨j,j1,j2⟩:=at0
 obtain ⟨k,k1,k2⟩:=at1
 have hj:j=p.length:=by rw [List.getElem?_eq_some_iff] at j1; simpa using j1.2.symm
 have hk:k=p.length+1:=by rw [List.getElem?_eq_some_iff] at k1; simpa using k1.2.symm
 have e:a+(k:Int) * b=(a+j * b)+b:=by rw [hk,hj,Int.natCast_add,Int.add_mul]; lia
 rw [e] at k2
 generalize a+(j:Int) * b=u at j2 k2
 rw [Int.fmod_eq_emod_of_nonneg _ (by decide)] at j2 k2
 have z:=so_blank (u % 94).toNat (by lia) j2
 have u0:0<=u % 94:=Int.emod_nonneg u (by decide)
 have z':u % 94=0:=by rw [<-Int.toNat_of_nonneg u0,z]; rfl
 have w0:(u+b) % 94=b:=by rw [Int.add_emod,z',Int.zero_add,Int.emod_emod,Int.emod_eq_of_lt (by (exact Int.le_of_lt ‹_›)) (by lia)]
 have w:((u+b) % 94).toNat=(b-1).toNat+1:=by rw [w0]; lia
 rw [so,w] at k2
 rw [<-k2]
 exact so_step _ (by lia)
theorem ev_line (c:Int):∃ l,(AU l=true/\LP l)/\∀ σ,Ag P03 isExc fuel (n+1) false .frz 16 [vi c] σ=.ok (vs l) σ:=by
 have key:Aw (fun r=>∃ l,(AU l=true/\LP l)/\r=.ok (.ret (vs l)) []) (execSs ⟨Ag P03 isExc fuel n,isExc,fuel,false⟩ G8.body [some (vi c),none,none,none,none] []):=by
  generalize hC:(⟨Ag P03 isExc fuel n,isExc,fuel,false⟩:Cfg)=C
  have hhd:C.hd=false:=by rw [<-hC]
  show Aw _ (execSs C [_,_,_,_,_,_,_] _ [])
  refine Al (v:=vs someA) (σ1:=[]) (by simp only [Ah,k_someA] <;> rfl) ?_
  have hcat:=Bp (fz:=true) (σ:=[]) someA someB (by decide)
  refine Al (v:=vs FD) (σ1:=[]) (by simp only [Ah,Ad,A5,Aa,gz,gs,sz,sy,k_someB,hcat] <;> rfl) ?_
  have h4:=AG c (j:=4) (by decide)
  refine Al (v:=vi (c.fmod 4)) (σ1:=[]) (by simp only [Ah,Ad,A5,Aa,gz,sz,sy,AJ (show (4:Int)≠0 by decide)] <;> rfl) ?_
  refine BP (M:=fun ρ σ=>(∃ s:Int,0<=s/\s<=200/\ρ=[some (vi c),some (vs FD),some (vi s),none,none])/\σ=[]) ?_ ?_
  ·refine Ar (t:=decide ((c.fdiv 4).fmod 9=1)) (σ1:=[]) (by simp only [Ah,Ad,A5,Ao,Aa,gz,sz,sy,CA,Br,AJ (show (9:Int)≠0 by decide),Ce (show (4:Int)≠0 by decide)] <;> rfl) (fun h=>?_) (fun h=>?_)
   ·have h5:=AG (c.fdiv 36) (j:=201) (by decide)
    exact Al (v:=vi ((c.fdiv 36).fmod 201)) (σ1:=[]) (by simp only [Ah,Ad,A5,Aa,gz,sz,sy,AJ (show (201:Int)≠0 by decide),Ce (show (36:Int)≠0 by decide)] <;> rfl) (Av ⟨_,_,⟨⟨_,h5.1,by omega,rfl⟩,rfl⟩,rfl⟩)
   ·exact Av ⟨_,_,⟨⟨_,h4.1,by omega,rfl⟩,rfl⟩,rfl⟩
  rintro _ _ ⟨⟨s,hs0,hs1,rfl⟩,rfl⟩
  have h5:=AG c (j:=5) (by decide)
  have hsm:∀ i,(small i||small (1+c.fmod 5))=true:=fun i=>by rw [BN (i:=1+c.fmod 5) (by omega) (by omega)]; simp
  refine Al (v:=vs ((List.range s.toNat).map fun j:Nat=>so ((c.fdiv 7+j * (1+c.fmod 5)).fmod 94))) (σ1:=[]) (e_signsR (m:=s) (fun i=>so ((c.fdiv 7+i * (1+c.fmod 5)).fmod 94)) hhd rfl (by omega) (by lia) (by
   intro i _ _
   have h:=AG (c.fdiv 7+i * (1+c.fmod 5)) (j:=94) (by decide)
   simp only [Ah,Ad,A5,Am,Aa,gz,gs,sz,sy,BE,Ce (show (7:Int)≠0 by decide),AJ (show (5:Int)≠0 by decide),Gd (hsm _),AJ (show (94:Int)≠0 by decide),sub_so h.1 h.2])) ?_
  have hf1:((List.range s.toNat).map fun j:Nat=>so ((c.fdiv 7+j * (1+c.fmod 5)).fmod 94)).length=s.toNat:=by simp
  have hf2:∀ x∈((List.range s.toNat).map fun j:Nat=>so ((c.fdiv 7+j * (1+c.fmod 5)).fmod 94)),32<=x/\x<=126:=by
   intro x hx
   simp only [List.mem_map] at hx
   obtain ⟨j,_,rfl⟩:=hx
   have h:=AG (c.fdiv 7+j * (1+c.fmod 5)) (j:=94) (by decide)
   exact so_ok _ h.1 h.2
  have hf3:=line_LP (c.fdiv 7) (1+c.fmod 5) (by omega) (by omega) s.toNat
  generalize ((List.range s.toNat).map fun j:Nat=>so ((c.fdiv 7+j * (1+c.fmod 5)).fmod 94))=f at hf1 hf2 hf3
  refine Ar (t:=decide ((c.fdiv 3).fmod 8=1)&&decide (s < 199)) (σ1:=[]) (Cv (by simp only [Ah,Ad,A5,Ao,Aa,gz,sz,sy,CA,Br,AJ (show (8:Int)≠0 by decide),Ce (show (3:Int)≠0 by decide)] <;> rfl) (fun _=>rfl)) (fun h=>?_) (fun h=>?_)
  ·simp only [Bool.and_eq_true,decide_eq_true_eq] at h
   have h1:slice true (vs f) none (some (vi 1)) []=.ok (vs (f.take 1)) []:=sl_to (k:=1) (by (exact Nat.succ_pos _))
   have h2:slice true (vs f) (some (vi 1)) none []=.ok (vs (f.drop 1)) []:=sl_from (k:=1) (by (exact Nat.succ_pos _))
   have h3:=Bp (fz:=true) (σ:=[]) (f.take 1) [58,32] (by simp [line]; omega)
   have h4:=Bp (fz:=true) (σ:=[]) (f.take 1++[58,32]) (f.drop 1) (by simp [line]; omega)
   refine Ax (v:=vs (f.take 1++[58,32]++f.drop 1)) (σ1:=[]) (by simp only [Ah,Ad,A5,Bm,CM,C8,Aa,gz,gs,sz,sy,h1,h2,k_col,h3,h4] <;> rfl) ⟨_,⟨?_,.inl (by simp)⟩,rfl⟩
   rw [FS]
   refine ⟨by simp; omega,?_⟩
   intro x hx
   simp only [List.mem_append] at hx
   rcases hx with (hx | hx) | hx
   ·exact hf2 x (List.mem_of_mem_take hx)
   ·simp at hx; lia
   ·exact hf2 x (List.mem_of_mem_drop hx)
  ·exact Ax (v:=vs f) (σ1:=[]) rfl ⟨f,⟨(FS f).mpr ⟨by lia,hf2⟩,hf3⟩,rfl⟩
 obtain ⟨l,h1,h2⟩:=key
 exact ⟨l,h1,fun σ=>AR P9 rfl (A9 rfl h2) rfl⟩
end
section
variable {fuel n:Nat} {hd:Bool} {σ:Store}
theorem P17:P03 17=some F8:=rfl
theorem P18:P03 18=some F7:=rfl
theorem P19:P03 19=some F9:=rfl
theorem k_nil:Str.ofString "" = Tx []:=by decide +kernel
noncomputable def Fits (d:Deed):Prop:=d.word≠AW->d.text≠none
theorem ok_cut (m:List Nat×Int):Bc ⟨AW,some m,none⟩=true:=by
 simp [Bc]
theorem ok_add (m:Option (List Nat×Int)) (l:List Nat) (h:AU l=true):Bc ⟨Cp,m,some l⟩=true:=by
 simp [Bc,h]
theorem ok_set (m:List Nat×Int) (l:List Nat) (h:AU l=true):Bc ⟨Fq,some m,some l⟩=true:=by
 simp [Bc,h]
theorem tup2 (a b:PyData):En [.d a,.d b]=.d (.tuple [a,b]):=rfl
theorem tup3 (a b c:PyData):En [.d a,.d b,.d c]=.d (.tuple [a,b,c]):=rfl
theorem len2 {α:Type} (a b:α):[a,b].length<=line:=by simp [line]
theorem len3 {α:Type} (a b c:α):[a,b,c].length<=line:=by simp [line]
theorem CU (t:List Nat) (ls:List (List Nat)) (ds:List Deed):A4 (.d (change t ls ds)) (vi 0) σ=some (vs t):=BX 0 (by decide) (by decide) rfl
theorem Ds (t:List Nat) (ls:List (List Nat)) (ds:List Deed):A4 (.d (change t ls ds)) (vi 1) σ=some (.d (dl ls)):=BX 1 (by decide) (by decide) rfl
theorem DZ (t:List Nat) (ls:List (List Nat)) (ds:List Deed):A4 (.d (change t ls ds)) (vi 2) σ=some (.d (.list (ds.map Deed.data))):=BX 2 (by decide) (by decide) rfl
theorem run_marks {C:Cfg} (hhd:C.hd=false) (t:List Nat) (ls:List (List Nat)) (ds:List Deed) (hds:ds.length<=100) :
 Aw (fun r=>∃ k:Nat,k<=ds.length/\r=.ok (.ret (.d (.list ((List.range k).map fun j:Nat=>Ay (some (t,(j:Int))))))) []) (execSs C F7.body [some (.d (change t ls ds)),none,none,none] []):=by
 show Aw _ (execSs C [_,_] _ [])
 have c1:=e_compD (C:=C) (elt:=.var 2) (t:=2) (it:=.of (.sub (.var 0) (.cst (.int 2)))) (ifs:=[.cmp .Eq (.sub (.var 2) (.cst (.int 0))) (.cst (.str "add"))]) (ρ:=[some (.d (change t ls ds)),none,none,none]) (σ:=[]) (σ1:=[]) (l:=ds)
  (fun d=>.d d.data) (fun d=>decide (d.word=Cp)) Deed.data (Cs (v:=.d (.list (ds.map Deed.data))) (by simp only [Ah,Ad,Am,Aa,gz,DZ] <;> rfl) (Di _ _)) (by simp [line]; (exact BO ‹_› (by rfl))) (fun d _=>by
   simp only [Ah,Ad,Ao,Am,Aa,gz,gs,sz,sy,CA,Ba,tr_b,eF_1,eF_2,Bl,k_add]
   cases h:decide (d.word=Cp) <;> rfl) (fun d _ _=>rfl)
 refine Al (v:=vi ((ds.filter fun d=>decide (d.word=Cp)).map Deed.data).length) (σ1:=[]) (by simp only [A6,An,Ap,Aa,AQ,c1]) ?_
 have hk:((ds.filter fun d=>decide (d.word=Cp)).map Deed.data).length<=ds.length:=by rw [List.length_map]; exact List.length_filter_le _ _
 generalize ((ds.filter fun d=>decide (d.word=Cp)).map Deed.data).length=k at hk
 have c2:=e_compR (C:=C) (elt:=.tup [.sub (.var 0) (.cst (.int 0)),.var 3]) (t:=3) (es:=[.var 1]) (ifs:=[]) (ρ:=[some (.d (change t ls ds)),some (vi k),none,none]) (σ:=[]) (σ1:=[]) (m:=k) (fun _=>true) (fun i=>Ay (some (t,i))) hhd rfl (by lia) (by (exact Int.natCast_nonneg _)) (fun i _ _=>by simp only [eF_1,eF_2]) (fun i _ _ _=>by
  simp only [Ah,Ad,Bj,Am,An,Ap,Aa,gz,gs,sz,sy,CU,if_pos (len2 _ _),tup2]; rfl)
 rw [show (List.range (k:Int).toNat).filter (fun j:Nat=>(fun _:Int=>true) (j:Int))=List.range k from List.filter_eq_self.mpr (fun _ _=>rfl)] at c2
 exact Ax c2 ⟨k,hk,rfl⟩
theorem ev_marks (t:List Nat) (ls:List (List Nat)) (ds:List Deed) (hds:ds.length<=100) :
 ∃ k:Nat,k<=ds.length/\∀ σ,Ag P03 isExc fuel (n+1) false .frz 18 [.d (change t ls ds)] σ=.ok (.d (.list ((List.range k).map fun j:Nat=>Ay (some (t,(j:Int)))))) σ:=by
 obtain ⟨k,h1,h2⟩:=run_marks (C:=⟨Ag P03 isExc fuel n,isExc,fuel,false⟩) rfl t ls ds hds
 exact ⟨k,h1,fun σ=>AR P18 rfl (A9 rfl h2) rfl⟩
end
abbrev Line1 (l:List Nat):Prop:=AU l=true
noncomputable def Co (l:List Nat):Prop:=AU l=true/\LP l
structure DH (K:List Nat->Prop) (t:List Nat) (ls:List (List Nat)) (d:Deed):Prop where
 shape:(∃ l,K l/\d.text=some l/\(d.word=Cp\/(d.word=Fq/\d.mark≠none)))\/(d.word=AW/\d.text=none/\d.mark≠none)
 mark:∀ m,d.mark=some m->(m.1=t\/m.1∈ls)/\0<=m.2/\m.2 < 1000000000
section
variable {fuel n:Nat} {hd:Bool} {σ:Store}
theorem run_deeds {C:Cfg} (hhd:C.hd=false) (hm:∀ c k σ,C.cf false .frz 14 [vi c,vi k] σ=.ok (vi (B9 c k)) σ) (hl:∀ c,∃ l,Co l/\∀ σ,C.cf false .frz 16 [vi c] σ=.ok (vs l) σ)
 (t:List Nat) (c many:Int) (ls:List (List Nat)) (ms:List (List Nat×Int)) (h0:0<=many) (h1:many<=100) (hms:∀ m∈ms,m.1∈ls/\0<=m.2/\m.2 < 1000) (hml:ms.length<=10000) :
 Aw (fun r=>∃ ds:List Deed,ds.length=many.toNat/\(∀ d∈ds,DH Co t ls d)/\r=.ok (.ret (.ref 0)) [.list (ds.map fun d=>.d d.data)])
  (execSs C F9.body [some (vs t),some (vi c),some (vi many),some (.d (.list (ms.map fun m=>Ay (some m)))),none,none,none,none,none,none,none,none,none] []):=by
 show Aw _ (execSs C [_,_,_,_] _ [])
 refine Al (v:=.ref 0) (σ1:=[.list []]) (by simp only [Cn,An,Aa,A2] <;> rfl) ?_
 refine Al (v:=vi 0) (σ1:=[.list []]) rfl ?_
 refine FW (l:=List.range many.toNat) (w:=fun j:Nat=>vi (j:Int)) (σ1:=[.list []])
  (fun pre (s:List Deed×Nat)=>s.2<=pre.length/\s.1.length=pre.length/\∀ d∈s.1,DH Co t ls d)
  (fun (s:List Deed×Nat) ρ σ=>(∃ z6 z7 z8 z9 z10 z11 z12,ρ=[some (vs t),some (vi c),some (vi many),some (.d (.list (ms.map fun m=>Ay (some m)))),some (.ref 0),some (vi s.2),z6,z7,z8,z9,z10,z11,z12])/\σ=[.list (s.1.map fun d=>.d d.data)]) ([],0)
  (DS hhd rfl (by lia) (by lia)) ⟨Nat.le_refl _,rfl,by simp⟩ ⟨⟨none,none,none,none,none,none,none,rfl⟩,rfl⟩ ?_ ?_
 ·rintro p j q ⟨ds,own⟩ ρ σ hp ⟨g0,g1,g2⟩ ⟨⟨z6,z7,z8,z9,z10,z11,z12,rfl⟩,rfl⟩
  have hlen:ds.length < 100/\own<=100:=by
   have:=congrArg List.length hp
   simp at this g0 g1; lia
  have put:∀ d:Deed,Bf .append true (.ref 0) [.d d.data] [.list (ds.map fun d=>.d d.data)]=.ok (.d .none) [.list ((ds++[d]).map fun d=>.d d.data)]:=by
   intro d
   have hll:(ds.map fun d=>V.d d.data).length < line:=by simp [line]; lia
   refine (if_pos hll).trans ?_
   rw [List.map_append]; rfl
  have hpre:AK .append (.ref 0) [.list (ds.map fun d=>V.d d.data)]=true:=rfl
  have fin:∀ (d:Deed) (own':Nat) (ρ:Au),own'<=own+1->DH Co t ls d->(∃ z6 z7 z8 z9 z10 z11 z12,ρ=[some (vs t),some (vi c),some (vi many),some (.d (.list (ms.map fun m=>Ay (some m)))),some (.ref 0),some (vi own'),z6,z7,z8,z9,z10,z11,z12]) ->
   ∃ (s':List Deed×Nat) (ρ':Au) (σ':Store),(s'.2<=(p++[j]).length/\s'.1.length=(p++[j]).length/\∀ d∈s'.1,DH Co t ls d)/\((∃ z6 z7 z8 z9 z10 z11 z12,ρ'=[some (vs t),some (vi c),some (vi many),some (.d (.list (ms.map fun m=>Ay (some m)))),some (.ref 0),some (vi s'.2),z6,z7,z8,z9,z10,z11,z12])/\σ'=[.list (s'.1.map fun d=>.d d.data)])/\Res.ok (Fl.next ρ) [.list ((ds++[d]).map fun d=>.d d.data)]=.ok (.next ρ') σ':=by
   intro d own' ρ ho hd hρ
   refine ⟨(ds++[d],own'),ρ,_,⟨by simp at g0 ⊢; lia,by simp at g1 ⊢; (with_reducible assumption),?_⟩,⟨hρ,rfl⟩,rfl⟩
   intro e he
   simp only [List.mem_append,List.mem_singleton] at he
   rcases he with he | rfl
   ·exact g2 e he
   ·exact hd
  show Aw (fun r=>∃ (s':List Deed×Nat) (ρ':Au) (σ':Store),(s'.2<=(p++[j]).length/\s'.1.length=(p++[j]).length/\∀ d∈s'.1,DH Co t ls d)/\((∃ z6 z7 z8 z9 z10 z11 z12,ρ'=[some (vs t),some (vi c),some (vi many),some (.d (.list (ms.map fun m=>Ay (some m)))),some (.ref 0),some (vi s'.2),z6,z7,z8,z9,z10,z11,z12])/\σ'=[.list (s'.1.map fun d=>.d d.data)])/\r=.ok (.next ρ') σ') (execSs C [_,_,_,_,_] _ _)
  have c1:=e_compR (C:=C) (elt:=.tup [.var 0,.var 12]) (t:=12) (es:=[.var 5]) (ifs:=[]) (ρ:=[some (vs t),some (vi c),some (vi many),some (.d (.list (ms.map fun m=>Ay (some m)))),some (.ref 0),some (vi own),some (vi j),z7,z8,z9,z10,z11,z12]) (σ:=[.list (ds.map fun d=>.d d.data)]) (σ1:=[.list (ds.map fun d=>.d d.data)]) (m:=own) (fun _=>true) (fun i=>Ay (some (t,i))) hhd rfl (by lia) (by lia) (fun i _ _=>by simp only [eF_1,eF_2]) (fun i _ _ _=>by
   simp only [Ad,Bj,An,Ap,Aa,gz,gs,sz,sy,if_pos (len2 _ _),tup2]; rfl)
  rw [show (List.range (own:Int).toNat).filter (fun j:Nat=>(fun _:Int=>true) (j:Int))=List.range own from List.filter_eq_self.mpr (fun _ _=>rfl)] at c1
  obtain ⟨ks,hks,hks1,hks2⟩:∃ ks:List (List Nat×Int),Ac C (.bin true .Add (.var 3) (.comp true (.tup [.var 0,.var 12]) [12] (.range [.var 5]) [])) [some (vs t),some (vi c),some (vi many),some (.d (.list (ms.map fun m=>Ay (some m)))),some (.ref 0),some (vi own),some (vi j),z7,z8,z9,z10,z11,z12] [.list (ds.map fun d=>.d d.data)]=.ok (.d (.list (ks.map fun m=>Ay (some m)))) [.list (ds.map fun d=>.d d.data)]/\(∀ m∈ks,(m.1=t\/m.1∈ls)/\0<=m.2/\m.2 < 1000000000)/\ks.length<=10100:=by
   refine ⟨ms++(List.range own).map (fun j:Nat=>(t,(j:Int))),?_,?_,?_⟩
   ·have hv:Ac C (.var 3) [some (vs t),some (vi c),some (vi many),some (.d (.list (ms.map fun m=>Ay (some m)))),some (.ref 0),some (vi own),some (vi j),z7,z8,z9,z10,z11,z12] [.list (ds.map fun d=>.d d.data)]=.ok (.d (.list (ms.map fun m=>Ay (some m)))) [.list (ds.map fun d=>.d d.data)]:=rfl
    rw [Fg hv c1,b_catL _ _ (by simp [line]; lia),List.map_append,List.map_map]
    rfl
   ·intro m hm
    simp only [List.mem_append,List.mem_map,List.mem_range] at hm
    rcases hm with hm | ⟨i,hi,rfl⟩
    ·have:=hms m hm; exact ⟨.inr this.1,this.2.1,by lia⟩
    ·exact ⟨.inl rfl,by show (0:Int)<=i; lia,by show (i:Int) < _; lia⟩
   ·simp; lia
  refine Al hks ?_
  refine Al (v:=vi (B9 c j)) (σ1:=[.list (ds.map fun d=>.d d.data)]) (by simp only [Ad,A1,An,Ap,Aa,gz,gs,sz,sy,hm,hhd] <;> rfl) ?_
  generalize B9 c j=L
  have hat:=AG (L.fdiv 5) (j:=(ks.length:Int)+1) arp
  refine Al (v:=vi ((L.fdiv 5).fmod ((ks.length:Int)+1))) (σ1:=[.list (ds.map fun d=>.d d.data)]) (by simp only [Ah,Ad,A5,A6,An,Ap,Aa,gz,gs,sz,sy,AQ,BE,List.length_map,Ce (show (5:Int)≠0 by decide),AJ (arq (n:=ks.length))] <;> rfl) ?_
  generalize (L.fdiv 5).fmod ((ks.length:Int)+1)=a at hat
  obtain ⟨l,hl1,hl2⟩:=hl (L.fdiv 365)
  refine Al (v:=vs l) (σ1:=[.list (ds.map fun d=>.d d.data)]) (by simp only [Ah,Ad,A5,A1,An,Ap,Aa,gz,gs,sz,sy,hl2,hhd,Ce (show (365:Int)≠0 by decide)] <;> rfl) ?_
  have hL5:=AG L (j:=5) (by decide)
  have pick:∀ i:Int,0<=i->i < ks.length->∃ m,m∈ks/\∀ σ,A4 (.d (.list (ks.map fun m=>Ay (some m)))) (vi i) σ=some (.d (Ay (some m))):=fun i i0 i1=>by
   obtain ⟨m,hm1⟩:∃ m,ks[i.toNat]? = some m:=⟨_,List.getElem?_eq_getElem (by lia)⟩
   exact ⟨m,List.mem_of_getElem? hm1,fun σ=>El _ i0 (by lia) (by simp [hm1])⟩
  have hn:Ac C (.not (.var 7)) [some (vs t),some (vi c),some (vi many),some (.d (.list (ms.map fun m=>Ay (some m)))),some (.ref 0),some (vi own),some (vi j),some (.d (.list (ks.map fun m=>Ay (some m)))),some (vi L),some (vi a),some (vs l),z11,z12] [.list (ds.map fun d=>.d d.data)]=.ok (vb ks.isEmpty) [.list (ds.map fun d=>.d d.data)]:=by
   rw [eA_8]
   simp only [Ad,Aa,gz,gs]
   show Res.ok (V.d (.bool (!(!(ks.map fun m=>Ay (some m)).isEmpty)))) _=_
   rw [Bool.not_not,List.isEmpty_map]
  refine Ar (t:=decide (L.fmod 5 < 3)||ks.isEmpty) (σ1:=[.list (ds.map fun d=>.d d.data)]) (C1 (by simp only [Ah,Ad,A5,Ao,Aa,gz,gs,c_lt,lt_i,AJ (show (5:Int)≠0 by decide)] <;> rfl) (fun _=>hn)) (fun h=>?_) (fun h=>?_)
  ·refine Al (v:=.d .none) (σ1:=[.list (ds.map fun d=>.d d.data)]) rfl ?_
   refine BP (M:=fun ρ σ=>(∃ o:Option (List Nat×Int),(∀ m,o=some m->m∈ks)/\ρ=[some (vs t),some (vi c),some (vi many),some (.d (.list (ms.map fun m=>Ay (some m)))),some (.ref 0),some (vi own),some (vi j),some (.d (.list (ks.map fun m=>Ay (some m)))),some (vi L),some (vi a),some (vs l),some (.d (Ay o)),z12])/\σ=[.list (ds.map fun d=>.d d.data)]) ?_ ?_
   ·refine Ar (t:=decide (a > 0)) (σ1:=[.list (ds.map fun d=>.d d.data)]) rfl (fun h=>?_) (fun h=>?_)
    ·simp only [decide_eq_true_eq] at h
     obtain ⟨m,hm1,hm2⟩:=pick (a-1) (by lia) (by lia)
     exact Al (v:=.d (Ay (some m))) (σ1:=[.list (ds.map fun d=>.d d.data)]) (by simp only [Ah,Ad,A5,Am,Aa,gz,gs,sz,sy,b_sub,hm2] <;> rfl) (Av ⟨_,_,⟨⟨some m,(fun m' e=>by cases e; exact hm1),rfl⟩,rfl⟩,rfl⟩)
    ·exact Av ⟨_,_,⟨⟨none,(fun m' e=>by exact Ab e),rfl⟩,rfl⟩,rfl⟩
   rintro _ _ ⟨⟨o,ho,rfl⟩,rfl⟩
   have hput:=put ⟨Cp,o,some l⟩
   refine C6 (v:=.d .none) (σ1:=[.list ((ds++[(⟨Cp,o,some l⟩:Deed)]).map fun d:Deed=>V.d d.data)]) ?_ ?_
   ·simp only [Ah,Ad,Bj,By,An,Ap,Aa,gz,gs,hpre,if_true,if_pos (len3 _ _ _),tup3,k_add]
    exact hput
   ·refine Al (v:=vi ((own:Int)+1)) (σ1:=[.list ((ds++[(⟨Cp,o,some l⟩:Deed)]).map fun d:Deed=>V.d d.data)]) rfl (Av (fin ⟨Cp,o,some l⟩ (own+1) _ (Nat.le_refl _) ⟨.inl ⟨l,hl1,rfl,.inl rfl⟩,fun m e=>hks1 m (ho m e)⟩ ⟨_,_,_,_,_,_,_,rfl⟩))
  ·simp only [Bool.or_eq_false_iff,decide_eq_false_iff_not] at h
   have hpos:0 < ks.length:=by
    induction ks with
    | nil=>cases h.2
    | cons _ _=>simp
   have hi:=AG a (j:=(ks.length:Int)) (by lia)
   obtain ⟨m,hm1,hm2⟩:=pick (a.fmod ks.length) hi.1 hi.2
   refine Ar (t:=decide (L.fmod 5=3)) (σ1:=[.list (ds.map fun d=>.d d.data)]) (by simp only [Ah,Ad,A5,Ao,Aa,gz,gs,sz,sy,CA,Br,AJ (show (5:Int)≠0 by decide)] <;> rfl) (fun h=>?_) (fun h=>?_)
   ·have hput:=put ⟨AW,some m,none⟩
    refine C6 (v:=.d .none) (σ1:=[.list ((ds++[(⟨AW,some m,none⟩:Deed)]).map fun d:Deed=>V.d d.data)]) ?_ (Av (fin ⟨AW,some m,none⟩ own [some (vs t),some (vi c),some (vi many),some (.d (.list (ms.map fun m=>Ay (some m)))),some (.ref 0),some (vi own),some (vi j),some (.d (.list (ks.map fun m=>Ay (some m)))),some (vi L),some (vi a),some (vs l),z11,z12] (Nat.le_succ _) ⟨.inr ⟨rfl,rfl,fun e=>by exact AT e⟩,fun m' e=>by cases e; exact hks1 m hm1⟩ ⟨_,_,_,_,_,_,_,rfl⟩))
    simp only [Ah,Ad,A5,Bj,Am,A6,By,An,Ap,Aa,gz,gs,sz,sy,AQ,hpre,if_true,if_pos (len2 _ _),tup2,E1,List.length_map,AJ (ars hpos),hm2]
    exact hput
   ·have hput:=put ⟨Fq,some m,some l⟩
    refine C6 (v:=.d .none) (σ1:=[.list ((ds++[(⟨Fq,some m,some l⟩:Deed)]).map fun d:Deed=>V.d d.data)]) ?_ (Av (fin ⟨Fq,some m,some l⟩ own [some (vs t),some (vi c),some (vi many),some (.d (.list (ms.map fun m=>Ay (some m)))),some (.ref 0),some (vi own),some (vi j),some (.d (.list (ks.map fun m=>Ay (some m)))),some (vi L),some (vi a),some (vs l),z11,z12] (Nat.le_succ _) ⟨.inl ⟨l,hl1,rfl,.inr ⟨rfl,fun e=>by exact AT e⟩⟩,fun m' e=>by cases e; exact hks1 m hm1⟩ ⟨_,_,_,_,_,_,_,rfl⟩))
    simp only [Ah,Ad,A5,Bj,Am,A6,By,An,Ap,Aa,gz,gs,sz,sy,AQ,hpre,if_true,if_pos (len3 _ _ _),tup3,k_set,List.length_map,AJ (ars hpos),hm2]
    exact hput
 ·rintro ⟨ds,own⟩ ρ σ ⟨g0,g1,g2⟩ ⟨⟨z6,z7,z8,z9,z10,z11,z12,rfl⟩,rfl⟩
  exact Ax (v:=.ref 0) (σ1:=[.list (ds.map fun d=>.d d.data)]) rfl ⟨ds,by rw [g1]; simp,g2,rfl⟩
theorem ev_deeds (t:List Nat) (c many:Int) (ls:List (List Nat)) (ms:List (List Nat×Int)) (h0:0<=many) (h1:many<=100) (hms:∀ m∈ms,m.1∈ls/\0<=m.2/\m.2 < 1000) (hml:ms.length<=10000) :
 ∃ ds:List Deed,ds.length=many.toNat/\(∀ d∈ds,DH Co t ls d)/\∀ σ,Ag P03 isExc fuel (n+2) false .frz 19 [vs t,vi c,vi many,.d (.list (ms.map fun m=>Ay (some m)))] σ=.ok (.d (.list (ds.map Deed.data))) σ:=by
 obtain ⟨ds,k1,k2,k3⟩:=run_deeds (C:=⟨Ag P03 isExc fuel (n+1),isExc,fuel,false⟩) rfl (fun c k σ=>FX c k) (fun c=>ev_line c) t c many ls ms h0 h1 hms hml
 exact ⟨ds,k1,k2,fun σ=>AR P19 rfl (A9 rfl k3) (FE (by rw [List.map_map]; rfl))⟩
end
section
variable {α:Type} {C:Cfg} {ρ:Au} {σ σ1:Store} {e:E} {it:It} {body r:List S} {l:List α} {Q:Res Fl->Prop} {x y:Nat}
theorem enumV_d (a:List PyData) (k:Nat):FY k (a.map .d)=(a.zipIdx k).map fun p=>V.d (.tuple [.int (p.2:Int),p.1]):=by
 induction a generalizing k with
 | nil=>rfl
 | cons x a ih=>show _::FY (k+1) (a.map .d)=_; rw [ih]; rfl
theorem it_enum {xs:List PyData} (hd:C.hd=false) (h:Ac C e ρ σ=.ok (.d (.list xs)) σ1):evalIt C (.enum e) ρ σ=.ok (.items ((xs.zipIdx).map fun p=>V.d (.tuple [.int (p.2:Int),p.1]))) σ1:=by
 rw [eI_3,h,Aa]
 have e:Dl C.hd (.d (.list xs))=some (xs.map .d):=by rw [hd]; rfl
 rw [e,<-enumV_d]
theorem go_foldT {γ:Type} (u v:α->PyData) (R:List α->γ->Prop) (I:γ->Au->Store->Prop) (s:γ) (hhd:C.hd=false) (hit:evalIt C it ρ σ=.ok (.items (l.map fun a=>V.d (.tuple [u a,v a]))) σ1) (hR:R [] s) (hI:I s ρ σ1)
 (hf:∀ p a q s ρ σ,l=p++a::q->R p s->I s ρ σ->∃ s' ρ' σ',R (p++[a]) s'/\I s' ρ' σ'/\execSs C body ((ρ.set x (some (.d (u a)))).set y (some (.d (v a)))) σ=.ok (.next ρ') σ')
 (k:∀ s' ρ' σ',R l s'->I s' ρ' σ'->Aw Q (execSs C r ρ' σ')):Aw Q (execSs C (.for_ [x,y] it body::r) ρ σ):=by
 have hs:∀ a ρ σ,AF C.hd [x,y] (fun ρ σ=>execSs C body ρ σ) (V.d (.tuple [u a,v a])) ρ σ=execSs C body ((ρ.set x (some (.d (u a)))).set y (some (.d (v a)))) σ:=by
  intro a ρ σ; rw [hhd]; rfl
 obtain ⟨s',ρ',σ',h1,h2,h3⟩:=Fx (f:=AF C.hd [x,y] (fun ρ σ=>execSs C body ρ σ)) I (fun a=>V.d (.tuple [u a,v a])) l R [] s ρ σ1 hR hI (by
  intro p a q s ρ σ he hR hI
  rw [hs]
  exact hf p a q s ρ σ (by exact he) hR hI)
 rw [x_for hit,h3,Aa]
 exact k s' ρ' σ' (by exact h1) h2
end
abbrev Ch:=List Nat×List (List Nat)×List Deed
noncomputable abbrev Ch.data (c:Ch):PyData:=change c.1 c.2.1 c.2.2
section
variable {fuel n:Nat} {hd:Bool} {σ:Store}
theorem idx_fst:∀ (l:List Ch) (k:Nat),(l.zipIdx k).map (·.1.1)=l.map (·.1)
 | [],_=>rfl
 | _::l,k=>by rw [List.zipIdx_cons,List.map_cons,List.map_cons,idx_fst l (k+1)]
theorem sort_ref {isX:Nat->Nat->Option Bool} (l:List (List Nat)) (h:l.length < 64):bcall isX hd .sorted false [.ref 0] [.list (l.map vs)]=.ok (.ref 1) [.list (l.map vs),.list ((AI l).map vs)]:=by
 have h2:(l.map Tx).length < 64:=by simpa using h
 show bSort false (.ref 0) [.list (l.map vs)]=_
 have hl:B5 [.list (l.map vs)] (.ref 0)=some (l.map vs):=rfl
 have hm:(((AI l).map Tx).map fun s=>V.d (.str s)).length<=line:=by simp [Gw,line]; lia
 simp only [bSort,hl,strsV_vs,if_pos h2,sortStr_Tx,A2,if_pos hm]
 simp [List.map_map,Function.comp_def]
theorem run_leans {C:Cfg} (hhd:C.hd=false) (hm:∀ c k σ,C.cf false .frz 14 [vi c,vi k] σ=.ok (vi (B9 c k)) σ) (c:Int) (cs:List Ch) (hcs:cs.length<=20) :
 Aw (fun r=>∃ fs:List (List Nat),fs.Sublist (cs.map (·.1))/\r=.ok (.ret (.ref 1)) [.list (fs.map vs),.list ((AI fs).map vs)])
  (execSs C F8.body [some (vi c),some (.d (.list (cs.map Ch.data))),none,none,none,none,none] []):=by
 show Aw _ (execSs C [_,_,_,_] _ [])
 refine Al (v:=vi (B9 c 1)) (σ1:=[]) (by simp only [Ah,Ad,A1,An,Ap,Aa,gz,hm,hhd] <;> rfl) ?_
 refine Al (v:=.ref 0) (σ1:=[.list []]) (by simp only [Cn,An,Aa,sz,sy,A2] <;> rfl) ?_
 have hit:=it_enum (C:=C) (e:=.var 1) (ρ:=[some (vi c),some (.d (.list (cs.map Ch.data))),some (vi (B9 c 1)),some (.ref 0),none,none,none]) (σ:=[.list []]) (σ1:=[.list []]) (xs:=cs.map Ch.data) hhd rfl
 have hz:(cs.map Ch.data).zipIdx.map (fun p=>V.d (.tuple [.int (p.2:Int),p.1]))=cs.zipIdx.map fun p=>V.d (.tuple [.int (p.2:Int),Ch.data p.1]):=by
  rw [List.zipIdx_map,List.map_map]; rfl
 rw [hz] at hit
 refine go_foldT (l:=cs.zipIdx) (σ1:=[.list []]) (fun p=>.int (p.2:Int)) (fun p=>Ch.data p.1) (fun pre (fs:List (List Nat))=>fs.Sublist (pre.map (·.1.1)))
  (fun (fs:List (List Nat)) ρ σ=>(∃ L:Int,∃ z4 z5 z6,ρ=[some (vi c),some (.d (.list (cs.map Ch.data))),some (vi L),some (.ref 0),z4,z5,z6])/\σ=[.list (fs.map vs)]) [] hhd hit (List.Sublist.refl _) ⟨⟨_,none,none,none,rfl⟩,rfl⟩ ?_ ?_
 ·rintro p ⟨ch,i⟩ q fs ρ σ hp g1 ⟨⟨L,z4,z5,z6,rfl⟩,rfl⟩
  have hlen:fs.length < 100:=by
   have h1:=g1.length_le
   have h2:=congrArg List.length hp
   simp at h1 h2; lia
  show Aw (fun r=>∃ (s':List (List Nat)) (ρ':Au) (σ':Store),s'.Sublist ((p++[(ch,i)]).map (·.1.1))/\((∃ L:Int,∃ z4 z5 z6,ρ'=[some (vi c),some (.d (.list (cs.map Ch.data))),some (vi L),some (.ref 0),z4,z5,z6])/\σ'=[.list (s'.map vs)])/\r=.ok (.next ρ') σ') (execSs C [_,_,_,_] _ _)
  have h3:=AG c (j:=3) (by decide)
  have hne:(2:Int)+c.fmod 3≠0:=by omega
  have ha:Ac C (.bop .And [.cmp .Eq (.var 4) (.bin true .Sub (.bcall .len true [.var 1]) (.cst (.int 1))),.cmp .Eq (.bin true .Mod (.var 0) (.cst (.int 7))) (.cst (.int 3))]) [some (vi c),some (.d (.list (cs.map Ch.data))),some (vi L),some (.ref 0),some (vi i),some (.d (Ch.data ch)),z6] [.list (fs.map vs)]=.ok (vb (decide ((i:Int)=(cs.map Ch.data).length-1)&&decide (c.fmod 7=3))) [.list (fs.map vs)] :=
   Cv (by simp only [Ah,Ad,A5,Ao,A6,An,Ap,Aa,gz,gs,AQ,CA,Br,b_sub] <;> rfl) (fun _=>(by simp only [Ah,Ad,A5,Ao,Aa,gz,CA,Br,AJ (show (7:Int)≠0 by decide)] <;> rfl))
  refine Al (v:=vb (decide ((i:Int)=(cs.map Ch.data).length-1)&&decide (c.fmod 7=3))) (σ1:=[.list (fs.map vs)]) ha ?_
  generalize (decide ((i:Int)=(cs.map Ch.data).length-1)&&decide (c.fmod 7=3))=last
  refine BP (M:=fun ρ σ=>∃ fs':List (List Nat),fs'.Sublist ((p++[(ch,i)]).map (·.1.1))/\ρ=[some (vi c),some (.d (.list (cs.map Ch.data))),some (vi L),some (.ref 0),some (vi i),some (.d (Ch.data ch)),some (vb last)]/\σ=[.list (fs'.map vs)]) ?_ ?_
  ·refine Ar (t:=last||(decide (L.fmod (2+c.fmod 3)=0)&&(decide (((cs.map Ch.data).length:Int) < 20)||decide ((i:Int).fmod 7=(L.fdiv 4).fmod 7)))) (σ1:=[.list (fs.map vs)])
    (C1 (by simp only [Ad,gz,gs,sz,sy] <;> rfl) (fun _=>Cv (by simp only [Ah,Ad,A5,Ao,Aa,gz,gs,sz,sy,CA,Br,BE,AJ (show (3:Int)≠0 by decide),AJ hne] <;> rfl) (fun _=>C1 (by simp only [Ah,Ad,Ao,A6,An,Ap,Aa,gz,gs,sz,sy,AQ,c_lt,lt_i] <;> rfl) (fun _=>(by simp only [Ah,Ad,A5,Ao,Aa,gz,gs,sz,sy,CA,Br,AJ (show (7:Int)≠0 by decide),Ce (show (4:Int)≠0 by decide)] <;> rfl))))) (fun _=>?_) (fun _=>?_)
   ·have hll:(fs.map vs).length < line:=by simp [line]; (exact BO ‹_› (by rfl))
    have hput:Bf .append true (.ref 0) [vs ch.1] [.list (fs.map vs)]=.ok (.d .none) [.list ((fs++[ch.1]).map vs)]:=by
     show (if _ then _ else _)=_; rw [if_pos hll]
     simp
    have hpre:AK .append (.ref 0) [.list (fs.map vs)]=true:=rfl
    refine C6 (v:=.d .none) (σ1:=[.list ((fs++[ch.1]).map vs)]) ?_ (Av ⟨_,_,⟨fs++[ch.1],by simpa using g1.append (List.Sublist.refl [ch.1]),rfl,rfl⟩,rfl⟩)
    simp only [Ah,Ad,Am,By,An,Ap,Aa,gz,gs,sz,sy,hpre,if_true,CU]
    exact hput
   ·exact Av ⟨_,_,⟨fs,by simpa using g1.trans (List.sublist_append_left _ [ch.1]),rfl,rfl⟩,rfl⟩
  rintro _ _ ⟨fs',k1,rfl,rfl⟩
  refine Al (v:=vi (L.fdiv 3)) (σ1:=[.list (fs'.map vs)]) (by simp only [Ah,Ad,A5,Aa,gz,gs,Ce (show (3:Int)≠0 by decide)] <;> rfl) ?_
  refine Ar (t:=decide (L.fdiv 3 < 100)) (σ1:=[.list (fs'.map vs)]) rfl (fun _=>?_) (fun _=>?_)
  ·exact Al (v:=vi (B9 c ((i:Int)+2))) (σ1:=[.list (fs'.map vs)]) (by simp only [Ah,Ad,A5,A1,An,Ap,Aa,gz,gs,sz,sy,BE,hm,hhd] <;> rfl) (Av ⟨fs',_,_,k1,⟨⟨_,_,_,_,rfl⟩,rfl⟩,rfl⟩)
  ·exact Av ⟨fs',_,_,k1,⟨⟨_,_,_,_,rfl⟩,rfl⟩,rfl⟩
 ·rintro fs ρ σ g1 ⟨⟨L,z4,z5,z6,rfl⟩,rfl⟩
  have g2:fs.Sublist (cs.map (·.1)):=by
   have e:cs.zipIdx.map (·.1.1)=cs.map (·.1):=idx_fst cs 0
   rw [<-e]; exact g1
  have hl:=g2.length_le
  refine Ax (v:=.ref 1) (σ1:=[.list (fs.map vs),.list ((AI fs).map vs)]) ?_ ⟨fs,g2,rfl⟩
  simp only [Ad,A6,An,Ap,Aa,gz,gs]
  exact sort_ref fs (by simp at hl; lia)
end
section
variable {fuel n:Nat} {hd:Bool} {σ:Store}
theorem snapL_fresh (l:List (List Nat)) (k:Nat):Ca (fresh σ (k+1)) (l.map vs)=some (l.map fun t=>.str (Tx t)):=by
 induction l with
 | nil=>rfl
 | cons a l ih =>
  show (match Ca (fresh σ (k+1)) (l.map vs) with | some xs=>some (PyData.str (Tx a)::xs) | none=>none)=_
  rw [ih]; rfl
theorem fresh_ref {k:Nat} {l:List (List Nat)} (h:σ[k]? = some (.list (l.map vs))):fresh σ 8 (.ref k)=some (dl l):=by
 show snapO (fresh σ 7) σ[k]? = _
 rw [h]
 show (match Ca (fresh σ 7) (l.map vs) with | some xs=>some (PyData.list xs) | none=>none)=_
 rw [snapL_fresh]
theorem ev_leans (c:Int) (cs:List Ch) (hcs:cs.length<=20):∃ fs:List (List Nat),fs.Sublist (cs.map (·.1))/\∀ σ k,σ[k]? = some (.list (cs.map fun x=>V.d x.data))->Ag P03 isExc fuel (n+2) false .frz 17 [vi c,.ref k] σ=.ok (.d (dl (AI fs))) σ:=by
 obtain ⟨fs,h1,h2⟩:=run_leans (C:=⟨Ag P03 isExc fuel (n+1),isExc,fuel,false⟩) rfl (fun c k σ=>FX c k) c cs hcs
 refine ⟨fs,h1,fun σ k hk=>?_⟩
 refine frz_lent (xs:=[vi c,.d (.list (cs.map Ch.data))]) P17 rfl ?_ (A9 rfl h2) (fresh_ref rfl)
 have e1:Be σ 8 (.ref k)=some (.list (cs.map Ch.data)):=FE (by rw [hk,List.map_map]; rfl)
 have e:Be σ 8 (vi c)=some (.int c):=rfl
 have e2:DR σ [.ref k]=some [.d (.list (cs.map Ch.data))]:=by
  show (match Be σ 8 (.ref k),DR σ [] with | some x,some xs=>some (V.d x::xs) | _,_=>none)=_
  rw [e1]; rfl
 show (match Be σ 8 (vi c),DR σ [.ref k] with | some x,some xs=>some (V.d x::xs) | _,_=>none)=_
 rw [e2]; rfl
end
section
variable {α:Type} {C:Cfg} {ρ:Au} {σ:Store} {it:It} {body r:List S} {cs:List α} {Q:Res Fl->Prop} {x k:Nat}
theorem forS_fold {γ:Type} {f:V->Au->Store->Res Fl} (w:α->V) (R:List α->γ->Prop) (I:γ->Au->Prop) (hk:σ[k]? = some (.list (cs.map w)))
 (hf:∀ p a q s ρ,cs=p++a::q->R p s->I s ρ->∃ s' ρ',R (p++[a]) s'/\I s' ρ'/\f (w a) ρ σ=.ok (.next ρ') σ) :
 ∀ (l pre:List α) (s:γ) (ρ:Au),cs=pre++l->R pre s->I s ρ->∃ s' ρ',R cs s'/\I s' ρ'/\E4 f (l.length+1) (.lref k pre.length) ρ σ=.ok (.next ρ') σ
 | [],pre,s,ρ,he,hR,hI=>by
  refine ⟨s,ρ,by rw [he,List.append_nil]; exact hR,hI,?_⟩
  show Gz _ f ρ σ (Gu k pre.length σ[k]?)=_
  rw [hk]
  have e:(cs.map w)[pre.length]? = none:=by rw [he]; simp
  show Gz _ f ρ σ (match (cs.map w)[pre.length]? with | some v=>some (some (v,Src.lref k (pre.length+1))) | none=>some none)=_
  rw [e]; rfl
 | a::l,pre,s,ρ,he,hR,hI=>by
  obtain ⟨s',ρ',h1,h2,h3⟩:=hf pre a l s ρ he hR hI
  obtain ⟨s2,ρ2,k1,k2,k3⟩:=forS_fold w R I hk hf l (pre++[a]) s' ρ' (by simp [he]) h1 h2
  refine ⟨s2,ρ2,k1,k2,?_⟩
  show Gz (E4 f (l.length+1)) f ρ σ (Gu k pre.length σ[k]?)=_
  rw [hk]
  have e:(cs.map w)[pre.length]? = some (w a):=by rw [he]; simp
  show Gz (E4 f (l.length+1)) f ρ σ (match (cs.map w)[pre.length]? with | some v=>some (some (v,Src.lref k (pre.length+1))) | none=>some none)=_
  rw [e]
  show (f (w a) ρ σ).bind _=_
  rw [h3,Aa]
  rw [List.length_append] at k3
  exact k3
theorem go_foldR {γ:Type} (w:α->V) (R:List α->γ->Prop) (I:γ->Au->Prop) (s:γ) (hk:σ[k]? = some (.list (cs.map w))) (hit:evalIt C it ρ σ=.ok (.lref k 0) σ) (hR:R [] s) (hI:I s ρ)
 (hf:∀ p a q s ρ,cs=p++a::q->R p s->I s ρ->∃ s' ρ',R (p++[a]) s'/\I s' ρ'/\execSs C body (ρ.set x (some (w a))) σ=.ok (.next ρ') σ)
 (kk:∀ s' ρ',R cs s'->I s' ρ'->Aw Q (execSs C r ρ' σ)):Aw Q (execSs C (.for_ [x] it body::r) ρ σ):=by
 have hs:∀ v ρ σ,AF C.hd [x] (fun ρ σ=>execSs C body ρ σ) v ρ σ=execSs C body (ρ.set x (some v)) σ:=by intro v ρ σ; rfl
 obtain ⟨s',ρ',h1,h2,h3⟩:=forS_fold (f:=AF C.hd [x] (fun ρ σ=>execSs C body ρ σ)) w R I hk (by
  intro p a q s ρ he hR hI
  rw [hs]
  exact hf p a q s ρ he hR hI) cs [] s ρ rfl hR hI
 have h3:E4 (AF C.hd [x] (fun ρ σ=>execSs C body ρ σ)) (cs.length+1) (.lref k 0) ρ σ=.ok (.next ρ') σ:=h3
 have hfu:(Src.lref k 0).fuel σ=cs.length+1:=by
  have e:B5 σ (.ref k)=some (cs.map w):=by
   show (match σ[k]? with | some (.list vs)=>some vs | _=>none)=_
   rw [hk]
  show (match B5 σ (.ref k) with | some ws=>ws.length+1 | none=>0)=_
  rw [e,<-List.length_map (f:=w) (as:=cs)]
 rw [DJ,xA_8,hit,Aa,hfu,h3,Aa]
 exact kk s' ρ' h1 h2
end
structure GoodCh (K:List Nat->Prop) (m:Nat) (c:Ch):Prop where
 leans:AX c.1 c.2.1=true
 few:c.2.1.length<=m
 deeds:c.2.2.length<=20
 good:∀ d∈c.2.2,DH K c.1 c.2.1 d
abbrev Cy:Ch->Prop:=GoodCh Co 20
abbrev OkCh:Ch->Prop:=GoodCh Line1 10000
theorem DH.up {t:List Nat} {ls:List (List Nat)} {d:Deed} (h:DH Co t ls d):DH Line1 t ls d:=by
 refine ⟨?_,h.mark⟩
 rcases h.shape with ⟨l,e1,e2⟩ | e
 ·exact .inl ⟨l,e1.1,e2⟩
 ·exact .inr e
theorem GoodCh.up {c:Ch} (h:Cy c):OkCh c:=⟨h.leans,Nat.le_trans h.few (by decide),h.deeds,fun d hd=>(h.good d hd).up⟩
section
variable {fuel n:Nat} {hd:Bool} {σ:Store}
theorem P20:P03 20=some CW:=rfl
theorem k_zero:Str.ofString "0" = Tx [48]:=by decide +kernel
theorem zero_name:Aq [48]=true:=by decide
theorem sm4 (i:Int):(small 4||small i)=true:=by rw [show small 4=true by decide]; rfl
theorem sub_sc {ns:List Int} (i:Int) (h0:0<=i) (h:i < ns.length) (hn:ns.length<=1000):A4 (.d (scD ns)) (vi i) σ=some (vi (cellOf ns i.toNat)):=by
 have hi:i.toNat < ns.length:=by lia
 refine El i h0 (by lia) ?_
 rw [List.getElem?_map,List.getElem?_eq_getElem hi]
 show some (PyData.int ns[i.toNat])=some (.int (cellOf ns i.toNat))
 rw [cellOf,List.getD_eq_getElem?_getD,List.getElem?_eq_getElem hi]; rfl
theorem ch1 {k m:Int} (h0:0<=k) (h:4 * (k+1)<=m):0<=4 * k/\4 * k < m/\0<=4 * k+1/\4 * k+1 < m/\0<=4 * k+2/\4 * k+2 < m/\0<=4 * k+3/\4 * k+3 < m:=by
 have a:0<=4 * k:=Int.mul_nonneg (by decide) h0
 have b:4 * k+4<=m:=by rw [Int.mul_add] at h; exact h
 have c:∀ j:Int,j < 4->4 * k+j < m:=fun j hj=>Int.lt_of_lt_of_le (Int.add_lt_add_left hj _) b
 exact ⟨a,Int.lt_of_lt_of_le (Int.lt_add_of_pos_right _ (by decide)) b,Int.add_nonneg a (by decide),c 1 (by decide),Int.add_nonneg a (by decide),c 2 (by decide),Int.add_nonneg a (by decide),c 3 (by decide)⟩
theorem leans_ok {t:List Nat} {tk fs:List (List Nat)} (ht:Aq t=true) (hn:∀ x∈tk,Aq x=true) (hnd:tk.Nodup) (hs:fs.Sublist tk) (hx:t∉tk):AX t (AI fs)=true:=by
 have hm:∀ x∈AI fs,x∈tk:=fun x hx=>hs.subset ((isort_mem x fs).mp hx)
 simp only [AX,Bool.and_eq_true,List.all_eq_true,Bool.not_eq_true',decide_eq_false_iff_not]
 exact ⟨⟨⟨ht,fun x hx=>hn x (hm x hx)⟩,FT fs (hnd.sublist hs)⟩,fun h=>hx (hm t h)⟩
theorem turn_changes {C:Cfg} (hhd:C.hd=false)
 (hname:∀ (c:Int) (tk:List (List Nat)),(∀ x∈tk,Aq x=true)->tk.length < 100->∃ x,Aq x=true/\x∉tk/\∀ σ k,σ[k]? = some (.list (tk.map vs))->C.cf false .frz 15 [vi c,.ref k] σ=.ok (vs x) σ)
 (hleans:∀ (c:Int) (cs:List Ch),cs.length<=20->∃ fs:List (List Nat),fs.Sublist (cs.map (·.1))/\∀ σ k,σ[k]? = some (.list (cs.map fun x=>V.d x.data))->C.cf false .frz 17 [vi c,.ref k] σ=.ok (.d (dl (AI fs))) σ)
 (hmarks:∀ (c:Ch),c.2.2.length<=100->∃ k:Nat,k<=c.2.2.length/\∀ σ,C.cf false .frz 18 [.d c.data] σ=.ok (.d (.list ((List.range k).map fun j:Nat=>Ay (some (c.1,(j:Int)))))) σ)
 (hdeeds:∀ (t:List Nat) (c many:Int) (ls:List (List Nat)) (ms:List (List Nat×Int)),0<=many->many<=100->(∀ m∈ms,m.1∈ls/\0<=m.2/\m.2 < 1000)->ms.length<=10000 ->
  ∃ ds:List Deed,ds.length=many.toNat/\(∀ d∈ds,DH Co t ls d)/\∀ σ,C.cf false .frz 19 [vs t,vi c,vi many,.d (.list (ms.map fun m=>Ay (some m)))] σ=.ok (.d (.list (ds.map Deed.data))) σ)
 (ns:List Int) (most k:Int) (hns:ns.length<=1000) (h0:0<=k) (hk:4 * (k+1)<=ns.length) (cs:List Ch) (hcs:cs.length < 20) (hg:∀ c∈cs,Cy c) (hnd:([48]::cs.map (·.1)).Nodup) (z5 z6 z7 z8 z9:Option V) :
 Aw (fun r=>∃ (c:Ch) (z5 z6 z7 z8 z9:Option V),Cy c/\([48]::(cs++[c]).map (·.1)).Nodup/\r=.ok (.next [some (.d (scD ns)),some (vi most),some (.ref 0),some (.ref 1),some (vi k),z5,z6,z7,z8,z9]) [.list ((cs++[c]).map fun x=>V.d x.data),.list (([48]::(cs++[c]).map (·.1)).map vs)])
  (execSs C (match CW.body with | [_,_,.for_ _ _ b,_]=>b | _=>[]) [some (.d (scD ns)),some (vi most),some (.ref 0),some (.ref 1),some (vi k),z5,z6,z7,z8,z9] [.list (cs.map fun x=>V.d x.data),.list (([48]::cs.map (·.1)).map vs)]):=by
 show Aw _ (execSs C [_,_,_,_,_,_,_,_] _ _)
 have q_z:=ch1 h0 hk
 have b1:=q_z.1
 have b2:=q_z.2.1
 have b3:=q_z.2.2.1
 have b4:=q_z.2.2.2.1
 have b5:=q_z.2.2.2.2.1
 have b6:=q_z.2.2.2.2.2.1
 have b7:=q_z.2.2.2.2.2.2.1
 have b8:=q_z.2.2.2.2.2.2.2
 have hnm:∀ x∈([48]::cs.map (·.1)),Aq x=true:=by
  intro x hx
  rcases List.mem_cons.mp hx with rfl | hx
  ·exact zero_name
  ·obtain ⟨c,hc,rfl⟩:=List.mem_map.mp hx
   have:=(hg c hc).leans
   simp only [AX,Bool.and_eq_true] at this
   exact this.1.1.1
 have hc3:=fun σ=>sub_sc (σ:=σ) (4 * k+3) b7 b8 hns
 obtain ⟨t,t1,t2,t3⟩:=hname (cellOf ns (4 * k).toNat) ([48]::cs.map (·.1)) hnm (by simp; (exact lt_c ‹_› (by rfl)))
 have t3:=t3 [.list (cs.map fun x=>V.d x.data),.list (([48]::cs.map (·.1)).map vs)] 1 rfl
 refine Al (v:=vs t) (σ1:=[.list (cs.map fun x=>V.d x.data),.list (([48]::cs.map (·.1)).map vs)]) (by simp only [Ah,Ad,A5,Am,A1,An,Ap,Aa,gz,gs,Gd (sm4 k),sub_sc (4 * k) b1 b2 hns,hhd,t3] <;> rfl) ?_
 have hap:Bf .append true (.ref 1) [vs t] [.list (cs.map fun x=>V.d x.data),.list (([48]::cs.map (·.1)).map vs)]=.ok (.d .none) [.list (cs.map fun x=>V.d x.data),.list (([48]::cs.map (·.1)++[t]).map vs)]:=by
  have hll:(([48]::cs.map (·.1)).map vs).length < line:=by simp [line]; (exact lt_c ‹_› (by rfl))
  refine (if_pos hll).trans ?_
  simp
 have hpre:AK .append (.ref 1) [.list (cs.map fun x=>V.d x.data),.list (([48]::cs.map (·.1)).map vs)]=true:=rfl
 refine C6 (v:=.d .none) (σ1:=[.list (cs.map fun x=>V.d x.data),.list (([48]::cs.map (·.1)++[t]).map vs)]) (by simp only [Ad,By,An,Ap,Aa,gz,gs,sz,sy,hpre,if_true]; exact hap) ?_
 obtain ⟨fs,f1,f2⟩:=hleans (cellOf ns (4 * k+1).toNat) cs (by (exact Nat.le_of_lt ‹_›))
 have f2:=f2 [.list (cs.map fun x=>V.d x.data),.list (([48]::cs.map (·.1)++[t]).map vs)] 0 rfl
 refine Al (v:=.d (dl (AI fs))) (σ1:=[.list (cs.map fun x=>V.d x.data),.list (([48]::cs.map (·.1)++[t]).map vs)]) (by simp only [Ah,Ad,A5,Am,A1,An,Ap,Aa,gz,gs,sz,sy,BE,Gd (sm4 k),sub_sc (4 * k+1) b3 b4 hns,hhd,f2] <;> rfl) ?_
 refine Al (v:=.d (.list [])) (σ1:=[.list (cs.map fun x=>V.d x.data),.list (([48]::cs.map (·.1)++[t]).map vs)]) (by simp only [Cn,An,Aa,sz,sy,A2,EX] <;> rfl) ?_
 have hfl:(AI fs).length<=20:=by rw [Gw]; have:=f1.length_le; simp at this; lia
 refine go_foldR (k:=0) (cs:=cs) (fun x=>V.d x.data) (fun pre (ms:List (List Nat×Int))=>(∀ m∈ms,m.1∈AI fs/\0<=m.2/\m.2 < 1000)/\ms.length<=20 * pre.length)
  (fun (ms:List (List Nat×Int)) ρ=>∃ z8,ρ=[some (.d (scD ns)),some (vi most),some (.ref 0),some (.ref 1),some (vi k),some (vs t),some (.d (dl (AI fs))),some (.d (.list (ms.map fun m=>Ay (some m)))),z8,z9]) [] rfl (Cs (v:=.ref 0) rfl rfl) ⟨by simp,by exact Nat.zero_le _⟩ ⟨_,rfl⟩ ?_ ?_
 ·rintro p c q ms ρ hp ⟨m1,m2⟩ ⟨z8,rfl⟩
  have hc:Cy c:=hg c (by rw [hp]; simp)
  have hpl:p.length < 20:=by have:=congrArg List.length hp; simp at this; lia
  obtain ⟨j,j1,j2⟩:=hmarks c (by have:=hc.deeds; (exact BO ‹_› (by rfl)))
  have hjd:=hc.deeds
  show Aw (fun r=>∃ (s':List (List Nat×Int)) (ρ':Au),((∀ m∈s',m.1∈AI fs/\0<=m.2/\m.2 < 1000)/\s'.length<=20 * (p++[c]).length)/\(∃ z8,ρ'=[some (.d (scD ns)),some (vi most),some (.ref 0),some (.ref 1),some (vi k),some (vs t),some (.d (dl (AI fs))),some (.d (.list (s'.map fun m=>Ay (some m)))),z8,z9])/\r=.ok (.next ρ') _) (execSs C [_] _ _)
  refine Ar (t:=decide (c.1∈AI fs)) (σ1:=[.list (cs.map fun x=>V.d x.data),.list (([48]::cs.map (·.1)++[t]).map vs)]) (by simp only [Ah,Ad,Ao,Am,Aa,gz,gs,sz,sy,c_in,Dz,CU] <;> rfl) (fun h=>?_) (fun h=>?_)
  ·simp only [decide_eq_true_eq] at h
   have hcat:=b_catL (σ:=[.list (cs.map fun x=>V.d x.data),.list (([48]::cs.map (·.1)++[t]).map vs)]) (ms.map fun m=>Ay (some m)) ((List.range j).map fun i:Nat=>Ay (some (c.1,(i:Int)))) (by simp [line]; lia)
   refine Al (v:=.d (.list ((ms++(List.range j).map fun i:Nat=>(c.1,(i:Int))).map fun m=>Ay (some m)))) (σ1:=[.list (cs.map fun x=>V.d x.data),.list (([48]::cs.map (·.1)++[t]).map vs)]) (by simp only [Ad,A5,A1,An,Ap,Aa,gz,gs,sz,sy,hhd,j2,hcat]; simp [List.map_map,Function.comp_def]) (Av ⟨ms++(List.range j).map fun i:Nat=>(c.1,(i:Int)),_,⟨?_,?_⟩,⟨_,rfl⟩,rfl⟩)
   ·intro m hm
    simp only [List.mem_append,List.mem_map,List.mem_range] at hm
    rcases hm with hm | ⟨i,hi,rfl⟩
    ·exact m1 m hm
    ·exact ⟨h,by show (0:Int)<=i; (exact Int.natCast_nonneg _),by show (i:Int) < 1000; lia⟩
   ·simp; lia
  ·exact Av ⟨ms,_,⟨m1,by simp; lia⟩,⟨_,rfl⟩,rfl⟩
 rintro ms _ ⟨m1,m2⟩ ⟨z8,rfl⟩
 generalize cellOf ns (4 * k+3).toNat=c3 at hc3
 have g5:=AG c3 (j:=5) (by decide)
 refine Al (v:=vi (c3.fmod 5)) (σ1:=[.list (cs.map fun x=>V.d x.data),.list (([48]::cs.map (·.1)++[t]).map vs)]) (by simp only [Ah,Ad,A5,Am,Aa,gz,gs,BE,Gd (sm4 k),hc3,AJ (show (5:Int)≠0 by decide)] <;> rfl) ?_
 refine BP (M:=fun ρ σ=>(∃ q:Int,0<=q/\q<=20/\ρ=[some (.d (scD ns)),some (vi most),some (.ref 0),some (.ref 1),some (vi k),some (vs t),some (.d (dl (AI fs))),some (.d (.list (ms.map fun m=>Ay (some m)))),z8,some (vi q)])/\σ=[.list (cs.map fun x=>V.d x.data),.list (([48]::cs.map (·.1)++[t]).map vs)]) ?_ ?_
 ·refine Ar (t:=decide ((c3.fdiv 5).fmod 16=1)) (σ1:=[.list (cs.map fun x=>V.d x.data),.list (([48]::cs.map (·.1)++[t]).map vs)]) (by simp only [Ah,Ad,A5,Ao,Am,Aa,gz,gs,sz,sy,CA,Br,BE,Gd (sm4 k),hc3,AJ (show (16:Int)≠0 by decide),Ce (show (5:Int)≠0 by decide)] <;> rfl) (fun h=>?_) (fun h=>?_)
  ·have g6:=AG (c3.fdiv 80) (j:=16) (by decide)
   exact Al (v:=vi (20-(c3.fdiv 80).fmod 16)) (σ1:=[.list (cs.map fun x=>V.d x.data),.list (([48]::cs.map (·.1)++[t]).map vs)]) (by simp only [Ah,Ad,A5,Am,Aa,gz,gs,sz,sy,BE,b_sub,Gd (sm4 k),hc3,AJ (show (16:Int)≠0 by decide),Ce (show (80:Int)≠0 by decide)] <;> rfl) (Av ⟨_,_,⟨⟨_,by lia,by lia,rfl⟩,rfl⟩,rfl⟩)
  ·exact Av ⟨_,_,⟨⟨_,g5.1,by lia,rfl⟩,rfl⟩,rfl⟩
 rintro _ _ ⟨⟨q,q0,q1,rfl⟩,rfl⟩
 obtain ⟨ds,d1,d2,d3⟩:=hdeeds t (cellOf ns (4 * k+2).toNat) q (AI fs) ms q0 (by lia) m1 (by lia)
 have hlc:(cs.map fun x=>V.d x.data).length < line:=by simp [line]; (exact BO ‹_› (by rfl))
 have hput:Bf .append true (.ref 0) [.d (change t (AI fs) ds)] [.list (cs.map fun x=>V.d x.data),.list (([48]::cs.map (·.1)++[t]).map vs)]=.ok (.d .none) [.list ((cs++[(t,AI fs,ds)]).map fun x=>V.d x.data),.list (([48]::(cs++[(t,AI fs,ds)]).map (·.1)).map vs)]:=by
  refine (if_pos hlc).trans ?_
  simp
 have hpre0:AK .append (.ref 0) [.list (cs.map fun x=>V.d x.data),.list (([48]::cs.map (·.1)++[t]).map vs)]=true:=rfl
 refine C6 (v:=.d .none) (σ1:=[.list ((cs++[(t,AI fs,ds)]).map fun x=>V.d x.data),.list (([48]::(cs++[(t,AI fs,ds)]).map (·.1)).map vs)]) ?_ (Av ⟨(t,AI fs,ds),_,_,_,_,_,⟨?_,hfl,?_,d2⟩,?_,rfl⟩)
 ·simp only [Ah,Ad,A5,Bj,Am,A1,By,An,Ap,Aa,gz,gs,BE,hpre0,if_true,Gd (sm4 k),sub_sc (4 * k+2) b5 b6 hns,hhd,d3,if_pos (len3 _ _ _),tup3]
  exact hput
 ·refine leans_ok t1 (tk:=cs.map (·.1)) (fun x hx=>hnm x (List.mem_cons_of_mem _ hx)) (List.nodup_cons.mp hnd).2 f1 (fun h=>t2 (List.mem_cons_of_mem _ h))
 ·show ds.length<=20
  lia
 ·rw [List.map_append,<-List.cons_append]
  rw [List.nodup_append]
  refine ⟨hnd,by simp,?_⟩
  intro a ha b hb e
  simp only [List.map_cons,List.map_nil,List.mem_singleton] at hb
  exact t2 (by rw [<-hb,<-e]; exact ha)
end
section
variable {fuel n:Nat} {hd:Bool} {σ:Store}
theorem P21:P03 21=some DI:=rfl
theorem P22:P03 22=some Flaw_one:=rfl
theorem bc_min {X:Nat->Nat->Option Bool} {fz:Bool} {i j:Int}:bcall X false .min fz [vi i,vi j] σ=.ok (vi (if j < i then j else i)) σ:=rfl
theorem min1 (m:Nat) (most:Int) (hm:m<=1000) (h0:0<=most) (h1:most<=20):0<=(if most < (m:Int).fdiv 4 then most else (m:Int).fdiv 4)/\(if most < (m:Int).fdiv 4 then most else (m:Int).fdiv 4)<=20/\4 * (if most < (m:Int).fdiv 4 then most else (m:Int).fdiv 4)<=m:=by
 rw [Int.fdiv_eq_ediv_of_nonneg _ (by decide)]
 split <;> lia
theorem run_changes {C:Cfg} (hhd:C.hd=false)
 (hname:∀ (c:Int) (tk:List (List Nat)),(∀ x∈tk,Aq x=true)->tk.length < 100->∃ x,Aq x=true/\x∉tk/\∀ σ k,σ[k]? = some (.list (tk.map vs))->C.cf false .frz 15 [vi c,.ref k] σ=.ok (vs x) σ)
 (hleans:∀ (c:Int) (cs:List Ch),cs.length<=20->∃ fs:List (List Nat),fs.Sublist (cs.map (·.1))/\∀ σ k,σ[k]? = some (.list (cs.map fun x=>V.d x.data))->C.cf false .frz 17 [vi c,.ref k] σ=.ok (.d (dl (AI fs))) σ)
 (hmarks:∀ (c:Ch),c.2.2.length<=100->∃ k:Nat,k<=c.2.2.length/\∀ σ,C.cf false .frz 18 [.d c.data] σ=.ok (.d (.list ((List.range k).map fun j:Nat=>Ay (some (c.1,(j:Int)))))) σ)
 (hdeeds:∀ (t:List Nat) (c many:Int) (ls:List (List Nat)) (ms:List (List Nat×Int)),0<=many->many<=100->(∀ m∈ms,m.1∈ls/\0<=m.2/\m.2 < 1000)->ms.length<=10000 ->
  ∃ ds:List Deed,ds.length=many.toNat/\(∀ d∈ds,DH Co t ls d)/\∀ σ,C.cf false .frz 19 [vs t,vi c,vi many,.d (.list (ms.map fun m=>Ay (some m)))] σ=.ok (.d (.list (ds.map Deed.data))) σ)
 (ns:List Int) (most:Int) (hns:ns.length<=1000) (h0:0<=most) (h1:most<=20) :
 Aw (fun r=>∃ (cs:List Ch) (o:O),cs.length<=20/\(∀ c∈cs,Cy c)/\r=.ok (.ret (.ref 0)) [.list (cs.map fun x=>V.d x.data),o])
  (execSs C CW.body [some (.d (scD ns)),some (vi most),none,none,none,none,none,none,none,none] []):=by
 show Aw _ (execSs C [_,_,_,_] _ [])
 refine Al (v:=.ref 0) (σ1:=[.list []]) (by simp only [Cn,An,Aa,A2] <;> rfl) ?_
 refine Al (v:=.ref 1) (σ1:=[.list [],.list [vs [48]]]) (by simp only [Ah,Cn,An,Ap,Aa,sz,sy,A2,k_zero] <;> rfl) ?_
 obtain ⟨m0,m1,m2⟩:=min1 ns.length most hns h0 h1
 have hr:evalEs C [.bcall .min true [.bin true .FloorDiv (.bcall .len true [.var 0]) (.cst (.int 4)),.var 1]] [some (.d (scD ns)),some (vi most),some (.ref 0),some (.ref 1),none,none,none,none,none,none] [.list [],.list [vs [48]]]=.ok [vi (if most < (ns.length:Int).fdiv 4 then most else (ns.length:Int).fdiv 4)] [.list [],.list [vs [48]]]:=by
  simp only [Ah,Ad,A5,A6,An,Ap,Aa,gz,gs,AQ,List.length_map,Ce (show (4:Int)≠0 by decide),hhd,bc_min]
 generalize (if most < (ns.length:Int).fdiv 4 then most else (ns.length:Int).fdiv 4)=m at m0 m1 m2 hr
 refine FW (l:=List.range m.toNat) (w:=fun j:Nat=>vi (j:Int)) (σ1:=[.list [],.list [vs [48]]])
  (fun pre (cs:List Ch)=>cs.length=pre.length/\(∀ c∈cs,Cy c)/\([48]::cs.map (·.1)).Nodup)
  (fun (cs:List Ch) ρ σ=>(∃ z4 z5 z6 z7 z8 z9,ρ=[some (.d (scD ns)),some (vi most),some (.ref 0),some (.ref 1),z4,z5,z6,z7,z8,z9])/\σ=[.list (cs.map fun x=>V.d x.data),.list (([48]::cs.map (·.1)).map vs)]) []
  (DS hhd hr (by lia) (by lia)) ⟨rfl,by simp,by simp⟩ ⟨⟨none,none,none,none,none,none,rfl⟩,rfl⟩ ?_ ?_
 ·rintro p j q cs ρ σ hp ⟨g0,g1,g2⟩ ⟨⟨z4,z5,z6,z7,z8,z9,rfl⟩,rfl⟩
  have hj:j < m.toNat:=by
   have:j∈List.range m.toNat:=by rw [hp]; simp
   simpa using this
  have hl:p.length < 20:=by
   have:=congrArg List.length hp
   simp at this; lia
  obtain ⟨c,y5,y6,y7,y8,y9,k1,k2,k3⟩:=turn_changes hhd hname hleans hmarks hdeeds ns most (j:Int) hns (by (exact Int.natCast_nonneg _)) (by lia) cs (by lia) g1 g2 z5 z6 z7 z8 z9
  refine ⟨cs++[c],_,_,⟨by simp [g0],?_,k2⟩,⟨⟨_,_,_,_,_,_,rfl⟩,rfl⟩,k3⟩
  intro x hx
  simp only [List.mem_append,List.mem_singleton] at hx
  rcases hx with hx | rfl
  ·exact g1 x hx
  ·exact k1
 ·rintro cs ρ σ ⟨g0,g1,g2⟩ ⟨⟨z4,z5,z6,z7,z8,z9,rfl⟩,rfl⟩
  refine Ax (v:=.ref 0) (σ1:=_) rfl ⟨cs,_,?_,g1,rfl⟩
  simp at g0; lia
theorem ev_changes (ns:List Int) (most:Int) (hns:ns.length<=1000) (h0:0<=most) (h1:most<=20) :
 ∃ cs:List Ch,cs.length<=20/\(∀ c∈cs,Cy c)/\∀ σ,Ag P03 isExc fuel (n+3) false .frz 20 [.d (scD ns),vi most] σ=.ok (.d (.list (cs.map Ch.data))) σ:=by
 obtain ⟨cs,o,k1,k2,k3⟩:=run_changes (C:=⟨Ag P03 isExc fuel (n+2),isExc,fuel,false⟩) rfl (fun c tk h1 h2=>by
  obtain ⟨x,e1,e2,_,e4⟩:=ev_name (fuel:=fuel) (n:=n) c tk h1 h2
  exact ⟨x,e1,e2,e4⟩) (fun c cs h=>ev_leans c cs h) (fun c h=>ev_marks c.1 c.2.1 c.2.2 h) (fun t c many ls ms h0 h1 h2 h3=>ev_deeds t c many ls ms h0 h1 h2 h3) ns most hns h0 h1
 exact ⟨cs,k1,k2,fun σ=>AR P20 rfl (A9 rfl k3) (FE (by rw [List.map_map]; rfl))⟩
end
section
variable {fuel n:Nat} {hd:Bool} {σ:Store}
theorem b_catT (a b:List PyData) (h:a.length+b.length<=line):Dm true .Add (.d (.tuple a)) (.d (.tuple b)) σ=.ok (.d (.tuple (a++b))) σ:=if_pos h
noncomputable def FA:Option (List Nat)->List PyData
 | none=>[]
 | some l=>[.str (Tx l)]
theorem data_eq (d:Deed):d.data=.tuple ([.str (Tx d.word),Ay d.mark]++FA d.text):=by
 cases h:d.text <;> simp only [Deed.data,FA,h]
theorem sl_tup {xs:List PyData} (h:2<=xs.length):slice true (.d (.tuple xs)) (some (vi 2)) none σ=.ok (.d (.tuple (xs.drop 2))) σ:=by
 have h1:(1:Int)<=2/\(2:Int)<=xs.length:=by lia
 show (match (if (1:Int)<=2/\(2:Int)<=xs.length then some (xs.drop (2:Int).toNat) else none) with | some ys=>Res.ok (V.d (.tuple ys)) σ | none=>.bad)=_
 rw [if_pos h1]; rfl
theorem sl_deed (d:Deed):slice true (.d d.data) (some (vi 2)) none σ=.ok (.d (.tuple (FA d.text))) σ:=by
 rw [data_eq,sl_tup (by simp)]; rfl
theorem sub_m0 (m:List Nat×Int):A4 (.d (Ay (some m))) (vi 0) σ=some (vs m.1):=BX 0 (by decide) (by decide) rfl
theorem sub_m1 (m:List Nat×Int):A4 (.d (Ay (some m))) (vi 1) σ=some (vi m.2):=BX 1 (by decide) (by decide) rfl
theorem run_numbered {C:Cfg} (hhd:C.hd=false) (hm:∀ c k σ,C.cf false .frz 14 [vi c,vi k] σ=.ok (vi (B9 c k)) σ) (c:Int) (ch:Ch) (hg:Cy ch) :
 Aw (fun r=>∃ ds:List Deed,ds.length<=20/\(∀ d∈ds,DH Co ch.1 ch.2.1 d)/\r=.ok (.ret (.tup [vs ch.1,.d (dl ch.2.1),.ref 0])) [.list (ds.map fun d=>.d d.data)])
  (execSs C DI.body [some (.d ch.data),some (vi c),none,none,none,none] []):=by
 show Aw _ (execSs C [_,_,_] _ [])
 refine Al (v:=.ref 0) (σ1:=[.list []]) (by simp only [Cn,An,Aa,A2] <;> rfl) ?_
 have hit:=it_enum (C:=C) (e:=.sub (.var 0) (.cst (.int 2))) (ρ:=[some (.d ch.data),some (vi c),some (.ref 0),none,none,none]) (σ:=[.list []]) (σ1:=[.list []]) (xs:=ch.2.2.map Deed.data) hhd (by simp only [Ah,Ad,Am,Aa,gz,DZ] <;> rfl)
 have hz:(ch.2.2.map Deed.data).zipIdx.map (fun p=>V.d (.tuple [.int (p.2:Int),p.1]))=ch.2.2.zipIdx.map fun p=>V.d (.tuple [.int (p.2:Int),Deed.data p.1]):=by
  rw [List.zipIdx_map,List.map_map]; rfl
 rw [hz] at hit
 refine go_foldT (l:=ch.2.2.zipIdx) (σ1:=[.list []]) (fun p=>.int (p.2:Int)) (fun p=>Deed.data p.1) (fun pre (ds:List Deed)=>ds.length=pre.length/\∀ d∈ds,DH Co ch.1 ch.2.1 d)
  (fun (ds:List Deed) ρ σ=>(∃ z3 z4 z5,ρ=[some (.d ch.data),some (vi c),some (.ref 0),z3,z4,z5])/\σ=[.list (ds.map fun d=>.d d.data)]) [] hhd hit ⟨rfl,by simp⟩ ⟨⟨none,none,none,rfl⟩,rfl⟩ ?_ ?_
 ·rintro p ⟨d,i⟩ q ds ρ σ hp ⟨g0,g1⟩ ⟨⟨z3,z4,z5,rfl⟩,rfl⟩
  have hd:DH Co ch.1 ch.2.1 d:=by
   refine hg.good d ?_
   have h1:(d,i)∈ch.2.2.zipIdx:=by rw [hp]; simp
   have:=List.mem_zipIdx' h1
   exact List.mem_of_getElem this.2.symm
  have hlen:ds.length < 20:=by
   have h2:=congrArg List.length hp
   have:=hg.deeds
   simp at h2; lia
  show Aw (fun r=>∃ (s':List Deed) (ρ':Au) (σ':Store),(s'.length=(p++[(d,i)]).length/\∀ d∈s',DH Co ch.1 ch.2.1 d)/\((∃ z3 z4 z5,ρ'=[some (.d ch.data),some (vi c),some (.ref 0),z3,z4,z5])/\σ'=[.list (s'.map fun d=>.d d.data)])/\r=.ok (.next ρ') σ') (execSs C [_,_,_,_] _ _)
  refine Al (v:=.d (Ay d.mark)) (σ1:=[.list (ds.map fun d=>.d d.data)]) (by simp only [Ah,Ad,Am,Aa,gz,gs,sz,sy,AS] <;> rfl) ?_
  refine BP (M:=fun ρ σ=>(∃ o:Option (List Nat×Int),DH Co ch.1 ch.2.1 ⟨d.word,o,d.text⟩/\ρ=[some (.d ch.data),some (vi c),some (.ref 0),some (vi i),some (.d d.data),some (.d (Ay o))])/\σ=[.list (ds.map fun d=>.d d.data)]) ?_ ?_
  ·refine Ar (t:=(!d.mark.isNone)&&decide ((c+i).fmod 3=1)) (σ1:=[.list (ds.map fun d=>.d d.data)]) (Cv (by simp only [Ah,Ad,Ao,Aa,gz,gs,sz,sy,Gc,Bx,Ct] <;> rfl) (fun _=>(by simp only [Ah,Ad,A5,Ao,Aa,gz,gs,sz,sy,CA,Br,BE,AJ (show (3:Int)≠0 by decide)] <;> rfl))) (fun h=>?_) (fun h=>?_)
   ·obtain ⟨w,mk,tx⟩:=d
    induction mk with
    | none=>exact ff_ h
    | some m =>
     have g9:=AG (B9 c i) (j:=1000000000) (by decide)
     refine Al (v:=.d (Ay (some (m.1,(B9 c i).fmod 1000000000)))) (σ1:=[.list (ds.map fun d=>.d d.data)]) (by simp only [Ah,Ad,A5,Bj,Am,A1,An,Ap,Aa,gz,gs,sz,sy,hm,hhd,AJ (show (1000000000:Int)≠0 by decide),sub_m0,if_pos (len2 _ _),tup2]; rfl) (Av ⟨_,_,⟨⟨some (m.1,(B9 c i).fmod 1000000000),⟨?_,?_⟩,rfl⟩,rfl⟩,rfl⟩)
     ·rcases hd.shape with ⟨l,e1,e2,e3 | ⟨e3,e4⟩⟩ | ⟨e1,e2,e3⟩
      ·exact .inl ⟨l,e1,e2,.inl e3⟩
      ·exact .inl ⟨l,e1,e2,.inr ⟨e3,fun e=>by exact AT e⟩⟩
      ·exact .inr ⟨e1,e2,fun e=>by exact AT e⟩
     ·intro m' e; obtain rfl:=Option.some.inj e
      exact ⟨(hd.mark m rfl).1,g9.1,g9.2⟩
   ·exact Av ⟨_,_,⟨⟨d.mark,hd,rfl⟩,rfl⟩,rfl⟩
  rintro _ _ ⟨⟨o,ho,rfl⟩,rfl⟩
  refine BP (M:=fun ρ σ=>(∃ o:Option (List Nat×Int),DH Co ch.1 ch.2.1 ⟨d.word,o,d.text⟩/\ρ=[some (.d ch.data),some (vi c),some (.ref 0),some (vi i),some (.d d.data),some (.d (Ay o))])/\σ=[.list (ds.map fun d=>.d d.data)]) ?_ ?_
  ·refine Ar (t:=(!o.isNone)&&decide ((c+i).fmod 5=2)) (σ1:=[.list (ds.map fun d=>.d d.data)]) (Cv (by simp only [Ah,Ad,Ao,Aa,gz,gs,Gc,Bx,Ct] <;> rfl) (fun _=>(by simp only [Ah,Ad,A5,Ao,Aa,gz,gs,CA,Br,BE,AJ (show (5:Int)≠0 by decide)] <;> rfl))) (fun h=>?_) (fun h=>?_)
   ·induction o with
    | none=>exact ff_ h
    | some m =>
     refine Al (v:=.d (Ay (some (ch.1,m.2)))) (σ1:=[.list (ds.map fun d=>.d d.data)]) (by simp only [Ah,Ad,Bj,Am,An,Ap,Aa,gz,gs,sub_m1,CU,if_pos (len2 _ _),tup2]; rfl) (Av ⟨_,_,⟨⟨some (ch.1,m.2),⟨?_,?_⟩,rfl⟩,rfl⟩,rfl⟩)
     ·rcases ho.shape with ⟨l,e1,e2,e3 | ⟨e3,e4⟩⟩ | ⟨e1,e2,e3⟩
      ·exact .inl ⟨l,e1,e2,.inl e3⟩
      ·exact .inl ⟨l,e1,e2,.inr ⟨e3,fun e=>by exact AT e⟩⟩
      ·exact .inr ⟨e1,e2,fun e=>by exact AT e⟩
     ·intro m' e; obtain rfl:=Option.some.inj e
      exact ⟨.inl rfl,(ho.mark m rfl).2⟩
   ·exact Av ⟨_,_,⟨⟨o,ho,rfl⟩,rfl⟩,rfl⟩
  clear ho
  rintro _ _ ⟨⟨o,ho,rfl⟩,rfl⟩
  have hll:(ds.map fun d=>V.d d.data).length < line:=by simp [line]; (exact BO ‹_› (by rfl))
  have put:Bf .append true (.ref 0) [.d (Deed.data ⟨d.word,o,d.text⟩)] [.list (ds.map fun d=>.d d.data)]=.ok (.d .none) [.list ((ds++[(⟨d.word,o,d.text⟩:Deed)]).map fun d:Deed=>V.d d.data)]:=by
   refine (if_pos hll).trans ?_
   simp
  have hpre:AK .append (.ref 0) [.list (ds.map fun d=>V.d d.data)]=true:=rfl
  have hcat:=b_catT (σ:=[.list (ds.map fun d=>V.d d.data)]) [.str (Tx d.word),Ay o] (FA d.text) (by cases d.text <;> simp [FA,line])
  refine C6 (v:=.d .none) (σ1:=[.list ((ds++[(⟨d.word,o,d.text⟩:Deed)]).map fun d:Deed=>V.d d.data)]) ?_ (Av ⟨ds++[⟨d.word,o,d.text⟩],_,_,⟨by simp [g0],?_⟩,⟨⟨_,_,_,rfl⟩,rfl⟩,rfl⟩)
  ·simp only [Ah,Ad,A5,Bj,Am,Bm,By,An,Ap,CM,C8,Aa,gz,gs,hpre,if_true,Bl,if_pos (len2 _ _),tup2,sl_deed,hcat]
   rw [data_eq] at put
   exact put
  ·intro x hx
   simp only [List.mem_append,List.mem_singleton] at hx
   rcases hx with hx | rfl
   ·exact g1 x hx
   ·exact ho
 ·rintro ds ρ σ ⟨g0,g1⟩ ⟨⟨z3,z4,z5,rfl⟩,rfl⟩
  refine Ax (v:=.tup [vs ch.1,.d (dl ch.2.1),.ref 0]) (σ1:=[.list (ds.map fun d=>.d d.data)]) ?_ ⟨ds,?_,g1,rfl⟩
  ·simp only [Ah,Ad,Bj,Am,An,Ap,Aa,gz,gs,CU,Ds,if_pos (len3 _ _ _)]; rfl
  ·have:=hg.deeds; simp at g0; lia
theorem snap_refN {k m:Nat} {l:List PyData} (h:σ[k]? = some (.list (l.map .d))):Be σ (m+2) (.ref k)=some (.list l):=by
 show snapO (Be σ (m+1)) σ[k]? = _
 rw [h]
 show (match Ca (Be σ (m+1)) (l.map .d) with | some xs=>some (PyData.list xs) | none=>none)=_
 rw [snapL_d]
theorem snap_tup3 (a b:PyData) (l:List PyData):Be [.list (l.map .d)] 8 (.tup [.d a,.d b,.ref 0])=some (.tuple [a,b,.list l]):=by
 have h:Be [.list (l.map .d)] 7 (.ref 0)=some (.list l):=snap_refN (k:=0) (m:=5) rfl
 have h2:∀ y,Be [.list (l.map .d)] 7 (.d y)=some y:=fun _=>rfl
 show (match Ca (Be [.list (l.map .d)] 7) [.d a,.d b,.ref 0] with | some xs=>some (PyData.tuple xs) | none=>none)=_
 simp only [Ca,h2,h]
theorem ev_numbered (c:Int) (ch:Ch) (hg:Cy ch):∃ ch':Ch,Cy ch'/\∀ σ,Ag P03 isExc fuel (n+2) false .frz 21 [.d ch.data,vi c] σ=.ok (.d ch'.data) σ:=by
 obtain ⟨ds,k1,k2,k3⟩:=run_numbered (C:=⟨Ag P03 isExc fuel (n+1),isExc,fuel,false⟩) rfl (fun c k σ=>FX c k) c ch hg
 refine ⟨(ch.1,ch.2.1,ds),⟨hg.leans,hg.few,k1,k2⟩,fun σ=>AR P21 rfl (A9 rfl k3) ?_⟩
 have e:(ds.map fun d=>V.d d.data)=(ds.map Deed.data).map .d:=by rw [List.map_map]; rfl
 rw [e]
 exact snap_tup3 _ _ _
theorem k_a:Str.ofString "a" = Tx [97]:=by decide +kernel
theorem ev_one (ns:List Int) (hns:ns.length<=1000):∃ ch:Ch,Cy ch/\∀ σ,Ag P03 isExc fuel (n+4) false .frz 22 [.d (scD ns),vi 6] σ=.ok (.d ch.data) σ:=by
 obtain ⟨cs,c1,c2,c3⟩:=ev_changes (fuel:=fuel) (n:=n) ns 6 hns (by decide) (by decide)
 have key:Aw (fun r=>∃ ch:Ch,Cy ch/\r=.ok (.ret (.d ch.data)) []) (execSs ⟨Ag P03 isExc fuel (n+3),isExc,fuel,false⟩ Flaw_one.body [some (.d (scD ns)),some (vi 6),none,none] []):=by
  have hce:=fun σ=>ev_cell (fuel:=fuel) (n:=n+2) (σ:=σ) ns 1 (by decide) (by decide)
  have hnu:=fun c ch hg=>ev_numbered (fuel:=fuel) (n:=n+1) c ch hg
  generalize hC:(⟨Ag P03 isExc fuel (n+3),isExc,fuel,false⟩:Cfg)=C
  have hhd:C.hd=false:=by rw [<-hC]
  have hcf:C.cf=Ag P03 isExc fuel (n+3):=by rw [<-hC]
  show Aw _ (execSs C [_,_,_,_] _ [])
  refine Al (v:=.d (.list (cs.map Ch.data))) (σ1:=[]) (by simp only [Ad,A1,An,Ap,Aa,gz,gs,hcf,hhd,c3] <;> rfl) ?_
  refine Ar (t:=cs.isEmpty) (σ1:=[]) ?_ (fun h=>?_) (fun h=>?_)
  ·rw [eA_8]
   simp only [Ad,Aa,gz,gs,sz,sy]
   show Res.ok (V.d (.bool (!(!(cs.map Ch.data).isEmpty)))) _=_
   rw [Bool.not_not,List.isEmpty_map]
  ·refine Ax (v:=.d (change [97] [] [])) (σ1:=[]) ?_ ⟨([97],[],[]),⟨by decide,by decide,by decide,by simp⟩,rfl⟩
   simp only [Ah,Bj,Cn,An,Ap,Aa,sz,sy,k_a,A2,EX,List.length_nil,if_pos (Nat.zero_le line),if_pos (len3 _ _ _),tup3]; rfl
  ·have hp:0 < cs.length:=by
    induction cs with
    | nil=>exact tt_ h
    | cons _ _=>simp
   refine Al (v:=vi (cellOf ns (1:Int).toNat)) (σ1:=[]) (by simp only [Ah,Ad,A1,An,Ap,Aa,gz,sz,sy,hcf,hhd,hce] <;> rfl) ?_
   generalize cellOf ns (1:Int).toNat=c
   have hm:=AG c (j:=(cs.length:Int)) (arr hp)
   have hi:(c.fmod cs.length).toNat < cs.length:=by omega
   have hs:A4 (.d (.list (cs.map Ch.data))) (vi (c.fmod cs.length)) []=some (.d (Ch.data cs[(c.fmod cs.length).toNat])):=El _ hm.1 (by omega) (by rw [List.getElem?_map,List.getElem?_eq_getElem hi]; rfl)
   obtain ⟨ch,e1,e2⟩:=hnu (c.fdiv 7) cs[(c.fmod cs.length).toNat] (c2 _ (List.getElem_mem hi))
   refine Ax (v:=.d ch.data) (σ1:=[]) (by simp only [Ah,Ad,A5,Am,A6,A1,An,Ap,Aa,gz,gs,sz,sy,AQ,hcf,hhd,List.length_map,AJ (ars hp),hs,Ce (show (7:Int)≠0 by decide),e2] <;> rfl) ⟨ch,e1,rfl⟩
 obtain ⟨ch,k1,k2⟩:=key
 exact ⟨ch,k1,fun σ=>AR P22 rfl (A9 rfl k2) rfl⟩
end
theorem joinS_Tx (sep:List Nat):∀ l:List (List Nat),Str.join (Tx sep) (l.map Tx)=Tx (AY sep l)
 | []=>rfl
 | [a]=>by rw [Bt]; rfl
 | a::b::r=>by
  have ih:=joinS_Tx sep (b::r)
  simp only [List.map_cons,Str.join] at ih ⊢
  rw [ih,Tx_app,Tx_app,AO]
theorem join_Tx (sep:List Nat) (l:List (List Nat)):Txt.join (Tx sep) (l.map Tx)=Tx (AY sep l):=by
 show Builtin.Str.glued _ _=_
 rw [StrLaws.glued_eq_join,joinS_Tx]
theorem split_nil (c:Nat):Txt.split (Tx []) (Tx [c])=[Tx []]:=rfl
theorem split_Tx (c:Nat) (t:List Nat):Txt.split (Tx t) (Tx [c])=(Ai c t).map Tx:=by
 by_cases h0:t=[]
 ·subst h0; exact split_nil c
 have h1:=StrLaws.join_split (Tx t) (Tx [c])
 have h2:∀ p∈Txt.split (Tx t) (Tx [c]),c∉p.cps.toList:=StrLaws.split_free (Tx t) c
 generalize Txt.split (Tx t) (Tx [c])=S at h1 h2
 have h3:S=(S.map fun p=>p.cps.toList).map Tx:=by
  rw [List.map_map]
  exact (List.map_id S).symm.trans (List.map_congr_left fun p _=>(F5 p).symm)
 rw [h3,joinS_Tx] at h1
 have h4:=Tx_inj h1
 rw [h3]
 congr 1
 refine sepL_inj ?_ (Bk c t) ?_ (split_free c t) (h4.trans (DN c t).symm)
 ·intro e; rw [e] at h4; exact h0 h4.symm
 ·intro a ha
  obtain ⟨p,hp,rfl⟩:=List.mem_map.mp ha
  exact h2 p hp
theorem occ1 (c:Nat) (y a b:List Nat) (hc:c∉a):∃ r,Builtin.Str.occurrences (Tx (a++c::y++b)) (Tx (c::y)) 0 (Tx (a++c::y++b)).length 1=a.length::r:=by
 have hat:StrLaws.At (Tx (a++c::y++b)) (Tx (c::y)) (Tx (a++c::y++b)).length a.length:=by
  refine ⟨by simp [BS],?_⟩
  rw [StrLaws.subAt_eq,BB,BB,BS]
  simp
 have hn:∀ i,i < a.length->¬ StrLaws.At (Tx (a++c::y++b)) (Tx (c::y)) (Tx (a++c::y++b)).length i:=by
  rintro i hi ⟨_,h⟩
  rw [StrLaws.subAt_eq,BB,BB,BS] at h
  have h':=eq_of_beq h
  have h2:((List.drop i (a++c::y++b)).take (c::y).length)[0]? = some c:=by rw [h']; rfl
  rw [List.getElem?_take,if_pos (by simp),List.getElem?_drop,Nat.add_zero,List.append_assoc,List.getElem?_append_left hi] at h2
  exact hc (List.mem_of_getElem? h2)
 rcases StrLaws.occ_head (Tx (a++c::y++b)) (Tx (c::y)) 1 (Nat.le_refl _) with ⟨_,h⟩ | ⟨i,r,h1,h2,h3⟩
 ·exact absurd hat (h _)
 ·have:i=a.length:=by
   rcases Nat.lt_trichotomy i a.length with h | h | h
   ·exact absurd h2 (hn i h)
   ·exact h
   ·exact absurd hat (h3 _ h)
  exact ⟨r,by rw [h1,this]⟩
theorem find_Tx (c:Nat) (y a b:List Nat) (hc:c∉a):Txt.find (Tx (a++c::y++b)) (Tx (c::y))=(a.length:Int):=by
 obtain ⟨r,h⟩:=occ1 c y a b hc
 unfold Txt.find
 rw [h]
theorem sub_Tx (l:List Nat) (i j:Nat):Builtin.Str.strSub (Tx l) i j=Tx ((l.drop i).take (j-i)):=by
 rw [<-F5 (Builtin.Str.strSub (Tx l) i j),StrLaws.strSub_toList,BB]
noncomputable def fig (n:Int):List Nat:=(strOf n).cps.toList
theorem strOf_Tx (n:Int):strOf n=Tx (fig n):=(F5 _).symm
theorem fig_nat (m:Nat):fig (m:Int)=(Nat.toDigits 10 m).map Char.toNat:=PySem.W.KIN.signs_num m
theorem G0 {n:Int} (h0:0<=n):∀ c∈fig n,48<=c/\c<=57:=by
 obtain ⟨m,rfl⟩:=Int.eq_ofNat_of_zero_le h0
 intro c hc
 rw [fig_nat m] at hc
 obtain ⟨ch,hch,e⟩:=List.mem_map.mp hc
 have r:=PyProof.Rows.digit_range (Nat.isDigit_of_mem_toDigits (by decide) (by decide) hch)
 rw [<-e]; exact r
theorem fig_len {n:Int} (h0:0<=n) (h1:n < 1000000000):1<=(fig n).length/\(fig n).length<=9:=by
 obtain ⟨m,rfl⟩:=Int.eq_ofNat_of_zero_le h0
 rw [fig_nat m,List.length_map]
 refine ⟨Nat.length_toDigits_pos,(Nat.length_toDigits_le_iff (by decide) (by decide)).mpr ?_⟩
 have:(m:Int) < 1000000000:=h1
 (exact Int.ofNat_le.mp ‹_›)
theorem dig_lead (m:Nat):∀ r,(Nat.toDigits 10 m).map Char.toNat=48::r->r=[]:=by
 induction m using Nat.strongRecOn with
 | _ m ih =>
  intro r h
  by_cases hm:m < 10
  ·rw [Nat.toDigits_of_lt_base hm] at h
   simp at h; exact h.2.symm▸rfl
  ·have h10:m % 10 < 10:=Nat.mod_lt m (by decide)
   have t:Nat.toDigits 10 (m / 10)++Nat.toDigits 10 (m % 10)=Nat.toDigits 10 (10 * (m / 10)+m % 10):=Nat.toDigits_append_toDigits (by decide) (by lia) h10
   rw [Nat.div_add_mod] at t
   rw [<-t,List.map_append] at h
   induction hq:(Nat.toDigits 10 (m / 10)).map Char.toNat with
   | nil=>exact absurd (List.map_eq_nil_iff.mp hq) Nat.toDigits_ne_nil
   | cons x xs =>
    rw [hq,List.cons_append] at h
    simp only [List.cons.injEq] at h
    have hx:=ih (m / 10) (by lia) xs (by rw [hq,h.1])
    exfalso
    have hv:=PySem.W.KIN.val_back (m / 10)
    rw [hq,hx,h.1] at hv
    have:m / 10=0:=by rw [<-hv]; decide
    lia
theorem fig_lead {n:Int} (h0:0<=n) {r:List Nat} (h:fig n=48::r):r=[]:=by
 obtain ⟨m,rfl⟩:=Int.eq_ofNat_of_zero_le h0
 rw [fig_nat m] at h
 exact dig_lead m r h
noncomputable def BC:List Nat:=[99,104,97,110,103,101]
noncomputable def kon:List Nat:=[111,110]
theorem k_chg:Str.ofString "change " = Tx (BC++[32]):=by decide +kernel
theorem k_chg0:Str.ofString "change" = Tx BC:=by decide +kernel
theorem k_on:Str.ofString "on" = Tx kon:=by decide +kernel
theorem k_on2:Str.ofString " on " = Tx ([32]++kon++[32]):=by decide +kernel
theorem k_sp:Str.ofString " " = Tx [32]:=by decide +kernel
theorem k_nl:Str.ofString "\n" = Tx [10]:=by decide +kernel
theorem k_bar:Str.ofString "-" = Tx [45]:=by decide +kernel
theorem k_cuts:Str.ofString "cut " = Tx (AW++[32]):=by decide +kernel
noncomputable def A8:Option (List Nat×Int)->List Nat
 | none=>[45]
 | some m=>m.1++[32]++fig m.2
noncomputable def BZ:Option (List Nat)->List Nat
 | none=>[]
 | some l=>[58,32]++l
noncomputable def deedT (d:Deed):List Nat:=d.word++[32]++A8 d.mark++BZ d.text
noncomputable def AD (t:List Nat) (ls:List (List Nat)):List (List Nat):=BC::t::(match ls with | []=>[] | _::_=>kon::ls)
noncomputable def A0 (c:Ch):List Nat:=AY [10] (AY [32] (AD c.1 c.2.1)::c.2.2.map deedT)
noncomputable def Do (o:Option (List Nat×Int)):Prop:=∀ m,o=some m->Aq m.1=true/\0<=m.2/\m.2 < 1000000000
structure EE (d:Deed):Prop where
 mark:Do d.mark
 shape:(d.word=AW/\d.text=none)\/((d.word=Cp\/d.word=Fq)/\∃ l,d.text=some l/\AU l=true)
structure Fine (c:Ch):Prop where
 name:Aq c.1=true
 leans:∀ x∈c.2.1,Aq x=true
 few:c.2.1.length<=10000
 deeds:c.2.2.length<=20
 each:∀ d∈c.2.2,EE d
theorem GoodCh.fine {c:Ch} (h:OkCh c):Fine c:=by
 have hl:=h.leans
 simp only [AX,Bool.and_eq_true,List.all_eq_true] at hl
 obtain ⟨⟨⟨h1,h2⟩,_⟩,_⟩:=hl
 refine ⟨h1,h2,h.few,h.deeds,fun d hd=>⟨fun m hm=>?_,?_⟩⟩
 ·have q_z:=(h.good d hd).mark m hm
  have e1:=q_z.1
  have e2:=q_z.2
  refine ⟨?_,e2⟩
  rcases e1 with e | e
  ·rw [e]; exact h1
  ·exact h2 _ e
 ·rcases (h.good d hd).shape with ⟨l,e1,e2,e3⟩ | ⟨e1,e2,e3⟩
  ·refine .inr ⟨?_,l,e2,e1⟩
   rcases e3 with e | e
   ·exact .inl e
   ·exact .inr e.1
  ·exact .inl ⟨e1,e2⟩
theorem FP {t:List Nat} (h:Aq t=true) {c:Nat} (hc:c∉AB):c∉t:=fun e=>hc (name_in h c e)
theorem FR {t:List Nat} (h:AU t=true):t.length<=200:=((FS t).mp h).1
theorem FQ {o:Option (List Nat×Int)} (h:Do o):(A8 o).length<=22:=by
 induction o with
 | none=>decide
 | some m =>
  have q_z:=h m rfl
  have h1:=q_z.1
  have h2:=q_z.2.1
  have h3:=q_z.2.2
  have e1:=B4 h1
  have e2:=fig_len h2 h3
  simp [A8]; lia
theorem EK (sep:List Nat) {B:Nat}:∀ l:List (List Nat),(∀ t∈l,t.length<=B)->(AY sep l).length<=l.length * (B+sep.length)
 | [],_=>by simp [AY]
 | [a],h=>by
  have:=h a (by simp)
  rw [Bt]; simp; lia
 | a::b::r,h=>by
  have ih:=EK sep (b::r) (fun t ht=>h t (List.mem_cons_of_mem _ ht))
  have:=h a (by simp)
  rw [AO,List.length_cons,Nat.succ_mul]
  simp only [List.length_append]; lia
theorem joinOkB (sep:List Nat) {B:Nat} (l:List (List Nat)) (h:∀ t∈l,t.length<=B) (hb:l.length * B+l.length * sep.length<=16777216):JoinOk (Tx sep) (l.map Tx)=true:=by
 refine PyProof.Rows.joinOk_of ?_
 have h1:=StrLaws.sumLen_le (B:=B) (l.map Tx) (by
  intro y hy
  obtain ⟨t,ht,rfl⟩:=List.mem_map.mp hy
  rw [BS]; exact h t ht)
 simp only [List.length_map,BS] at h1 ⊢
 lia
section
variable {fuel n:Nat} {hd:Bool} {σ:Store} {X:Nat->Nat->Option Bool} {fz:Bool}
theorem Q6:P03 6=some D9:=rfl
theorem Q7:P03 7=some GA:=rfl
theorem Q23:P03 23=some D9:=rfl
theorem Q24:P03 24=some Fj:=rfl
theorem Q25:P03 25=some Em:=rfl
theorem bc_str {i:Int} (h0:0<=i) (h:i < 1000000000):bcall X hd .str fz [vi i] σ=.ok (vs (fig i)) σ:=by
 have:i.natAbs < 1000000000000:=by lia
 refine (if_pos this).trans ?_
 rw [strOf_Tx]
theorem Fa {C:Cfg} (o:Option (List Nat×Int)) (h:Do o):Aw (fun r=>r=.ok (.ret (vs (A8 o))) []) (execSs C D9.body [some (.d (Ay o))] []):=by
 show Aw _ (execSs C [_,_] _ [])
 refine Ar (t:=o.isNone) (σ1:=[]) (by simp only [Ah,Ad,Ao,Aa,gz,c_is,Ct] <;> rfl) (fun e=>?_) (fun e=>?_)
 ·induction o with
  | none=>exact Ax (v:=vs [45]) (σ1:=[]) (by simp only [Ah,k_bar] <;> rfl) rfl
  | some m=>exact ff_ e
 ·induction o with
  | none=>exact tt_ e
  | some m =>
   have q_z:=h m rfl
   have h1:=q_z.1
   have h2:=q_z.2.1
   have h3:=q_z.2.2
   have e1:=B4 h1
   have e2:=fig_len h2 h3
   have c1:=Bp (fz:=true) (σ:=[]) m.1 [32] (by simp [line]; lia)
   have c2:=Bp (fz:=true) (σ:=[]) (m.1++[32]) (fig m.2) (by simp [line]; lia)
   exact Ax (v:=vs (m.1++[32]++fig m.2)) (σ1:=[]) (by simp only [Ah,Ad,A5,Am,A6,An,Ap,Aa,gz,sub_m0,sub_m1,k_sp,c1,bc_str h2 h3,c2] <;> rfl) rfl
theorem ev_mark_text (o:Option (List Nat×Int)) (h:Do o):Ag P03 isExc fuel (n+1) false .frz 6 [.d (Ay o)] σ=.ok (vs (A8 o)) σ:=AR Q6 rfl (A9 rfl (Fa o h)) rfl
theorem ev_mark_row (o:Option (List Nat×Int)) (h:Do o):Ag P03 isExc fuel (n+1) false .frz 23 [.d (Ay o)] σ=.ok (vs (A8 o)) σ:=AR Q23 rfl (A9 rfl (Fa o h)) rfl
theorem deed_len {d:Deed} (h:EE d):(deedT d).length<=300:=by
 have h1:=FQ h.mark
 rcases h.shape with ⟨e1,e2⟩ | ⟨e1,l,e2,e3⟩
 ·simp only [deedT,e1,e2,BZ,List.length_append,List.length_nil]; simp [AW]; lia
 ·have h2:=FR e3
  have h3:d.word.length=3:=by rcases e1 with e | e <;> rw [e] <;> rfl
  simp only [deedT,e2,BZ,List.length_append,h3]; simp; lia
theorem wd3 {d:Deed} (h:EE d):d.word.length=3:=by
 rcases h.shape with ⟨e,_⟩ | ⟨e | e,_⟩ <;> rw [e] <;> rfl
theorem ev_deed_row (d:Deed) (h:EE d):Ag P03 isExc fuel (n+2) false .frz 24 [.d d.data] σ=.ok (vs (deedT d)) σ:=by
 refine AR (v:=vs (deedT d)) (σ1:=[]) Q24 rfl (A9 rfl ?_) rfl
 have hm:=ev_mark_row (fuel:=fuel) (n:=n) (σ:=[]) d.mark h.mark
 have hml:=FQ h.mark
 have hw:=wd3 h
 generalize hC:(⟨Ag P03 isExc fuel (n+1),isExc,fuel,false⟩:Cfg)=C
 have hhd:C.hd=false:=by rw [<-hC]
 have hcf:C.cf=Ag P03 isExc fuel (n+1):=by rw [<-hC]
 show Aw (fun r=>r=_) (execSs C [_,_] [some (.d d.data)] [])
 refine Ar (t:=decide (d.word=AW)) (σ1:=[]) (by simp only [Ah,Ad,Ao,Am,Aa,gz,CA,Ba,Bl,E1] <;> rfl) (fun e=>?_) (fun e=>?_)
 ·have e:=of_decide_eq_true e
  have c1:=Bp (fz:=true) (σ:=[]) (AW++[32]) (A8 d.mark) (by simp [line,AW]; lia)
  refine Ax (v:=vs (AW++[32]++A8 d.mark)) (σ1:=[]) (by simp only [Ah,Ad,A5,Am,A1,An,Ap,Aa,gz,k_cuts,AS,hcf,hhd,hm,c1] <;> rfl) ?_
  rcases h.shape with ⟨e1,e2⟩ | ⟨e1,l,e2,e3⟩
  ·simp only [deedT,e1,e2,BZ,List.append_nil]
  ·rw [e] at e1; exact absurd e1 (by decide)
 ·have e:=of_decide_eq_false e
  rcases h.shape with ⟨e1,e2⟩ | ⟨e1,l,e2,e3⟩
  ·exact absurd e1 e
  ·have hl:=FR e3
   have c1:=Bp (fz:=true) (σ:=[]) d.word [32] (by simp [line,hw])
   have c2:=Bp (fz:=true) (σ:=[]) (d.word++[32]) (A8 d.mark) (by simp [line,hw]; lia)
   have c3:=Bp (fz:=true) (σ:=[]) (d.word++[32]++A8 d.mark) [58,32] (by simp [line,hw]; lia)
   have c4:=Bp (fz:=true) (σ:=[]) (d.word++[32]++A8 d.mark++[58,32]) l (by simp [line,hw]; lia)
   refine Ax (v:=vs (d.word++[32]++A8 d.mark++[58,32]++l)) (σ1:=[]) (by simp only [Ah,Ad,A5,Am,A1,An,Ap,Aa,gz,k_sp,AS,Bl,hcf,hhd,hm,c1,c2,c3,c4,k_col,Es d e2] <;> rfl) ?_
   simp only [deedT,e2,BZ,List.append_assoc]
end
section
variable {C:Cfg} {ρ:Au} {σ σ1 σ₂ σ3 σ4:Store} {Q:Res Fl->Prop} {r:List S} {e o i v:E} {x y z:V} {fz:Bool}
theorem go_set (h1:Ac C v ρ σ=.ok x σ1) (h2:Ac C o ρ σ1=.ok y σ₂) (h3:Ac C i ρ σ₂=.ok z σ3) (h4:Cb y z x σ3=.ok (.next []) σ4) (k:Aw Q (execSs C r ρ σ4)):Aw Q (execSs C (.set o i v::r) ρ σ):=by
 rw [DJ,xA_4,h1,Aa,h2,Aa,h3,Aa,h4]
 exact k
theorem Ga {l:List (List Nat)} {sep:List Nat} (h:Ac C e ρ σ=.ok x σ1) (hl:B5 σ1 x=some (l.map vs)) (hok:JoinOk (Tx sep) (l.map Tx)=true) :
 Ac C (.meth .join fz (.cst (.str (Tx sep))) [e]) ρ σ=.ok (vs (AY sep l)) σ1:=by
 have hp:AK .join (.d (.str (Tx sep))) σ=true:=rfl
 have hi:A3 (.d (.str (Tx sep)))=some (Tx sep):=rfl
 rw [By,Ah,Aa,if_pos hp,Ap,h,Aa,An,Aa,Aa]
 show (match B5 σ1 x with | some xs=>(match CJ xs with | some ss=>if JoinOk (Tx sep) ss=true then Res.ok (V.d (.str (Txt.join (Tx sep) ss))) σ1 else .bad | none=>.bad) | none=>.bad)=_
 rw [hl]
 show (match CJ (l.map vs) with | some ss=>if JoinOk (Tx sep) ss=true then Res.ok (V.d (.str (Txt.join (Tx sep) ss))) σ1 else .bad | none=>.bad)=_
 rw [strsV_vs]
 refine (if_pos hok).trans ?_
 rw [join_Tx]
end
theorem headW_len {t:List Nat} {ls:List (List Nat)} (h1:Aq t=true) (h2:∀ x∈ls,Aq x=true) (h3:ls.length<=10000):(AY [32] (AD t ls)).length<=140000:=by
 have e:=EK [32] (B:=12) (AD t ls) (by
  intro x hx
  have a1:=(B4 h1).2
  unfold AD at hx
  induction ls with
  | nil =>
   simp only [List.mem_cons,List.not_mem_nil,or_false] at hx
   rcases hx with rfl | rfl
   ·decide
   ·exact a1
  | cons y r =>
   simp only [List.mem_cons] at hx
   rcases hx with rfl | rfl | rfl | hx
   ·decide
   ·exact a1
   ·decide
   ·exact (B4 (h2 x (List.mem_cons.mpr hx))).2)
 have e2:(AD t ls).length<=10003:=by
  unfold AD
  induction ls with
  | nil=>simp
  | cons y r=>simp at h3 ⊢; (with_reducible assumption)
 simp only [List.length_cons,List.length_nil] at e
 lia
theorem head0 (t:List Nat):AY [32] (AD t [])=BC++[32]++t:=by
 simp only [AD,AO,Bt]
theorem head1 (t:List Nat) (ls:List (List Nat)) (h:ls≠[]):AY [32] (AD t ls)=BC++[32]++t++([32]++kon++[32])++AY [32] ls:=by
 induction ls with
 | nil=>exact absurd rfl h
 | cons y r=>simp only [AD,AO,List.append_assoc]
theorem head2 (t:List Nat) (ls:List (List Nat)) (h:ls≠[]):AY [32] ((BC++[32]++t)::kon::ls)=AY [32] (AD t ls):=by
 induction ls with
 | nil=>exact absurd rfl h
 | cons y r=>simp only [AD,AO,List.append_assoc]
section
variable {fuel n:Nat} {hd:Bool} {σ:Store}
theorem note_ok {c:Ch} (h:Fine c):JoinOk (Tx [10]) ((AY [32] (AD c.1 c.2.1)::c.2.2.map deedT).map Tx)=true:=by
 refine joinOkB [10] (B:=140000) _ ?_ ?_
 ·intro t ht
  rcases List.mem_cons.mp ht with rfl | ht
  ·exact headW_len h.name h.leans h.few
  ·obtain ⟨d,hd,rfl⟩:=List.mem_map.mp ht
   exact Nat.le_trans (deed_len (h.each d hd)) (by decide)
 ·have:=h.deeds
  simp; lia
theorem leans_join {ls:List (List Nat)} (h2:∀ x∈ls,Aq x=true) (h3:ls.length<=10000):JoinOk (Tx [32]) (ls.map Tx)=true:=by
 refine joinOkB [32] (B:=12) _ (fun t ht=>(B4 (h2 t ht)).2) ?_
 simp; lia
theorem lst_dl (ls:List (List Nat)):B5 σ (.d (dl ls))=some (ls.map vs):=by
 show some ((ls.map fun t=>PyData.str (Tx t)).map V.d)=_
 rw [List.map_map]; rfl
theorem run_written {C:Cfg} (hhd:C.hd=false) (hm:∀ (o:Option (List Nat×Int)) σ,Do o->C.cf false .frz 6 [.d (Ay o)] σ=.ok (vs (A8 o)) σ) (c:Ch) (h:Fine c) :
 Aw (fun r=>∃ σ',r=.ok (.ret (vs (A0 c))) σ') (execSs C GA.body [some (.d c.data),none,none,none,none] []):=by
 show Aw _ (execSs C [_,_,_,_,_] _ [])
 have hn:=B4 h.name
 have c1:=Bp (fz:=true) (σ:=[]) (BC++[32]) c.1 (by simp [line,BC]; lia)
 refine Al (v:=vs (BC++[32]++c.1)) (σ1:=[]) (by simp only [Ah,Ad,A5,Am,Aa,gz,k_chg,CU,c1] <;> rfl) ?_
 refine BP (M:=fun ρ σ=>ρ=[some (.d c.data),some (vs (AY [32] (AD c.1 c.2.1))),none,none,none]/\σ=[]) ?_ ?_
 ·refine Ar (t:=decide ((c.2.1.length:Int) > 0)) (σ1:=[]) (by simp only [Ah,Ad,Ao,Am,A6,An,Ap,Aa,gz,sz,sy,AQ,c_gt,gt_i,Ds,List.length_map] <;> rfl) (fun e=>?_) (fun e=>?_)
  ·have e:=of_decide_eq_true e
   have hne:c.2.1≠[]:=by intro h0; rw [h0] at e; simp at e
   have hl:=EK [32] (B:=12) c.2.1 (fun t ht=>(B4 (h.leans t ht)).2)
   have hf:=h.few
   simp only [List.length_cons,List.length_nil] at hl
   have c2:=Bp (fz:=true) (σ:=[]) (BC++[32]++c.1) ([32]++kon++[32]) (by simp [line,BC,kon]; lia)
   have c3:=Bp (fz:=true) (σ:=[]) (BC++[32]++c.1++([32]++kon++[32])) (AY [32] c.2.1) (by simp [line,BC,kon]; lia)
   have hs:Ac C (.sub (.var 0) (.cst (.int 1))) [some (.d c.data),some (vs (BC++[32]++c.1)),none,none,none] []=.ok (.d (dl c.2.1)) []:=(by simp only [Ah,Ad,Am,Aa,gz,Ds] <;> rfl)
   have hj:=Ga (fz:=true) (sep:=[32]) hs (lst_dl c.2.1) (leans_join h.leans h.few)
   rw [<-k_sp] at hj
   have hab:Ac C (.bin true .Add (.var 1) (.cst (.str " on "))) [some (.d c.data),some (vs (BC++[32]++c.1)),none,none,none] []=.ok (vs (BC++[32]++c.1++([32]++kon++[32]))) []:=(by simp only [Ah,Ad,A5,Aa,gz,gs,k_on2,c2] <;> rfl)
   refine Al (v:=vs (AY [32] (AD c.1 c.2.1))) (σ1:=[]) ((Fg hab hj).trans ?_) (Av ⟨_,_,⟨rfl,rfl⟩,rfl⟩)
   rw [c3,head1 _ _ hne]
  ·have e:=of_decide_eq_false e
   have h0:c.2.1=[]:=by
    induction hh:c.2.1 with
    | nil=>rfl
    | cons y r=>rw [hh] at e; simp at e
   refine Av ⟨_,_,⟨?_,rfl⟩,rfl⟩
   rw [h0,head0]
   rfl
 rintro _ _ ⟨rfl,rfl⟩
 have hhl:=headW_len h.name h.leans h.few
 have hJ:=note_ok h
 unfold A0
 generalize AY [32] (AD c.1 c.2.1)=H at hJ
 refine Al (v:=.ref 0) (σ1:=[.list [vs H]]) (by simp only [Ad,Cn,An,Ap,Aa,gz,gs,A2] <;> rfl) ?_
 refine FW (l:=c.2.2) (w:=fun d=>.d d.data) (σ1:=[.list [vs H]]) (fun pre (s:List (List Nat))=>s=pre.map deedT)
  (fun (s:List (List Nat)) ρ σ=>(∃ z3 z4,ρ=[some (.d c.data),some (vs H),some (.ref 0),z3,z4])/\σ=[.list ((H::s).map vs)]) []
  (Cs (v:=.d (.list (c.2.2.map Deed.data))) (by simp only [Ah,Ad,Am,Aa,gz,sz,sy,DZ] <;> rfl) (Di _ _)) rfl ⟨⟨_,_,rfl⟩,rfl⟩ ?_ ?_
 ·rintro p d q s ρ σ hp rfl ⟨⟨z3,z4,rfl⟩,rfl⟩
  have hmem:d∈c.2.2:=by rw [hp]; simp
  have hd:=h.each d hmem
  have hml:=FQ hd.mark
  have hw:=wd3 hd
  have hlen:p.length < 20:=by
   have:=congrArg List.length hp
   have:=h.deeds
   simp at *; lia
  show Aw (fun r=>∃ (s':List (List Nat)) (ρ':Au) (σ':Store),s'=(p++[d]).map deedT/\((∃ z3 z4,ρ'=[some (.d c.data),some (vs H),some (.ref 0),z3,z4])/\σ'=[.list ((H::s').map vs)])/\r=.ok (.next ρ') σ') (execSs C [_,_,_] _ _)
  generalize hS:([.list ((H::p.map deedT).map vs)]:Store)=S
  have c1:=Bp (fz:=true) (σ:=S) d.word [32] (by simp [line,hw])
  have c2:=Bp (fz:=true) (σ:=S) (d.word++[32]) (A8 d.mark) (by simp [line,hw]; lia)
  refine Al (v:=vs (d.word++[32]++A8 d.mark)) (σ1:=S) (by simp only [Ah,Ad,A5,Am,A1,An,Ap,Aa,gz,gs,sz,sy,k_sp,Bl,AS,hhd,hm d.mark _ hd.mark,c1,c2] <;> rfl) ?_
  refine BP (M:=fun ρ σ=>ρ=[some (.d c.data),some (vs H),some (.ref 0),some (.d d.data),some (vs (deedT d))]/\σ=S) ?_ ?_
  ·refine Ar (t:=!decide (d.word=AW)) (σ1:=S) (by simp only [Ah,Ad,Ao,Am,Aa,gz,gs,sz,sy,CN,Bx,Ba,Bl,E1] <;> rfl) (fun e=>?_) (fun e=>?_)
   ·rcases hd.shape with ⟨e1,e2⟩ | ⟨e1,l,e2,e3⟩
    ·rw [e1] at e; exact absurd e (by decide)
    ·have hl:=FR e3
     have c3:=Bp (fz:=true) (σ:=S) (d.word++[32]++A8 d.mark) [58,32] (by simp [line,hw]; lia)
     have c4:=Bp (fz:=true) (σ:=S) (d.word++[32]++A8 d.mark++[58,32]) l (by simp [line,hw]; lia)
     refine Al (v:=vs (d.word++[32]++A8 d.mark++[58,32]++l)) (σ1:=S) (by simp only [Ah,Ad,A5,Am,Aa,gz,gs,sz,sy,k_col,Es d e2,c3,c4] <;> rfl) (Av ⟨_,_,⟨?_,rfl⟩,rfl⟩)
     simp only [deedT,e2,BZ,List.append_assoc]
     rfl
   ·rcases hd.shape with ⟨e1,e2⟩ | ⟨e1,l,e2,e3⟩
    ·refine Av ⟨_,_,⟨?_,rfl⟩,rfl⟩
     simp only [deedT,e2,BZ,List.append_nil]
     rfl
    ·rcases e1 with e1 | e1 <;> rw [e1] at e <;> exact absurd e (by decide)
  rintro _ S ⟨rfl,rfl⟩
  have hput:Bf .append true (.ref 0) [vs (deedT d)] S=.ok (.d .none) [.list ((H::(p++[d]).map deedT).map vs)]:=by
   have hll:((H::p.map deedT).map vs).length < line:=by simp [line]; (exact lt_c ‹_› (by rfl))
   rw [<-hS]
   refine (if_pos hll).trans ?_
   simp
  have hpre:AK .append (.ref 0) S=true:=by rw [<-hS]; rfl
  exact C6 (v:=.d .none) (σ1:=[.list ((H::(p++[d]).map deedT).map vs)]) (by simp only [Ad,By,An,Ap,Aa,gz,gs,hpre,if_true]; exact hput) (Av ⟨_,_,_,rfl,⟨⟨_,_,rfl⟩,rfl⟩,rfl⟩)
 ·rintro _ _ _ rfl ⟨⟨z3,z4,rfl⟩,rfl⟩
  have hs:Ac C (.var 2) [some (.d c.data),some (vs H),some (.ref 0),z3,z4] [.list ((H::c.2.2.map deedT).map vs)]=.ok (.ref 0) [.list ((H::c.2.2.map deedT).map vs)]:=rfl
  have hj:=Ga (fz:=true) (sep:=[10]) hs (l:=H::c.2.2.map deedT) rfl hJ
  rw [<-k_nl] at hj
  exact Ax hj ⟨_,rfl⟩
theorem ev_written (c:Ch) (h:Fine c):Ag P03 isExc fuel (n+2) false .frz 7 [.d c.data] σ=.ok (vs (A0 c)) σ:=by
 obtain ⟨σ',k⟩:=run_written (C:=⟨Ag P03 isExc fuel (n+1),isExc,fuel,false⟩) rfl (fun o σ h=>ev_mark_text o h) c h
 exact AR Q7 rfl (A9 rfl k) rfl
theorem run_lwritten {C:Cfg} (hhd:C.hd=false) (hm:∀ (d:Deed) σ,EE d->C.cf false .frz 24 [.d d.data] σ=.ok (vs (deedT d)) σ) (c:Ch) (h:Fine c) :
 Aw (fun r=>∃ σ',r=.ok (.ret (vs (A0 c))) σ') (execSs C Em.body [some (.d c.data),none,none] []):=by
 show Aw _ (execSs C [_,_,_] _ [])
 have hn:=B4 h.name
 have c1:=Bp (fz:=true) (σ:=[]) (BC++[32]) c.1 (by simp [line,BC]; lia)
 refine Al (v:=.ref 0) (σ1:=[.list [vs (BC++[32]++c.1)]]) (by simp only [Ah,Ad,A5,Cn,Am,An,Ap,Aa,gz,k_chg,CU,c1,A2] <;> rfl) ?_
 refine BP (M:=fun ρ σ=>ρ=[some (.d c.data),some (.ref 0),none]/\σ=[.list [vs (AY [32] (AD c.1 c.2.1))]]) ?_ ?_
 ·refine go_iteV (t:=!c.2.1.isEmpty) (σ1:=[.list [vs (BC++[32]++c.1)]]) ⟨.d (dl c.2.1),(by simp only [Ah,Ad,Am,Aa,gz,sz,sy,Ds] <;> rfl),?_⟩ (fun e=>?_) (fun e=>?_)
  ·show some (!(c.2.1.map fun t=>PyData.str (Tx t)).isEmpty)=_
   rw [List.isEmpty_map]
  ·have hne:c.2.1≠[]:=by intro h0; rw [h0] at e; exact ff_ e
   have h0:A4 (.ref 0) (vi 0) [.list [vs (BC++[32]++c.1)]]=some (vs (BC++[32]++c.1)):=rfl
   have m1:=BJ (σ:=[.list [vs (BC++[32]++c.1)]]) [.str (Tx (BC++[32]++c.1)),.str (Tx kon)] (by simp [line])
   have c2:=b_catL (σ:=[.list [vs (BC++[32]++c.1)]]) [.str (Tx (BC++[32]++c.1)),.str (Tx kon)] (c.2.1.map fun t=>.str (Tx t)) (by have:=h.few; simp [line]; lia)
   have hl:Ac C (.lst true [.sub (.var 1) (.cst (.int 0)),.cst (.str "on")]) [some (.d c.data),some (.ref 0),none] [.list [vs (BC++[32]++c.1)]]=.ok (.d (.list [.str (Tx (BC++[32]++c.1)),.str (Tx kon)])) [.list [vs (BC++[32]++c.1)]]:=by
    simp only [Ah,Ad,Cn,Am,An,Ap,Aa,gz,gs,h0,k_on]; exact m1
   have hs:Ac C (.sub (.var 0) (.cst (.int 1))) [some (.d c.data),some (.ref 0),none] [.list [vs (BC++[32]++c.1)]]=.ok (.d (dl c.2.1)) [.list [vs (BC++[32]++c.1)]]:=(by simp only [Ah,Ad,Am,Aa,gz,Ds] <;> rfl)
   have hj:=Ga (fz:=true) (sep:=[32]) ((Fg (op:=.Add) (fz:=true) hl hs).trans c2) (l:=(BC++[32]++c.1)::kon::c.2.1) (by simp [B5]) (by
    refine joinOkB [32] (B:=100) _ ?_ (by have:=h.few; simp; lia)
    intro t ht
    rcases List.mem_cons.mp ht with rfl | ht
    ·simp [BC]; lia
    rcases List.mem_cons.mp ht with rfl | ht
    ·decide
    ·have:=(B4 (h.leans t ht)).2; (exact BO ‹_› (by rfl)))
   rw [<-k_sp,head2 _ _ hne] at hj
   have hset:Cb (.ref 0) (vi 0) (vs (AY [32] (AD c.1 c.2.1))) [.list [vs (BC++[32]++c.1)]]=.ok (.next []) [.list [vs (AY [32] (AD c.1 c.2.1))]]:=rfl
   exact go_set hj (y:=.ref 0) (z:=vi 0) rfl rfl hset (Av ⟨_,_,⟨rfl,rfl⟩,rfl⟩)
  ·have h0:c.2.1=[]:=by
    induction hh:c.2.1 with
    | nil=>rfl
    | cons y r=>rw [hh] at e; exact tt_ e
   refine Av ⟨_,_,⟨rfl,?_⟩,rfl⟩
   rw [h0,head0]
 rintro _ _ ⟨rfl,rfl⟩
 have hJ:=note_ok h
 unfold A0
 generalize AY [32] (AD c.1 c.2.1)=H at hJ
 have hcomp:=Dk (C:=C) (elt:=.fcall .frz 24 [.var 2]) (t:=2) (it:=.of (.sub (.var 0) (.cst (.int 2)))) (ρ:=[some (.d c.data),some (.ref 0),none]) (σ:=[.list [vs H]]) (σ1:=[.list [vs H]]) (l:=c.2.2) (fun d=>.d d.data) (fun d=>.str (Tx (deedT d)))
  (Cs (v:=.d (.list (c.2.2.map Deed.data))) (by simp only [Ah,Ad,Am,Aa,gz,DZ] <;> rfl) (Di _ _)) (by have:=h.deeds; simp [line]; (exact BO ‹_› (by rfl))) (fun d hd=>(by simp only [Ad,A1,An,Ap,Aa,gz,gs,sz,sy,hhd,hm d _ (h.each d hd)] <;> rfl))
 have hv:Ac C (.var 1) [some (.d c.data),some (.ref 0),none] [.list [vs H]]=.ok (.ref 0) [.list [vs H]]:=rfl
 have hadd:Dm true .Add (.ref 0) (.d (.list (c.2.2.map fun d=>.str (Tx (deedT d))))) [.list [vs H]]=.ok (.d (.list (.str (Tx H)::c.2.2.map fun d=>.str (Tx (deedT d))))) [.list [vs H]]:=by
  have e:[vs H]++(c.2.2.map fun d=>PyData.str (Tx (deedT d))).map V.d=(.str (Tx H)::c.2.2.map fun d=>PyData.str (Tx (deedT d))).map V.d:=rfl
  show A2 true ([vs H]++(c.2.2.map fun d=>PyData.str (Tx (deedT d))).map V.d) _=_
  rw [e]
  exact BJ _ (by have:=h.deeds; simp [line]; (exact BO ‹_› (by rfl)))
 have hj:=Ga (fz:=true) (sep:=[10]) ((Fg (op:=.Add) (fz:=true) hv hcomp).trans hadd) (l:=H::c.2.2.map deedT) (by simp [B5]) hJ
 rw [<-k_nl] at hj
 exact Ax hj ⟨_,rfl⟩
theorem ev_lwritten (c:Ch) (h:Fine c):Ag P03 isExc fuel (n+3) false .frz 25 [.d c.data] σ=.ok (vs (A0 c)) σ:=by
 obtain ⟨σ',k⟩:=run_lwritten (C:=⟨Ag P03 isExc fuel (n+2),isExc,fuel,false⟩) rfl (fun d σ h=>ev_deed_row d h) c h
 exact AR Q25 rfl (A9 rfl k) rfl
end
noncomputable def resD (σ:Store) (c:Nat):Option PyData->Res V
 | some y=>.ok (.d y) σ
 | none=>.exc c σ
noncomputable def endD (c:Nat):Option PyData->Res Fl
 | some y=>.ok (.ret (.d y)) []
 | none=>.exc c []
section
variable {P:Nat->Option Fn} {isX:Nat->Nat->Option Bool} {fuel n f c:Nat} {hd:Bool} {fn:Fn} {ws xs:List V} {σ σ0 σ1:Store} {y:PyData} {v:V} {o:Option PyData}
theorem frz_D (hk:c < 1000) (hP:P f=some fn) (hi:CR ws=true) (hl:ws.length=fn.nparams)
 (h:Aw (fun r=>r=endD c o) (execSs ⟨Ag P isX fuel n,isX,fuel,hd⟩ fn.body (ws.map some++List.replicate (fn.nvars-fn.nparams) none) [])):Ag P isX fuel (n+1) hd .frz f ws σ=resD σ c o:=by
 induction o with
 | some y=>exact AR (v:=.d y) (σ1:=[]) hP hi (A9 hl h) rfl
 | none=>exact frz_exc hk hP hi (run_exc hl h)
theorem shared_ok (hP:P f=some fn) (hl:ws.length=fn.nparams) (h:execSs ⟨Ag P isX fuel n,isX,fuel,hd⟩ fn.body (ws.map some++List.replicate (fn.nvars-fn.nparams) none) σ=.ok (.ret v) σ1):Ag P isX fuel (n+1) hd .shared f ws σ=.ok v σ1:=by
 show (match P f with | none=>.bad | some fn=>Bu ⟨Ag P isX fuel n,isX,fuel,hd⟩ fn ws σ:Res V)=_
 rw [hP]
 refine (if_pos hl).trans ?_
 rw [h]; rfl
theorem shared_exc (hP:P f=some fn) (hl:ws.length=fn.nparams) (h:execSs ⟨Ag P isX fuel n,isX,fuel,hd⟩ fn.body (ws.map some++List.replicate (fn.nvars-fn.nparams) none) σ=.exc c σ1):Ag P isX fuel (n+1) hd .shared f ws σ=.exc c σ1:=by
 show (match P f with | none=>.bad | some fn=>Bu ⟨Ag P isX fuel n,isX,fuel,hd⟩ fn ws σ:Res V)=_
 rw [hP]
 refine (if_pos hl).trans ?_
 rw [h]; rfl
end
section
variable {C:Cfg} {ρ ρ':Au} {σ σ1:Store} {Q:Res Fl->Prop} {r b:List S} {hs:List (Nat×Option Nat×List S)} {e:E} {x c k:Nat} {v:V} {xs:List Nat} {d:PyData}
theorem Fu (h:Ac C e ρ σ=.exc c σ1) (k:Q (.exc c σ1)):Aw Q (execSs C (.ret e::r) ρ σ):=by
 rw [DJ,xA_10,h]; exact k
theorem go_asg_exc (h:Ac C e ρ σ=.exc c σ1) (k:Q (.exc c σ1)):Aw Q (execSs C (.asg x e::r) ρ σ):=by
 rw [DJ,xA_1,h]; exact k
theorem go_unp (h:Ac C e ρ σ=.ok v σ1) (hb:BG C.hd ρ xs v=some ρ') (k:Aw Q (execSs C r ρ' σ1)):Aw Q (execSs C (.unp xs e::r) ρ σ):=by
 rw [DJ,xA_2,h,Aa,hb]; exact k
theorem go_try {M:Au->Store->Prop} (h:Aw (fun r=>∃ ρ' σ',M ρ' σ'/\r=.ok (.next ρ') σ') (execSs C b ρ σ)) (k:∀ ρ' σ',M ρ' σ'->Aw Q (execSs C r ρ' σ')):Aw Q (execSs C (.try_ b hs::r) ρ σ):=by
 obtain ⟨ρ',σ',h1,h2⟩:=h
 rw [DJ,xA_12,h2]
 exact k ρ' σ' h1
theorem go_try_raise {j:Nat} (h:execSs C b ρ σ=.exc c σ1) (hx:C.isExc c k=some true) (q:Q (.exc (j+1000) σ1)):Aw Q (execSs C (.try_ b [(k,none,[.raise j [.cst d]])]::r) ρ σ):=by
 rw [DJ,xA_12,h]
 show Q ((handle C [(k,none,[.raise j [.cst d]])] c _ σ1).bind _)
 rw [hA_2,hx]
 exact q
end
noncomputable def EV:List Nat:=[48,49,50,51,52,53,54,55,56,57]
theorem k_figs:Str.ofString "0123456789" = Tx EV:=by decide +kernel
theorem figs_eq:EV=List.range' 48 10:=by decide
theorem in_figs {c:Nat}:c∈EV ↔ 48<=c/\c<=57:=by
 rw [figs_eq,List.mem_range'_1]
 exact ⟨fun h=>⟨h.1,Nat.le_of_lt_succ h.2⟩,fun h=>⟨h.1,Nat.lt_succ_of_le h.2⟩⟩
noncomputable def C4 (w:List Nat):Bool:=!(decide ((w.length:Int) < 1)||decide ((w.length:Int) > 9))
noncomputable def numV (w:List Nat):Int:=(NumText.digitsVal w:Nat)
noncomputable def Ex (w:List Nat):Option Int:=if C4 w && !(decide ([w.headD 0]=[48])&&decide ((w.length:Int) > 1)) && !w.any (fun c=>!decide (c∈EV)) then some (numV w) else none
theorem C3 (w:List Nat):C4 w=true ↔ 1<=w.length/\w.length<=9:=by
 simp only [C4,Bool.not_eq_true',Bool.or_eq_false_iff,decide_eq_false_iff_not]; omega
theorem num_lt (w:List Nat) (h:∀ c∈w,c∈EV):NumText.digitsVal w < 10 ^ w.length:=by
 have key:∀ (w:List Nat) (a:Nat),(∀ c∈w,c∈EV)->w.foldl (fun acc c=>acc * 10+(c-48)) a < (a+1) * 10 ^ w.length:=by
  intro w
  induction w with
  | nil=>intro a _; simp
  | cons c r ih =>
   intro a h
   have h1:=in_figs.mp (h c (by exact .head _))
   have h2:=ih (a * 10+(c-48)) (fun x hx=>h x (by exact .tail _ hx))
   refine Nat.lt_of_lt_of_le h2 ?_
   rw [List.length_cons,Nat.pow_succ,Nat.mul_comm (10 ^ r.length) 10,<-Nat.mul_assoc]
   exact Nat.mul_le_mul_right _ (by lia)
 have:=key w 0 h
 rw [Nat.zero_add,Nat.one_mul] at this
 exact this
theorem numV_lt {w:List Nat} (h1:w.length<=9) (h:∀ c∈w,c∈EV):0<=numV w/\numV w < 1000000000:=by
 have h2:=num_lt w h
 have h3:10 ^ w.length<=10 ^ 9:=Nat.pow_le_pow_right (by decide) h1
 have h4:(10:Nat) ^ 9=1000000000:=by decide
 unfold numV
 lia
theorem fig_num {i:Int} (h0:0<=i):numV (fig i)=i:=by
 obtain ⟨m,rfl⟩:=Int.eq_ofNat_of_zero_le h0
 unfold numV
 rw [fig_nat m,PySem.W.KIN.val_back]
theorem numF_fig {i:Int} (h0:0<=i) (h1:i < 1000000000):Ex (fig i)=some i:=by
 have hl:=fig_len h0 h1
 have e1:C4 (fig i)=true:=(C3 _).mpr hl
 have e2:(fig i).any (fun c=>!decide (c∈EV))=false:=by
  rw [List.any_eq_false]; intro c hc; simp [in_figs.mpr (G0 h0 c hc)]
 have e3:(decide ([(fig i).headD 0]=[48])&&decide (((fig i).length:Int) > 1))=false:=by
  induction h:fig i with
  | nil=>rfl
  | cons a r =>
   by_cases ha:a=48
   ·rw [ha] at h; rw [fig_lead h0 h]; simp
   ·simp [ha]
 rw [Ex,e1,e2,e3]
 exact congrArg some (fig_num h0)
set_option tactic.hygienic true in
theorem numF_some {w:List Nat} {i:Int} (h:Ex w=some i):0<=i/\i < 1000000000:=by
 unfold Ex at h
 split at h
 ·rename_i hc
  simp only [Bool.and_eq_true,Bool.not_eq_true',List.any_eq_false,decide_eq_false_iff_not,Decidable.not_not] at hc
  obtain rfl:=Option.some.inj h
  exact numV_lt ((C3 w).mp hc.1.1).2 hc.2
 ·exact Ab h
section
variable {fuel n:Nat} {hd:Bool} {σ:Store} {X:Nat->Nat->Option Bool} {fz:Bool}
theorem Q8:P03 8=some F_number_of:=rfl
theorem Q9:P03 9=some F_mark_of:=rfl
theorem Q10:P03 10=some F_deed_of:=rfl
theorem Q11:P03 11=some F_head_of:=rfl
theorem Q12:P03 12=some F_read:=rfl
theorem bc_int {w:List Nat} (h1:C4 w=true) (h:∀ c∈w,c∈EV):bcall X hd .int fz [vs w] σ=.ok (vi (numV w)) σ:=by
 have hl:=(C3 w).mp h1
 have e:intText? (Tx w)=some (numV w):=by
  have:=PySem.intText_digits (x:=Tx w) (by rw [BB]; exact fun c hc=>in_figs.mp (h c hc)) (by rw [BB]; intro e; rw [e] at hl; simp at hl) (by rw [BS]; lia)
  rw [BB] at this
  exact this
 show (match intText? (Tx w) with | some n=>if (Tx w).length<=640 then Res.ok (V.d (.int n)) σ else .bad | none=>.bad)=_
 rw [e]
 exact if_pos (by rw [BS]; lia)
theorem ev_number_of (w:List Nat):Ag P03 isExc fuel (n+1) false .frz 8 [vs w] σ=resD σ 4 ((Ex w).map .int):=by
 refine frz_D (by decide) Q8 rfl rfl ?_
 generalize hC:(⟨Ag P03 isExc fuel n,isExc,fuel,false⟩:Cfg)=C
 have hhd:C.hd=false:=by rw [<-hC]
 show Aw _ (execSs C [_,_,_,_] [some (vs w),none] [])
 refine Ar (t:=decide ((w.length:Int) < 1)||decide ((w.length:Int) > 9)) (σ1:=[]) (C1 rfl (fun _=>rfl)) (fun e=>?_) (fun e=>?_)
 ·refine Bg hhd rfl ?_
  rw [show Ex w=none by simp only [Ex,C4,e]; rfl]; rfl
 have hl:C4 w=true:=by rw [C4,e]; rfl
 obtain ⟨a,r,har⟩:∃ a r,w=a::r:=by
  induction w with
  | nil=>exact ff_ hl
  | cons a r=>exact ⟨a,r,rfl⟩
 have hat:A4 (vs w) (vi 0) []=some (vs [a]):=at_text 0 (by decide) (by decide) (by rw [har]; rfl)
 have hh:w.headD 0=a:=by rw [har]; rfl
 refine Ar (t:=decide ([a]=[48])&&decide ((w.length:Int) > 1)) (σ1:=[]) (Cv (by simp only [Ah,Ad,Ao,Am,Aa,gz,CA,Ba,hat,k_zero] <;> rfl) (fun _=>rfl)) (fun e=>?_) (fun e2=>?_)
 ·refine Bg hhd rfl ?_
  rw [show Ex w=none by simp only [Ex,hh,e,hl]; rfl]; rfl
 refine Fv (l:=w) (w:=fun c=>vs [c]) (fun c=>!decide (c∈EV)) (.exc 4 []) (fun ρ=>∃ z,ρ=[some (vs w),z])
  (Cs (v:=vs w) rfl (EQ _ hhd)) ⟨_,rfl⟩ E5 ?_ (fun ha=>?_) ?_
 ·rintro c hc ρ ⟨z,rfl⟩
  refine ⟨fun h=>?_,fun h=>⟨_,⟨some (vs [c]),rfl⟩,?_⟩⟩
  ·rw [x_iteB (t:=true) (by simp only [eA_2,Ad,Ao,Aa,gz,gs,sz,sy,EA,Bx,ER,k_figs,h] <;> rfl)]
   exact x_raise hhd rfl
  ·rw [x_iteB (t:=false) (by simp only [eA_2,Ad,Ao,Aa,gz,gs,sz,sy,EA,Bx,ER,k_figs,h] <;> rfl)]
   exact x_nil
 ·rw [show Ex w=none by simp only [Ex,ha]; simp]; rfl
 ·rintro ha ρ ⟨z,rfl⟩
  have hf:∀ c∈w,c∈EV:=by simpa using ha
  refine Ax (v:=vi (numV w)) (σ1:=[]) (by simp only [Ad,A6,An,Ap,Aa,gz,bc_int hl hf] <;> rfl) ?_
  rw [show Ex w=some (numV w) by simp only [Ex,hh,e2,hl,ha]; rfl]; rfl
noncomputable def AZ (y t:List Nat):List Nat×List Nat×List Nat:=((Txt.partition (Tx t) (Tx y)).1.cps.toList,(Txt.partition (Tx t) (Tx y)).2.1.cps.toList,(Txt.partition (Tx t) (Tx y)).2.2.cps.toList)
theorem EL (c:Nat) (y t:List Nat):Bf .partition true (vs t) [vs (c::y)] σ=.ok (.d (.tuple [.str (Tx (AZ (c::y) t).1),.str (Tx (AZ (c::y) t).2.1),.str (Tx (AZ (c::y) t).2.2)])) σ:=by
 have e3:((Tx (c::y)).length == 0)=false:=by rw [BS]; rfl
 show partIn (Tx t) (Tx (c::y)) σ=_
 simp only [partIn,if_pos e3,AZ,F5]
theorem sub_t3 (a b c:PyData):A4 (.d (.tuple [a,b,c])) (vi 0) σ=some (.d a)/\A4 (.d (.tuple [a,b,c])) (vi 2) σ=some (.d c):=⟨BX 0 (by decide) (by decide) rfl,BX 2 (by decide) (by decide) rfl⟩
noncomputable def Dx (t:List Nat):Option (Option (List Nat×Int)):=if decide (t=[45]) then some none else (Ex (AZ [32] t).2.2).map fun i=>some ((AZ [32] t).1,i)
theorem ev_mark_of (t:List Nat):Ag P03 isExc fuel (n+2) false .frz 9 [vs t] σ=resD σ 4 ((Dx t).map Ay):=by
 refine frz_D (by decide) Q9 rfl rfl ?_
 have hnum:=ev_number_of (fuel:=fuel) (n:=n) (σ:=[]) (AZ [32] t).2.2
 generalize hC:(⟨Ag P03 isExc fuel (n+1),isExc,fuel,false⟩:Cfg)=C
 have hhd:C.hd=false:=by rw [<-hC]
 have hcf:C.cf=Ag P03 isExc fuel (n+1):=by rw [<-hC]
 show Aw _ (execSs C [_,_,_] [some (vs t),none] [])
 unfold Dx
 refine Ar (t:=decide (t=[45])) (σ1:=[]) (by simp only [Ah,Ad,Ao,Aa,gz,CA,Ba,k_bar] <;> rfl) (fun e=>?_) (fun e=>?_)
 ·rw [e]
  exact Ax (v:=.d .none) (σ1:=[]) rfl rfl
 ·rw [e]
  have hp:=EL (σ:=[]) 32 [] t
  have hpre:AK .partition (vs t) []=true:=rfl
  generalize AZ [32] t=p at hnum hp
  refine Al (v:=.d (.tuple [.str (Tx p.1),.str (Tx p.2.1),.str (Tx p.2.2)])) (σ1:=[]) (by simp only [Ah,Ad,By,An,Ap,Aa,gz,hpre,if_true,k_sp]; exact hp) ?_
  have t1:=(sub_t3 (σ:=[]) (.str (Tx p.1)) (.str (Tx p.2.1)) (.str (Tx p.2.2))).1
  have t2:=(sub_t3 (σ:=[]) (.str (Tx p.1)) (.str (Tx p.2.1)) (.str (Tx p.2.2))).2
  induction hn:Ex p.2.2 with
  | none =>
   rw [hn] at hnum
   have hnum:Ag P03 isExc fuel (n+1) false .frz 8 [vs p.2.2] []=.exc 4 []:=hnum
   exact Fu (c:=4) (σ1:=[]) (by simp only [Ah,Ad,Bj,Am,A1,An,Ap,Aa,gz,gs,sz,sy,t1,t2,hcf,hhd,hnum,exc_bind]) rfl
  | some i =>
   rw [hn] at hnum
   have hnum:Ag P03 isExc fuel (n+1) false .frz 8 [vs p.2.2] []=.ok (vi i) []:=hnum
   exact Ax (v:=.d (Ay (some (p.1,i)))) (σ1:=[]) (by simp only [Ah,Ad,Bj,Am,A1,An,Ap,Aa,gz,gs,sz,sy,t1,t2,hcf,hhd,hnum,if_pos (len2 _ _),tup2]; rfl) rfl
theorem cut_mid {α:Type} (l:List α) {i j:Nat} (h:i<=j):BD (some (i:Int)) (some (j:Int)) l=(l.drop i).take (j-i):=by
 have e:=clip_nat l.length
 simp only [BD,Option.elim,e i,e j]
 rcases Nat.le_total i l.length with hi | hi
 ·rw [Nat.min_eq_left hi]
  rcases Nat.le_total j l.length with hj | hj
  ·rw [Nat.min_eq_left hj]
  ·rw [Nat.min_eq_right hj,List.take_of_length_le (by simp),List.take_of_length_le (by simp; lia)]
 ·rw [Nat.min_eq_right hi,List.drop_eq_nil_of_le hi,List.drop_eq_nil_of_le (Nat.le_refl _),List.take_nil,List.take_nil]
theorem sl_midI {a:List Nat} {i j:Int} (h1:small i=true) (h2:small j=true):slice true (vs a) (some (vi i)) (some (vi j)) σ=.ok (vs (BD (some i) (some j) a)) σ:=by
 show (match Cm (some (vi i)) with | some l=>(match Cm (some (vi j)) with | some h=>Cq true (vs a) l h σ | none=>.bad) | none=>.bad:Res V)=_
 rw [end_i h1]
 dsimp only
 rw [end_i h2]
 show Res.ok (V.d (.str (cutS (some i) (some j) (Tx a)))) σ=_
 rw [Tx_cut]
theorem sl_midZ {a:List Nat} {i j:Int} (h0:0<=i) (h:i<=j) (hb:j<=1000000):slice true (vs a) (some (vi i)) (some (vi j)) σ=.ok (vs ((a.drop i.toNat).take (j.toNat-i.toNat))) σ:=by
 have hj:0<=j:=Int.le_trans h0 h
 have hi:i<=1000000:=Int.le_trans h hb
 rw [sl_midI (BN (Int.lt_of_lt_of_le (by decide) h0) (Int.lt_of_le_of_lt hi (by decide))) (BN (Int.lt_of_lt_of_le (by decide) hj) (Int.lt_of_le_of_lt hb (by decide))),<-cut_mid a (Int.toNat_le_toNat h),Int.toNat_of_nonneg h0,Int.toNat_of_nonneg hj]
noncomputable def DV (t:List Nat):Int:=Txt.find (Tx t) (Tx [58,32])
theorem colAt_le (t:List Nat):DV t<=t.length:=by
 unfold DV Txt.find
 rcases StrLaws.occ_head (Tx t) (Tx [58,32]) 1 (Nat.le_refl _) with ⟨h,_⟩ | ⟨i,r,h1,h2,_⟩
 ·rw [h]; show (-1:Int)<=t.length; (exact Int.natCast_nonneg _)
 ·rw [h1]
  have:=h2.1
  simp only [BS] at this
  show (i:Int)<=t.length
  lia
noncomputable def noWord (w:List Nat):Bool:=(!decide (w=Cp))&&(!decide (w=AW))&&(!decide (w=Fq))
noncomputable def C2 (row:List Nat):Option Deed :=
 if noWord (row.take 3) || !decide ((row.drop 3).take 1=[32]) then none
 else if decide (row.take 3=AW) then (Dx (row.drop 4)).map fun m=>⟨row.take 3,m,none⟩
 else if decide (DV row < 4) then none
 else (Dx ((row.drop 4).take ((DV row).toNat-4))).map fun m=>⟨row.take 3,m,some (row.drop (DV row+2).toNat)⟩
theorem ev_deed_of (row:List Nat) (hlen:row.length<=900000):Ag P03 isExc fuel (n+3) false .frz 10 [vs row] σ=resD σ 4 ((C2 row).map Deed.data):=by
 refine frz_D (by decide) Q10 rfl rfl ?_
 have hmo:=fun t=>ev_mark_of (fuel:=fuel) (n:=n) (σ:=[]) t
 generalize hC:(⟨Ag P03 isExc fuel (n+2),isExc,fuel,false⟩:Cfg)=C
 have hhd:C.hd=false:=by rw [<-hC]
 have hcf:C.cf=Ag P03 isExc fuel (n+2):=by rw [<-hC]
 show Aw _ (execSs C [_,_,_,_,_,_] [some (vs row),none,none] [])
 have s1:slice true (vs row) none (some (vi 3)) []=.ok (vs (row.take 3)) []:=sl_to (k:=3) (by decide)
 have s2:slice true (vs row) (some (vi 3)) (some (vi 4)) []=.ok (vs ((row.drop 3).take 1)) []:=sl_midZ (by decide) (by decide) (by decide)
 have s3:slice true (vs row) (some (vi 4)) none []=.ok (vs (row.drop 4)) []:=sl_from (k:=4) (by decide)
 refine Al (v:=vs (row.take 3)) (σ1:=[]) (by simp only [Ah,Ad,Bm,CM,C8,Aa,gz,s1] <;> rfl) ?_
 refine Ar (t:=noWord (row.take 3) || !decide ((row.drop 3).take 1=[32])) (σ1:=[]) (C1 (e_and3 (by simp only [Ah,Ad,Ao,Aa,gz,gs,sz,sy,CN,Bx,Ba,k_add] <;> rfl) (fun _=>(by simp only [Ah,Ad,Ao,Aa,gz,gs,sz,sy,CN,Bx,Ba,E1] <;> rfl)) (fun _ _=>(by simp only [Ah,Ad,Ao,Aa,gz,gs,sz,sy,CN,Bx,Ba,k_set] <;> rfl))) (fun _=>(by simp only [Ah,Ad,Ao,Bm,C8,Aa,gz,sz,sy,CN,Bx,Ba,s2,k_sp] <;> rfl))) (fun e=>?_) (fun e=>?_)
 ·refine Bg hhd rfl ?_
  rw [show C2 row=none by simp only [C2,e]; rfl]; rfl
 refine Ar (t:=decide (row.take 3=AW)) (σ1:=[]) (by simp only [Ah,Ad,Ao,Aa,gz,gs,sz,sy,CA,Ba,E1] <;> rfl) (fun e2=>?_) (fun e2=>?_)
 ·have hD:C2 row=(Dx (row.drop 4)).map fun m=>⟨row.take 3,m,none⟩:=by simp only [C2,e,e2]; rfl
  have hmo:=hmo (row.drop 4)
  rw [hD]
  induction hm:Dx (row.drop 4) with
  | none =>
   rw [hm] at hmo
   have hmo:Ag P03 isExc fuel (n+2) false .frz 9 [vs (row.drop 4)] []=.exc 4 []:=hmo
   exact Fu (c:=4) (σ1:=[]) (by simp only [Ah,Ad,Bj,Bm,A1,An,Ap,CM,C8,Aa,gz,gs,sz,sy,s3,hcf,hhd,hmo,exc_bind]) rfl
  | some m =>
   rw [hm] at hmo
   have hmo:Ag P03 isExc fuel (n+2) false .frz 9 [vs (row.drop 4)] []=.ok (.d (Ay m)) []:=hmo
   exact Ax (v:=.d (Deed.data ⟨row.take 3,m,none⟩)) (σ1:=[]) (by simp only [Ah,Ad,Bj,Bm,A1,An,Ap,CM,C8,Aa,gz,gs,sz,sy,s3,hcf,hhd,hmo,if_pos (len2 _ _),tup2]; rfl) rfl
 have hpre:AK .find (vs row) []=true:=rfl
 have hle:=colAt_le row
 refine Al (v:=vi (DV row)) (σ1:=[]) (by simp only [Ah,Ad,By,An,Ap,Aa,gz,sz,sy,hpre,if_true,k_col]; rfl) ?_
 refine Ar (t:=decide (DV row < 4)) (σ1:=[]) rfl (fun e3=>?_) (fun e3=>?_)
 ·refine Bg hhd rfl ?_
  rw [show C2 row=none by simp only [C2,e,e2,e3]; rfl]; rfl
 have hD:C2 row=(Dx ((row.drop 4).take ((DV row).toNat-4))).map fun m=>⟨row.take 3,m,some (row.drop (DV row+2).toNat)⟩:=by simp only [C2,e,e2,e3]; rfl
 rw [hD]
 have e3:=of_decide_eq_false e3
 generalize DV row=A at hle e3
 have s4:slice true (vs row) (some (vi 4)) (some (vi A)) []=.ok (vs ((row.drop 4).take (A.toNat-4))) []:=sl_midZ (by decide) (by (exact Int.not_lt.mp ‹_›)) (by lia)
 have s5:slice true (vs row) (some (vi (A+2))) none []=.ok (vs (row.drop (A+2).toNat)) []:=Ev (by lia) (by lia)
 have hmo:=hmo ((row.drop 4).take (A.toNat-4))
 induction hm:Dx ((row.drop 4).take (A.toNat-4)) with
 | none =>
  rw [hm] at hmo
  have hmo:Ag P03 isExc fuel (n+2) false .frz 9 [vs ((row.drop 4).take (A.toNat-4))] []=.exc 4 []:=hmo
  exact Fu (c:=4) (σ1:=[]) (by simp only [Ah,Ad,A5,Bj,Bm,A1,An,Ap,CM,C8,Aa,gz,gs,sz,sy,BE,s4,hcf,hhd,hmo,exc_bind]) rfl
 | some m =>
  rw [hm] at hmo
  have hmo:Ag P03 isExc fuel (n+2) false .frz 9 [vs ((row.drop 4).take (A.toNat-4))] []=.ok (.d (Ay m)) []:=hmo
  exact Ax (v:=.d (Deed.data ⟨row.take 3,m,some (row.drop (A+2).toNat)⟩)) (σ1:=[]) (by simp only [Ah,Ad,A5,Bj,Bm,A1,An,Ap,CM,C8,Aa,gz,gs,sz,sy,BE,s4,s5,hcf,hhd,hmo,if_pos (len3 _ _ _),tup3]; rfl) rfl
end
noncomputable def Dr {α β:Type} (f:α->Option β):List α->Option (List β)
 | []=>some []
 | a::l=>(match f a with
  | some b=>(match Dr f l with | some bs=>some (b::bs) | none=>none)
  | none=>none)
section
variable {α β γ:Type} {f:α->Option β}
theorem mapO_cons {a:α} {l:List α} {bs:List β} (h:Dr f (a::l)=some bs):∃ b r,f a=some b/\Dr f l=some r/\bs=b::r:=by
 replace h:(match f a with | some b=>(match Dr f l with | some bs=>some (b::bs) | none=>none) | none=>none)=some bs:=h
 induction e1:f a with
 | none=>rw [e1] at h; exact nomatch (show none=some bs from h)
 | some b=>induction e2:Dr f l with
  | none=>rw [e1,e2] at h; exact nomatch (show none=some bs from h)
  | some r=>rw [e1,e2] at h; exact ⟨b,r,rfl,rfl,(Option.some.inj h).symm⟩
theorem mapO_mem:∀ {l:List α} {bs:List β},Dr f l=some bs->∀ b∈bs,∃ a∈l,f a=some b
 | [],_,h,b,hb=>by cases h; exfalso; cases hb
 | a::l,bs,h,b,hb=>by
  obtain ⟨b0,r,h1,h2,rfl⟩:=mapO_cons h
  rcases List.mem_cons.mp hb with rfl | hb
  ·exact ⟨a,by exact .head _,h1⟩
  ·obtain ⟨x,hx,e⟩:=mapO_mem h2 b hb
   exact ⟨x,by exact .tail _ hx,e⟩
theorem mapO_len:∀ {l:List α} {bs:List β},Dr f l=some bs->bs.length=l.length
 | [],_,h=>by cases h; rfl
 | a::l,bs,h=>by
  obtain ⟨b0,r,h1,h2,rfl⟩:=mapO_cons h
  rw [List.length_cons,List.length_cons,mapO_len h2]
theorem mapO_back (g:β->α):∀ {l:List β},(∀ b∈l,f (g b)=some b)->Dr f (l.map g)=some l
 | [],_=>rfl
 | b::l,h=>by
  have h1:=h b (by exact .head _)
  have h2:=mapO_back g (l:=l) (fun x hx=>h x (by exact .tail _ hx))
  show (match f (g b) with | some b=>(match Dr f (l.map g) with | some bs=>some (b::bs) | none=>none) | none=>none)=_
  rw [h1,h2]
theorem mapO_map (g:β->γ):∀ l:List α,Dr (fun a=>(f a).map g) l=(Dr f l).map (·.map g)
 | []=>rfl
 | a::l=>by
  have ih:=mapO_map g l
  show (match (f a).map g with | some b=>(match Dr (fun a=>(f a).map g) l with | some bs=>some (b::bs) | none=>none) | none=>none)=_
  rw [ih,Dr]
  induction f a with
  | none=>rfl
  | some b=>cases Dr f l <;> rfl
end
section
variable {α:Type} {C:Cfg} {ρ:Au} {σ σ1:Store} {c:Nat}
theorem compGo_O {f:V->Store->Res (Option V)} (w:α->V) (g:α->Option PyData):∀ l:List α,(∀ a∈l,f (w a) σ=(match g a with | some y=>.ok (some (.d y)) σ | none=>.exc c σ))->E8 f (l.map w) σ=(match Dr g l with | some ys=>.ok (ys.map .d) σ | none=>.exc c σ)
 | [],_=>rfl
 | a::l,h=>by
  have h1:=h a (by exact .head _)
  have h2:=compGo_O w g l (fun b hb=>h b (by exact .tail _ hb))
  rw [List.map_cons,E8,h1,Dr]
  induction g a with
  | none=>rfl
  | some y =>
   dsimp only
   rw [h2]
   cases Dr g l <;> rfl
theorem e_compO {elt:E} {t:Nat} {it:It} {l:List α} (w:α->V) (g:α->Option PyData)
 (hi:evalIt C it ρ σ=.ok (.items (l.map w)) σ1) (hl:l.length < line)
 (hg:∀ a∈l,Ac C elt ((ρ.set t none).set t (some (w a))) σ1=resD σ1 c (g a)) :
 Ac C (.comp true elt [t] it []) ρ σ=resD σ1 c ((Dr g l).map .list):=by
 rw [E6,hi,Aa]
 show BT true ((l.map w).length+1) (BQ _ ((l.map w).length+1) (.items (l.map w)) σ1)=_
 rw [D6,compGo_O (c:=c) w g l]
 ·induction hm:Dr g l with
  | none =>
   show (if (l.map w).length+1<=line then Res.exc c σ1 else .bad)=_
   exact if_pos (by rw [List.length_map]; (exact BO ‹_› (by rfl)))
  | some ys =>
   have hy:=mapO_len hm
   exact BJ _ (by lia)
 ·intro a ha
  simp only [AP,Bv,List.foldl,BG,eF_1,Aa,hg a ha]
  cases g a <;> rfl
end
noncomputable def CS (W:List (List Nat)):Option (List Nat×List (List Nat)) :=
 if decide ((W.length:Int) < 2) || !decide (W.headD []=BC) then none
 else if decide ((W.length:Int)=2) then some (W.getD 1 [],[])
 else if (!decide (W.getD 2 []=kon))||decide ((W.length:Int) < 4) then none
 else some (W.getD 1 [],W.drop 3)
noncomputable def DD (h:List Nat×List (List Nat)):PyData:=.tuple [.str (Tx h.1),dl h.2]
theorem headF_len {W:List (List Nat)} {h:List Nat×List (List Nat)} (e:CS W=some h):h.2.length<=W.length:=by
 unfold CS at e
 split at e
 ·exact Ab e
 split at e
 ·obtain rfl:=Option.some.inj e; exact Nat.zero_le _
 split at e
 ·exact Ab e
 ·obtain rfl:=Option.some.inj e; show (W.drop 3).length<=_; rw [List.length_drop]; (exact Nat.sub_le _ _)
section
variable {fuel n:Nat} {hd:Bool} {σ:Store}
theorem Dd (c:Nat) (t:List Nat) (hl:t.length<=900000):Bf .split true (vs t) [vs [c]] σ=.ok (.d (dl (Ai c t))) σ:=by
 have e3:((Tx [c]).length == 0)=false/\(Tx t).length+2<=line:=⟨by rw [BS]; rfl,by rw [BS]; simp [line]; (exact BO ‹_› (by rfl))⟩
 show FC true (Tx t) (Tx [c]) σ=_
 simp only [FC,if_pos e3,split_Tx c t]
 have e4:((Ai c t).map Tx).map (fun p=>V.d (.str p))=((Ai c t).map fun t=>PyData.str (Tx t)).map V.d:=by rw [List.map_map,List.map_map]; rfl
 rw [e4]
 have:=B3 c t
 exact BJ _ (by simp [line]; lia)
theorem Fm {W:List (List Nat)} (i:Int) (h0:0<=i) (h1:i < 1000000) (h:i < W.length):A4 (.d (dl W)) (vi i) σ=some (vs (W.getD i.toNat [])):=by
 have hi:i.toNat < W.length:=by lia
 refine El i h0 (by lia) ?_
 rw [List.getElem?_map,List.getD_eq_getElem?_getD,List.getElem?_eq_getElem hi]; rfl
theorem ev_head (row:List Nat) (hlen:row.length<=900000):Ag P03 isExc fuel (n+1) false .frz 11 [vs row] σ=resD σ 4 ((CS (Ai 32 row)).map DD):=by
 refine frz_D (by decide) Q11 rfl rfl ?_
 generalize hC:(⟨Ag P03 isExc fuel n,isExc,fuel,false⟩:Cfg)=C
 have hhd:C.hd=false:=by rw [<-hC]
 have hsp:=Dd (σ:=[]) 32 row hlen
 have hne:=Bk 32 row
 have hW:=B3 32 row
 show Aw _ (execSs C [_,_,_,_,_] [some (vs row),none] [])
 have hpre:AK .split (vs row) []=true:=rfl
 refine Al (v:=.d (dl (Ai 32 row))) (σ1:=[]) (by simp only [Ah,Ad,By,An,Ap,Aa,gz,hpre,if_true,k_sp]; exact hsp) ?_
 generalize Ai 32 row=W at hne hW
 have hpos:0 < W.length:=List.length_pos_iff.mpr hne
 have b0:=Fm (σ:=[]) (W:=W) 0 (by decide) (by decide) (by (exact Int.ofNat_le.mpr ‹_›))
 have hh:W.getD (0:Int).toNat []=W.headD []:=by cases W <;> rfl
 rw [hh] at b0
 refine Ar (t:=decide ((W.length:Int) < 2) || !decide (W.headD []=BC)) (σ1:=[]) (C1 (by simp only [Ah,Ad,Ao,A6,An,Ap,Aa,gz,gs,sz,sy,AQ,c_lt,lt_i,List.length_map] <;> rfl) (fun _=>(by simp only [Ah,Ad,Ao,Am,Aa,gz,gs,sz,sy,CN,Bx,Ba,b0,k_chg0] <;> rfl))) (fun e=>?_) (fun e=>?_)
 ·refine Bg hhd rfl ?_
  rw [show CS W=none by simp only [CS,e]; rfl]; rfl
 have h2:2<=W.length:=by
  simp only [Bool.or_eq_false_iff,decide_eq_false_iff_not] at e; lia
 have b1:=Fm (σ:=[]) (W:=W) 1 (by decide) (by decide) (by (exact Int.ofNat_le.mpr ‹_›))
 have h1:(1:Int).toNat=1:=rfl
 rw [h1] at b1
 refine Ar (t:=decide ((W.length:Int)=2)) (σ1:=[]) (by simp only [Ah,Ad,Ao,A6,An,Ap,Aa,gz,gs,sz,sy,AQ,CA,Br,List.length_map] <;> rfl) (fun e2=>?_) (fun e2=>?_)
 ·rw [show CS W=some (W.getD 1 [],[]) by simp only [CS,e,e2]; rfl]
  refine Ax (v:=.d (DD (W.getD 1 [],[]))) (σ1:=[]) ?_ rfl
  simp only [Ah,Ad,Bj,Cn,Am,An,Ap,Aa,gz,gs,sz,sy,b1,A2,EX,List.length_nil,if_pos (Nat.zero_le line),if_pos (len2 _ _),tup2]; rfl
 have h3:3<=W.length:=by
  have:=of_decide_eq_false e2; lia
 have b2:=Fm (σ:=[]) (W:=W) 2 (by decide) (by decide) (by (exact Int.ofNat_le.mpr ‹_›))
 have h22:(2:Int).toNat=2:=rfl
 rw [h22] at b2
 refine Ar (t:=(!decide (W.getD 2 []=kon))||decide ((W.length:Int) < 4)) (σ1:=[]) (C1 (by simp only [Ah,Ad,Ao,Am,Aa,gz,gs,sz,sy,CN,Bx,Ba,b2,k_on] <;> rfl) (fun _=>(by simp only [Ah,Ad,Ao,A6,An,Ap,Aa,gz,gs,sz,sy,AQ,c_lt,lt_i,List.length_map] <;> rfl))) (fun e3=>?_) (fun e3=>?_)
 ·refine Bg hhd rfl ?_
  rw [show CS W=none by simp only [CS,e,e2,e3]; rfl]; rfl
 have s3:slice true (.d (dl W)) (some (vi 3)) none []=.ok (.d (dl (W.drop 3))) []:=(DM (k:=3) (by decide) (by simp [line]; lia)).trans (by rw [<-List.map_drop])
 rw [show CS W=some (W.getD 1 [],W.drop 3) by simp only [CS,e,e2,e3]; rfl]
 refine Ax (v:=.d (DD (W.getD 1 [],W.drop 3))) (σ1:=[]) ?_ rfl
 simp only [Ah,Ad,Bj,Am,Bm,An,Ap,CM,C8,Aa,gz,gs,sz,sy,b1,s3,if_pos (len2 _ _),tup2]; rfl
noncomputable def DF (d:Deed):Prop:=(∀ m,d.mark=some m->0<=m.2/\m.2 < 1000000000)/\((d.word=AW/\d.text=none)\/(d.word≠AW/\∃ l,d.text=some l))
theorem markF_ok {t:List Nat} {o:Option (List Nat×Int)} (h:Dx t=some o):∀ m,o=some m->0<=m.2/\m.2 < 1000000000:=by
 intro m hm
 unfold Dx at h
 split at h
 ·rw [hm] at h; exfalso; cases h
 ·induction hn:Ex (AZ [32] t).2.2 with
  | none=>rw [hn] at h; exact Ab h
  | some i=>rw [hn] at h; obtain rfl:=Option.some.inj h; obtain rfl:=Option.some.inj hm; exact numF_some hn
set_option tactic.hygienic true in
theorem deedF_ok {row:List Nat} {d:Deed} (h:C2 row=some d):DF d:=by
 unfold C2 at h
 split at h
 ·exact Ab h
 split at h
 ·rename_i e
  induction hm:Dx (row.drop 4) with
  | none=>rw [hm] at h; exact Ab h
  | some m=>rw [hm] at h; obtain rfl:=Option.some.inj h; exact ⟨markF_ok hm,.inl ⟨of_decide_eq_true e,rfl⟩⟩
 rename_i e
 split at h
 ·exact Ab h
 ·induction hm:Dx ((row.drop 4).take ((DV row).toNat-4)) with
  | none=>rw [hm] at h; exact Ab h
  | some m=>rw [hm] at h; obtain rfl:=Option.some.inj h; exact ⟨markF_ok hm,.inr ⟨fun q=>e (decide_eq_true q),_,rfl⟩⟩
theorem DF.fits {d:Deed} (h:DF d):d.word≠AW->d.text≠none:=by
 intro hw ht
 rcases h.2 with ⟨e,_⟩ | ⟨_,l,e⟩
 ·exact hw e
 ·exact AT (e.symm.trans ht)
set_option tactic.hygienic true in
theorem GF {t:List Nat} {ls:List (List Nat)} {ds:List Deed} (h:Bs t ls ds=none) (hd:∀ d∈ds,DF d) (hl:ls.length<=10000):OkCh (t,ls,ds):=by
 unfold Bs at h
 split at h
 ·exact AT h
 split at h
 ·exact AT h
 split at h
 ·exact AT h
 split at h
 ·exact AT h
 rename_i h1 h2 h3 h4
 simp only [Bool.not_eq_true',Bool.not_eq_false] at h1
 have h2:¬ ((ds.length:Int) > 20):=fun q=>h2 (decide_eq_true q)
 simp only [Bool.not_eq_true,List.any_eq_false,Bool.not_eq_false',Bool.not_eq_true'] at h3 h4
 refine ⟨h1,hl,by show ds.length<=20; lia,fun d hm=>⟨?_,fun m e=>⟨?_,(hd d hm).1 m e⟩⟩⟩
 ·have hk:Bc d=true:=by simpa using h3 d hm
  obtain ⟨w,o,x⟩:=d
  rcases (hd _ hm).2 with ⟨e1,e2⟩ | ⟨e1,l,e2⟩
  ·obtain rfl:w=AW:=e1
   refine .inr ⟨rfl,e2,fun e=>?_⟩
   obtain rfl:o=none:=e
   exact absurd hk (by simp [Bc,show AW≠Cp by decide])
  ·obtain rfl:x=some l:=e2
   have e1:w≠AW:=e1
   simp only [Bc,Bool.and_eq_true,Bool.not_eq_true',Bool.and_eq_false_iff,Bool.not_eq_false',decide_eq_true_eq,decide_eq_false_iff_not,Option.getD_some] at hk
   obtain ⟨⟨k1,k2⟩,k3⟩:=hk
   refine .inl ⟨l,k3.resolve_left e1,rfl,?_⟩
   rcases k1 with (k1 | k1) | k1
   ·exact .inl k1
   ·exact absurd k1 e1
   ·refine .inr ⟨k1,fun e=>?_⟩
    obtain rfl:o=none:=e
    rcases k2 with k2 | k2
    ·rw [k1] at k2; exact absurd k2 (by decide)
    ·exact tt_ k2
 ·have hu:=h4 d hm
  simp only [unl,e,Bool.and_eq_false_iff,Bool.not_eq_false',decide_eq_true_eq] at hu
  exact hu
theorem GoodCh.check {c:Ch} (h:OkCh c):Bs c.1 c.2.1 c.2.2=none:=by
 have h1:decide ((c.2.2.length:Int) > 20)=false:=by have:=h.deeds; simp; (exact Int.ofNat_le.mpr ‹_›)
 have h2:c.2.2.any (fun d=>!Bc d)=false:=by
  rw [List.any_eq_false]
  intro d hd
  obtain ⟨w,m,x⟩:=d
  rcases (h.good _ hd).shape with ⟨l,h1,h2,h3 | ⟨h3,h4⟩⟩ | ⟨h1,h2,h3⟩
  ·obtain rfl:x=some l:=h2
   obtain rfl:w=Cp:=h3
   rw [ok_add m l h1]; simp
  ·obtain rfl:x=some l:=h2
   obtain rfl:w=Fq:=h3
   induction m with
   | none=>exact absurd rfl h4
   | some m=>rw [ok_set m l h1]; simp
  ·obtain rfl:w=AW:=h1
   obtain rfl:x=none:=h2
   induction m with
   | none=>exact absurd rfl h3
   | some m=>rw [ok_cut m]; simp
 have h3:c.2.2.any (unl c.1 c.2.1)=false:=by
  rw [List.any_eq_false]
  intro d hd
  obtain ⟨w,m,x⟩:=d
  induction m with
  | none=>simp [Mine.Internal.unl]
  | some m=>rcases ((h.good _ hd).mark m rfl).1 with e | e <;> simp [Mine.Internal.unl,e]
 simp only [Bs,h.leans,h1,h2,h3]; rfl
theorem checkR_exc {t:List Nat} {ls:List (List Nat)} {ds:List Deed} {k:Nat} (h:Bs t ls ds=some k):isExc k 1=some true:=by
 unfold Bs at h
 split at h
 ·obtain rfl:=Option.some.inj h; rfl
 split at h
 ·obtain rfl:=Option.some.inj h; rfl
 split at h
 ·obtain rfl:=Option.some.inj h; rfl
 split at h
 ·obtain rfl:=Option.some.inj h; rfl
 ·exact Ab h
noncomputable def Cd (T:List Nat):Option Ch :=
 match CS (Ai 32 (row0 T)) with
 | none=>none
 | some h=>(match Dr C2 (Ai 10 T).tail with
  | none=>none
  | some ds=>(match Bs h.1 h.2 ds with
   | some _=>none
   | none=>if decide (A0 (h.1,h.2,ds)=T) then some (h.1,h.2,ds) else none))
set_option tactic.hygienic true in
set_option tactic.hygienic true in
theorem readF_ok {T:List Nat} {c:Ch} (hT:T.length<=9000) (h:Cd T=some c):OkCh c/\A0 c=T:=by
 unfold Cd at h
 split at h
 ·exact Ab h
 rename_i hh e1
 split at h
 ·exact Ab h
 rename_i ds e2
 split at h
 ·exact Ab h
 rename_i e3
 split at h
 ·rename_i e4
  obtain rfl:=Option.some.inj h
  refine ⟨GF e3 (fun d hd=>?_) ?_,of_decide_eq_true e4⟩
  ·obtain ⟨row,_,e⟩:=mapO_mem e2 d hd
   exact deedF_ok e
  ·have a1:=headF_len e1
   have a2:=B3 32 (row0 T)
   have a3:=Df T
   lia
 ·exact Ab h
noncomputable def readEnd (T:List Nat) (σ:Store) (r:Res Fl):Prop:=(∃ c,Cd T=some c/\r=.ok (.ret (.d c.data)) σ)\/(Cd T=none/\∃ k,(k=4\/k=1004)/\r=.exc k σ)
theorem run_read {C:Cfg} (hhd:C.hd=false) (hX:C.isExc=isExc) (T:List Nat) (hT:T.length<=9000)
 (hhead:∀ row σ,row.length<=900000->C.cf false .frz 11 [vs row] σ=resD σ 4 ((CS (Ai 32 row)).map DD))
 (hdeed:∀ row σ,row.length<=900000->C.cf false .frz 10 [vs row] σ=resD σ 4 ((C2 row).map Deed.data))
 (hcheck:∀ t ls ds σ,List.length ls<=1000000->(∀ d∈ds,Deed.word d≠AW->d.text≠none)->C.cf false .frz 5 [.d (change t ls ds)] σ=resR σ (Bs t ls ds))
 (hwr:∀ c σ,Fine c->C.cf false .frz 7 [.d c.data] σ=.ok (vs (A0 c)) σ) :
 Aw (readEnd T σ) (execSs C F_read.body [some (vs T),none,none,none,none] σ):=by
 show Aw _ (execSs C [_,_,_,_,_,_] _ σ)
 have hsp:=Dd (σ:=σ) 10 T (by (exact BO ‹_› (by rfl)))
 have hpre:AK .split (vs T) σ=true:=rfl
 refine Al (v:=.d (dl (Ai 10 T))) (σ1:=σ) (by simp only [Ah,Ad,By,An,Ap,Aa,gz,hpre,if_true,k_nl]; exact hsp) ?_
 obtain ⟨rs,hrs⟩:=Eb T
 have hlen:=B3 10 T
 have hpc:=Cl 10 T
 have hr0:=Df T
 have htl:(Ai 10 T).tail=rs:=by rw [hrs]; rfl
 rw [hrs] at hlen hpc ⊢
 have hrl:rs.length<=9000:=by simp at hlen; (exact Nat.le_trans ‹_› ‹_›)
 have b0:=Fm (σ:=σ) (W:=row0 T::rs) 0 (by decide) (by decide) (by simp)
 have h00:(row0 T::rs).getD (0:Int).toNat []=row0 T:=rfl
 rw [h00] at b0
 have hh:=hhead (row0 T) σ (by lia)
 have hrow0:=fun (W:List (List Nat))=>B3 32 (row0 T)
 induction e1:CS (Ai 32 (row0 T)) with
 | none =>
  rw [e1] at hh
  have hh:C.cf false .frz 11 [vs (row0 T)] σ=.exc 4 σ:=hh
  refine go_asg_exc (c:=4) (σ1:=σ) (by simp only [Ah,Ad,Am,A1,An,Ap,Aa,gz,gs,sz,sy,b0,hhd,hh]) (.inr ⟨?_,4,.inl rfl,rfl⟩)
  simp only [Cd,e1]
 | some h =>
 rw [e1] at hh
 have hh:C.cf false .frz 11 [vs (row0 T)] σ=.ok (.d (DD h)) σ:=hh
 refine Al (v:=.d (DD h)) (σ1:=σ) (by simp only [Ah,Ad,Am,A1,An,Ap,Aa,gz,gs,sz,sy,b0,hhd,hh]) ?_
 have t0:A4 (.d (DD h)) (vi 0) σ=some (vs h.1):=BX 0 (by decide) (by decide) rfl
 have t1:A4 (.d (DD h)) (vi 1) σ=some (.d (dl h.2)):=BX 1 (by decide) (by decide) rfl
 have s1:slice true (.d (dl (row0 T::rs))) (some (vi 1)) none σ=.ok (.d (dl rs)) σ:=DM (k:=1) (by decide) (by simp [line]; (exact BO ‹_› (by rfl)))
 have hcomp:=e_compO (C:=C) (c:=4) (elt:=.fcall .frz 10 [.var 4]) (t:=4) (it:=.of (.slc true (.var 1) (some (.cst (.int 1))) none)) (ρ:=[some (vs T),some (.d (dl (row0 T::rs))),some (.d (DD h)),none,none]) (σ:=σ) (σ1:=σ) (l:=rs) (fun r=>vs r) (fun r=>(C2 r).map Deed.data)
  (Cs (v:=.d (dl rs)) (by simp only [Ah,Ad,Bm,CM,C8,Aa,gz,gs,s1] <;> rfl) (Di _ _)) (by simp [line]; (exact lt_c ‹_› (by rfl))) (fun r hr=>by
   have a:=hdeed r σ (by have:=hpc r (by exact .tail _ hr); lia)
   simp only [Ad,A1,An,Ap,Aa,gz,gs,sz,sy,hhd,a])
 rw [mapO_map] at hcomp
 induction e2:Dr C2 rs with
 | none =>
  rw [e2] at hcomp
  refine go_asg_exc (c:=4) (σ1:=σ) ?_ (.inr ⟨?_,4,.inl rfl,rfl⟩)
  ·simp only [Ah,Ad,Bj,Am,An,Ap,Aa,gz,gs,sz,sy,t0,t1,hcomp]; rfl
  ·simp only [Cd,e1,htl,e2]
 | some ds =>
 rw [e2] at hcomp
 have hcomp:Ac C _ _ σ=.ok (.d (.list (ds.map Deed.data))) σ:=hcomp
 refine Al (v:=.d (change h.1 h.2 ds)) (σ1:=σ) (by simp only [Ah,Ad,Bj,Am,An,Ap,Aa,gz,gs,sz,sy,t0,t1,hcomp,if_pos (len3 _ _ _),tup3]) ?_
 have hl1:=headF_len e1
 have hl2:=B3 32 (row0 T)
 have hDF:∀ d∈ds,DF d:=fun d hd=>by
  obtain ⟨row,_,e⟩:=mapO_mem e2 d hd
  exact deedF_ok e
 have hck:=hcheck h.1 h.2 ds σ (by lia) (fun d hd=>(hDF d hd).fits)
 generalize hH:DD h=H
 induction e3:Bs h.1 h.2 ds with
 | some k =>
  have hk:isExc k 1=some true:=checkR_exc e3
  rw [e3] at hck
  have hck:C.cf false .frz 5 [.d (change h.1 h.2 ds)] σ=.exc k σ:=hck
  refine go_try_raise (c:=k) (σ1:=σ) (EF (by simp only [Ad,A1,An,Ap,Aa,gz,gs,sz,sy,hhd,hck])) (by rw [hX]; exact hk) (.inr ⟨?_,1004,.inr rfl,rfl⟩)
  simp only [Cd,e1,htl,e2,e3]
 | none =>
 rw [e3] at hck
 have hck:C.cf false .frz 5 [.d (change h.1 h.2 ds)] σ=.ok (.d .none) σ:=hck
 have hok:OkCh (h.1,h.2,ds):=GF e3 hDF (by lia)
 have hw:=hwr (h.1,h.2,ds) σ hok.fine
 refine go_try (M:=fun ρ σ'=>ρ=[some (vs T),some (.d (dl (row0 T::rs))),some (.d H),some (.d (change h.1 h.2 ds)),none]/\σ'=σ) (C6 (v:=.d .none) (σ1:=σ) (by simp only [Ad,A1,An,Ap,Aa,gz,gs,sz,sy,hhd,hck]) (Av ⟨_,_,⟨rfl,rfl⟩,rfl⟩)) ?_
 rintro _ σ ⟨rfl,rfl⟩
 refine Ar (t:=!decide (A0 (h.1,h.2,ds)=T)) (σ1:=σ) (by simp only [Ad,Ao,A1,An,Ap,Aa,gz,gs,CN,Bx,Ba,hhd,hw]) (fun e4=>?_) (fun e4=>?_)
 ·refine Bg hhd rfl (.inr ⟨?_,4,.inl rfl,rfl⟩)
  simp only [Bool.not_eq_true'] at e4
  simp only [Cd,e1,htl,e2,e3,e4]; rfl
 ·refine Ax (v:=.d (change h.1 h.2 ds)) (σ1:=σ) rfl (.inl ⟨(h.1,h.2,ds),?_,rfl⟩)
  simp only [Bool.not_eq_false'] at e4
  simp only [Cd,e1,htl,e2,e3,e4]; rfl
theorem ev_read (T:List Nat) (hT:T.length<=9000) :
 (∃ c,Cd T=some c/\∀ σ,Ag P03 isExc fuel (n+4) false .shared 12 [vs T] σ=.ok (.d c.data) σ)\/(Cd T=none/\∀ σ,∃ k,(k=4\/k=1004)/\Ag P03 isExc fuel (n+4) false .shared 12 [vs T] σ=.exc k σ):=by
 have key:=fun σ=>run_read (C:=⟨Ag P03 isExc fuel (n+3),isExc,fuel,false⟩) (σ:=σ) rfl rfl T hT (fun row σ h=>ev_head row h) (fun row σ h=>ev_deed_of row h) (fun t ls ds σ h1 h2=>ev_check t ls ds h1 h2) (fun c σ h=>ev_written c h)
 induction hr:Cd T with
 | some c =>
  refine .inl ⟨c,rfl,fun σ=>?_⟩
  rcases key σ with ⟨c',e1,e2⟩ | ⟨e1,_⟩
  ·obtain rfl:=Option.some.inj (hr.symm.trans e1)
   exact shared_ok Q12 rfl e2
  ·exact AT (hr.symm.trans e1)
 | none =>
  refine .inr ⟨rfl,fun σ=>?_⟩
  rcases key σ with ⟨c',e1,e2⟩ | ⟨e1,k,hk,e2⟩
  ·exact Ab (hr.symm.trans e1)
  ·exact ⟨k,hk,shared_exc Q12 rfl e2⟩
end
theorem eqN_str (n:Nat) (x:Str):eqN n (.str x) (.str x)=some true:=by
 cases n <;> exact congrArg some (beq_self_eq_true x)
theorem eqN_int (n:Nat) (i:Int):eqN n (.int i) (.int i)=some true:=by
 cases n <;> exact congrArg some (beq_self_eq_true i)
theorem eqN_none (n:Nat):eqN n .none .none=some true:=by
 cases n <;> rfl
theorem F1 (f:PyData->PyData->Option Bool):∀ l:List PyData,(∀ x∈l,f x x=some true)->CL f l l=some true
 | [],_=>rfl
 | x::r,h=>by
  have h1:=h x (by exact .head _)
  have h2:=F1 f r (fun y hy=>h y (by exact .tail _ hy))
  show (match f x x with | some a=>(match CL f r r with | some b=>some (a&&b) | none=>none) | none=>none)=_
  rw [h1,h2]; rfl
theorem eqN_tup (n:Nat) (l:List PyData) (h:∀ x∈l,eqN n x x=some true):eqN (n+1) (.tuple l) (.tuple l)=some true:=F1 _ l h
theorem eqN_list (n:Nat) (l:List PyData) (h:∀ x∈l,eqN n x x=some true):eqN (n+1) (.list l) (.list l)=some true:=(if_pos rfl).trans (F1 _ l h)
theorem eqN_mark (n:Nat) (o:Option (List Nat×Int)):eqN (n+1) (Ay o) (Ay o)=some true:=by
 induction o with
 | none=>exact eqN_none _
 | some m =>
  refine eqN_tup n _ ?_
  intro x hx
  simp only [List.mem_cons,List.not_mem_nil,or_false] at hx
  rcases hx with rfl | rfl
  ·exact eqN_str _ _
  ·exact eqN_int _ _
theorem eqN_deed (n:Nat) (d:Deed):eqN (n+2) d.data d.data=some true:=by
 rw [data_eq]
 refine eqN_tup (n+1) _ ?_
 intro x hx
 simp only [List.cons_append,List.nil_append,List.mem_cons] at hx
 rcases hx with rfl | rfl | hx
 ·exact eqN_str _ _
 ·exact eqN_mark _ _
 ·induction ht:d.text with
  | none=>rw [ht] at hx; exfalso; cases hx
  | some l =>
   rw [ht] at hx
   simp only [FA,List.mem_cons,List.not_mem_nil,or_false] at hx
   rw [hx]; exact eqN_str _ _
theorem eqN_dl (n:Nat) (ls:List (List Nat)):eqN (n+1) (dl ls) (dl ls)=some true:=by
 refine eqN_list n _ ?_
 intro x hx
 obtain ⟨t,_,rfl⟩:=List.mem_map.mp hx
 exact eqN_str _ _
section
variable {σ:Store} {X:Nat->Nat->Option Bool} {fz h:Bool} {C:Cfg} {ρ:Au} {σ1:Store}
theorem eq_deed (d:Deed):eqV σ (.d d.data) (.d d.data)=some true:=eqN_deed 38 d
theorem eq_dl (ls:List (List Nat)):eqV σ (.d (dl ls)) (.d (dl ls))=some true:=eqN_dl 39 ls
theorem isi_tup {l:List PyData}:bcall X h .isinstance fz [.d (.tuple l),.ty "tuple"] σ=.ok (vb true) σ:=rfl
theorem FU {x:Str}:bcall X h .isinstance fz [.d (.str x),.ty "str"] σ=.ok (vb true) σ:=rfl
theorem isi_list {l:List PyData}:bcall X h .isinstance fz [.d (.list l),.ty "list"] σ=.ok (vb true) σ:=rfl
theorem isi_int {i:Int}:bcall X h .isinstance fz [.d (.int i),.ty "int"] σ=.ok (vb true) σ:=rfl
theorem isi_bool {i:Int}:bcall X h .isinstance fz [.d (.int i),.ty "bool"] σ=.ok (vb false) σ:=rfl
theorem isi_deed (d:Deed):bcall X h .isinstance fz [.d d.data,.ty "tuple"] σ=.ok (vb true) σ:=rfl
theorem isi_mark (m:List Nat×Int):bcall X h .isinstance fz [.d (Ay (some m)),.ty "tuple"] σ=.ok (vb true) σ:=rfl
theorem isi_ch (c:Ch):bcall X h .isinstance fz [.d c.data,.ty "tuple"] σ=.ok (vb true) σ:=rfl
theorem len_deed (d:Deed):bcall X h .len fz [.d d.data] σ=.ok (vi ((2+(FA d.text).length:Nat):Int)) σ:=by
 rw [data_eq,bc_len_t]; exact congrArg (fun n:Nat=>Res.ok (vi (n:Int)) σ) (by simp; lia)
theorem len_mark (m:List Nat×Int):bcall X h .len fz [.d (Ay (some m))] σ=.ok (vi 2) σ:=rfl
theorem len_ch (c:Ch):bcall X h .len fz [.d c.data] σ=.ok (vi 3) σ:=rfl
theorem e_or3 {p q r:Bool} {a b c:E} (h1:Ac C a ρ σ=.ok (vb p) σ) (h2:p=false->Ac C b ρ σ=.ok (vb q) σ) (h3:p=false->q=false->Ac C c ρ σ=.ok (vb r) σ):Ac C (.bop .Or [a,b,c]) ρ σ=.ok (vb (p||q||r)) σ:=by
 rw [Gb,F2,h1,Aa]
 cases p with
 | true=>rfl
 | false =>
  show evalB C .Or [b,c] ρ σ=_
  rw [F2,h2 rfl,Aa]
  cases q with
  | true=>rfl
  | false=>exact h3 rfl rfl
theorem bools_map {α:Type} (p:α->Bool) (l:List α):DG ((l.map fun a=>PyData.bool (p a)).map V.d)=some (l.map p):=by
 induction l with
 | nil=>rfl
 | cons a l ih =>
  show (match DG ((l.map fun a=>PyData.bool (p a)).map V.d) with | some bs=>some (p a::bs) | none=>none)=_
  rw [ih]; rfl
theorem e_allB {α:Type} {l:List α} {e:E} (p:α->Bool) (hhd:C.hd=false) (he:Ac C e ρ σ=.ok (.d (.list (l.map fun a=>.bool (p a)))) σ1):Ac C (.bcall .all fz [e]) ρ σ=.ok (vb (l.all p)) σ1:=by
 have ha:(l.map p).all id=l.all p:=by rw [List.all_map]; rfl
 rw [A6,Ap,he,Aa,An,Aa,Aa]
 show (match DG ((l.map fun a=>PyData.bool (p a)).map V.d) with | some bs=>if C.hd=false then Res.ok (V.d (.bool (bs.all id))) σ1 else .bad | none=>.bad)=_
 rw [bools_map]
 refine (if_pos hhd).trans ?_
 rw [ha]
theorem e_all {α:Type} {l:List α} {e:E} (hhd:C.hd=false) (he:Ac C e ρ σ=.ok (.d (.list (l.map fun _=>.bool true))) σ1):Ac C (.bcall .all fz [e]) ρ σ=.ok (vb true) σ1:=by
 rw [e_allB (fun _=>true) hhd he,List.all_eq_true.mpr (fun _ _=>rfl)]
theorem e_comp2D {α:Type} {elt:E} {t u:Nat} {it:It} {l:List α} (a b g:α->PyData) (hhd:C.hd=false)
 (hi:evalIt C it ρ σ=.ok (.items (l.map fun x=>V.d (.tuple [a x,b x]))) σ1) (hl:l.length<=line)
 (hg:∀ x∈l,Ac C elt ((((ρ.set t none).set u none).set t (some (.d (a x)))).set u (some (.d (b x)))) σ1=.ok (.d (g x)) σ1) :
 Ac C (.comp true elt [t,u] it []) ρ σ=.ok (.d (.list (l.map g))) σ1:=by
 rw [E6,hi,Aa]
 show BT true _ (BQ _ ((l.map fun x=>V.d (.tuple [a x,b x])).length+1) (.items (l.map fun x=>V.d (.tuple [a x,b x]))) σ1)=_
 rw [D6,F3 (fun x=>V.d (.tuple [a x,b x])) (fun x=>some (.d (g x))) l]
 ·show A2 true _ σ1=_
  have e:l.filterMap (fun x=>some (V.d (g x)))=(l.map g).map V.d:=by
   rw [List.map_map]; induction l with
   | nil=>rfl
   | cons x r ih=>simp
  rw [e]
  exact BJ _ (by simpa using hl)
 ·intro x hx
  have hb:BG C.hd (Bv ρ [t,u]) [t,u] (.d (.tuple [a x,b x]))=some ((((ρ.set t none).set u none).set t (some (.d (a x)))).set u (some (.d (b x)))):=by
   rw [hhd]; rfl
  simp only [AP,hb,eF_1,Aa,hg x hx]
end
theorem textD_map (o:Option (List Nat)):FA o=o.toList.map fun l=>.str (Tx l):=by cases o <;> rfl
section
variable {fuel n:Nat} {hd:Bool} {σ:Store}
theorem Q26:P03 26=some ED:=rfl
theorem Q27:P03 27=some DX:=rfl
theorem ev_deed_like (d:Deed):Ag P03 isExc fuel (n+1) false .frz 26 [.d d.data,.d d.data] σ=.ok (vb true) σ:=by
 refine AR (v:=vb true) (σ1:=[]) Q26 rfl (A9 rfl ?_) rfl
 generalize hC:(⟨Ag P03 isExc fuel n,isExc,fuel,false⟩:Cfg)=C
 have hhd:C.hd=false:=by rw [<-hC]
 show Aw (fun r=>r=_) (execSs C [_,_,_] [some (.d d.data),some (.d d.data),none,none] [])
 obtain ⟨L,hL⟩:∃ L:Int,L=((2+(FA d.text).length:Nat):Int):=⟨_,rfl⟩
 have hlen:∀ (X:Nat->Nat->Option Bool) (h fz:Bool) (σ:Store),bcall X h .len fz [.d d.data] σ=.ok (vi L) σ:=fun X h fz σ=>by rw [hL]; exact len_deed d
 clear hL
 refine Ar (t:=!true || !decide (L=L) || !true) (σ1:=[]) (e_or3 (Cu (by simp only [Ad,A6,An,Ap,Aa,gz,G2,isi_deed] <;> rfl)) (fun _=>(by simp only [Ad,Ao,A6,An,Ap,Aa,gz,gs,CN,Bx,Br,hlen] <;> rfl)) (fun _ _=>Cu (by simp only [Ah,Ad,Am,A6,An,Ap,Aa,gz,G2,Bl,FU] <;> rfl))) (fun e=>?_) (fun _=>?_)
 ·simp at e
 refine BP (M:=fun ρ σ=>(∃ z,ρ=[some (.d d.data),some (.d d.data),z,none])/\σ=[]) ?_ ?_
 ·refine Ar (t:=!d.mark.isNone) (σ1:=[]) (by simp only [Ah,Ad,Ao,Am,Aa,gz,gs,Gc,Bx,AS,Ct] <;> rfl) (fun e=>?_) (fun _=>Av ⟨_,_,⟨⟨_,rfl⟩,rfl⟩,rfl⟩)
  obtain ⟨w,o,tx⟩:=d
  induction o with
  | none=>exact ff_ e
  | some m =>
   refine Al (v:=.d (Ay (some m))) (σ1:=[]) (by simp only [Ah,Ad,Am,Aa,gz,AS] <;> rfl) ?_
   refine Ar (t:=!true || !decide ((2:Int)=2) || !true) (σ1:=[]) (e_or3 (Cu (by simp only [Ad,A6,An,Ap,Aa,gz,gs,sz,sy,G2,isi_mark] <;> rfl)) (fun _=>(by simp only [Ah,Ad,Ao,A6,An,Ap,Aa,gz,gs,sz,sy,CN,Bx,Br,len_mark] <;> rfl)) (fun _ _=>Cu (by simp only [Ah,Ad,Am,A6,An,Ap,Aa,gz,gs,sz,sy,G2,sub_m0,FU] <;> rfl))) (fun e=>?_) (fun _=>?_)
   ·simp at e
   refine Ar (t:=!true||false) (σ1:=[]) (C1 (Cu (by simp only [Ah,Ad,Am,A6,An,Ap,Aa,gz,gs,sz,sy,G2,sub_m1,isi_int] <;> rfl)) (fun _=>(by simp only [Ah,Ad,Am,A6,An,Ap,Aa,gz,gs,sz,sy,G2,sub_m1,isi_bool] <;> rfl))) (fun e=>?_) (fun _=>?_)
   ·simp at e
   exact Av ⟨_,_,⟨⟨_,rfl⟩,rfl⟩,rfl⟩
 rintro _ _ ⟨⟨z,rfl⟩,rfl⟩
 have hs:=sl_deed (σ:=[]) d
 rw [textD_map] at hs
 have hcomp:=Dk (C:=C) (elt:=.bcall .isinstance true [.var 3,.ty "str"]) (t:=3) (it:=.of (.slc true (.var 0) (some (.cst (.int 2))) none)) (ρ:=[some (.d d.data),some (.d d.data),z,none]) (σ:=[]) (σ1:=[]) (l:=d.text.toList) (fun l=>vs l) (fun _=>.bool true)
  (Cs (v:=.d (.tuple (d.text.toList.map fun l=>.str (Tx l)))) (by simp only [Ah,Ad,Bm,CM,C8,Aa,gz,hs] <;> rfl) (it_mapT _ _ hhd)) (by cases d.text <;> simp [line]) (fun l _=>(by simp only [Ad,A6,An,Ap,Aa,gz,gs,sz,sy,G2,FU] <;> rfl))
 exact Ax (v:=vb (true&&true)) (σ1:=[]) (Cv (e_all hhd hcomp) (fun _=>(by simp only [Ad,Ao,Aa,gz,gs,CA,eq_deed] <;> rfl))) rfl
theorem ev_change_like (c:Ch) (h1:c.2.1.length<=1000000) (h2:c.2.2.length<=1000000):Ag P03 isExc fuel (n+2) false .frz 27 [.d c.data,.d c.data] σ=.ok (vb true) σ:=by
 refine AR (v:=vb true) (σ1:=[]) Q27 rfl (A9 rfl ?_) rfl
 have hdl:=fun d σ=>ev_deed_like (fuel:=fuel) (n:=n) (σ:=σ) d
 generalize hC:(⟨Ag P03 isExc fuel (n+1),isExc,fuel,false⟩:Cfg)=C
 have hhd:C.hd=false:=by rw [<-hC]
 have hcf:C.cf=Ag P03 isExc fuel (n+1):=by rw [<-hC]
 show Aw (fun r=>r=_) (execSs C [_,_,_,_,_] [some (.d c.data),some (.d c.data),none,none,none] [])
 refine Ar (t:=!true || !decide ((3:Int)=3) || !true) (σ1:=[]) (e_or3 (Cu (by simp only [Ad,A6,An,Ap,Aa,gz,G2,isi_ch] <;> rfl)) (fun _=>(by simp only [Ah,Ad,Ao,A6,An,Ap,Aa,gz,bc_len_t,CN,Bx,Br,len_ch] <;> rfl)) (fun _ _=>Cu (by simp only [Ah,Ad,Am,A6,An,Ap,Aa,gz,G2,CU,FU] <;> rfl))) (fun e=>?_) (fun _=>?_)
 ·simp at e
 refine Ar (t:=!true || !true) (σ1:=[]) (C1 (Cu (by simp only [Ah,Ad,Am,A6,An,Ap,Aa,gz,G2,Ds,isi_list] <;> rfl)) (fun _=>Cu (by simp only [Ah,Ad,Am,A6,An,Ap,Aa,gz,G2,DZ,isi_list] <;> rfl))) (fun e=>?_) (fun _=>?_)
 ·simp at e
 have hc1:=Dk (C:=C) (elt:=.bcall .isinstance true [.var 2,.ty "str"]) (t:=2) (it:=.of (.sub (.var 0) (.cst (.int 1)))) (ρ:=[some (.d c.data),some (.d c.data),none,none,none]) (σ:=[]) (σ1:=[]) (l:=c.2.1) (fun l=>vs l) (fun _=>.bool true)
  (Cs (v:=.d (dl c.2.1)) (by simp only [Ah,Ad,Am,Aa,gz,Ds] <;> rfl) (Di _ _)) (by simp [line]; (exact BO ‹_› (by rfl))) (fun l _=>(by simp only [Ad,A6,An,Ap,Aa,gz,gs,sz,sy,G2,FU] <;> rfl))
 refine Ar (t:=!true || !decide ((c.2.2.length:Int)=c.2.2.length)) (σ1:=[]) (C1 (Cu (e_all hhd hc1)) (fun _=>(by simp only [Ah,Ad,Ao,Am,A6,An,Ap,Aa,gz,gs,AQ,CN,Bx,Br,DZ,List.length_map] <;> rfl))) (fun e=>?_) (fun _=>?_)
 ·simp at e
 refine Ar (t:=!decide (c.1=c.1) || !true) (σ1:=[]) (C1 (by simp only [Ah,Ad,Ao,Am,Aa,gz,gs,CN,Bx,Ba,CU] <;> rfl) (fun _=>(by simp only [Ah,Ad,Ao,Am,Aa,gz,gs,CN,Bx,Ds,eq_dl] <;> rfl))) (fun e=>?_) (fun _=>?_)
 ·simp at e
 have hit:evalIt C (.zip (.sub (.var 0) (.cst (.int 2))) (.sub (.var 1) (.cst (.int 2)))) [some (.d c.data),some (.d c.data),none,none,none] []=.ok (.items (c.2.2.map fun d=>V.d (.tuple [d.data,d.data]))) []:=by
  have hd:Dl false (.d (.list (c.2.2.map Deed.data)))=some ((c.2.2.map Deed.data).map .d):=rfl
  simp only [Ah,Ad,Am,Aa,gz,gs,eI_2,DZ,hhd,hd,zipV_d,List.zip_map']
  rw [List.map_map]; rfl
 have hc2:=e_comp2D (C:=C) (elt:=.fcall .frz 26 [.var 3,.var 4]) (t:=3) (u:=4) (l:=c.2.2) Deed.data Deed.data (fun _=>.bool true) hhd hit (by simp [line]; (exact BO ‹_› (by rfl))) (fun d _=>(by simp only [Ad,A1,An,Ap,Aa,gz,gs,sz,sy,hcf,hhd,hdl] <;> rfl))
 exact Ax (e_all hhd hc2) rfl
end
section
variable {C:Cfg} {ρ:Au} {σ:Store}
theorem e_cmp2 {op op':CmpOp} {a b c:E} {x y z:V} {p q:Bool} (h1:Ac C a ρ σ=.ok x σ) (h2:Ac C b ρ σ=.ok y σ) (h3:Bo op x y σ=some p) (h4:Ac C c ρ σ=.ok z σ) (h5:Bo op' y z σ=some q):Ac C (.cmp2 op op' a b c) ρ σ=.ok (vb (p&&q)) σ:=by
 rw [eA_11,h1,Aa,h2,Aa,h3]
 induction p with
 | false=>rfl
 | true =>
  show (Ac C c ρ σ).bind _=_
  rw [h4,Aa,h5]; rfl
end
noncomputable def E0 (w:List Nat):Int:=if !C4 w || !w.all (fun c=>decide (c∈EV)) then -1 else numV w
theorem numLen_eq (w:List Nat):(decide ((1:Int)<=w.length)&&decide ((w.length:Int)<=9))=C4 w:=by
 rw [Bool.eq_iff_iff,C3,Bool.and_eq_true,decide_eq_true_eq,decide_eq_true_eq]; omega
set_option tactic.hygienic true in
theorem lnum_lt (w:List Nat):-1<=E0 w/\E0 w < 1000000000:=by
 unfold E0
 split
 ·decide
 ·rename_i h
  simp only [Bool.or_eq_true,Bool.not_eq_true',not_or,Bool.not_eq_false] at h
  have:=numV_lt ((C3 w).mp h.1).2 (fun c hc=>by simpa using List.all_eq_true.mp h.2 c hc)
  lia
theorem lnum_fig {i:Int} (h0:0<=i) (h1:i < 1000000000):E0 (fig i)=i:=by
 have e1:C4 (fig i)=true:=(C3 _).mpr (fig_len h0 h1)
 have e2:(fig i).all (fun c=>decide (c∈EV))=true:=by
  rw [List.all_eq_true]; intro c hc; simp [in_figs.mpr (G0 h0 c hc)]
 rw [E0,e1,e2]; exact fig_num h0
section
variable {fuel n:Nat} {hd:Bool} {σ:Store}
theorem Q35:P03 35=some Flaw_number:=rfl
theorem Q36:P03 36=some Dq:=rfl
theorem le_i {i j:Int}:leV (vi i) (vi j)=some (decide (i<=j)):=rfl
theorem ev_number (w:List Nat) (hw:w.length<=1000000):Ag P03 isExc fuel (n+1) false .frz 35 [vs w] σ=.ok (vi (E0 w)) σ:=by
 refine AR (v:=vi (E0 w)) (σ1:=[]) Q35 rfl (A9 rfl ?_) rfl
 generalize hC:(⟨Ag P03 isExc fuel n,isExc,fuel,false⟩:Cfg)=C
 have hhd:C.hd=false:=by rw [<-hC]
 show Aw (fun r=>r=_) (execSs C [_,_] [some (vs w),none] [])
 have h1:Ac C (.cmp2 .LtE .LtE (.cst (.int 1)) (.bcall .len true [.var 0]) (.cst (.int 9))) [some (vs w),none] []=.ok (vb (C4 w)) []:=by
  rw [<-numLen_eq]
  exact e_cmp2 (x:=vi 1) (y:=vi w.length) (z:=vi 9) rfl rfl rfl rfl rfl
 have h2:=Dk (C:=C) (elt:=.cmp .In (.var 1) (.cst (.str "0123456789"))) (t:=1) (it:=.of (.var 0)) (ρ:=[some (vs w),none]) (σ:=[]) (σ1:=[]) (l:=w) (fun c=>vs [c]) (fun c=>.bool (decide (c∈EV)))
  (Cs (v:=vs w) rfl (EQ _ hhd)) (by simp [line]; (exact BO ‹_› (by rfl))) (fun c _=>(by simp only [Ah,Ad,Ao,Aa,gz,gs,sz,sy,c_in,ER,k_figs] <;> rfl))
 unfold E0
 refine Ar (t:=!C4 w || !w.all (fun c=>decide (c∈EV))) (σ1:=[]) (C1 (Cu h1) (fun _=>Cu (e_allB (fun c=>decide (c∈EV)) hhd h2))) (fun e=>?_) (fun e=>?_)
 ·rw [e]; exact Ax (v:=vi (-1)) (σ1:=[]) rfl rfl
 ·rw [e]
  simp only [Bool.or_eq_false_iff,Bool.not_eq_false',List.all_eq_true,decide_eq_true_eq] at e
  exact Ax (v:=vi (numV w)) (σ1:=[]) (by simp only [Ad,A6,An,Ap,Aa,gz,bc_int e.1 e.2] <;> rfl) rfl
noncomputable def CP (row:List Nat):Deed :=
 if decide ((AZ [32] row).1=AW) then ⟨AW,if decide ((AZ [58,32] (AZ [32] row).2.2).1=[45]) then none else some ((AZ [32] (AZ [58,32] (AZ [32] row).2.2).1).1,E0 (AZ [32] (AZ [58,32] (AZ [32] row).2.2).1).2.2),none⟩
 else ⟨(AZ [32] row).1,if decide ((AZ [58,32] (AZ [32] row).2.2).1=[45]) then none else some ((AZ [32] (AZ [58,32] (AZ [32] row).2.2).1).1,E0 (AZ [32] (AZ [58,32] (AZ [32] row).2.2).1).2.2),some (AZ [58,32] (AZ [32] row).2.2).2.2⟩
noncomputable def BL (T:List Nat):Ch:=((Ai 32 (row0 T)).getD (min 1 ((Ai 32 (row0 T)).length-1)) [],(Ai 32 (row0 T)).drop 3,(Ai 10 T).tail.map CP)
theorem sub_len (t:List Nat) (i j:Nat):(Builtin.Str.strSub (Tx t) i j).cps.toList.length<=t.length:=by
 rw [sub_Tx,BB,List.length_take,List.length_drop]; lia
theorem Ew (y t:List Nat):(AZ y t).1.length<=t.length/\(AZ y t).2.2.length<=t.length:=by
 unfold AZ Txt.partition
 split
 ·exact ⟨sub_len _ _ _,sub_len _ _ _⟩
 ·exact ⟨by simp [Tx],by simp [Str.empty]⟩
theorem bind3 (ρ:Au) (i j k:Nat) (a b c:PyData):BG false ρ [i,j,k] (.d (.tuple [a,b,c]))=some (((ρ.set i (some (.d a))).set j (some (.d b))).set k (some (.d c))):=rfl
theorem min_at {m:Nat} (h:0 < m):0<=(if (m:Int)-1 < 1 then (m:Int)-1 else 1)/\(if (m:Int)-1 < 1 then (m:Int)-1 else 1) < m/\(if (m:Int)-1 < 1 then (m:Int)-1 else 1).toNat=min 1 (m-1):=by
 match m,h with
 | 1,_=>exact ⟨by decide,by decide,by decide⟩
 | k+2,_ =>
  have e:¬ (((k+2:Nat):Int)-1 < 1):=by lia
  rw [if_neg e]
  exact ⟨by decide,by lia,(Nat.min_eq_left (Nat.le_add_left 1 k)).symm⟩
theorem run_taken {C:Cfg} (hhd:C.hd=false) (hnum:∀ w σ,List.length w<=1000000->C.cf false .frz 35 [vs w] σ=.ok (vi (E0 w)) σ) (T:List Nat) (hT:T.length<=9000) :
 Aw (fun r=>r=.ok (.ret (.tup [vs (BL T).1,.d (dl (BL T).2.1),.ref 0])) [.list ((BL T).2.2.map fun d=>.d d.data)]) (execSs C Dq.body [some (vs T),none,none,none,none,none,none,none,none,none,none,none,none,none,none] []):=by
 show Aw _ (execSs C [_,_,_,_,_] _ [])
 obtain ⟨rs,hrs⟩:=Eb T
 have hlen:=B3 10 T
 have hpc:=Cl 10 T
 have hr0:=Df T
 have hsp:=Dd (σ:=[]) 10 T (by (exact BO ‹_› (by rfl)))
 have hsp2:=Dd (σ:=[]) 32 (row0 T) (by lia)
 have hWl:=B3 32 (row0 T)
 have hWn:=List.length_pos_iff.mpr (Bk 32 (row0 T))
 have htl:(Ai 10 T).tail=rs:=by rw [hrs]; rfl
 rw [hrs] at hlen hpc hsp
 have hrl:rs.length<=9000:=by simp at hlen; (exact Nat.le_trans ‹_› ‹_›)
 have p1:AK .split (vs T) []=true:=rfl
 have p2:AK .split (vs (row0 T)) []=true:=rfl
 have b0:=Fm (σ:=[]) (W:=row0 T::rs) 0 (by decide) (by decide) (by simp)
 have h00:(row0 T::rs).getD (0:Int).toNat []=row0 T:=rfl
 rw [h00] at b0
 unfold BL
 rw [htl]
 refine Al (v:=.d (dl (row0 T::rs))) (σ1:=[]) (by simp only [Ah,Ad,By,An,Ap,Aa,gz,p1,if_true,k_nl]; exact hsp) ?_
 refine Al (v:=.d (dl (Ai 32 (row0 T)))) (σ1:=[]) (by simp only [Ah,Ad,Am,By,An,Ap,Aa,gz,gs,sz,sy,b0,p2,if_true,k_sp]; exact hsp2) ?_
 generalize Ai 32 (row0 T)=W at hWl hWn
 generalize row0 T=H at hpc
 refine Al (v:=.ref 0) (σ1:=[.list []]) (by simp only [Cn,An,Aa,sz,sy,A2] <;> rfl) ?_
 have s1:slice true (.d (dl (H::rs))) (some (vi 1)) none [.list []]=.ok (.d (dl rs)) [.list []]:=DM (k:=1) (by decide) (by simp [line]; (exact BO ‹_› (by rfl)))
 refine FW (l:=rs) (w:=fun r=>vs r) (σ1:=[.list []]) (fun pre (s:List Deed)=>s=pre.map CP)
  (fun (s:List Deed) ρ σ=>(∃ z4 z5 z6 z7 z8 z9 z10 z11 z12 z13 z14,ρ=[some (vs T),some (.d (dl (H::rs))),some (.d (dl W)),some (.ref 0),z4,z5,z6,z7,z8,z9,z10,z11,z12,z13,z14])/\σ=[.list (s.map fun d=>.d d.data)]) []
  (Cs (v:=.d (dl rs)) (by simp only [Ah,Ad,Bm,CM,C8,Aa,gz,gs,sz,sy,s1] <;> rfl) (Di _ _)) rfl ⟨⟨_,_,_,_,_,_,_,_,_,_,_,rfl⟩,rfl⟩ ?_ ?_
 ·rintro p row q s ρ σ hp rfl ⟨⟨z4,z5,z6,z7,z8,z9,z10,z11,z12,z13,z14,rfl⟩,rfl⟩
  have hrow:row.length<=9000:=by
   have:=hpc row (by rw [hp]; simp)
   (exact Nat.le_trans ‹_› ‹_›)
  have hpl:p.length < 9000:=by
   have:=congrArg List.length hp
   simp at this; lia
  have put:∀ d:Deed,Bf .append true (.ref 0) [.d d.data] [.list ((p.map CP).map fun d=>.d d.data)]=.ok (.d .none) [.list ((p.map CP++[d]).map fun d=>.d d.data)]:=by
   intro d
   have hll:((p.map CP).map fun d=>V.d d.data).length < line:=by simp [line]; (exact BO ‹_› (by rfl))
   refine (if_pos hll).trans ?_
   simp
  have hpre:AK .append (.ref 0) [.list ((p.map CP).map fun d=>V.d d.data)]=true:=rfl
  show Aw (fun r=>∃ (s':List Deed) (ρ':Au) (σ':Store),s'=(p++[row]).map CP/\((∃ z4 z5 z6 z7 z8 z9 z10 z11 z12 z13 z14,ρ'=[some (vs T),some (.d (dl (H::rs))),some (.d (dl W)),some (.ref 0),z4,z5,z6,z7,z8,z9,z10,z11,z12,z13,z14])/\σ'=[.list (s'.map fun d=>.d d.data)])/\r=.ok (.next ρ') σ') (execSs C [_,_,_,_,_,_] _ _)
  rw [List.map_append,show [row].map CP=[CP row] from rfl]
  generalize hD:CP row=D
  unfold CP at hD
  generalize hS:([.list ((p.map CP).map fun d=>V.d d.data)]:Store)=S at put hpre
  have l1:=Ew [32] row
  have l2:=Ew [58,32] (AZ [32] row).2.2
  have l3:=Ew [32] (AZ [58,32] (AZ [32] row).2.2).1
  have m1:=EL (σ:=S) 32 [] row
  have m2:=EL (σ:=S) 58 [32] (AZ [32] row).2.2
  have m3:=EL (σ:=S) 32 [] (AZ [58,32] (AZ [32] row).2.2).1
  have q1:∀ t,AK .partition (vs t) S=true:=fun _=>rfl
  generalize AZ [32] row=u at l1 l2 l3 m1 m2 m3 hD
  generalize AZ [58,32] u.2.2=v at l2 l3 m2 m3 hD
  generalize AZ [32] v.1=x at l3 m3 hD
  refine go_unp (v:=.d (.tuple [.str (Tx u.1),.str (Tx u.2.1),.str (Tx u.2.2)])) (σ1:=S) (by simp only [Ah,Ad,By,An,Ap,Aa,gz,gs,sz,sy,q1,if_true,k_sp]; exact m1) (by rw [hhd]; exact bind3 _ _ _ _ _ _ _) ?_
  refine go_unp (v:=.d (.tuple [.str (Tx v.1),.str (Tx v.2.1),.str (Tx v.2.2)])) (σ1:=S) (by simp only [Ah,Ad,By,An,Ap,Aa,gz,gs,sz,sy,q1,if_true,k_col]; exact m2) (by rw [hhd]; exact bind3 _ _ _ _ _ _ _) ?_
  refine go_unp (v:=.d (.tuple [.str (Tx x.1),.str (Tx x.2.1),.str (Tx x.2.2)])) (σ1:=S) (by simp only [Ah,Ad,By,An,Ap,Aa,gz,gs,sz,sy,q1,if_true,k_sp]; exact m3) (by rw [hhd]; exact bind3 _ _ _ _ _ _ _) ?_
  refine Al (v:=.d .none) (σ1:=S) rfl ?_
  have hn:=fun σ=>hnum x.2.2 σ (by lia)
  refine BP (M:=fun ρ σ=>ρ=[some (vs T),some (.d (dl (H::rs))),some (.d (dl W)),some (.ref 0),some (vs row),some (.d (Ay (if decide (v.1=[45]) then none else some (x.1,E0 x.2.2)))),some (vs u.1),some (vs u.2.1),some (vs u.2.2),some (vs v.1),some (vs v.2.1),some (vs v.2.2),some (vs x.1),some (vs x.2.1),some (vs x.2.2)]/\σ=S) ?_ ?_
  ·refine Ar (t:=!decide (v.1=[45])) (σ1:=S) (by simp only [Ah,Ad,Ao,Aa,gz,gs,sz,sy,CN,Bx,Ba,k_bar] <;> rfl) (fun e=>?_) (fun e=>?_)
   ·rw [show decide (v.1=[45])=false by simpa using e]
    exact Al (v:=.d (Ay (some (x.1,E0 x.2.2)))) (σ1:=S) (by simp only [Ad,Bj,A1,An,Ap,Aa,gz,gs,sz,sy,hhd,hn,if_pos (len2 _ _),tup2]; rfl) (Av ⟨_,_,⟨rfl,rfl⟩,rfl⟩)
   ·rw [show decide (v.1=[45])=true by simpa using e]
    exact Av ⟨_,_,⟨rfl,rfl⟩,rfl⟩
  rintro _ S ⟨rfl,rfl⟩
  generalize (if decide (v.1=[45])=true then none else some (x.1,E0 x.2.2))=mk at hD
  refine Ar (t:=decide (u.1=AW)) (σ1:=S) (by simp only [Ah,Ad,Ao,Aa,gz,gs,CA,Ba,E1] <;> rfl) (fun e=>?_) (fun e=>?_)
  ·rw [e] at hD
   obtain rfl:⟨AW,mk,none⟩=D:=hD
   have hput:=put ⟨AW,mk,none⟩
   exact C6 (v:=.d .none) (σ1:=[.list ((p.map CP++[(⟨AW,mk,none⟩:Deed)]).map fun d=>V.d d.data)]) (by simp only [Ah,Ad,Bj,By,An,Ap,Aa,gz,gs,hpre,if_true,if_pos (len2 _ _),tup2,E1]; exact hput) (Av ⟨_,_,_,rfl,⟨⟨_,_,_,_,_,_,_,_,_,_,_,rfl⟩,rfl⟩,rfl⟩)
  ·rw [e] at hD
   obtain rfl:⟨u.1,mk,some v.2.2⟩=D:=hD
   have hput:=put ⟨u.1,mk,some v.2.2⟩
   exact C6 (v:=.d .none) (σ1:=[.list ((p.map CP++[(⟨u.1,mk,some v.2.2⟩:Deed)]).map fun d=>V.d d.data)]) (by simp only [Ad,Bj,By,An,Ap,Aa,gz,gs,hpre,if_true,if_pos (len3 _ _ _),tup3]; exact hput) (Av ⟨_,_,_,rfl,⟨⟨_,_,_,_,_,_,_,_,_,_,_,rfl⟩,rfl⟩,rfl⟩)
 ·rintro _ _ _ rfl ⟨⟨z4,z5,z6,z7,z8,z9,z10,z11,z12,z13,z14,rfl⟩,rfl⟩
  generalize [O.list ((rs.map CP).map fun d=>V.d d.data)]=S
  have q_z:=min_at hWn
  have i0:=q_z.1
  have i1:=q_z.2.1
  have i2:=q_z.2.2
  have b1:=Fm (σ:=S) (W:=W) _ i0 (by omega) i1
  rw [i2] at b1
  have s3:slice true (.d (dl W)) (some (vi 3)) none S=.ok (.d (dl (W.drop 3))) S:=(DM (k:=3) (by decide) (by simp [line]; lia)).trans (by rw [<-List.map_drop])
  refine Ax (v:=.tup [vs (W.getD (min 1 (W.length-1)) []),.d (dl (W.drop 3)),.ref 0]) (σ1:=S) ?_ rfl
  simp only [Ah,Ad,A5,Bj,Am,Bm,A6,An,Ap,CM,C8,Aa,gz,gs,AQ,b_sub,List.length_map,hhd,bc_min,b1,s3,if_pos (len3 _ _ _)]; rfl
theorem ev_taken (T:List Nat) (hT:T.length<=9000):Ag P03 isExc fuel (n+2) false .frz 36 [vs T] σ=.ok (.d (BL T).data) σ:=by
 refine AR Q36 rfl (A9 rfl (run_taken (C:=⟨Ag P03 isExc fuel (n+1),isExc,fuel,false⟩) rfl (fun w σ h=>ev_number w h) T hT)) ?_
 have e:((BL T).2.2.map fun d=>V.d d.data)=((BL T).2.2.map Deed.data).map .d:=by rw [List.map_map]; rfl
 rw [e]
 exact snap_tup3 _ _ _
end
theorem FL (c:Nat) (y a b:List Nat) (hc:c∉a):AZ (c::y) (a++c::y++b)=(a,c::y,b):=by
 obtain ⟨r,h⟩:=occ1 c y a b hc
 unfold AZ Txt.partition
 rw [h]
 simp only [sub_Tx,BS,BB]
 have e1:(a++c::y++b).drop (a.length+(c::y).length)=b:=List.drop_left' (by rw [List.length_append])
 have e2:(a++c::y++b).length-(a.length+(c::y).length)=b.length:=by simp; lia
 have e3:((a++c::y++b).drop 0).take (a.length-0)=a:=by
  rw [List.drop_zero,Nat.sub_zero,List.append_assoc]; exact List.take_left' rfl
 rw [e1,e2,e3,List.take_length]
theorem part_none (c:Nat) (y t:List Nat) (hc:c∉t):AZ (c::y) t=(t,[],[]):=by
 unfold AZ Txt.partition
 rcases StrLaws.occ_head (Tx t) (Tx (c::y)) 1 (Nat.le_refl _) with ⟨h,_⟩ | ⟨i,r,h1,⟨_,h2⟩,_⟩
 ·rw [h]; rfl
 ·exfalso
  rw [StrLaws.subAt_eq,BB,BB,BS] at h2
  have h':=eq_of_beq h2
  have h3:((t.drop i).take (c::y).length)[0]? = some c:=by rw [h']; rfl
  rw [List.getElem?_take,if_pos (by simp),List.getElem?_drop] at h3
  exact hc (List.mem_of_getElem? h3)
theorem no32:32∉AB:=by decide
theorem no58:58∉AB:=by decide
theorem no10:10∉AB:=by decide
theorem mark_no {o:Option (List Nat×Int)} (h:Do o) {c:Nat} (hc:c∉AB) (h1:c≠32) (h2:c≠45) (h3:¬ (48<=c/\c<=57)):c∉A8 o:=by
 induction o with
 | none=>simp [A8,h2]
 | some m =>
  have q_z:=h m rfl
  have e1:=q_z.1
  have e2:=q_z.2.1
  have e3:=q_z.2.2
  simp only [A8,List.mem_append,List.mem_singleton,not_or]
  exact ⟨⟨FP e1 hc,h1⟩,fun e=>h3 (G0 e2 c e)⟩
theorem word_no {d:Deed} (h:EE d) {c:Nat} (hc:c∉AB):c∉d.word:=by
 have key:∀ w:List Nat,(∀ x∈w,x∈AB)->c∉w:=fun w hw e=>hc (hw c e)
 rcases h.shape with ⟨e,_⟩ | ⟨e | e,_⟩ <;> rw [e] <;> exact key _ (by decide)
theorem part_mark {m:List Nat×Int} (h:Do (some m)):AZ [32] (A8 (some m))=(m.1,[32],fig m.2):=by
 have:=FL 32 [] m.1 (fig m.2) (FP (h m rfl).1 no32)
 simpa [A8] using this
theorem mark_bar {o:Option (List Nat×Int)} (h:Do o):decide (A8 o=[45])=o.isNone:=by
 induction o with
 | none=>rfl
 | some m =>
  refine decide_eq_false fun e=>?_
  have:=congrArg List.length e
  have:=B4 (h m rfl).1
  simp [A8] at *; lia
theorem markF_mark {o:Option (List Nat×Int)} (h:Do o):Dx (A8 o)=some o:=by
 unfold Dx
 rw [mark_bar h]
 induction o with
 | none=>rfl
 | some m =>
  have q_z:=h m rfl
  have h1:=q_z.1
  have h2:=q_z.2.1
  have h3:=q_z.2.2
  rw [part_mark h]
  show (Ex (fig m.2)).map _=_
  rw [numF_fig h2 h3]; rfl
theorem dueM_mark {o:Option (List Nat×Int)} (h:Do o):(if decide (A8 o=[45]) then none else some ((AZ [32] (A8 o)).1,E0 (AZ [32] (A8 o)).2.2))=o:=by
 rw [mark_bar h]
 induction o with
 | none=>rfl
 | some m =>
  obtain ⟨h1,h2,h3⟩:=h m rfl
  rw [part_mark h]
  show some (m.1,E0 (fig m.2))=_
  rw [lnum_fig h2 h3]
theorem not_cut {w:List Nat} (h:w=Cp\/w=Fq):decide (w=AW)=false:=by
 rcases h with rfl | rfl <;> decide
theorem dueD_deed {d:Deed} (h:EE d):CP (deedT d)=d:=by
 have p1:AZ [32] (deedT d)=(d.word,[32],A8 d.mark++BZ d.text):=by
  have:=FL 32 [] d.word (A8 d.mark++BZ d.text) (word_no h no32)
  simpa [deedT] using this
 have hm:=mark_no h.mark no58 (by decide) (by decide) (by decide)
 obtain ⟨w,o,x⟩:=d
 unfold CP
 rw [p1]
 rcases h.shape with ⟨e1,e2⟩ | ⟨e1,l,e2,e3⟩
 ·obtain rfl:x=none:=e2
  obtain rfl:w=AW:=e1
  have p2:AZ [58,32] (A8 o++BZ none)=(A8 o,[],[]):=by
   rw [BZ,List.append_nil]; exact part_none 58 [32] _ hm
  dsimp only
  rw [p2]
  dsimp only
  rw [dueM_mark h.mark]; rfl
 ·obtain rfl:x=some l:=e2
  have hw:decide (w=AW)=false:=not_cut e1
  have p2:AZ [58,32] (A8 o++BZ (some l))=(A8 o,[58,32],l):=by
   have:=FL 58 [32] (A8 o) l hm
   simpa [BZ] using this
  dsimp only
  rw [p2,hw]
  dsimp only
  rw [dueM_mark h.mark]; rfl
theorem deedF_deed {d:Deed} (h:EE d):C2 (deedT d)=some d:=by
 have hw:=wd3 h
 have t3:(deedT d).take 3=d.word:=by
  unfold deedT
  rw [List.append_assoc,List.append_assoc]
  exact List.take_left' hw
 have d4:(deedT d).drop 4=A8 d.mark++BZ d.text:=by
  unfold deedT
  rw [List.append_assoc]
  exact List.drop_left' (by rw [List.length_append,hw]; rfl)
 have m34:((deedT d).drop 3).take 1=[32]:=by
  unfold deedT
  rw [List.append_assoc,List.append_assoc,List.drop_left' hw]; rfl
 have hnw:noWord d.word=false:=by
  rcases h.shape with ⟨e,_⟩ | ⟨e | e,_⟩ <;> rw [e] <;> decide
 unfold C2
 rw [t3,m34,d4,hnw]
 obtain ⟨w,o,x⟩:=d
 rcases h.shape with ⟨e1,e2⟩ | ⟨e1,l,e2,e3⟩
 ·obtain rfl:x=none:=e2
  obtain rfl:w=AW:=e1
  dsimp only [BZ]
  rw [List.append_nil,markF_mark h.mark]; rfl
 ·obtain rfl:x=some l:=e2
  have hwc:decide (w=AW)=false:=not_cut e1
  have hrow:deedT ⟨w,o,some l⟩=(w++[32]++A8 o)++58::[32]++l:=by simp only [deedT,BZ,List.append_assoc]
  have hno:58∉w++[32]++A8 o:=by
   simp only [List.mem_append,not_or]
   exact ⟨⟨word_no h no58,by decide⟩,mark_no h.mark no58 (by decide) (by decide) (by decide)⟩
  have hal:(w++[32]++A8 o).length=4+(A8 o).length:=by
   have hw:w.length=3:=hw
   simp [hw]; lia
  have hcol:DV (deedT ⟨w,o,some l⟩)=((4+(A8 o).length:Nat):Int):=by
   rw [DV,hrow,find_Tx 58 [32] _ l hno,hal]
  have d6:(deedT ⟨w,o,some l⟩).drop (4+(A8 o).length+2)=l:=by
   rw [hrow]
   exact List.drop_left' (by rw [List.length_append,hal]; rfl)
  rw [hcol,hwc]
  dsimp only [BZ]
  have a1:decide (((4+(A8 o).length:Nat):Int) < 4)=false:=by refine decide_eq_false ?_; lia
  have a2:(((4+(A8 o).length:Nat):Int)).toNat-4=(A8 o).length:=by lia
  have a3:(((4+(A8 o).length:Nat):Int)+2).toNat=4+(A8 o).length+2:=by lia
  rw [a1,a2,a3,d6,List.take_left' rfl,markF_mark h.mark]; rfl
theorem sep_mem {c:Nat} (sep:List Nat):∀ l:List (List Nat),c∈AY sep l->c∈sep\/∃ a∈l,c∈a
 | [],h=>by simp [AY] at h
 | [a],h=>by rw [Bt] at h; exact .inr ⟨a,by exact .head _,h⟩
 | a::b::r,h=>by
  rw [AO] at h
  simp only [List.mem_append] at h
  rcases h with (h | h) | h
  ·exact .inr ⟨a,by exact .head _,h⟩
  ·exact .inl h
  ·rcases sep_mem sep (b::r) h with h | ⟨x,hx,h⟩
   ·exact .inl h
   ·exact .inr ⟨x,List.mem_cons_of_mem _ hx,h⟩
theorem headW_ne (t:List Nat) (ls:List (List Nat)):AD t ls≠[]:=by
 unfold AD; exact fun e=>by exact cons_ne e
theorem headW_free {t:List Nat} {ls:List (List Nat)} (h1:Aq t=true) (h2:∀ x∈ls,Aq x=true) {c:Nat} (hc:c∉AB):∀ a∈AD t ls,c∉a:=by
 have k1:c∉BC:=fun e=>hc ((by decide:∀ x∈BC,x∈AB) c e)
 have k2:c∉kon:=fun e=>hc ((by decide:∀ x∈kon,x∈AB) c e)
 intro a ha
 unfold AD at ha
 induction ls with
 | nil =>
  simp only [List.mem_cons,List.not_mem_nil,or_false] at ha
  rcases ha with rfl | rfl
  ·exact k1
  ·exact FP h1 hc
 | cons y r =>
  simp only [List.mem_cons] at ha
  rcases ha with rfl | rfl | rfl | ha
  ·exact k1
  ·exact FP h1 hc
  ·exact k2
  ·exact FP (h2 a (List.mem_cons.mpr ha)) hc
theorem head_no {t:List Nat} {ls:List (List Nat)} (h1:Aq t=true) (h2:∀ x∈ls,Aq x=true) {c:Nat} (hc:c∉AB) (h3:c≠32):c∉AY [32] (AD t ls):=by
 intro e
 rcases sep_mem [32] _ e with e | ⟨x,hx,e⟩
 ·exact h3 (by exact List.mem_singleton.mp e)
 ·exact headW_free h1 h2 hc x hx e
theorem deed_no {d:Deed} (h:EE d) {c:Nat} (hc:c < 32):c∉deedT d:=by
 have hs:c∉AB:=fun e=>by
  have:=(by decide:∀ x∈AB,32<=x) c e; lia
 have hm:=mark_no h.mark hs (by (exact Nat.ne_of_lt ‹_›)) (by lia) (by lia)
 have hw:=word_no h hs
 rcases h.shape with ⟨e1,e2⟩ | ⟨e1,l,e2,e3⟩
 ·simp only [deedT,e2,BZ,List.mem_append,not_or,List.mem_singleton]
  exact ⟨⟨⟨hw,by (exact Nat.ne_of_lt ‹_›)⟩,hm⟩,by exact List.not_mem_nil⟩
 ·simp only [deedT,e2,BZ,List.mem_append,not_or,List.mem_cons,List.not_mem_nil,or_false]
  refine ⟨⟨⟨hw,by (exact Nat.ne_of_lt ‹_›)⟩,hm⟩,⟨by lia,by (exact Nat.ne_of_lt ‹_›)⟩,fun e=>?_⟩
  have:=((FS l).mp e3).2 c e; lia
theorem BM {c:Ch} (h:Fine c):Ai 10 (A0 c)=AY [32] (AD c.1 c.2.1)::c.2.2.map deedT:=by
 unfold A0
 refine Gm 10 _ (by exact List.cons_ne_nil _ _) ?_
 intro a ha
 rcases List.mem_cons.mp ha with rfl | ha
 ·exact head_no h.name h.leans no10 (by decide)
 ·obtain ⟨d,hd,rfl⟩:=List.mem_map.mp ha
  exact deed_no (h.each d hd) (by decide)
theorem Gp {c:Ch} (h:Fine c):row0 (A0 c)=AY [32] (AD c.1 c.2.1):=by
 obtain ⟨r,e⟩:=Eb (A0 c)
 rw [BM h] at e
 exact (List.cons.inj e).1.symm
theorem DY {t:List Nat} {ls:List (List Nat)} (h1:Aq t=true) (h2:∀ x∈ls,Aq x=true):Ai 32 (AY [32] (AD t ls))=AD t ls :=
 Gm 32 _ (headW_ne t ls) (headW_free h1 h2 no32)
theorem due_note {c:Ch} (h:Fine c):BL (A0 c)=c:=by
 unfold BL
 rw [Gp h,DY h.name h.leans,BM h]
 have e3:(c.2.2.map deedT).map CP=c.2.2:=by
  rw [List.map_map]
  exact (List.map_congr_left fun d hd=>dueD_deed (h.each d hd)).trans (List.map_id _)
 obtain ⟨t,ls,ds⟩:=c
 show (_,_,(ds.map deedT).map CP)=_
 rw [e3]
 induction ls with
 | nil=>rfl
 | cons y r=>rfl
theorem headF_head (t:List Nat) (ls:List (List Nat)):CS (AD t ls)=some (t,ls):=by
 induction ls with
 | nil=>rfl
 | cons y r =>
  have a1:decide (((AD t (y::r)).length:Int) < 2)=false:=by refine decide_eq_false ?_; simp [AD]; lia
  have a2:decide (((AD t (y::r)).length:Int)=2)=false:=by refine decide_eq_false ?_; simp [AD]; lia
  have a3:decide (((AD t (y::r)).length:Int) < 4)=false:=by refine decide_eq_false ?_; simp [AD]; lia
  unfold CS
  rw [a1,a2,a3]; rfl
theorem read_note {c:Ch} (h:OkCh c):Cd (A0 c)=some c:=by
 unfold Cd
 rw [Gp h.fine,DY h.fine.name h.fine.leans,headF_head,BM h.fine]
 have e2:Dr C2 (AY [32] (AD c.1 c.2.1)::c.2.2.map deedT).tail=some c.2.2:=mapO_back deedT (fun d hd=>deedF_deed (h.fine.each d hd))
 rw [e2]
 dsimp only
 rw [h.check]
 exact if_pos (decide_eq_true rfl)
section
variable {C:Cfg} {ρ:Au} {σ:Store}
theorem e_or2v {a b:E} {x:V} {p q:Bool} (h1:Ac C a ρ σ=.ok x σ) (hx:B2 σ x=some p) (h2:Ac C b ρ σ=.ok (vb q) σ):∃ z,Ac C (.bop .Or [a,b]) ρ σ=.ok z σ/\B2 σ z=some (p||q):=by
 rw [Gb,F2,h1,Aa,hx]
 induction p with
 | true=>exact ⟨x,rfl,hx⟩
 | false=>exact ⟨vb q,h2,rfl⟩
theorem in_tup3 (a x y z:List Nat):inV σ (vs a) (.d (.tuple [.str (Tx x),.str (Tx y),.str (Tx z)]))=some (decide (a∈[x,y,z])):=inD_str a [x,y,z]
theorem le_s (a b:List Nat):leV (vs a) (vs b)=some (!decide (b < a)):=by
 show some (!Bn (Tx b) (Tx a))=_
 rw [Tx_lt]
end
noncomputable def markG (names:List (List Nat)):Option (List Nat×Int)->Bool
 | none=>true
 | some m=>decide (m.1∈names) && !decide (m.2 < 0)
noncomputable def Eo (names:List (List Nat)) (d:Deed):Bool:=!(!decide (d.word∈[Cp,AW,Fq])||(d.mark.isNone && !decide (d.word=Cp)))&&markG names d.mark&&(decide (d.word=AW)||AU (d.text.getD []))
theorem isline_eq (l:List Nat):(decide ((l.length:Int)<=200)&&l.all fun c=>(!decide ([c] < [32])) && !decide ([126] < [c]))=AU l:=by
 have e1:decide ((l.length:Int)<=200) = !decide ((l.length:Int) > 200):=by
  rw [Bool.eq_iff_iff]; simp
 have e2:(fun c:Nat=>(!decide ([c] < [32])) && !decide ([126] < [c]))=fun c:Nat=>!(decide ((c:Int) < 32)||decide ((c:Int) > 126)):=by
  funext c
  rw [Bool.eq_iff_iff]
  simp only [Bool.and_eq_true,Bool.not_eq_true',decide_eq_false_iff_not,Bool.or_eq_false_iff,List.cons_lt_cons_iff]
  simp
  omega
 rw [AU,e1,e2]
section
variable {fuel n:Nat} {hd:Bool} {σ:Store}
theorem Q33:P03 33=some EC:=rfl
theorem Q34:P03 34=some G9:=rfl
theorem k_tilde:Str.ofString "~" = Tx [126]:=by decide +kernel
theorem ev_good_deed (names:List (List Nat)) (d:Deed) (ht:d.word≠AW->∃ l,d.text=some l/\l.length<=1000000):Ag P03 isExc fuel (n+1) false .frz 33 [.d d.data,.d (dl names)] σ=.ok (vb (Eo names d)) σ:=by
 refine AR (v:=vb (Eo names d)) (σ1:=[]) Q33 rfl (A9 rfl ?_) rfl
 generalize hC:(⟨Ag P03 isExc fuel n,isExc,fuel,false⟩:Cfg)=C
 have hhd:C.hd=false:=by rw [<-hC]
 show Aw (fun r=>r=_) (execSs C [_,_,_] [some (.d d.data),some (.d (dl names)),none] [])
 unfold Eo
 refine Ar (t:=!decide (d.word∈[Cp,AW,Fq])||(d.mark.isNone && !decide (d.word=Cp))) (σ1:=[]) (C1 (by simp only [Ah,Ad,Ao,Bj,Am,An,Ap,Aa,gz,EA,Bx,Bl,k_add,E1,k_set,if_pos (len3 _ _ _),tup3,in_tup3]) (fun _=>Cv (by simp only [Ah,Ad,Ao,Am,Aa,gz,c_is,AS,Ct] <;> rfl) (fun _=>(by simp only [Ah,Ad,Ao,Am,Aa,gz,CN,Bx,Ba,Bl,k_add] <;> rfl)))) (fun e=>?_) (fun e=>?_)
 ·rw [e]; exact Ax (v:=vb false) (σ1:=[]) rfl rfl
 rw [e]
 refine Ar (t:=!markG names d.mark) (σ1:=[]) ?_ (fun e=>?_) (fun e=>?_)
 ·obtain ⟨w,o,x⟩:=d
  induction o with
  | none=>exact Cv (p:=false) (q:=false) (by simp only [Ah,Ad,Ao,Am,Aa,gz,Gc,Bx,AS,Ct] <;> rfl) (fun h=>by exact ff_ h)
  | some m =>
   have:=Cv (C:=C) (ρ:=[some (.d (Deed.data ⟨w,some m,x⟩)),some (.d (dl names)),none]) (σ:=[]) (p:=true) (q:=!decide (m.1∈names)||decide (m.2 < 0)) (a:=.cmp .IsNot (.sub (.var 0) (.cst (.int 1))) (.cst .none)) (b:=.bop .Or [.cmp .NotIn (.sub (.sub (.var 0) (.cst (.int 1))) (.cst (.int 0))) (.var 1),.cmp .Lt (.sub (.sub (.var 0) (.cst (.int 1))) (.cst (.int 1))) (.cst (.int 0))]) (by simp only [Ah,Ad,Ao,Am,Aa,gz,Gc,Bx,AS,Ct] <;> rfl) (fun _=>C1 (by simp only [Ah,Ad,Ao,Am,Aa,gz,gs,EA,Bx,Dz,AS,sub_m0] <;> rfl) (fun _=>(by simp only [Ah,Ad,Ao,Am,Aa,gz,c_lt,lt_i,AS,sub_m1] <;> rfl)))
   rw [this]
   show Res.ok (vb (true&&(!decide (m.1∈names)||decide (m.2 < 0)))) []=.ok (vb (!(decide (m.1∈names) && !decide (m.2 < 0)))) []
   rw [Bool.not_and,Bool.not_not]; rfl
 ·rw [show markG names d.mark=false by simpa using e]; exact Ax (v:=vb false) (σ1:=[]) rfl rfl
 rw [show markG names d.mark=true by simpa using e]
 refine Ax (v:=vb (decide (d.word=AW)||AU (d.text.getD []))) (σ1:=[]) (C1 (by simp only [Ah,Ad,Ao,Am,Aa,gz,CA,Ba,Bl,E1] <;> rfl) (fun hw=>?_)) rfl
 obtain ⟨l,hl,hll⟩:=ht (of_decide_eq_false hw)
 rw [hl]
 have hc:=Dk (C:=C) (elt:=.cmp2 .LtE .LtE (.cst (.str " ")) (.var 2) (.cst (.str "~"))) (t:=2) (it:=.of (.sub (.var 0) (.cst (.int 2)))) (ρ:=[some (.d d.data),some (.d (dl names)),none]) (σ:=[]) (σ1:=[]) (l:=l) (fun c=>vs [c]) (fun c=>.bool ((!decide ([c] < [32])) && !decide ([126] < [c])))
  (Cs (v:=vs l) (by simp only [Ah,Ad,Am,Aa,gz,Es d hl] <;> rfl) (EQ _ hhd)) (by simp [line]; (exact BO ‹_› (by rfl))) (fun c _=>e_cmp2 (x:=vs [32]) (y:=vs [c]) (z:=vs [126]) (by simp only [Ah,sz,sy,k_sp] <;> rfl) rfl (le_s _ _) (by simp only [Ah,sz,sy,k_tilde] <;> rfl) (le_s _ _))
 rw [show (some l).getD []=l from rfl,<-isline_eq l]
 exact Cv (by simp only [Ah,Ad,Ao,Am,A6,An,Ap,Aa,gz,DW,ET,Es d hl,c_le,le_i] <;> rfl) (fun _=>e_allB (fun c=>(!decide ([c] < [32])) && !decide ([126] < [c])) hhd hc)
noncomputable def Ed:List (List Nat)->List (List Nat)
 | []=>[]
 | x::r=>if decide (x∈r) then Ed r else x::Ed r
theorem has_Tx (x:List Nat) (l:List (List Nat)):(l.map Tx).contains (Tx x)=decide (x∈l):=by
 induction l with
 | nil=>rfl
 | cons y r ih =>
  rw [List.map_cons,List.contains_cons,ih,Tx_beq]
  rw [Bool.eq_iff_iff,Bool.or_eq_true,decide_eq_true_eq,decide_eq_true_eq,decide_eq_true_eq,List.mem_cons]
theorem oneE_Tx:∀ l:List (List Nat),Cr (l.map Tx)=(Ed l).map Tx
 | []=>rfl
 | x::r=>by
  have ih:=oneE_Tx r
  rw [List.map_cons,Cr,Ed,has_Tx,ih]
  split <;> rfl
set_option tactic.hygienic true in
theorem oneE_mem (x:List Nat):∀ l,x∈Ed l ↔ x∈l
 | []=>Iff.rfl
 | y::r=>by
  have ih:=oneE_mem x r
  rw [Ed]
  split
  ·rename_i h
   have h:=of_decide_eq_true h
   rw [ih,List.mem_cons]
   exact ⟨.inr,fun e=>e.elim (fun e=>e▸h) id⟩
  ·rw [List.mem_cons,List.mem_cons,ih]
set_option tactic.hygienic true in
theorem Ec:∀ l,(Ed l).Nodup
 | []=>List.nodup_nil
 | y::r=>by
  rw [Ed]
  split
  ·exact Ec r
  ·rename_i h
   rw [List.nodup_cons,oneE_mem]
   exact ⟨fun e=>h (decide_eq_true e),Ec r⟩
theorem oneE_self:∀ {l:List (List Nat)},l.Nodup->Ed l=l
 | [],_=>rfl
 | y::r,h=>by
  rw [List.nodup_cons] at h
  rw [Ed,if_neg (fun e=>h.1 (of_decide_eq_true e)),oneE_self h.2]
theorem Gq:∀ {l:List (List Nat)} {a:List Nat},BF (a::l)=true->∀ x∈l,a < x
 | [],_,_,x,hx=>by cases hx
 | b::r,a,h,x,hx=>by
  rw [B8,Bool.and_eq_true,decide_eq_true_eq] at h
  rcases List.mem_cons.mp hx with rfl | hx
  ·exact h.1
  ·exact List.lt_trans h.1 (Gq h.2 x hx)
theorem GD {l:List (List Nat)} {a:List Nat} (h:BF (a::l)=true):BF l=true:=by
 induction l with
 | nil=>rfl
 | cons b r=>rw [B8,Bool.and_eq_true] at h; exact h.2
theorem FJ:∀ {l:List (List Nat)},BF l=true->l.Nodup
 | [],_=>List.nodup_nil
 | a::l,h=>by
  rw [List.nodup_cons]
  exact ⟨fun e=>List.lt_irrefl a (Gq h a e),FJ (GD h)⟩
theorem GE:∀ {l:List (List Nat)},BF l=true->AI l=l
 | [],_=>rfl
 | [a],_=>rfl
 | a::b::r,h=>by
  rw [AI,GE (GD h),Ft,if_pos (decide_eq_true (Gq h b (by simp)))]
theorem rising_iff (l:List (List Nat)):BF l=true ↔ l=AI (Ed l):=by
 constructor
 ·intro h
  rw [oneE_self (FJ h),GE h]
 ·intro h
  rw [h]
  exact FT _ (Ec l)
theorem eqNsW_strs (n:Nat):∀ a b:List (List Nat),CL (eqN n) (a.map fun t=>PyData.str (Tx t)) (b.map fun t=>.str (Tx t))=some (decide (a=b))
 | [],[]=>rfl
 | [],b::r=>rfl
 | a::r,[]=>rfl
 | a::r,b::q=>by
  have ih:=eqNsW_strs n r q
  have h:eqN n (.str (Tx a)) (.str (Tx b))=some (decide (a=b)):=by
   rw [<-Tx_beq]; cases n <;> rfl
  simp only [List.map_cons,CL,h,ih]
  congr 1
  rw [Bool.eq_iff_iff]; simp
set_option tactic.hygienic true in
theorem eq_dls (a b:List (List Nat)):eqV σ (.d (dl a)) (.d (dl b))=some (decide (a=b)):=by
 show (if (a.map fun t=>PyData.str (Tx t)).length=(b.map fun t=>PyData.str (Tx t)).length then CL (eqN 39) (a.map fun t=>PyData.str (Tx t)) (b.map fun t=>.str (Tx t)) else some false)=_
 split
 ·exact eqNsW_strs 39 a b
 ·rename_i h
  rw [decide_eq_false]
  intro e; rw [e] at h; exact h rfl
theorem sset_dl (l:List (List Nat)) (h:l.length < 64):EB true (.d (dl l)) σ=.ok (.d (dl (AI (Ed l)))) σ:=by
 have e1:B5 σ (.d (dl l))=some (l.map vs):=lst_dl l
 have hl:(l.map Tx).length < 64:=by rw [List.length_map]; exact h
 have e2:((AI (Ed l)).map Tx).map (fun s=>V.d (.str s))=((AI (Ed l)).map fun t=>PyData.str (Tx t)).map V.d:=by rw [List.map_map,List.map_map]; rfl
 have e3:(AI (Ed l)).length<=line:=by
  rw [Gw]
  have:=pigeon (Ed l) l (Ec l) (fun x hx=>(oneE_mem x l).mp hx)
  simp [line]; lia
 simp only [EB,e1,strsV_vs,if_pos hl,oneE_Tx,sortStr_Tx,e2]
 exact BJ _ (by rw [List.length_map]; exact e3)
noncomputable def D0 (c:Ch):Bool:=(!(c.1::c.2.1).any fun w=>!Aq w) && !(!decide (c.2.1=AI (Ed c.2.1))||decide (c.1∈c.2.1)||decide ((c.2.2.length:Int) > 20))&&c.2.2.all (Eo (c.1::c.2.1))
theorem name_eq (w:List Nat):(!(w.filter fun c=>!decide (c∈AB)).isEmpty || !(decide ((1:Int)<=w.length)&&decide ((w.length:Int)<=12))) = !Aq w:=by
 have e1:(w.filter fun c=>!decide (c∈AB)).isEmpty=w.all fun c=>decide (c∈AB):=by
  rw [Bool.eq_iff_iff,List.isEmpty_iff,List.filter_eq_nil_iff,List.all_eq_true]
  simp
 have e2:(decide ((1:Int)<=w.length)&&decide ((w.length:Int)<=12)) = !(decide ((w.length:Int) < 1)||decide ((w.length:Int) > 12)):=by
  rw [Bool.eq_iff_iff]; simp
 rw [e1,e2,Aq,<-Bool.not_and,Bool.and_comm]
theorem run_good {C:Cfg} (hhd:C.hd=false) (hgd:∀ names d σ,(Deed.word d≠AW->∃ l,d.text=some l/\l.length<=1000000)->C.cf false .frz 33 [.d d.data,.d (dl names)] σ=.ok (vb (Eo names d)) σ)
 (c:Ch) (ht:∀ d∈c.2.2,d.word≠AW->∃ l,d.text=some l/\l.length<=1000000) (hl1:∀ w∈c.1::c.2.1,w.length<=1000000) (hl2:c.2.1.length<=100000) (hl3:c.2.2.length<=100000) (hfew:((c.1::c.2.1).any fun w=>!Aq w)=false->c.2.1.length < 64) :
 Aw (fun r=>r=.ok (.ret (vb (D0 c))) []) (execSs C G9.body [some (.d c.data),none,none,none,none,none,none,none,none] []):=by
 show Aw _ (execSs C [_,_,_,_,_] _ [])
 refine Al (v:=vs AB) (σ1:=[]) (by simp only [Ah,k_signs] <;> rfl) ?_
 refine go_unp (v:=.d c.data) (σ1:=[]) rfl (by rw [hhd]; exact bind3 _ _ _ _ _ _ _) ?_
 have m1:=BJ (σ:=[]) [.str (Tx c.1)] (by simp [line])
 have hcat:=b_catL (σ:=[]) [.str (Tx c.1)] (c.2.1.map fun t=>.str (Tx t)) (by simp [line]; lia)
 have hnames:∀ ρ:Au,ρ[2]? = some (some (vs c.1))->ρ[3]? = some (some (.d (dl c.2.1)))->Ac C (.bin true .Add (.lst true [.var 2]) (.var 3)) ρ []=.ok (.d (dl (c.1::c.2.1))) []:=by
  intro ρ r2 r3
  have a:Ac C (.lst true [.var 2]) ρ []=.ok (.d (.list [.str (Tx c.1)])) []:=by
   simp only [Cn,An,Ap,Ad,r2,Aa]; exact m1
  have b:Ac C (.var 3) ρ []=.ok (.d (dl c.2.1)) []:=by simp only [Ad,r3]
  exact (Fg a b).trans hcat
 unfold D0
 refine Fv (l:=c.1::c.2.1) (w:=fun w=>vs w) (fun w=>!Aq w) (.ok (.ret (vb false)) []) (fun ρ=>∃ z5 z6,ρ=[some (.d c.data),some (vs AB),some (vs c.1),some (.d (dl c.2.1)),some (.d (.list (c.2.2.map Deed.data))),z5,z6,none,none])
  (Cs (v:=.d (dl (c.1::c.2.1))) (hnames _ rfl rfl) (Di _ _)) ⟨_,_,rfl⟩ ends_ret ?_ (fun ha=>?_) ?_
 ·rintro w hw ρ ⟨z5,z6,rfl⟩
  have hwl:=hl1 w hw
  have h1:=e_compD (C:=C) (elt:=.var 7) (t:=7) (it:=.of (.var 5)) (ifs:=[.cmp .NotIn (.var 7) (.var 1)]) (ρ:=[some (.d c.data),some (vs AB),some (vs c.1),some (.d (dl c.2.1)),some (.d (.list (c.2.2.map Deed.data))),some (vs w),z6,none,none]) (σ:=[]) (σ1:=[]) (l:=w)
   (fun x=>vs [x]) (fun x=>!decide (x∈AB)) (fun x=>.str (Tx [x])) (Cs (v:=vs w) rfl (EQ _ hhd)) (by simp [line]; (exact BO ‹_› (by rfl))) (fun x _=>by
    simp only [Ad,Ao,Aa,gz,gs,sz,sy,EA,Bx,ER,tr_b,eF_1,eF_2]
    cases h:decide (x∈AB) <;> rfl) (fun x _ _=>rfl)
  have key:∀ Q:Res Fl->Prop,(Aq w=false->Q (.ok (.ret (vb false)) []))->(Aq w=true->∀ z,Q (.ok (.next [some (.d c.data),some (vs AB),some (vs c.1),some (.d (dl c.2.1)),some (.d (.list (c.2.2.map Deed.data))),some (vs w),z,none,none]) [])) ->
   Aw Q (execSs C [.asg 6 (.comp true (.var 7) [7] (.of (.var 5)) [.cmp .NotIn (.var 7) (.var 1)]),.ite (.bop .Or [.var 6,.not (.cmp2 .LtE .LtE (.cst (.int 1)) (.bcall .len true [.var 5]) (.cst (.int 12)))]) [.ret (.cst (.bool false))] []] [some (.d c.data),some (vs AB),some (vs c.1),some (.d (dl c.2.1)),some (.d (.list (c.2.2.map Deed.data))),some (vs w),z6,none,none] []):=by
   intro Q q1 q2
   refine Al h1 ?_
   refine go_iteV (t:=!Aq w) (σ1:=[]) ?_ (fun e=>?_) (fun e=>?_)
   ·rw [<-name_eq w]
    refine e_or2v (x:=.d (.list ((w.filter fun x=>!decide (x∈AB)).map fun x=>.str (Tx [x])))) rfl ?_ (Cu (e_cmp2 (x:=vi 1) (y:=vi w.length) (z:=vi 12) rfl rfl rfl rfl rfl))
    show some (!((w.filter fun x=>!decide (x∈AB)).map fun x=>PyData.str (Tx [x])).isEmpty)=_
    rw [List.isEmpty_map]
   ·exact Ax (v:=vb false) (σ1:=[]) rfl (q1 (by simpa using e))
   ·exact Av (q2 (by simpa using e) _)
  refine ⟨fun h=>?_,fun h=>?_⟩
  ·exact key (fun r=>r=_) (fun _=>rfl) (fun e=>by rw [e] at h; exact ff_ h)
  ·exact key (fun r=>∃ ρ',(∃ z5 z6,ρ'=[some (.d c.data),some (vs AB),some (vs c.1),some (.d (dl c.2.1)),some (.d (.list (c.2.2.map Deed.data))),z5,z6,none,none])/\r=.ok (.next ρ') []) (fun e=>by rw [e] at h; exact tt_ h) (fun _ z=>⟨_,⟨_,_,rfl⟩,rfl⟩)
 ·rw [ha]; rfl
 rintro ha ρ ⟨z5,z6,rfl⟩
 have hf:=hfew ha
 rw [ha]
 refine Ar (t:=!decide (c.2.1=AI (Ed c.2.1))||decide (c.1∈c.2.1)||decide ((c.2.2.length:Int) > 20)) (σ1:=[]) (e_or3 (by simp only [Ad,Ao,Aa,gz,gs,CN,Bx,eA_21,hhd,Bool.false_eq_true,if_false,sset_dl c.2.1 hf,eq_dls]) (fun _=>(by simp only [Ad,Ao,Aa,gz,gs,c_in,Dz] <;> rfl)) (fun _ _=>(by simp only [Ah,Ad,Ao,A6,An,Ap,Aa,gz,gs,AQ,c_gt,gt_i,List.length_map] <;> rfl))) (fun e=>?_) (fun e=>?_)
 ·rw [e]; exact Ax (v:=vb false) (σ1:=[]) rfl rfl
 rw [e]
 have hc:=Dk (C:=C) (elt:=.fcall .frz 33 [.var 8,.bin true .Add (.lst true [.var 2]) (.var 3)]) (t:=8) (it:=.of (.var 4)) (ρ:=[some (.d c.data),some (vs AB),some (vs c.1),some (.d (dl c.2.1)),some (.d (.list (c.2.2.map Deed.data))),z5,z6,none,none]) (σ:=[]) (σ1:=[]) (l:=c.2.2) (fun d=>.d d.data) (fun d=>.bool (Eo (c.1::c.2.1) d))
  (Cs (v:=.d (.list (c.2.2.map Deed.data))) rfl (Di _ _)) (by simp [line]; (exact BO ‹_› (by rfl))) (fun d hd=>by
   have a:=hgd (c.1::c.2.1) d [] (ht d hd)
   have b:=hnames (([some (.d c.data),some (vs AB),some (vs c.1),some (.d (dl c.2.1)),some (.d (.list (c.2.2.map Deed.data))),z5,z6,none,none].set 8 none).set 8 (some (.d d.data))) rfl rfl
   rw [A1,Ap,Ad]
   simp only [gz,gs,sz,sy,Aa,An,Ap] at b ⊢
   rw [b]
   simp only [Aa,hhd,a])
 exact Ax (e_allB (Eo (c.1::c.2.1)) hhd hc) rfl
theorem ev_good (c:Ch) (ht:∀ d∈c.2.2,d.word≠AW->∃ l,d.text=some l/\l.length<=1000000) (hl1:∀ w∈c.1::c.2.1,w.length<=1000000) (hl2:c.2.1.length<=100000) (hl3:c.2.2.length<=100000) (hfew:((c.1::c.2.1).any fun w=>!Aq w)=false->c.2.1.length < 64):Ag P03 isExc fuel (n+2) false .frz 34 [.d c.data] σ=.ok (vb (D0 c)) σ :=
 AR Q34 rfl (A9 rfl (run_good (C:=⟨Ag P03 isExc fuel (n+1),isExc,fuel,false⟩) rfl (fun names d σ h=>ev_good_deed names d h) c ht hl1 hl2 hl3 hfew)) rfl
end
theorem ok_good {c:Ch} (h:OkCh c):D0 c=true:=by
 have hl:=h.leans
 simp only [AX,Bool.and_eq_true,List.all_eq_true,Bool.not_eq_true',decide_eq_false_iff_not] at hl
 obtain ⟨⟨⟨h1,h2⟩,h3⟩,h4⟩:=hl
 have e1:((c.1::c.2.1).any fun w=>!Aq w)=false:=by
  rw [List.any_eq_false]
  intro w hw
  rcases List.mem_cons.mp hw with rfl | hw
  ·simp [h1]
  ·simp [h2 w hw]
 have e2:decide (c.2.1=AI (Ed c.2.1))=true:=decide_eq_true ((rising_iff _).mp h3)
 have e3:decide (c.1∈c.2.1)=false:=decide_eq_false h4
 have e4:decide ((c.2.2.length:Int) > 20)=false:=by have:=h.deeds; refine decide_eq_false ?_; lia
 have e5:c.2.2.all (Eo (c.1::c.2.1))=true:=by
  rw [List.all_eq_true]
  intro d hd
  have hg:=h.good d hd
  obtain ⟨w,o,x⟩:=d
  have em:markG (c.1::c.2.1) o=true:=by
   induction o with
   | none=>rfl
   | some m =>
    obtain ⟨a,b⟩:=hg.mark m rfl
    have a:m.1∈c.1::c.2.1:=List.mem_cons.mpr a
    simp only [markG,Bool.and_eq_true,Bool.not_eq_true',decide_eq_true_eq,decide_eq_false_iff_not]
    exact ⟨a,by lia⟩
  rcases hg.shape with ⟨l,a1,a2,a3 | ⟨a3,a4⟩⟩ | ⟨a1,a2,a3⟩
  ·obtain rfl:x=some l:=a2
   obtain rfl:w=Cp:=a3
   simp [Eo,em,show AU l=true from a1]
  ·obtain rfl:x=some l:=a2
   obtain rfl:w=Fq:=a3
   induction o with
   | none=>exact absurd rfl a4
   | some m=>simp [Eo,em,show AU l=true from a1]
  ·obtain rfl:w=AW:=a1
   induction o with
   | none=>exact absurd rfl a3
   | some m=>simp [Eo,em]
 rw [D0,e1,e2,e3,e4,e5]; rfl
noncomputable def DU (d:Deed):Prop:=(∀ m,d.mark=some m->m.2 < 1000000000)/\((d.word=AW/\d.text=none)\/(d.word≠AW/\∃ l,d.text=some l))
set_option tactic.hygienic true in
theorem dueD_ok (row:List Nat):DU (CP row):=by
 unfold CP
 have hm:∀ (b:Bool) (x:List Nat×List Nat×List Nat) (m:List Nat×Int),(if b then none else some (x.1,E0 x.2.2))=some m->m.2 < 1000000000:=by
  intro b x m h
  induction b with
  | true=>exact Ab h
  | false=>cases h; exact (lnum_lt _).2
 split
 ·exact ⟨fun m h=>hm _ _ m h,.inl ⟨rfl,rfl⟩⟩
 ·rename_i e
  exact ⟨fun m h=>hm _ _ m h,.inr ⟨fun q=>e (decide_eq_true q),_,rfl⟩⟩
theorem good_ok {c:Ch} (h:D0 c=true) (hd:∀ d∈c.2.2,DU d) (hl:c.2.1.length<=10000):OkCh c:=by
 simp only [D0,Bool.and_eq_true,Bool.not_eq_true',Bool.or_eq_false_iff,Bool.not_eq_false',decide_eq_true_eq,decide_eq_false_iff_not,List.any_eq_false,List.all_eq_true] at h
 obtain ⟨⟨h1,⟨h2,h3⟩,h4⟩,h5⟩:=h
 have hn:∀ w∈c.1::c.2.1,Aq w=true:=fun w hw=>by simpa using h1 w hw
 refine ⟨?_,hl,by lia,fun d hm=>?_⟩
 ·simp only [AX,Bool.and_eq_true,List.all_eq_true,Bool.not_eq_true',decide_eq_false_iff_not]
  exact ⟨⟨⟨hn _ (by simp),fun x hx=>hn x (by simp [hx])⟩,(rising_iff _).mpr h2⟩,h3⟩
 ·have hg:=h5 d hm
  have hu:=hd d hm
  obtain ⟨w,o,x⟩:=d
  simp only [Eo,Bool.and_eq_true,Bool.not_eq_true',Bool.or_eq_false_iff,Bool.not_eq_false',decide_eq_true_eq,Bool.or_eq_true,Bool.and_eq_false_iff] at hg
  obtain ⟨⟨⟨g1,g2⟩,g3⟩,g4⟩:=hg
  refine ⟨?_,fun m e=>?_⟩
  ·rcases hu.2 with ⟨u1,u2⟩ | ⟨u1,l,u2⟩
   ·obtain rfl:w=AW:=u1
    refine .inr ⟨rfl,u2,fun e=>?_⟩
    obtain rfl:o=none:=e
    rcases g2 with g2 | g2
    ·exact tt_ g2
    ·exact absurd g2 (by decide)
   ·obtain rfl:x=some l:=u2
    have u1:w≠AW:=u1
    refine .inl ⟨l,g4.resolve_left u1,rfl,?_⟩
    simp only [List.mem_cons,List.not_mem_nil,or_false] at g1
    rcases g1 with g1 | g1 | g1
    ·exact .inl g1
    ·exact absurd g1 u1
    ·refine .inr ⟨g1,fun e=>?_⟩
     obtain rfl:o=none:=e
     rcases g2 with g2 | g2
     ·exact tt_ g2
     ·rw [g1] at g2; exact absurd g2 (by decide)
  ·obtain rfl:o=some m:=e
   simp only [markG,Bool.and_eq_true,Bool.not_eq_true',decide_eq_true_eq,decide_eq_false_iff_not] at g3
   exact ⟨List.mem_cons.mp g3.1,by lia,hu.1 m rfl⟩
noncomputable def turnA:List Nat:=[97,48,32,45,58,10,98,99,100,110,115,117,122,57,46,65]
theorem k_turnA:Str.ofString "a0 -:\nbcdnsuz9.A" = Tx turnA:=by decide +kernel
noncomputable def turnB:List Nat:=(Str.ofString " !\"#$&'()*+,-./:;<=>?\x40[\\]^_`{|}~BCDEFGHIJKLMNOPQRSTUVWXYZefghijklm").cps.toList
theorem k_turnB:Str.ofString " !\"#$&'()*+,-./:;<=>?\x40[\\]^_`{|}~BCDEFGHIJKLMNOPQRSTUVWXYZefghijklm" = Tx turnB:=(F5 _).symm
theorem Gj:turnB.length=66:=by decide +kernel
section
variable {α:Type}
theorem tn1 {A:Int} (h:0<=A):(A+1).toNat=A.toNat+1:=by lia
theorem tn2 {A:Int} (h:0<=A):(A+2).toNat=A.toNat+2:=by lia
theorem up1 {A:Int} (h:0<=A):0<=A+1:=by lia
theorem up2 {A:Int} (h:0<=A):0<=A+2:=by lia
theorem bd {A:Int} {m k:Nat} (h:A < (m:Int)) (hm:m<=k) (hk:k<=999990:=by decide):A<=1000000/\A+1<=1000000/\A+2<=1000000/\A < 9223372036854775808:=by lia
theorem bd1 {A:Int} {m k:Nat} (h:A < (m:Int)+1) (hm:m<=k) (hk:k<=999990:=by decide):A<=1000000/\A+1<=1000000:=by lia
theorem at_le {A:Int} {m:Nat} (h:A < (m:Int)+1):A.toNat<=m:=by lia
theorem at_lt {A:Int} {m:Nat} (h0:0<=A) (h:A < (m:Int)):A.toNat < m:=by lia
theorem ln_tk {l:List α} {i k:Nat} (h:l.length<=k):(l.take i).length<=k:=Nat.le_trans (List.length_take_le' i l) h
theorem ln_dr {l:List α} {i k:Nat} (h:l.length<=k):(l.drop i).length<=k:=by rw [List.length_drop]; exact Nat.le_trans (Nat.sub_le _ _) h
theorem ln_ap {a b:List α} {m n:Nat} (h:a.length<=m) (k:b.length<=n):(a++b).length<=m+n:=by rw [List.length_append]; exact Nat.add_le_add h k
theorem ln_sm {a b:List α} {m n:Nat} (h:a.length<=m) (k:b.length<=n) (q:m+n<=16777216:=by decide):a.length+b.length<=line:=Nat.le_trans (Nat.add_le_add h k) q
theorem len_cut (R:List α) (i:Nat):(R.take i++R.drop (i+1)).length<=R.length+1:=by
 rw [<-List.eraseIdx_eq_take_drop_succ]
 exact Nat.le_succ_of_le (List.length_eraseIdx_le R i)
theorem len_mid (a b:List α) (x:α):(a++[x]++b).length=(a++b).length+1:=by
 rw [List.append_assoc,List.length_append,List.length_append,List.length_append,<-Nat.add_assoc,List.length_singleton,Nat.add_right_comm]
theorem len_dup (R:List α) (i:Nat) (x:α):(R.take i++[x]++R.drop i).length<=R.length+1:=by
 rw [len_mid,List.take_append_drop]; exact Nat.le_refl _
theorem len_swap (R:List α) (i:Nat) (x:α):(R.take i++(R.drop (i+1)).take 1++[x]++R.drop (i+2)).length<=R.length+1:=by
 have e:R.drop (i+2)=(R.drop (i+1)).drop 1:=(List.drop_drop (i:=1) (j:=i+1) (l:=R)).symm
 rw [len_mid,e,List.append_assoc,List.take_append_drop,<-List.eraseIdx_eq_take_drop_succ]
 exact Nat.succ_le_succ (List.length_eraseIdx_le R i)
end
section
variable {fuel n:Nat} {hd:Bool} {σ:Store}
theorem Q31:P03 31=some CD:=rfl
theorem Q32:P03 32=some CE:=rfl
noncomputable def Turned (T T':List Nat):Prop:=∃ k j x,k<=T.length/\(j=k\/j=k+1)/\List.length x<=1/\T'=T.take k++x++T.drop j
theorem ev_turned (T:List Nat) (c:Int) (hT:T.length<=8000):∃ T',Turned T T'/\∀ σ,Ag P03 isExc fuel (n+1) false .frz 31 [vs T,vi c] σ=.ok (vs T') σ:=by
 have key:Aw (fun r=>∃ T',Turned T T'/\r=.ok (.ret (vs T')) []) (execSs ⟨Ag P03 isExc fuel n,isExc,fuel,false⟩ CD.body [some (vs T),some (vi c),none,none,none] []):=by
  generalize (⟨Ag P03 isExc fuel n,isExc,fuel,false⟩:Cfg)=C
  show Aw _ (execSs C [_,_,_,_,_,_,_] _ [])
  refine Al (v:=vs turnA) (σ1:=[]) (by simp only [Ah,k_turnA] <;> rfl) ?_
  refine BP (M:=fun ρ σ=>(∃ S:List Nat,0 < S.length/\S.length<=1000/\ρ=[some (vs T),some (vi c),some (vs S),none,none])/\σ=[]) ?_ ?_
  ·have c1:=Bp (fz:=true) (σ:=[]) turnA turnB (by rw [Gj]; decide)
   refine Ar (t:=decide (c.fmod 2=1)) (σ1:=[]) (by simp only [Ah,Ad,A5,Ao,Aa,gz,gs,sz,sy,CA,Br,AJ (show (2:Int)≠0 by decide)] <;> rfl) (fun _=>?_) (fun _=>?_)
   ·exact Al (v:=vs (turnA++turnB)) (σ1:=[]) (by simp only [Ah,Ad,A5,Aa,gz,gs,sz,sy,k_turnB,c1] <;> rfl) (Av ⟨_,_,⟨⟨_,by rw [List.length_append,Gj]; decide,by rw [List.length_append,Gj]; decide,rfl⟩,rfl⟩,rfl⟩)
   ·exact Av ⟨_,_,⟨⟨_,by decide,by decide,rfl⟩,rfl⟩,rfl⟩
  rintro _ _ ⟨⟨S,s0,s1,rfl⟩,rfl⟩
  have hat:=AG (c.fdiv 8) (j:=(T.length:Int)+1) arp
  refine Al (v:=vi ((c.fdiv 8).fmod ((T.length:Int)+1))) (σ1:=[]) (by simp only [Ah,Ad,A5,A6,An,Ap,Aa,gz,gs,DW,ET,BE,Ce (show (8:Int)≠0 by decide),AJ (arq (n:=T.length))] <;> rfl) ?_
  generalize (c.fdiv 8).fmod ((T.length:Int)+1)=A at hat
  have hi:=AG ((c.fdiv 8).fdiv ((T.length:Int)+1)) (j:=(S.length:Int)) (arr s0)
  obtain ⟨x,hx⟩:∃ x,S[(((c.fdiv 8).fdiv ((T.length:Int)+1)).fmod (S.length:Int)).toNat]? = some x:=⟨_,List.getElem?_eq_getElem (at_lt hi.1 hi.2)⟩
  have hsub:=at_text (σ:=[]) _ hi.1 (bd hi.2 s1).2.2.2 hx
  refine Al (v:=vs [x]) (σ1:=[]) (by simp only [Ah,Ad,A5,Am,A6,An,Ap,Aa,gz,gs,sz,sy,DW,ET,BE,Ce (show (8:Int)≠0 by decide),Ce (arq (n:=T.length)),AJ (ars s0),hsub] <;> rfl) ?_
  have q1:slice true (vs T) none (some (vi A)) []=.ok (vs (T.take A.toNat)) []:=sl_toZ hat.1 (bd1 hat.2 hT).1
  have q2:slice true (vs T) (some (vi A)) none []=.ok (vs (T.drop A.toNat)) []:=Ev hat.1 (bd1 hat.2 hT).1
  have q3:slice true (vs T) (some (vi (A+1))) none []=.ok (vs (T.drop (A.toNat+1))) []:=(Ev (up1 hat.1) (bd1 hat.2 hT).2).trans (by rw [tn1 hat.1])
  have hk:A.toNat<=T.length:=at_le hat.2
  have l1:(T.take A.toNat++[x]).length<=8000+1:=ln_ap (ln_tk hT) (Nat.le_refl 1)
  have c1:=Bp (fz:=true) (σ:=[]) (T.take A.toNat) [x] (ln_sm (ln_tk hT) (Nat.le_refl 1))
  have c2:=Bp (fz:=true) (σ:=[]) (T.take A.toNat++[x]) (T.drop A.toNat) (ln_sm l1 (ln_dr hT))
  have c3:=Bp (fz:=true) (σ:=[]) (T.take A.toNat++[x]) (T.drop (A.toNat+1)) (ln_sm l1 (ln_dr hT))
  have c4:=Bp (fz:=true) (σ:=[]) (T.take A.toNat) (T.drop (A.toNat+1)) (ln_sm (ln_tk hT) (ln_dr hT))
  refine Ar (t:=decide ((c.fdiv 2).fmod 4=0)) (σ1:=[]) (by simp only [Ah,Ad,A5,Ao,Aa,gz,gs,sz,sy,CA,Br,Ce (show (2:Int)≠0 by decide),AJ (show (4:Int)≠0 by decide)] <;> rfl) (fun _=>?_) (fun _=>?_)
  ·exact Ax (v:=vs (T.take A.toNat++[x]++T.drop A.toNat)) (σ1:=[]) (by simp only [Ad,A5,Bm,CM,C8,Aa,gz,gs,sz,sy,q1,q2,c1,c2] <;> rfl) ⟨_,⟨_,_,_,hk,.inl rfl,Nat.le_refl _,rfl⟩,rfl⟩
  refine Ar (t:=decide ((c.fdiv 2).fmod 4=1)) (σ1:=[]) (by simp only [Ah,Ad,A5,Ao,Aa,gz,gs,sz,sy,CA,Br,Ce (show (2:Int)≠0 by decide),AJ (show (4:Int)≠0 by decide)] <;> rfl) (fun _=>?_) (fun _=>?_)
  ·exact Ax (v:=vs (T.take A.toNat++T.drop (A.toNat+1))) (σ1:=[]) (by simp only [Ah,Ad,A5,Bm,CM,C8,Aa,gz,gs,sz,sy,BE,q1,q3,c4] <;> rfl) ⟨_,⟨A.toNat,A.toNat+1,[],hk,.inr rfl,Nat.zero_le _,by rw [List.append_nil]⟩,rfl⟩
  ·exact Ax (v:=vs (T.take A.toNat++[x]++T.drop (A.toNat+1))) (σ1:=[]) (by simp only [Ah,Ad,A5,Bm,CM,C8,Aa,gz,gs,sz,sy,BE,q1,q3,c1,c3] <;> rfl) ⟨_,⟨_,_,_,hk,.inr rfl,Nat.le_refl _,rfl⟩,rfl⟩
 obtain ⟨T',h1,h2⟩:=key
 exact ⟨T',h1,fun σ=>AR Q31 rfl (A9 rfl h2) rfl⟩
theorem slL_mid {l:List PyData} {i j:Int} (h0:0<=i) (h:i<=j) (hb:j<=1000000) (hl:l.length<=line):slice true (.d (.list l)) (some (vi i)) (some (vi j)) σ=.ok (.d (.list ((l.drop i.toNat).take (j.toNat-i.toNat)))) σ:=by
 have hi:i<=1000000:=Int.le_trans h hb
 have hj:0<=j:=Int.le_trans h0 h
 have h1:=BN (i:=i) (Int.lt_of_lt_of_le (by decide) h0) (Int.lt_of_le_of_lt hi (by decide))
 have h2:=BN (i:=j) (Int.lt_of_lt_of_le (by decide) hj) (Int.lt_of_le_of_lt hb (by decide))
 have e:slice true (.d (.list l)) (some (vi i)) (some (vi j)) σ=A2 true (BD (some i) (some j) (l.map .d)) σ:=by
  show (match Cm (some (vi i)) with | some a=>(match Cm (some (vi j)) with | some b=>Cq true (.d (.list l)) a b σ | none=>.bad) | none=>.bad:Res V)=_
  rw [end_i h1]
  dsimp only
  rw [end_i h2]; rfl
 have c:=cut_mid (l.map V.d) (i:=i.toNat) (j:=j.toNat) (Int.toNat_le_toNat h)
 rw [Int.toNat_of_nonneg h0,Int.toNat_of_nonneg hj] at c
 rw [e,c,<-List.map_drop,<-List.map_take]
 exact BJ _ (ln_tk (ln_dr hl))
noncomputable def Moved (R R':List (List Nat)):Prop:=(∀ r∈R',r∈R)/\R'.length<=R.length+1
theorem ev_rows (T:List Nat) (c:Int) (hT:T.length<=8000) (hR:(Ai 10 T).length<=100):∃ R',Moved (Ai 10 T) R'/\∀ σ,Ag P03 isExc fuel (n+1) false .frz 32 [vs T,vi c] σ=.ok (vs (AY [10] R')) σ:=by
 have key:Aw (fun r=>∃ R',Moved (Ai 10 T) R'/\r=.ok (.ret (vs (AY [10] R'))) []) (execSs ⟨Ag P03 isExc fuel n,isExc,fuel,false⟩ CE.body [some (vs T),some (vi c),none,none,none] []):=by
  generalize (⟨Ag P03 isExc fuel n,isExc,fuel,false⟩:Cfg)=C
  show Aw _ (execSs C [_,_,_,_,_,_] _ [])
  have hsp:=Dd (σ:=[]) 10 T (Nat.le_trans hT (by decide))
  have hpre:AK .split (vs T) []=true:=rfl
  have hpos:=List.length_pos_iff.mpr (Bk 10 T)
  have hle:=B3 10 T
  have hpc:=Cl 10 T
  refine Al (v:=.d (dl (Ai 10 T))) (σ1:=[]) (by simp only [Ah,Ad,By,An,Ap,Aa,gz,hpre,if_true,k_nl]; exact hsp) ?_
  generalize Ai 10 T=R at hpos hle hpc hR
  have hat:=AG (c.fdiv 3) (j:=(R.length:Int)) (arr hpos)
  refine Al (v:=vi ((c.fdiv 3).fmod (R.length:Int))) (σ1:=[]) (by simp only [Ah,Ad,A5,A6,An,Ap,Aa,gz,gs,sz,sy,AQ,List.length_map,Ce (show (3:Int)≠0 by decide),AJ (ars hpos)] <;> rfl) ?_
  generalize (c.fdiv 3).fmod (R.length:Int)=A at hat
  have hll:(R.map fun t=>PyData.str (Tx t)).length<=line:=by rw [List.length_map]; exact Nat.le_trans hR (by decide)
  have q_z:=bd hat.2 hR
  have b0:=q_z.1
  have b1:=q_z.2.1
  have b2:=q_z.2.2.1
  have q1:slice true (.d (dl R)) none (some (vi A)) []=.ok (.d (dl (R.take A.toNat))) []:=(slL_toZ hat.1 b0 hll).trans (by rw [<-List.map_take])
  have q2:slice true (.d (dl R)) (some (vi A)) none []=.ok (.d (dl (R.drop A.toNat))) []:=(Gn hat.1 b0 hll).trans (by rw [<-List.map_drop])
  have q3:slice true (.d (dl R)) (some (vi (A+1))) none []=.ok (.d (dl (R.drop (A.toNat+1)))) []:=(Gn (up1 hat.1) b1 hll).trans (by rw [<-List.map_drop,tn1 hat.1])
  have q4:slice true (.d (dl R)) (some (vi (A+2))) none []=.ok (.d (dl (R.drop (A.toNat+2)))) []:=(Gn (up2 hat.1) b2 hll).trans (by rw [<-List.map_drop,tn2 hat.1])
  have q5:slice true (.d (dl R)) (some (vi (A+1))) (some (vi (A+2))) []=.ok (.d (dl ((R.drop (A.toNat+1)).take 1))) []:=(slL_mid (up1 hat.1) (Int.add_le_add_left (by decide) A) b2 hll).trans (by rw [<-List.map_drop,<-List.map_take,tn1 hat.1,tn2 hat.1,Nat.add_sub_add_left])
  have q6:=Fm (σ:=[]) (W:=R) A hat.1 (Int.lt_of_lt_of_le hat.2 (Int.ofNat_le.mpr (Nat.le_trans hR (by decide)))) hat.2
  have hrow:R.getD A.toNat []∈R:=by
   rw [List.getD_eq_getElem?_getD,List.getElem?_eq_getElem (at_lt hat.1 hat.2)]
   exact List.getElem_mem _
  generalize R.getD A.toNat []=x at q6 hrow
  have m1:=BJ (σ:=[]) [.str (Tx x)] (by simp [line])
  have cat:∀ a b:List (List Nat),a.length<=500->b.length<=500->Dm true .Add (.d (dl a)) (.d (dl b)) []=.ok (.d (dl (a++b))) []:=by
   intro a b h k
   rw [b_catL _ _ (by rw [List.length_map,List.length_map]; exact ln_sm h k),<-List.map_append]
  have one:∀ (ρ:Au),ρ[2]? = some (some (.d (dl R)))->ρ[3]? = some (some (vi A))->Ac C (.lst true [.sub (.var 2) (.var 3)]) ρ []=.ok (.d (dl [x])) []:=by
   intro ρ r2 r3
   simp only [Cn,An,Ap,Am,Ad,r2,r3,Aa,q6]; exact m1
  have rt:∀ k,(R.take k).length<=100:=fun k=>ln_tk hR
  have rd:∀ k,(R.drop k).length<=100:=fun k=>ln_dr hR
  have r5:∀ k,(R.drop k).length<=500:=fun k=>Nat.le_trans (rd k) (by decide)
  have o5:[x].length<=500:=Nat.le_of_ble_eq_true rfl
  have tk:∀ k,∀ r∈R.take k,r∈R:=fun k r h=>List.mem_of_mem_take h
  have dr:∀ k,∀ r∈R.drop k,r∈R:=fun k r h=>List.mem_of_mem_drop h
  have fin:∀ (e:E) (ρ:Au) (R':List (List Nat)) (rest:List S),(∀ r∈R',r∈R)->R'.length<=R.length+1->Ac C e ρ []=.ok (.d (dl R')) []->Aw (fun r=>∃ R',Moved R R'/\r=.ok (.ret (vs (AY [10] R'))) []) (execSs C (.ret (.meth .join true (.cst (.str "\n")) [e])::rest) ρ []):=by
   intro e ρ R' rest h1 h2 h3
   have hj:=Ga (fz:=true) (sep:=[10]) h3 (lst_dl R') (joinOkB [10] (B:=8000) R' (fun t ht=>Nat.le_trans (hpc t (h1 t ht)) hT) (Nat.le_trans (Nat.add_le_add (Nat.mul_le_mul_right 8000 h2) (Nat.mul_le_mul_right 1 h2)) (Nat.le_trans (Nat.add_le_add (Nat.mul_le_mul_right 8000 (Nat.succ_le_succ hR)) (Nat.mul_le_mul_right 1 (Nat.succ_le_succ hR))) (by decide))))
   rw [<-k_nl] at hj
   exact Ax hj ⟨R',⟨h1,h2⟩,rfl⟩
  have t1:=Fg (C:=C) (op:=.Add) (fz:=true) (ρ:=[some (vs T),some (vi c),some (.d (dl R)),some (vi A),none]) (σ:=[]) (σ1:=[]) (σ₂:=[]) (a:=.slc true (.var 2) none (some (.var 3))) (b:=.lst true [.sub (.var 2) (.var 3)]) (x:=.d (dl (R.take A.toNat))) (y:=.d (dl [x])) (by simp only [Ad,Bm,CM,C8,Aa,gz,gs,q1] <;> rfl) (one _ rfl rfl)
  rw [cat _ _ (Nat.le_trans (rt _) (by decide)) o5] at t1
  have l1:(R.take A.toNat++[x]).length<=100+1:=ln_ap (rt _) (Nat.le_refl 1)
  have l2:(R.take A.toNat++(R.drop (A.toNat+1)).take 1).length<=100+100:=ln_ap (rt _) (ln_tk (rd _))
  have l3:(R.take A.toNat++(R.drop (A.toNat+1)).take 1++[x]).length<=100+100+1:=ln_ap l2 (Nat.le_refl 1)
  refine Ar (t:=decide (c.fmod 3=0)) (σ1:=[]) (by simp only [Ah,Ad,A5,Ao,Aa,gz,gs,sz,sy,CA,Br,AJ (show (3:Int)≠0 by decide)] <;> rfl) (fun _=>?_) (fun _=>?_)
  ·refine fin _ _ (R.take A.toNat++R.drop (A.toNat+1)) _ ?_ (len_cut R _) ?_
   ·intro r hr
    rcases List.mem_append.mp hr with h | h
    ·exact tk _ r h
    ·exact dr _ r h
   ·simp only [Ah,Ad,A5,Bm,CM,C8,Aa,gz,gs,sz,sy,BE,q1,q3]; exact cat _ _ (Nat.le_trans (rt _) (by decide)) (r5 _)
  refine Ar (t:=decide (c.fmod 3=1)) (σ1:=[]) (by simp only [Ah,Ad,A5,Ao,Aa,gz,gs,sz,sy,CA,Br,AJ (show (3:Int)≠0 by decide)] <;> rfl) (fun _=>?_) (fun _=>?_)
  ·refine fin _ _ (R.take A.toNat++[x]++R.drop A.toNat) _ ?_ (len_dup R _ x) ?_
   ·intro r hr
    rcases List.mem_append.mp hr with h | h
    ·rcases List.mem_append.mp h with h | h
     ·exact tk _ r h
     ·rw [List.mem_singleton.mp h]; exact hrow
    ·exact dr _ r h
   ·refine (Fg t1 (y:=.d (dl (R.drop A.toNat))) (by simp only [Ad,Bm,CM,C8,Aa,gz,gs,q2] <;> rfl)).trans (cat _ _ (Nat.le_trans l1 (by decide)) (r5 _))
  refine Al (v:=.d (dl (R.drop (A.toNat+2)))) (σ1:=[]) (by simp only [Ah,Ad,A5,Bm,CM,C8,Aa,gz,gs,sz,sy,BE,q4] <;> rfl) ?_
  refine fin _ _ (R.take A.toNat++(R.drop (A.toNat+1)).take 1++[x]++R.drop (A.toNat+2)) _ ?_ (len_swap R _ x) ?_
  ·intro r hr
   rcases List.mem_append.mp hr with h | h
   ·rcases List.mem_append.mp h with h | h
    ·rcases List.mem_append.mp h with h | h
     ·exact tk _ r h
     ·exact dr _ r (List.mem_of_mem_take h)
    ·rw [List.mem_singleton.mp h]; exact hrow
   ·exact dr _ r h
  ·refine (Fg (x:=.d (dl (R.take A.toNat++(R.drop (A.toNat+1)).take 1++[x]))) (y:=.d (dl (R.drop (A.toNat+2)))) (σ1:=[]) (σ₂:=[]) ?_ rfl).trans (cat _ _ (Nat.le_trans l3 (by decide)) (r5 _))
   refine (Fg (x:=.d (dl (R.take A.toNat++(R.drop (A.toNat+1)).take 1))) (y:=.d (dl [x])) (σ1:=[]) (σ₂:=[]) ?_ (one _ rfl rfl)).trans (cat _ _ (Nat.le_trans l2 (by decide)) o5)
   simp only [Ah,Ad,A5,Bm,CM,C8,Aa,gz,gs,sz,sy,BE,q1,q5]; exact cat _ _ (Nat.le_trans (rt _) (by decide)) (Nat.le_trans (ln_tk (rd _)) (by decide))
 obtain ⟨R',h1,h2⟩:=key
 exact ⟨R',h1,fun σ=>AR Q32 rfl (A9 rfl h2) rfl⟩
end
end Mine.Internal
set_option maxRecDepth 100000
namespace Mine.Internal
open PySem
section
variable {fuel n:Nat} {hd:Bool} {σ:Store}
theorem Q30:P03 30=some Gh:=rfl
theorem Q37:P03 37=some Flaw_alone:=rfl
theorem Q38:P03 38=some Gg:=rfl
theorem ev_alone (k:Nat) (hk:k=4\/k=1004):Ag P03 isExc fuel (n+1) true .frz 37 [.exc k] σ=.ok (vb true) σ:=by
 refine AR (v:=vb true) (σ1:=[]) Q37 rfl (A9 rfl ?_) rfl
 rcases hk with rfl | rfl <;> rfl
theorem ev_refused (T:List Nat) (hT:T.length<=9000) (h:Cd T=none):Ag P03 isExc fuel (n+5) false .frz 38 [vs T] σ=.ok (vb true) σ:=by
 refine AR (v:=vb true) (σ1:=[]) Q38 rfl (A9 rfl ?_) rfl
 rcases ev_read (fuel:=fuel) (n:=n) T hT with ⟨c,e,_⟩ | ⟨_,e⟩
 ·exact Ab (h.symm.trans e)
 obtain ⟨k,hk,e⟩:=e []
 have ha:=ev_alone (fuel:=fuel) (n:=n+3) (σ:=[]) k hk
 have hx:isExc k 4=some true:=by rcases hk with rfl | rfl <;> rfl
 show execSs ⟨Ag P03 isExc fuel (n+4),isExc,fuel,false⟩ [_,_] [some (vs T),none] []=_
 have hb:execSs ⟨Ag P03 isExc fuel (n+4),isExc,fuel,false⟩ [.exp (.fcall .shared 12 [.var 0])] [some (vs T),none] []=.exc k []:=EF (by simp only [Ad,A1,An,Ap,Aa,gz,e])
 rw [DJ,xA_12,hb]
 show (handle _ [_] k _ []).bind _=_
 rw [hA_2]
 show (match isExc k 4 with | some true=>_ | some false=>_ | none=>_:Res Fl).bind _=_
 rw [hx]
 show (match execSs ⟨Ag P03 isExc fuel (n+4),isExc,fuel,true⟩ [.ret (.fcall .frz 37 [.var 1])] [some (vs T),some (.exc k)] [] with | .ok f σ=>Res.ok (match f with | .next ρ=>.next (ρ.set 1 none) | f=>f) σ | _=>.bad:Res Fl).bind _=_
 have hr:execSs ⟨Ag P03 isExc fuel (n+4),isExc,fuel,true⟩ [.ret (.fcall .frz 37 [.var 1])] [some (vs T),some (.exc k)] []=.ok (.ret (vb true)) []:=x_ret (by simp only [Ad,A1,An,Ap,Aa,gz,gs,ha])
 rw [hr]; rfl
noncomputable def oddL:List (List Nat):=["","change","change ","change b on","change b on ","change b at a","Change b","change b\n","add -:x","add - : x","add  -: x","cut -","set -: x","cut b 0: x","add b 00: x","add b +1: x","add b 1234567890: x","add a 0: x","put -: x","add -","add b: x","","add - x","cut b","change b on b","change c on b a","change c on a a"," change b","change b  on a","add -: x\t"].map fun s=>(Str.ofString s).cps.toList
noncomputable def oddT (k:Nat):List Nat:=if decide (7 < k/\k < 24)||decide (k=29) then (Str.ofString "change b\n").cps.toList++oddL.getD k [] else oddL.getD k []
theorem odd_run:∀ k:Nat,k < 30->(match Bu ⟨Ag P03 isExc 0 7,isExc,0,false⟩ Gh [vi k] [] with | .ok (.d (.str x)) []=>x.cps.toList == oddT k | _=>false)=true:=by decide +kernel
theorem odd_not:∀ k:Nat,k < 30->(oddT k).length<=9000/\(D0 (BL (oddT k))&&decide (A0 (BL (oddT k))=oddT k))=false:=by decide +kernel
end
theorem row0_sep {a:List Nat} (h:10∉a) (r:List (List Nat)):row0 (AY [10] (a::r))=a:=by
 induction r with
 | nil=>rw [Bt]; exact row0_all h
 | cons b q=>rw [AO,List.append_assoc]; exact row0_at h
theorem Eh {c:Ch} (h:Cy c):1<=(AY [32] (AD c.1 c.2.1)).count 32/\(AY [32] (AD c.1 c.2.1)).count 32<=22:=by
 have hf:=h.up.fine
 have e:=CX 32 (AY [32] (AD c.1 c.2.1))
 rw [DY hf.name hf.leans] at e
 have hl:=h.few
 have e2:2<=(AD c.1 c.2.1).length/\(AD c.1 c.2.1).length<=23:=by
  unfold AD
  induction hc:c.2.1 with
  | nil=>simp
  | cons y r=>rw [hc] at hl; simp at hl ⊢; (with_reducible assumption)
 lia
theorem text_LP {t:List Nat} {ls:List (List Nat)} {d:Deed} (h:DH Co t ls d) {l:List Nat} (hl:d.text=some l):LP l:=by
 rcases h.shape with ⟨l',h1,h2,_⟩ | ⟨_,h2,_⟩
 ·obtain rfl:=Option.some.inj (h2.symm.trans hl); exact h1.2
 ·exact Ab (h2.symm.trans hl)
theorem deed_parts {t:List Nat} {ls:List (List Nat)} {d:Deed} (h:DH Co t ls d) (hf:EE d):(deedT d).length<=30\/∃ b l,deedT d=b++32::l/\LP l/\b=d.word++[32]++A8 d.mark++[58]/\b.length<=30:=by
 have h1:=FQ hf.mark
 have h2:=wd3 hf
 rcases hf.shape with ⟨e1,e2⟩ | ⟨e1,l,e2,e3⟩
 ·refine .inl ?_
  simp only [deedT,e2,BZ,List.length_append,List.length_nil,List.length_cons,h2]; lia
 ·refine .inr ⟨d.word++[32]++A8 d.mark++[58],l,?_,text_LP h e2,rfl,?_⟩
  ·simp only [deedT,e2,BZ,List.append_assoc]; rfl
  ·simp only [List.length_append,List.length_nil,List.length_cons,h2]; lia
theorem few_deed {t:List Nat} {ls:List (List Nat)} {d:Deed} (h:DH Co t ls d) (hf:EE d):FewW (deedT d):=by
 rcases deed_parts h hf with h1 | ⟨b,l,h1,h2,h3,h4⟩
 ·exact Da (Nat.le_trans List.count_le_length (by (exact BO ‹_› (by rfl))))
 ·have hb:=List.count_le_length (a:=32) (l:=b)
  obtain ⟨w,o,x⟩:=d
  induction o with
  | some m =>
   rw [h1]
   refine few_tail ?_ (by lia) h2
   rw [h3]
   simp only [A8,List.count_append,List.count_singleton_self]
   lia
  | none =>
   intro _ hn
   exfalso
   have e:Ai 32 (deedT ⟨w,none,x⟩)=w::[45,58]::Ai 32 l:=by
    rw [h1,h3,DL]
    show Ai 32 (w++[32]++[45]++[58])++_=_
    rw [List.append_assoc,List.append_assoc]
    show Ai 32 (w++32::[45,58])++_=_
    rw [DL,split_one (word_no hf no32)]; rfl
   rw [e] at hn
   have e2:min 1 ((w::[45,58]::Ai 32 l).length-1)=1:=by simp only [List.length_cons]; lia
   rw [e2] at hn
   exact absurd (show Aq [45,58]=true from hn) (by decide)
theorem few_turned {c:Ch} (h:Cy c) {T':List Nat} (ht:Turned (A0 c) T'):FewW (row0 T'):=by
 obtain ⟨k,j,x,hk,hj,hx,rfl⟩:=ht
 have hf:=h.up.fine
 have hc:=Eh h
 have hno:=head_no hf.name hf.leans no10 (by decide)
 obtain ⟨R,hR,hR2⟩:∃ R,A0 c=AY [32] (AD c.1 c.2.1)++R/\(R=[]\/∃ d q,d∈c.2.2/\R=10::AY [10] (deedT d::q)):=by
  unfold A0
  induction hd:c.2.2 with
  | nil=>exact ⟨[],by rw [List.map_nil,Bt,List.append_nil],.inl rfl⟩
  | cons d q=>exact ⟨10::AY [10] (deedT d::q.map deedT),by rw [List.map_cons,AO,List.append_assoc]; rfl,.inr ⟨d,_,by exact .head _,rfl⟩⟩
 rw [hR] at hk ⊢
 rcases turned_row hno (hR2.imp id fun hz_=>by obtain ⟨d,q,_,e⟩:=hz_; exact ⟨_,e⟩) hk hj hx with e | ⟨R',e1,e2⟩
 ·exact Da (by lia)
 ·rw [e2]
  rcases hR2 with e | ⟨d,q,hd,e⟩
  ·exact nil_ne (e.symm.trans e1)
  ·rw [e] at e1
   obtain rfl:AY [10] (deedT d::q)=R':=(List.cons.inj e1).2
   have hfd:=hf.each d hd
   rw [row0_sep (deed_no hfd (by decide))]
   have hxc:=List.count_le_length (a:=32) (l:=x)
   rcases deed_parts (h.good d hd) hfd with h1 | ⟨b,l,h1,h2,h3,h4⟩
   ·refine Da ?_
    have:=List.count_le_length (a:=32) (l:=deedT d)
    simp only [List.count_append]; lia
   ·rw [h1,<-List.append_assoc]
    have hb:=List.count_le_length (a:=32) (l:=b)
    refine few_tail ?_ ?_ h2
    ·have:1<=b.count 32:=by rw [h3]; simp only [List.count_append,List.count_singleton_self]; lia
     simp only [List.count_append]; lia
    ·simp only [List.count_append]; lia
theorem few_rows {c:Ch} (h:Cy c) {R':List (List Nat)} (hm:Moved (Ai 10 (A0 c)) R'):FewW (row0 (AY [10] R')):=by
 have hf:=h.up.fine
 induction R' with
 | nil=>exact Da (by decide)
 | cons r q =>
  have hr:=hm.1 r (by exact .head _)
  rw [row0_sep (split_free 10 _ r hr)]
  rw [BM hf] at hr
  rcases List.mem_cons.mp hr with rfl | hr
  ·exact Da (by have:=Eh h; lia)
  ·obtain ⟨d,hd,rfl⟩:=List.mem_map.mp hr
   exact few_deed (h.good d hd) (hf.each d hd)
theorem few_note {c:Ch} (h:Cy c):FewW (row0 (A0 c)):=by
 rw [Gp h.up.fine]
 exact Da (by have:=Eh h; lia)
theorem gen_len {c:Ch} (h:Cy c):(∀ r∈Ai 10 (A0 c),r.length<=300)/\(Ai 10 (A0 c)).length<=21/\(A0 c).length<=6400:=by
 have hf:=h.up.fine
 have h1:∀ r∈Ai 10 (A0 c),r.length<=300:=by
  rw [BM hf]
  intro r hr
  rcases List.mem_cons.mp hr with rfl | hr
  ·have e:=EK [32] (B:=12) (AD c.1 c.2.1) (by
    intro x hx
    have a1:=(B4 hf.name).2
    unfold AD at hx
    induction hls:c.2.1 with
    | nil =>
     rw [hls] at hx
     simp only [List.mem_cons,List.not_mem_nil,or_false] at hx
     rcases hx with rfl | rfl
     ·decide
     ·exact a1
    | cons y r =>
     rw [hls] at hx
     simp only [List.mem_cons] at hx
     rcases hx with rfl | rfl | rfl | hx
     ·decide
     ·exact a1
     ·decide
     ·exact (B4 (hf.leans x (by rw [hls]; exact List.mem_cons.mpr hx))).2)
   have e1:=CX 32 (AY [32] (AD c.1 c.2.1))
   rw [DY hf.name hf.leans] at e1
   have:=Eh h
   simp only [List.length_cons,List.length_nil] at e
   lia
  ·obtain ⟨d,hd,rfl⟩:=List.mem_map.mp hr
   exact deed_len (hf.each d hd)
 have h2:(Ai 10 (A0 c)).length<=21:=by
  rw [BM hf]
  have:=h.deeds
  simp; (with_reducible assumption)
 refine ⟨h1,h2,?_⟩
 have e:=EK [10] (B:=300) _ h1
 rw [DN] at e
 simp only [List.length_cons,List.length_nil] at e
 lia
theorem note_no {c:Ch} (h:Fine c) {x:Nat} (hx:x < 32) (h10:x≠10):x∉A0 c:=by
 intro e
 rcases sep_mem [10] _ e with e | ⟨a,ha,e⟩
 ·exact h10 (by exact List.mem_singleton.mp e)
 ·have hs:x∉AB:=fun e=>by
   have:=(by decide:∀ x∈AB,32<=x) x e; lia
  rcases List.mem_cons.mp ha with rfl | ha
  ·exact head_no h.name h.leans hs (by (exact Nat.ne_of_lt ‹_›)) e
  ·obtain ⟨d,hd,rfl⟩:=List.mem_map.mp ha
   exact deed_no (h.each d hd) hx e
theorem Gr {T:List Nat} (hT:T.length<=9000) (h:∀ c,OkCh c->A0 c≠T):Cd T=none:=by
 induction hr:Cd T with
 | none=>rfl
 | some c =>
  obtain ⟨h1,h2⟩:=readF_ok hT hr
  exact absurd h2 (h c h1)
theorem read_not {T:List Nat} (hT:T.length<=9000) (h:(D0 (BL T)&&decide (A0 (BL T)=T))=false):Cd T=none:=by
 refine Gr hT fun c hc e=>?_
 have hd:BL T=c:=by rw [<-e]; exact due_note hc.fine
 rw [hd,ok_good hc,e,decide_eq_true rfl] at h
 exact tt_ h
theorem read_good {T:List Nat} (hT:T.length<=9000) (h1:D0 (BL T)=true) (h2:A0 (BL T)=T):Cd T=some (BL T):=by
 have hl:(BL T).2.1.length<=10000:=by
  have a:=B3 32 (row0 T)
  have b:=Df T
  show ((Ai 32 (row0 T)).drop 3).length<=_
  rw [List.length_drop]; omega
 have hok:=good_ok h1 (fun d hd=>by
  obtain ⟨row,_,rfl⟩:=List.mem_map.mp hd
  exact dueD_ok row) hl
 have:=read_note hok
 rwa [h2] at this
theorem due_ok {T:List Nat} (hT:T.length<=9000) (h1:D0 (BL T)=true):OkCh (BL T):=by
 refine good_ok h1 (fun d hd=>?_) ?_
 ·obtain ⟨row,_,rfl⟩:=List.mem_map.mp hd
  exact dueD_ok row
 ·have a:=B3 32 (row0 T)
  have b:=Df T
  show ((Ai 32 (row0 T)).drop 3).length<=_
  rw [List.length_drop]; omega
theorem read_tab {c:Ch} (h:Cy c) (k:Nat):Cd ((A0 c).take k++[9]++(A0 c).drop k)=none:=by
 have hl:=(gen_len h).2.2
 refine Gr (by simp; omega) fun c' hc' e=>?_
 exact note_no hc'.fine (x:=9) (by decide) (by decide) (by rw [e]; simp)
noncomputable def C0:List Nat:=[97,100,100,32,45,58,32]
theorem read_long {c:Ch} (h:Cy c) {X:List Nat} (h1:X.length=201) (h2:10∉X):Cd (A0 c++10::(C0++X))=none:=by
 have hl:=(gen_len h).2.2
 have hk:C0.length=7:=rfl
 refine Gr (by rw [List.length_append,List.length_cons,List.length_append,h1,hk]; lia) fun c' hc' e=>?_
 have hs:=BM hc'.fine
 rw [e,DL,BM h.up.fine] at hs
 have hr:Ai 10 (C0++X)=[C0++X]:=split_one (by
  rw [List.mem_append]
  exact fun q=>q.elim (fun q=>absurd q (by decide)) h2)
 rw [hr,List.cons_append] at hs
 have hs:=(List.cons.inj hs).2
 have hm:C0++X∈c'.2.2.map deedT:=by rw [<-hs]; simp
 obtain ⟨d,hd,ed⟩:=List.mem_map.mp hm
 have hfd:=hc'.fine.each d hd
 have hdu:=dueD_deed hfd
 rw [ed] at hdu
 have p1:AZ [32] (C0++X)=(Cp,[32],[45,58,32]++X):=by
  have q:C0++X=Cp++32::[]++([45,58,32]++X):=rfl
  rw [q]; exact FL 32 [] Cp ([45,58,32]++X) (by decide)
 have p2:AZ [58,32] ([45,58,32]++X)=([45],[58,32],X):=by
  have q:[45,58,32]++X=[45]++58::[32]++X:=rfl
  rw [q]; exact FL 58 [32] [45] X (by decide)
 have ht:(CP (C0++X)).text=some X:=by
  have q:decide (Cp=AW)=false:=by decide
  rw [CP,p1]
  simp only [p2,q]
  rfl
 rw [hdu] at ht
 rcases hfd.shape with ⟨_,e2⟩ | ⟨_,l,e2,e3⟩
 ·exact Ab (e2.symm.trans ht)
 ·rw [e2] at ht
  have:=FR e3
  rw [Option.some.inj ht,h1] at this
  (exact Nat.lt_irrefl _ ‹_›)
end Mine.Internal
set_option maxRecDepth 100000
namespace Mine.Internal
open PySem
theorem few_due {T:List Nat} (h:FewW (row0 T)):(((BL T).1::(BL T).2.1).any fun w=>!Aq w)=false->(BL T).2.1.length < 64:=by
 intro e
 rw [List.any_eq_false] at e
 have hn:∀ w∈(BL T).1::(BL T).2.1,Aq w=true:=fun w hw=>by simpa using e w hw
 have:=h (fun w hw=>hn w (List.mem_cons_of_mem _ hw)) (hn _ List.mem_cons_self)
 show ((Ai 32 (row0 T)).drop 3).length < 64
 rw [List.length_drop]; omega
section
variable {fuel n:Nat} {σ:Store}
theorem ev_good_due {T:List Nat} (hT:T.length<=9000) (h:FewW (row0 T)):Ag P03 isExc fuel (n+2) false .frz 34 [.d (BL T).data] σ=.ok (vb (D0 (BL T))) σ:=by
 have a:=B3 32 (row0 T)
 have b:=Df T
 have p:=Cl 32 (row0 T)
 have a':=B3 10 T
 have p':=Cl 10 T
 refine ev_good (BL T) ?_ ?_ ?_ ?_ (few_due h)
 ·intro d hd hw
  obtain ⟨row,hr,rfl⟩:=List.mem_map.mp hd
  have hrow:=p' row (List.mem_of_mem_tail hr)
  rcases (dueD_ok row).2 with ⟨e,_⟩ | ⟨_,l,e⟩
  ·exact absurd e hw
  ·refine ⟨l,e,?_⟩
   have l1:=Ew [32] row
   have l2:=Ew [58,32] (AZ [32] row).2.2
   have hl:l=(AZ [58,32] (AZ [32] row).2.2).2.2:=by
    unfold CP at e
    split at e
    ·exact Ab e
    ·exact (Option.some.inj e).symm
   rw [hl]; lia
 ·intro w hw
  rcases List.mem_cons.mp hw with rfl | hw
  ·show ((Ai 32 (row0 T)).getD (min 1 ((Ai 32 (row0 T)).length-1)) []).length<=_
   rw [List.getD_eq_getElem?_getD]
   induction hg:(Ai 32 (row0 T))[min 1 ((Ai 32 (row0 T)).length-1)]? with
   | none=>exact Nat.zero_le _
   | some x =>
    have:=p x (List.mem_of_getElem? hg)
    show x.length<=_; lia
  ·have:=p w (List.mem_of_mem_drop hw); lia
 ·show ((Ai 32 (row0 T)).drop 3).length<=_
  rw [List.length_drop]; lia
 ·show ((Ai 10 T).tail.map CP).length<=_
  rw [List.length_map,List.length_tail]; lia
theorem ev_odd (i:Int) (h0:0<=i) (h1:i < 30):Ag P03 isExc 0 8 false .frz 30 [vi i] σ=.ok (vs (oddT i.toNat)) σ:=by
 obtain ⟨k,rfl⟩:=Int.eq_ofNat_of_zero_le h0
 have h:=odd_run k (by (exact Int.ofNat_le.mp ‹_›))
 induction hr:Bu ⟨Ag P03 isExc 0 7,isExc,0,false⟩ Gh [vi k] [] with
 | ok v s =>
  rw [hr] at h
  cases v with
  | d x =>
   cases x with
   | str x =>
    induction s with
    | nil =>
     have hx:x.cps.toList=oddT k:=eq_of_beq h
     refine AR (v:=.d (.str x)) (σ1:=[]) Q30 rfl hr ?_
     show some (PyData.str x)=_
     rw [<-F5 x,hx]; rfl
    | cons _ _=>exact ff_ h
   | _=>exact ff_ h
  | _=>exact ff_ h
 | exc c s=>rw [hr] at h; exact ff_ h
 | bad=>rw [hr] at h; exact ff_ h
end
theorem k_tab:Str.ofString "\t" = Tx [9]:=by decide +kernel
theorem k_add2:Str.ofString "\nadd -: " = Tx (10::C0):=by decide +kernel
theorem k_x:Str.ofString "x" = Tx [120]:=by decide +kernel
theorem mul_x {σ:Store}:Dm true .Mult (vs [120]) (vi 201) σ=.ok (vs (List.replicate 201 120)) σ:=by
 have e:Txt.mul (Tx [120]) 201=Tx (List.replicate 201 120):=by decide +kernel
 show (if (0:Int)<=201/\(201:Int)<=1000/\(Tx [120]).length<=1000 then Res.ok (V.d (.str (Txt.mul (Tx [120]) 201))) σ else .bad)=_
 rw [if_pos ⟨by decide,by decide,by decide⟩,e]
theorem run_law03 (ns:List Int) (hns:ns.length<=63):∃ σ',Bu ⟨Ag P03 isExc 0 8,isExc,0,false⟩ FLaw [.d (scD ns)] []=.ok (.d (.bool true)) σ':=by
 obtain ⟨c,hg,h22⟩:=ev_one (fuel:=0) (n:=4) ns (by (exact BO ‹_› (by rfl)))
 have hf:=hg.up.fine
 obtain ⟨gl1,gl2,gl3⟩:=gen_len hg
 have h13:=fun k σ h0 hk=>ev_cell (fuel:=0) (n:=7) (σ:=σ) ns k h0 hk
 have h25:=fun c σ h=>ev_lwritten (fuel:=0) (n:=5) (σ:=σ) c h
 have h38:=fun T σ hT h=>ev_refused (fuel:=0) (n:=3) (σ:=σ) T hT h
 have h30:=fun i σ h0 h1=>ev_odd (σ:=σ) i h0 h1
 have h31:=fun q=>ev_turned (fuel:=0) (n:=7) (A0 c) q (by (exact BO ‹_› (by rfl)))
 have h32:=fun q=>ev_rows (fuel:=0) (n:=7) (A0 c) q (by (exact BO ‹_› (by rfl))) (by (exact BO ‹_› (by rfl)))
 have h36:=fun T σ hT=>ev_taken (fuel:=0) (n:=6) (σ:=σ) T hT
 have h34:=fun T σ hT h=>ev_good_due (fuel:=0) (n:=6) (σ:=σ) (T:=T) hT h
 have h27:=fun c σ h1 h2=>ev_change_like (fuel:=0) (n:=6) (σ:=σ) c h1 h2
 have h12:=fun T hT=>ev_read (fuel:=0) (n:=4) T hT
 have key:Aw (fun r=>r=.ok (.ret (vb true)) []) (execSs ⟨Ag P03 isExc 0 8,isExc,0,false⟩ FLaw.body [some (.d (scD ns)),none,none,none,none,none,none,none] []):=by
  generalize hC:(⟨Ag P03 isExc 0 8,isExc,0,false⟩:Cfg)=C
  have hhd:C.hd=false:=by rw [<-hC]
  have hcf:C.cf=Ag P03 isExc 0 8:=by rw [<-hC]
  generalize Ag P03 isExc 0 8=F at hcf h22 h13 h25 h38 h30 h31 h32 h36 h34 h27 h12
  show Aw _ (execSs C [_,_,_,_,_,_,_,_,_,_] _ [])
  have g2:=h13 2 [] (by decide) (by decide)
  have g3:=h13 3 [] (by decide) (by decide)
  generalize cellOf ns (2:Int).toNat=c2 at g2
  generalize cellOf ns (3:Int).toNat=c3 at g3
  have hw:=AG c2 (j:=4) (by decide)
  refine Al (v:=.d c.data) (σ1:=[]) (by simp only [Ah,Ad,A1,An,Ap,Aa,gz,hcf,hhd,h22] <;> rfl) ?_
  refine Al (v:=vi (c2.fmod 4)) (σ1:=[]) (by simp only [Ah,Ad,A5,A1,An,Ap,Aa,gz,sz,sy,hcf,hhd,g2,AJ (show (4:Int)≠0 by decide)] <;> rfl) ?_
  refine Al (v:=vi (c3.fdiv 7)) (σ1:=[]) (by simp only [Ah,Ad,A5,A1,An,Ap,Aa,gz,sz,sy,hcf,hhd,g3,Ce (show (7:Int)≠0 by decide)] <;> rfl) ?_
  generalize c2.fmod 4=w at hw
  generalize c3.fdiv 7=q
  refine Al (v:=vs (A0 c)) (σ1:=[]) (by simp only [Ad,A1,An,Ap,Aa,gz,gs,sz,sy,hcf,hhd,h25 c _ hf] <;> rfl) ?_
  refine Ar (t:=decide (w=3)) (σ1:=[]) rfl (fun e=>?_) (fun e=>?_)
  ·have hat:=AG q (j:=((A0 c).length:Int)+1) arp
   refine Al (v:=vi (q.fmod (((A0 c).length:Int)+1))) (σ1:=[]) (by simp only [Ah,Ad,A5,A6,An,Ap,Aa,gz,gs,sz,sy,DW,ET,BE,AJ (arq (n:=(A0 c).length))] <;> rfl) ?_
   generalize q.fmod (((A0 c).length:Int)+1)=A at hat
   have q1:slice true (vs (A0 c)) none (some (vi A)) []=.ok (vs ((A0 c).take A.toNat)) []:=sl_toZ hat.1 (by lia)
   have q2:slice true (vs (A0 c)) (some (vi A)) none []=.ok (vs ((A0 c).drop A.toNat)) []:=Ev hat.1 (by lia)
   have c1:=Bp (fz:=true) (σ:=[]) ((A0 c).take A.toNat) [9] (by simp [line]; omega)
   have c2:=Bp (fz:=true) (σ:=[]) ((A0 c).take A.toNat++[9]) ((A0 c).drop A.toNat) (by simp [line]; lia)
   have c3:=Bp (fz:=true) (σ:=[]) (A0 c) (10::C0) (by simp [line,C0]; (exact BO ‹_› (by rfl)))
   have c4:=Bp (fz:=true) (σ:=[]) (A0 c++10::C0) (List.replicate 201 120) (by simp [line,C0]; (exact BO ‹_› (by rfl)))
   have e4:A0 c++10::C0++List.replicate 201 120=A0 c++10::(C0++List.replicate 201 120):=by rw [List.append_assoc]; rfl
   rw [e4] at c4
   have r1:=h38 _ [] (by simp; lia) (read_tab hg A.toNat)
   have r2:=h38 (A0 c++10::(C0++List.replicate 201 120)) [] (by rw [List.length_append,List.length_cons,List.length_append,List.length_replicate,show C0.length=7 from rfl]; lia) (read_long hg (List.length_replicate ..) (fun h=>absurd (List.eq_of_mem_replicate (a:=120) h) (by decide)))
   have s2:Ac C (.bin true .Mult (.cst (.str "x")) (.cst (.int 201))) [some (.d (scD ns)),some (.d c.data),some (vi w),some (vi q),some (vs (A0 c)),some (vi A),none,none] []=.ok (vs (List.replicate 201 120)) []:=by
    rw [A5,Ah,Aa,Ah,Aa,k_x]; exact mul_x
   have s3:Ac C (.bin true .Add (.var 4) (.cst (.str "\nadd -: "))) [some (.d (scD ns)),some (.d c.data),some (vi w),some (vi q),some (vs (A0 c)),some (vi A),none,none] []=.ok (vs (A0 c++10::C0)) []:=(by simp only [Ah,Ad,A5,Aa,gz,gs,k_add2,c3] <;> rfl)
   have s4:=(Fg (op:=.Add) (fz:=true) s3 s2).trans c4
   refine Ar (t:=!true) (σ1:=[]) (Cu (by simp only [Ah,Ad,A5,Bm,A1,An,Ap,CM,C8,Aa,gz,gs,sz,sy,q1,q2,k_tab,c1,c2,hcf,hhd,r1] <;> rfl)) (fun e=>by exact ff_ e) (fun _=>?_)
   have s5:Ac C (.fcall .frz 38 [.bin true .Add (.bin true .Add (.var 4) (.cst (.str "\nadd -: "))) (.bin true .Mult (.cst (.str "x")) (.cst (.int 201)))]) [some (.d (scD ns)),some (.d c.data),some (vi w),some (vi q),some (vs (A0 c)),some (vi A),none,none] []=.ok (vb true) []:=by
    rw [A1,Ap,s4,Aa,An,Aa,Aa,hcf,hhd]; exact r2
   refine Ar (t:=!true) (σ1:=[]) (Cu s5) (fun e=>by exact ff_ e) (fun _=>?_)
   have hc:=e_compR (C:=C) (elt:=.fcall .frz 38 [.fcall .frz 30 [.var 6]]) (t:=6) (es:=[.cst (.int 30)]) (ifs:=[]) (ρ:=[some (.d (scD ns)),some (.d c.data),some (vi w),some (vi q),some (vs (A0 c)),some (vi A),none,none]) (σ:=[]) (σ1:=[]) (m:=30) (fun _=>true) (fun _=>.bool true) hhd rfl (by decide) (by decide) (fun i _ _=>by simp only [eF_1,eF_2]) (fun i i0 i1 _=>by
    obtain ⟨o1,o2⟩:=odd_not i.toNat (by lia)
    have r3:=h38 (oddT i.toNat) [] o1 (read_not o1 o2)
    simp only [Ad,A1,An,Ap,Aa,gz,gs,sz,sy,hcf,hhd,h30 i _ i0 i1,r3])
   exact Ax (e_all hhd hc) rfl
  have e:=of_decide_eq_false e
  refine BP (M:=fun ρ σ=>(∃ T,T.length<=9000/\FewW (row0 T)/\(w=0\/w=2->T=A0 c)/\ρ=[some (.d (scD ns)),some (.d c.data),some (vi w),some (vi q),some (vs T),none,none,none])/\σ=[]) ?_ ?_
  ·obtain ⟨T,t1,t2⟩:=h31 q
   refine Ar (t:=decide (w=1)) (σ1:=[]) rfl (fun e1=>?_) (fun e1=>?_)
   ·have e1:=of_decide_eq_true e1
    have hl:T.length<=9000:=by
     obtain ⟨k,j,x,k1,k2,k3,rfl⟩:=t1
     simp; lia
    exact Al (v:=vs T) (σ1:=[]) (by simp only [Ad,A1,An,Ap,Aa,gz,gs,sz,sy,hcf,hhd,t2] <;> rfl) (Av ⟨_,_,⟨⟨T,hl,few_turned hg t1,fun h=>by lia,rfl⟩,rfl⟩,rfl⟩)
   ·exact Av ⟨_,_,⟨⟨A0 c,by (exact BO ‹_› (by rfl)),few_note hg,fun _=>rfl,rfl⟩,rfl⟩,rfl⟩
  rintro _ _ ⟨⟨T,t1,t2,t3,rfl⟩,rfl⟩
  refine BP (M:=fun ρ σ=>(∃ T,T.length<=9000/\FewW (row0 T)/\(w=0->T=A0 c)/\ρ=[some (.d (scD ns)),some (.d c.data),some (vi w),some (vi q),some (vs T),none,none,none])/\σ=[]) ?_ ?_
  ·obtain ⟨R',r1,r2⟩:=h32 q
   refine Ar (t:=decide (w=2)) (σ1:=[]) rfl (fun e1=>?_) (fun e1=>?_)
   ·have e1:=of_decide_eq_true e1
    obtain rfl:T=A0 c:=t3 (.inr e1)
    have hl:(AY [10] R').length<=9000:=by
     have:=EK [10] (B:=300) R' (fun r hr=>gl1 r (r1.1 r hr))
     have:=r1.2
     simp only [List.length_cons,List.length_nil] at *
     lia
    exact Al (v:=vs (AY [10] R')) (σ1:=[]) (by simp only [Ad,A1,An,Ap,Aa,gz,gs,hcf,hhd,r2] <;> rfl) (Av ⟨_,_,⟨⟨_,hl,few_rows hg r1,fun h=>by lia,rfl⟩,rfl⟩,rfl⟩)
   ·exact Av ⟨_,_,⟨⟨T,t1,t2,fun h=>t3 (.inl h),rfl⟩,rfl⟩,rfl⟩
  clear t1 t2 t3
  rintro _ _ ⟨⟨T,t1,t2,t3,rfl⟩,rfl⟩
  refine Al (v:=.d (BL T).data) (σ1:=[]) (by simp only [Ad,A1,An,Ap,Aa,gz,gs,hcf,hhd,h36 T _ t1] <;> rfl) ?_
  have g34:=h34 T [] t1 t2
  refine Ar (t:=!D0 (BL T) || !decide (A0 (BL T)=T)) (σ1:=[]) (C1 (Cu (by simp only [Ad,A1,An,Ap,Aa,gz,gs,sz,sy,hcf,hhd,g34] <;> rfl)) (fun h=>?_)) (fun h=>?_) (fun h=>?_)
  ·have hk:=h25 (BL T) [] (due_ok t1 (by simpa using h)).fine
   exact (by simp only [Ad,Ao,A1,An,Ap,Aa,gz,gs,sz,sy,CN,Bx,Ba,hcf,hhd,hk] <;> rfl)
  ·have hno:(D0 (BL T)&&decide (A0 (BL T)=T))=false:=by
    rw [<-Bool.not_and] at h
    exact (Bool.not_eq_true' _).mp h
   have hw0:w > 0:=by
    rcases Int.lt_or_eq_of_le hw.1 with h | h
    ·exact h
    ·exfalso
     have hT:=t3 h.symm
     rw [hT,due_note hf,ok_good hg.up,decide_eq_true rfl] at hno
     exact tt_ hno
   have r:=h38 T [] t1 (read_not t1 hno)
   exact Ax (v:=vb (true&&true)) (σ1:=[]) (Cv (by simp only [Ah,Ad,Ao,Aa,gz,gs,sz,sy,c_gt,gt_i,decide_eq_true hw0] <;> rfl) (fun _=>(by simp only [Ad,A1,An,Ap,Aa,gz,gs,sz,sy,hcf,hhd,r] <;> rfl))) rfl
  ·simp only [Bool.or_eq_false_iff,Bool.not_eq_false',decide_eq_true_eq] at h
   have hr:=read_good t1 h.1 h.2
   have hok:=due_ok t1 h.1
   rcases h12 T t1 with ⟨c',e1,e2⟩ | ⟨e1,_⟩
   ·rw [hr] at e1
    obtain rfl:BL T=c':=Option.some.inj e1
    have e3:=h27 (BL T) [] (by have:=hok.few; (exact BO ‹_› (by rfl))) (by have:=hok.deeds; (exact BO ‹_› (by rfl)))
    exact Ax (v:=vb true) (σ1:=[]) (by simp only [Ad,A1,An,Ap,Aa,gz,gs,sz,sy,hcf,hhd,e2,e3] <;> rfl) rfl
   ·exact AT (hr.symm.trans e1)
 exact ⟨_,A9 rfl key⟩
end Mine.Internal
set_option maxRecDepth 100000
namespace Mine.Internal
open PySem PySem.Calls PyProof.Rows PySem.W
set_option tactic.hygienic true in
theorem GK {c k:Nat} {b:Bool} (h:isExc c k=some b):kl c∈[2,3,4]/\(kl c,k)∈ps03/\k<=9/\b=(kl c == k||k == 1||k == 0):=by
 unfold isExc at h
 split at h
 ·rename_i hc
  have hb:=(Option.some.inj h).symm
  simp only [Bool.and_eq_true,Bool.or_eq_true,beq_iff_eq,decide_eq_true_eq] at hc
  rcases hc with ⟨e,hk⟩ | ⟨e | e,rfl⟩
  ·have e:kl c=4:=e
   refine ⟨by rw [e]; decide,?_,hk,hb⟩
   rw [e]
   exact (by decide:∀ k,k < 10->(4,k)∈ps03) k (by omega)
  ·have e:kl c=2:=e
   exact ⟨by rw [e]; decide,by rw [e]; decide,by decide,hb⟩
  ·have e:kl c=3:=e
   exact ⟨by rw [e]; decide,by rw [e]; decide,by decide,hb⟩
 ·cases h
section
variable {w:World} {s₁:Shared} {mean:ExcName->Option Value} {mg mb:Str->Option Value}
noncomputable def Dc (w:World) (h:Heap) (mg:Str->Option Value):Mine.Internal.Top:=⟨PySem.Challenge.rw_uf010019_03.row.prog,w,h,clsOf mg cn03,fnsOf mg Ae⟩
theorem cls03 (Tp:PyProof.Rows.Top view03 (looseW view03 []) mean mg mb s₁.heap) {K:Frag} (KX:K.In s₁.heap) (KC:G4 W03 cn03 [2,3,4] ps03 K=true) {k:Nat} (hk:k<=9):clsOf mg cn03 k=some (W03 k):=by
 by_cases h0:k=0
 ·subst h0; rfl
 ·have hmem:∃ n,cn03.lookup k=some n/\(k,n)∈cn03:=by
   have hall:((List.range 10).all fun k=>k == 0||(cn03.lookup k).isSome)=true:=by decide +kernel
   have:=List.all_eq_true.mp hall k (by simp; omega)
   rw [beq_eq_false_iff_ne.mpr h0,Bool.false_or] at this
   obtain ⟨n,hn⟩:=Option.isSome_iff_exists.mp this
   exact ⟨n,hn,Dh hn⟩
  obtain ⟨n,h1,h2⟩:=hmem
  unfold clsOf
  rw [if_neg h0,h1]
  unfold G4 at KC
  rw [Bool.and_eq_true,Bool.and_eq_true] at KC
  exact mg_of KX Tp.g (isVal_eq (List.all_eq_true.mp KC.1.1 (k,n) h2))
theorem ready03 (Tp:PyProof.Rows.Top view03 (looseW view03 []) mean mg mb s₁.heap) {K:Frag} (KX:K.In s₁.heap) (KC:G4 W03 cn03 [2,3,4] ps03 K=true):Ready (Dc w s₁.heap mg) Bz isExc:=by
 have h:=KC
 unfold G4 at h
 rw [Bool.and_eq_true,Bool.and_eq_true] at h
 have hcls:∀ c k b,isExc c k=some b->∃ D,(Dc w s₁.heap mg).cls (kl c)=some (.ref D)/\ExcK K D:=by
  intro c k b hx
  obtain ⟨hc,_,_,_⟩:=GK hx
  have he:=List.all_eq_true.mp h.1.2 (kl c) hc
  have e1:(Dc w s₁.heap mg).cls (kl c)=some (W03 (kl c)):=cls03 Tp KX KC (by
   simp only [List.mem_cons,List.not_mem_nil,or_false] at hc; omega)
  cases hW:W03 (kl c) with
  | ref D=>rw [hW] at he e1; exact ⟨D,e1,excOk_of he⟩
  | _=>rw [hW] at he; cases he
 have both:∀ c k b D v,isExc c k=some b->(Dc w s₁.heap mg).cls (kl c)=some (.ref D)->(Dc w s₁.heap mg).cls k=some v->kitOne K (.ref D) v=some b/\kitCls K (.ref D) v=some b/\kitCls K v (.type "BaseException")=some true:=by
  intro c k b D v hx h1 h2
  obtain ⟨hc,hp,hk,hb⟩:=GK hx
  have e1:(Dc w s₁.heap mg).cls (kl c)=some (W03 (kl c)):=cls03 Tp KX KC (by
   simp only [List.mem_cons,List.not_mem_nil,or_false] at hc; omega)
  have e2:(Dc w s₁.heap mg).cls k=some (W03 k):=cls03 Tp KX KC hk
  rw [h1] at e1; rw [h2] at e2
  rw [Option.some.inj e1,Option.some.inj e2,hb]
  have hq:=List.all_eq_true.mp h.2 (kl c,k) hp
  rw [Bool.and_eq_true,Bool.and_eq_true] at hq
  exact ⟨DT hq.1.1,DT hq.1.2,DT hq.2⟩
 refine ⟨⟨Tp.nolimit,Tp.seer (by decide +kernel),rfl⟩,?_,?_,?_,?_,?_⟩
 ·exact isi_of (K:=K) KX hcls fun c k b D v hx h1 h2=>(both c k b D v hx h1 h2).1
 ·exact raise_of (own_of (T:=Dc w s₁.heap mg) Tp rfl okOwn03)
 ·exact catch_of (K:=K) KX hcls fun c k b D v hx h1 h2=>(both c k b D v hx h1 h2).2
 ·exact fnob_of (T:=Dc w s₁.heap mg) (gl:=Bz) Tp rfl okAll03
 ·exact ns_of (T:=Dc w s₁.heap mg) (gl:=Bz) (L:=gll03) Tp rfl rfl okAll03 okGl03
end
theorem ints_rep {f:Addr->Option Obj} {vs:List Value} {ns:List Int} (h:IntsAre vs ns):RepDs f (ns.map .int) vs:=by
 induction h with
 | nil=>exact trivial
 | cons n t r ih=>exact ⟨⟨t,rfl⟩,ih⟩
theorem law03 {w:World} {s₁:Shared} {mean:ExcName->Option Value} {mg mb:Str->Option Value} (Tp:PyProof.Rows.Top view03 (looseW view03 []) mean mg mb s₁.heap) {K:Frag} (KX:K.In s₁.heap) (KC:G4 W03 cn03 [2,3,4] ps03 K=true)
 {fa l:Addr} {vs:List Value} {ns:List Int} (hmg:mg "law" = some (.ref fa)) (hL:s₁.heap.IsList l vs.toArray) (hI:IntsAre vs ns) (hn:ns.length<=63) {Q:Value->Shared->Prop} {E:Value->Shared->Prop}
 (hQ:∀ s',(∀ b o,s₁.heap.get? b=some o->s'.heap.get? b=some o)->s'.gens=s₁.gens->s'.os=s₁.os->Q (.bool true) s') :
 wpAny (model PySem.Challenge.rw_uf010019_03.row.prog w) callerA (call (.ref fa) [.ref l]) Q E s₁:=by
 have rd:=ready03 (w:=w) Tp KX KC
 have fns:=fns_ok (T:=Dc w s₁.heap mg) (gl:=Bz) Tp rfl okAll03 emAll03 okP03
 have cf:CallOk (Dc w s₁.heap mg) (Ag P03 isExc 0 8) 8:=callF_ok 0 rd fns 8
 have hfa:(Dc w s₁.heap mg).fn 29=some fa:=by
  show fnsOf mg Ae 29=some fa
  rw [Fy (show Ae.find? (·.1 == 29)=some (Ae[27]'(by decide)) from rfl)]
  show (mg "law").bind refOf=some fa
  rw [hmg]; rfl
 have fo:=fns 29 FLaw fa rfl hfa
 obtain ⟨o,ho,hc,m,hd⟩:=hL
 let g:G:=⟨fun a=>s₁.heap.get? a,[]⟩
 have st:St (Dc w s₁.heap mg) g [] s₁.heap:=⟨fun _ _ e=>e,rfl,List.nodup_nil,(fun a h=>by cases h),(fun k a o e _=>by simp [g] at e),fun _ _ e=>e⟩
 have r:RepVs (Dc w s₁.heap mg) g [.d (scD ns)] [.ref l]:=⟨⟨l,o,vs.toArray,m,rfl,ho,hc,hd,by simpa using ints_rep hI,by simp [line]; omega⟩,trivial⟩
 have sim:=fn_sim (fe:=[]) (n:=8) (A:=callerA) (C:=⟨Ag P03 isExc 0 8,isExc,0,false⟩) rd fo cf st trivial ⟨rfl,by decide,by decide,fun _=>rfl⟩ (.inl rfl) r
 obtain ⟨σe,hrun⟩:=run_law03 ns hn
 rw [hrun] at sim
 refine wpAny_mono (sim (by simp)) ?_ ?_
 ·rintro x s' ⟨b,σ',g',e,stp,rv⟩
  cases e
  have hx:x=.bool true:=rv
  subst hx
  exact hQ s' (fun b o e=>stp.kept.same b o e (by simp [g]) (by simp [Af])) stp.gens stp.os
 ·rintro x s' ⟨c,σ',g',e,_⟩
  cases e
end Mine.Internal
open PySem PySem.W PyProof.Rows
set_option maxRecDepth 100000
set_option maxHeartbeats 8000000
set_option tactic.hygienic true in
theorem PySem.Challenge.cw_uf010019_03_holds : PySem.Challenge.rw_uf010019_03.Holds := by
 refine holds_law Mine.Internal.said03 fun said=>?_
 refine W.holds_open (q:=Mine.Internal.view03) (loose:=[]) (Xt:=fun s=>xlAt Mine.Internal.view03 [] s&&recOk (RowW.records (OpenRow.toRowW (PySem.Challenge.rw_uf010019_03.row))) s) (XP:=XL Mine.Internal.view03 []) (Yf:=Hook.obs Mine.Internal.hook03) (Ya:=Hook.val Mine.Internal.hook03) (YP:=Hook.says Mine.Internal.hook03) (N:=5300) Mine.Internal.left03 (Hook.of Mine.Internal.hook03) (Hook.keeps Mine.Internal.hook03) (fun s e=>xl_of s (Bool.and_eq_true_iff.mp e).1) XL.keeps (by rfl) (by rfl) (by rfl) (fun s e=>recFacts_of (Bool.and_eq_true_iff.mp e).2) (by rfl) said (by decide +kernel) ⟨rfl,rfl,rfl,rfl,rfl,by decide +kernel⟩ ?hw ?hc
 case hw=>w_witness2
 intro w s₀ s₁ mg mb G Y fa o pm cd doc dV kV ho hd hcd hD hmg hg args vals as hpre hlay hrd hwl hlo
 obtain ⟨K,KX,KC⟩:=Y
 have X:=(Ground.X G).1
 have V:=(Ground.X G).2
 refine Ground.open G ?_
 intro T B D TE TW
 clear hd hcd hD ho
 wrow_args hpre hlay hrd hwl hlo
 rename_i sc _ _ _ _ _ _ _ l vs _ hL _ _ _ hI _ hlen _
 refine Mine.Internal.law03 (w:=w) T KX KC hmg hL hI (by omega) ?_
 intro s' hk hgens hos
 refine ⟨.inl ⟨.bool true,.bool true,[],rfl,?_,.bool true,?_,?_⟩,OldK.of_keep hk,hos,?_⟩
 ·intro cls; rfl
 ·wrow_post
 ·exact fun _=>⟨List.nodup_nil,fun a h=>by cases h⟩
 ·exact AllBare.of_eq (hgens.trans hg)