import PyProof.Rows.All
import Wide.Line
import Wide.Tac
import Wide.Loose
import Open.Line
import OpenK.KWalk
import KE.KIsAll
import PyProof.TupleKey
import PyProof.DictFindH
import PyProof.Ns1
import PyProof.StrWalks
import PyProof.Rows.TopObj
import PyProof.Rows.PlainObj
import PyProof.Rows.PlainNoArg
import PyProof.Rows.PlainEq
import PyProof.ListStr
import PyProof.InstStoreFacts
import PyProof.DictWalks
import KE.KSortKey
import KE.KMinKey
import KE.KLam
import PyProof.ReprRoads
import PyProof.RaisesMany
import PyProof.RulesAs
import PyProof.TupleIter
import PyProof.WalksMore
import PyProof.Rows.ListMulArg
import PyProof.Rows.StrMul
import PyProof.DictTruth
import PySem.Challenge.RW_uf010019_04
set_option Elab.async false
set_option autoImplicit false
set_option genSizeOf false
set_option bootstrap.genMatcherCode false
set_option linter.all false
set_option tactic.hygienic false
set_option genInjectivity false
set_option genCtorIdx false
set_option backward.match.sparseCases false
namespace Mine
set_option tactic.hygienic true
set_option maxRecDepth 100000
open PySem PySem.W PyProof.Rows
noncomputable def view04:Program:={ PySem.Challenge.pw_uf010019_04 with main:={ PySem.Challenge.pw_uf010019_04.main with body:=PySem.Challenge.pw_uf010019_04.main.body.filter fun st=>match st with | .Assign [.Name x _] _ _=>x != Str.ofString "__name__" | _=>true } }
noncomputable def notTab (o:Obj):Bool:=match o.data with | .fields vs=>!(vs.size == 0) | _=>true
noncomputable def fragAt (as:List Addr) (h:Heap):Frag:=as.filterMap fun a=>(h.get? a).bind fun o=>if notTab o=true then some (a,o) else none
theorem fragAt_in (as:List Addr) (h:Heap):(fragAt as h).In h:=by
 intro a o e
 unfold fragAt at e
 induction as with
 | nil=>cases e
 | cons b l ih =>
  rw [List.filterMap_cons] at e
  cases hb:h.get? b with
  | none=>rw [hb] at e; exact ih e
  | some ob =>
   rw [hb] at e
   simp only [Option.bind_some] at e
   by_cases hn:notTab ob=true
   ·simp only [if_pos hn,List.lookup_cons] at e
    split at e
    ·rename_i he
     have:a=b:=by simpa using he
     rw [this,hb]; exact e
    ·exact ih e
   ·simp only [if_neg hn] at e
    exact ih e
noncomputable def W04:Nat->Value
 | 0=>.type "ValueError"
 | 1=>.ref 24
 | 2=>.ref 37
 | 3=>.ref 49
 | 4=>.ref 61
 | 5=>.ref 73
 | 6=>.ref 85
 | 7=>.ref 97
 | 8=>.ref 109
 | _=>.ref 121
noncomputable def cn04:List (Nat×Str):=[(2,Str.ofString "BadChange"),(5,Str.ofString "Missing"),(6,Str.ofString "NoLine"),(9,Str.ofString "NoNote"),(3,Str.ofString "NotLeaned"),(7,Str.ofString "Other"),(8,Str.ofString "Ring"),(4,Str.ofString "Twice"),(1,Str.ofString "WeaveError")]
noncomputable def isSome (a b:Option Bool):Bool:=match a,b with | some x,some y=>x == y | _,_=>false
theorem CW {a:Option Bool} {b:Bool} (h:isSome a (some b)=true):a=some b:=by
 cases a with
 | none=>cases h
 | some x=>rw [beq_iff_eq.mp (show (x == b)=true from h)]
noncomputable def isVal (a:Option (Option Value)) (b:Option Value):Bool:=match a,b with | some (some x),some y=>x == y | some none,none=>true | _,_=>false
theorem isVal_eq {a:Option (Option Value)} {b:Option Value} (h:isVal a b=true):a=some b:=by
 cases a with
 | none=>cases b <;> cases h
 | some x=>cases x with
  | none=>cases b with
   | none=>rfl
   | some y=>cases h
  | some x=>cases b with
   | none=>cases h
   | some y=>rw [beq_iff_eq.mp (show (x == y)=true from h)]
noncomputable def isBI (v:Value) (s:String):Bool:=match v with | .builtin x=>x == s | _=>false
theorem isBI_eq {v:Value} {s:String} (h:isBI v s=true):v=.builtin s:=by
 cases v with
 | builtin x=>rw [beq_iff_eq.mp (show (x == s)=true from h)]
 | _=>exact (Bool.false_ne_true h).elim
noncomputable def isBind (o:Option Builtin.ObjectAttr.Found):Bool:=match o with | some f=>(match f with | .bind g a=>isBI g "getset_descriptor.__get__" && isBI a "object.__class__" | _=>false) | none=>false
theorem isBind_eq {o:Option Builtin.ObjectAttr.Found} (h:isBind o=true):o=some (.bind (.builtin "getset_descriptor.__get__") (.builtin "object.__class__")):=by
 cases o with
 | none=>exact (Bool.false_ne_true h).elim
 | some f=>cases f with
  | bind g a =>
   have h:=(Bool.and_eq_true _ _).mp (show (isBI g "getset_descriptor.__get__" && isBI a "object.__class__")=true from h)
   rw [isBI_eq h.1,isBI_eq h.2]
  | _=>exact (Bool.false_ne_true h).elim
noncomputable def excOk (K:Frag) (D:Addr):Bool :=
 isVal (findIn K (.ref D) "__getattribute__") (some (.builtin "BaseException.__getattribute__"))&&isVal (findIn K (.ref D) "__getattr__") none &&
 isBind (findObj K D none "__class__") &&
 isSome (mroIn K D (.type "object")) (some true)&&isSome (mroIn K D (.type "BaseException")) (some true)&&(clsIn K D).isSome
noncomputable def chkTop (W:Nat->Value) (cn:List (Nat×Str)) (cs:List Nat) (ps:List (Nat×Nat)) (K:Frag):Bool :=
 K.all (fun p=>notTab p.2)&&cn.all (fun e=>isVal (nsIn K mainGlobals e.2) (some (W e.1))) &&
 cs.all (fun c=>(match W c with | .ref D=>excOk K D | _=>false)) &&
 ps.all fun p=>isSome (kitOne K (W p.1) (W p.2)) (some (p.1 == p.2||p.2 == 1||p.2 == 0))&&(p.2 == 0||(isSome (kitCls K (W p.1) (W p.2)) (some (p.1 == p.2||p.2 == 1||p.2 == 0))&&isSome (kitCls K (W p.2) (.type "BaseException")) (some true)))
noncomputable def ps04:List (Nat×Nat):=[(4,0),(4,1),(4,2),(4,3),(4,4),(4,5),(4,6),(4,7),(4,8),(4,9),(5,0),(5,1),(5,2),(5,3),(5,4),(5,5),(5,6),(5,7),(5,8),(5,9),(8,0),(8,1),(8,2),(8,3),(8,4),(8,5),(8,6),(8,7),(8,8),(8,9)]
noncomputable def hookOf (as:List Addr) (chk:Frag->Bool):Hook :=
 ⟨Bool,fun s=>chk (fragAt as s.heap),fun _=>true,fun _ h=>∃ K:Frag,K.In h/\chk K=true,fun _ s e=>⟨_,fragAt_in as s.heap,e⟩,fun _ _ _ ⟨K,hK,e⟩ hk=>⟨K,fun a o q=>hk a o (hK a o q),e⟩⟩
noncomputable def hook04:Hook:=hookOf (List.range 135) (chkTop W04 cn04 [4,5,8] ps04)
noncomputable def tabV (vs:Array Value):Option Addr:=match vs[11]? with | some v=>(match v with | .ref P=>some P | _=>none) | none=>none
noncomputable def tabC (o:Option Obj):Option Addr:=match o with | some oc=>(match oc.data with | .fields vs=>tabV vs | _=>none) | none=>none
noncomputable def tabF (h:Heap) (cd:Value):Option Addr:=match cd with | .ref c=>tabC (h.get? c) | _=>none
noncomputable def tabB (h:Heap) (n:Str):Option Addr:=match h.fnAt mainGlobals n with | some x=>tabF h x.2.2.code | none=>none
noncomputable def apB (n m:Str) (s:Shared):Bool:=match tabB s.heap n with | some p=>(match tabB s.heap m with | some q=>!(p == q) | none=>false) | none=>false
def TabOf (mg:Str->Option Value) (h:Heap) (n:Str) (P:Addr):Prop:=∃ a o fd c oc vs,mg n=some (.ref a)/\h.get? a=some o/\o.data=.func fd/\fd.code=.ref c/\h.get? c=some oc/\oc.data=.fields vs/\vs[11]? = some (.ref P)
def Ap (n m:Str) (mg:Str->Option Value) (h:Heap):Prop:=∃ P Q,TabOf mg h n P/\TabOf mg h m Q/\P≠Q
theorem tabV_of {vs:Array Value} {P:Addr} (e:tabV vs=some P):vs[11]? = some (.ref P):=by
 unfold tabV at e
 cases h5:vs[11]? with
 | none=>rw [h5] at e; cases e
 | some v =>
  rw [h5] at e
  cases v with
  | ref Q=>cases e; rfl
  | _=>cases e
theorem tabC_of {o:Option Obj} {P:Addr} (e:tabC o=some P):∃ oc vs,o=some oc/\oc.data=.fields vs/\vs[11]? = some (.ref P):=by
 cases o with
 | none=>cases e
 | some oc =>
  have e:(match oc.data with | .fields vs=>tabV vs | _=>none)=some P:=e
  cases h4:oc.data with
  | fields vs=>rw [h4] at e; exact ⟨oc,vs,rfl,h4,tabV_of e⟩
  | _=>rw [h4] at e; cases e
theorem tabF_of {h:Heap} {cd:Value} {P:Addr} (e:tabF h cd=some P):∃ c,cd=.ref c/\tabC (h.get? c)=some P:=by
 cases cd with
 | ref c=>exact ⟨c,rfl,e⟩
 | _=>cases e
theorem tabB_of {h:Heap} {n:Str} {P:Addr} (e:tabB h n=some P):TabOf (h.nsMap mainGlobals) h n P:=by
 unfold tabB at e
 cases h1:h.fnAt mainGlobals n with
 | none=>rw [h1] at e; cases e
 | some x =>
  obtain ⟨a,o,fd⟩:=x
  rw [h1] at e
  obtain ⟨e1,e2,e3⟩:=Heap.fnAt_spec h1
  obtain ⟨c,h2,e⟩:=tabF_of e
  obtain ⟨oc,vs,h3,h4,h5⟩:=tabC_of e
  exact ⟨a,o,fd,c,oc,vs,e1,e2,e3,h2,h3,h4,h5⟩
theorem apB_of {n m:Str} {s:Shared} (e:apB n m s=true):Ap n m (s.heap.nsMap mainGlobals) s.heap:=by
 unfold apB at e
 cases h1:tabB s.heap n with
 | none=>rw [h1] at e; cases e
 | some P =>
  rw [h1] at e
  cases h2:tabB s.heap m with
  | none=>rw [h2] at e; cases e
  | some Q =>
   rw [h2] at e
   refine ⟨P,Q,tabB_of h1,tabB_of h2,fun q=>?_⟩
   subst q
   have e:(!(P == P))=true:=e
   rw [beq_self_eq_true] at e; cases e
theorem TabOf.keeps {mg:Str->Option Value} {h h':Heap} {n:Str} {P:Addr} (x:TabOf mg h n P) (hk:∀ b o,h.get? b=some o->h'.get? b=some o):TabOf mg h' n P:=by
 obtain ⟨a,o,fd,c,oc,vs,e1,e2,e3,e4,e5,r⟩:=x; exact ⟨a,o,fd,c,oc,vs,e1,hk _ _ e2,e3,e4,hk _ _ e5,r⟩
noncomputable def nm1:Str:=Str.ofString "ordered"
noncomputable def nm2:Str:=Str.ofString "_law_due"
def XP04 (mg:Str->Option Value) (h:Heap):Prop:=XL view04 [] mg h/\Ap nm1 nm2 mg h
theorem XP04.keeps (mg:Str->Option Value) (h h':Heap) (x:XP04 mg h) (hk:∀ b o,h.get? b=some o->h'.get? b=some o):XP04 mg h':=by
 obtain ⟨P,Q,a,b,c⟩:=x.2; exact ⟨XL.keeps mg h h' x.1 hk,P,Q,a.keeps hk,b.keeps hk,c⟩
noncomputable def xt04 (s:Shared):Bool:=(xlAt view04 [] s&&recOk (RowW.records (OpenRow.toRowW (PySem.Challenge.rw_uf010019_04.row))) s)&&apB nm1 nm2 s
theorem xt04_of (s:Shared) (e:xt04 s=true):XP04 (s.heap.nsMap mainGlobals) s.heap:=⟨xl_of s (Bool.and_eq_true_iff.mp (Bool.and_eq_true_iff.mp e).1).1,apB_of (Bool.and_eq_true_iff.mp e).2⟩
theorem comb {α β1 β2 β3 β4 β5 β6 β7 β8:Type} {o:Option α} {f1:α->β1} {f2:α->β2} {f3:α->β3} {f4:α->β4} {f5:α->β5} {f6:α->β6} {f7:α->β7} {f8:α->β8} {b1:β1} {b2:β2} {b3:β3} {b4:β4} {b5:β5} {b6:β6} {b7:β7} {b8:β8} (h₁:o.map (fun s=>(f1 s,f2 s))=some (b1,b2)) (h2:o.map f3=some b3) (h3:o.map (fun s=>(f4 s,f5 s,f6 s))=some (b4,b5,b6)) (h4:o.map f7=some b7) (h5:o.map f8=some b8):o.map (fun s=>((f1 s,f2 s,f3 s,f4 s,f5 s,f6 s,f7 s),f8 s))=some ((b1,b2,b3,b4,b5,b6,b7),b8):=by
 cases o with
 | none=>cases h2
 | some s =>
  obtain ⟨e₁,e2⟩:=Prod.mk.inj (Option.some.inj h₁)
  obtain ⟨e4,e5⟩:=Prod.mk.inj (Option.some.inj h3)
  obtain ⟨e5,e6⟩:=Prod.mk.inj e5
  have e3:=Option.some.inj h2
  have e7:=Option.some.inj h4
  have e8:=Option.some.inj h5
  show some ((f1 s,f2 s,f3 s,f4 s,f5 s,f6 s,f7 s),f8 s)=_
  rw [e₁,e2,e3,e4,e5,e6,e7,e8]
theorem left04a:∀ w,(openEnds treeTable PySem.Challenge.rw_uf010019_04.row.toRowW.prog w 5300).map (fun s=>(seen ((recsOf view04).map (·.name)) (ownsOf view04) [] { s with gens:=#[] },s.heap.bltView))=some (expectedOf view04,bltViewBooted):=by
 intro w; kernel_rfl
theorem left04b:∀ w,(openEnds treeTable PySem.Challenge.rw_uf010019_04.row.toRowW.prog w 5300).map (fun s=>s.heap.keysOk (looseW view04 []) ((recsOf view04).map (·.name)) ((litsOf view04).map (·.1)) ((clssOf view04 (looseW view04 [])).map (·.name))&&s.heap.accountedOkI (importedModules PySem.Challenge.rw_uf010019_04.row.toRowW.prog.main.body)&&s.heap.isNs mainGlobals&&s.heap.isNs builtinsNs&&tablesOk view04 s.heap&&xt04 s&&(s.gens.size == 0))=some true:=by
 intro w; kernel_rfl
theorem left04c:∀ w,(openEnds treeTable PySem.Challenge.rw_uf010019_04.row.toRowW.prog w 5300).map (fun s=>(tabsOk view04 s,pinSeenD view04 (drecsOf view04) s,plainSeenE view04 (looseW view04 []) s))=some (true,pinGoodD (drecsOf view04),plainGoodE view04 (looseW view04 [])):=by
 intro w; kernel_rfl
theorem left04d:∀ w,(openEnds treeTable PySem.Challenge.rw_uf010019_04.row.toRowW.prog w 5300).map (fun s=>(plainSeenD view04 [] s,wideSeen view04 s,clsSeenW view04 [] s))=some (plainGoodD view04 [],wideGood view04,clsGoodW view04 []):=by
 intro w; kernel_rfl
theorem left04e:∀ w,(openEnds treeTable PySem.Challenge.rw_uf010019_04.row.toRowW.prog w 5300).map (fun s=>Hook.obs hook04 s)=some (Hook.val hook04 w):=by
 intro w; kernel_rfl
theorem left04:LeftO PySem.Challenge.rw_uf010019_04.row.toRowW.prog view04 [] xt04 (Hook.obs hook04) (Hook.val hook04) 5300:=fun w=>by
 have h:=comb (left04a w) (left04b w) (left04c w) (left04d w) (left04e w)
 exact h
theorem said04:PySem.Challenge.rw_uf010019_04.wellSaid=true:=by kernel_rfl
end Mine
namespace Mine
set_option tactic.hygienic true
set_option backward.match.sparseCases true
set_option genInjectivity true
open PySem
section
variable {prog:Program} {w:World} {A:Around} {E:Value->Shared->Prop} {s:Shared}
theorem eqBool_str_int {a:Str} {b:Int} {t u:Tok} {Q:Bool->Shared->Prop} (h:Q false s):wpAny (model prog w) A (eqBool (.str a t) (.int b u)) Q E s:=by
 unfold eqBool
 refine wpAny_holding ?_
 rw [if_neg (show ¬ ((Value.str a t == Value.int b u)=true) from fun q=>nomatch eq_of_beq q)]
 show wpAny _ _ (compareOp .Eq (.str a t) (.int b u)>>=fun r=>truthOfDropped r) Q E s
 exact wpAny_bind (EqMixed.eq_str_int (wpAny_truthy_bool h))
theorem eqBool_int_str {a:Str} {b:Int} {t u:Tok} {Q:Bool->Shared->Prop} (h:Q false s):wpAny (model prog w) A (eqBool (.int b u) (.str a t)) Q E s:=by
 unfold eqBool
 refine wpAny_holding ?_
 rw [if_neg (show ¬ ((Value.int b u == Value.str a t)=true) from fun q=>nomatch eq_of_beq q)]
 show wpAny _ _ (compareOp .Eq (.int b u) (.str a t)>>=fun r=>truthOfDropped r) Q E s
 exact wpAny_bind (EqMixed.eq_int_str (wpAny_truthy_bool h))
end
noncomputable def BS (prog:Program) (w:World):KeyKind prog w (Str ⊕ Int) where
 is:=fun k v=>match k with | .inl x=>Value.isStrOf x v | .inr i=>Value.isInt i v
 hash:=fun k=>match k with | .inl x=>hashStr w x | .inr i=>hashInt i
 inj:=fun v a b ha hb=>by
  cases a with
  | inl x =>
   obtain ⟨t,rfl⟩:=Value.isStrOf_shape ha
   cases b with
   | inl y=>exact congrArg _ (Value.isStrOf_inj _ _ _ ha hb)
   | inr j=>obtain ⟨t',e⟩:=Value.isInt_shape hb; cases e
  | inr i =>
   obtain ⟨t,rfl⟩:=Value.isInt_shape ha
   cases b with
   | inl y=>obtain ⟨t',e⟩:=Value.isStrOf_shape hb; cases e
   | inr j=>exact congrArg _ (Value.isInt_inj _ _ _ ha hb)
 byValue:=fun k v h=>by
  cases k with
  | inl x=>obtain ⟨t,rfl⟩:=Value.isStrOf_shape h; rfl
  | inr i=>obtain ⟨t,rfl⟩:=Value.isInt_shape h; rfl
 pyHash:=fun {A E s k v Q} hv h=>by
  cases k with
  | inl x=>obtain ⟨t,rfl⟩:=Value.isStrOf_shape hv; exact wpAny_pyHash_str h
  | inr i=>obtain ⟨t,rfl⟩:=Value.isInt_shape hv; exact wpAny_pyHash_int h
 eqBool:=fun {A E s a b u v Q} hu hv h=>by
  cases a with
  | inl x =>
   obtain ⟨t,rfl⟩:=Value.isStrOf_shape hu
   cases b with
   | inl y=>obtain ⟨t',rfl⟩:=Value.isStrOf_shape hv; exact wpAny_eqBool_str (by simpa using h)
   | inr j=>obtain ⟨t',rfl⟩:=Value.isInt_shape hv; exact eqBool_str_int (by simpa using h)
  | inr i =>
   obtain ⟨t,rfl⟩:=Value.isInt_shape hu
   cases b with
   | inl y=>obtain ⟨t',rfl⟩:=Value.isStrOf_shape hv; exact eqBool_int_str (by simpa using h)
   | inr j=>obtain ⟨t',rfl⟩:=Value.isInt_shape hv; rw [show decide ((Sum.inr i:Str ⊕ Int)=Sum.inr j)=decide (i=j) by simp] at h; exact wpAny_eqBool_int h
 «strs»:=fun k x t v h=>by
  cases k with
  | inl y=>exact (strKind prog w).«strs» y x t v h
  | inr i=>obtain ⟨t',e⟩:=Value.isInt_shape h; cases e
end Mine
namespace Mine
open PySem
set_option genCtorIdx true in
inductive V where
 | d (x:PyData)
 | ref (k:Nat)
 | tup (ws:List (PyData ⊕ Nat))
 | ty (t:String)
 | obj (ks:List Nat)
 | pr (x y:V)
 | exc (k:Nat)
 | ecl (k:Nat)
set_option genCtorIdx true in
inductive O where
 | list (vs:List V)
 | dictS (kvs:List (Str×V))
 | dictP (kvs:List ((Str×Int)×PyData))
noncomputable abbrev Aa:=List O
noncomputable abbrev Af:=List (Option V)
noncomputable def line:Nat:=16777216
section
variable {α β:Type} {a b:α} {l:List α} {P:Prop}
theorem Ab (h:none=some a):P:=nomatch h
theorem Ga (h:some a=none):P:=nomatch h
theorem ff_ (h:false=true):P:=nomatch h
theorem tt_ (h:true=false):P:=nomatch h
theorem cons_ne (h:a::l=[]):P:=nomatch h
theorem Cc {m n:Nat} (h:m=n) (e:Nat.beq m n=false):P:=by rw [h,Nat.beq_refl] at e; cases e
theorem Am {o:Option α} (h:o=none) (e:o=some a):P:=Ab (h.symm.trans e)
theorem As {o:Option α} (h:o=some a) (e:o=some b):a=b:=Option.some.inj (h.symm.trans e)
theorem bind_some {o:Option α} {f:α->Option β} {y:β} (h:o.bind f=some y):∃ x,o=some x/\f x=some y:=by
 cases o with
 | none=>exact Ab h
 | some x=>exact ⟨x,rfl,h⟩
theorem AJ {c:Prop} [Decidable c] (h:(if c then some a else none)=some b):c/\a=b:=by
 by_cases hc:c
 ·rw [if_pos hc] at h; exact ⟨hc,Option.some.inj h⟩
 ·rw [if_neg hc] at h; exact Ab h
end
structure Top where
 prog:Program
 w:World
 h0:Heap
 fn:Nat->Option Addr
 tabs:List (Addr×Str)
 gens:Array GenState
 os:OsState
 cls:Addr
 exc:Nat->Option Addr
structure G where
 fz:Addr->Option Obj
 hid:Addr->Option Obj
 mu:List Addr
def BO (fz:Addr->Option Obj) (cl:String) (x:Value) (P:List Value->Prop) (n:Nat):Prop :=
 ∀ R_:Value->Prop,(∀ (a:Addr) (o:Obj) (vs:Array Value) (m:Nat),fz a=some o->o.cls=.type cl->o.data=.seq vs m->P vs.toList->n<=line->R_ (.ref a))->R_ x
mutual
noncomputable def Au (fz:Addr->Option Obj):PyData->Value->Prop
 | .none,x=>x=.none
 | .bool b,x=>x=.bool b
 | .int i,x=>∃ t,x=.int i t
 | .str s,x=>∃ t,x=.str s t/\s.length<=line
 | .list ds,x=>BO fz "list" x (fun vs=>RepDs fz ds vs) ds.length
 | .tuple ds,x=>BO fz "tuple" x (fun vs=>RepDs fz ds vs) ds.length
 | .dict _,_=>False
noncomputable def RepDs (fz:Addr->Option Obj):List PyData->List Value->Prop
 | [],[]=>True
 | d::ds,v::vs=>Au fz d v/\RepDs fz ds vs
 | _,_=>False
end
noncomputable def Aq {α β:Type} (R:α->β->Prop):List α->List β->Prop
 | [],[]=>True
 | a::as,b::bs=>R a b/\Aq R as bs
 | _,_=>False
section
variable {α β:Type} {R S:α->β->Prop}
theorem Aq.mono (h:∀ a b,R a b->S a b):∀ {as:List α} {bs:List β},Aq R as bs->Aq S as bs
 | [],[],_=>trivial
 | _::_,_::_,x=>⟨h _ _ x.1,Aq.mono h x.2⟩
 | [],_::_,x=>x
 | _::_,[],x=>x
theorem Aq.length:∀ {as:List α} {bs:List β},Aq R as bs->as.length=bs.length
 | [],[],_=>rfl
 | _::_,_::_,x=>congrArg (· + 1) (Aq.length x.2)
 | [],_::_,x=>x.elim
 | _::_,[],x=>x.elim
theorem Aq.get:∀ {as:List α} {bs:List β},Aq R as bs->∀ {k:Nat} {a:α},as[k]? = some a->∃ b,bs[k]? = some b/\R a b
 | _::_,b::_,x,0,_,e=>⟨b,rfl,Option.some.inj e▸x.1⟩
 | _::_,_::_,x,k+1,a,e=>Aq.get x.2 (k:=k) (a:=a) e
 | [],[],_,_,_,e=>Ab e
 | [],_::_,x,_,_,_=>x.elim
 | _::_,[],x,_,_,_=>x.elim
theorem Aq.append:∀ {as as':List α} {bs bs':List β},Aq R as bs->Aq R as' bs'->Aq R (as++as') (bs++bs')
 | [],_,[],_,_,y=>y
 | _::_,_,_::_,_,x,y=>⟨x.1,Aq.append x.2 y⟩
 | [],_,_::_,_,x,_=>x.elim
 | _::_,_,[],_,x,_=>x.elim
theorem Aq.drop:∀ (n:Nat) {as:List α} {bs:List β},Aq R as bs->Aq R (as.drop n) (bs.drop n)
 | 0,_,_,h=>h
 | _+1,[],[],_=>trivial
 | n+1,_::_,_::_,h=>Aq.drop n h.2
 | _+1,[],_::_,h=>h.elim
 | _+1,_::_,[],h=>h.elim
theorem Aq.take:∀ (n:Nat) {as:List α} {bs:List β},Aq R as bs->Aq R (as.take n) (bs.take n)
 | 0,_,_,_=>trivial
 | _+1,[],[],_=>trivial
 | n+1,_::_,_::_,h=>⟨h.1,Aq.take n h.2⟩
 | _+1,[],_::_,h=>h.elim
 | _+1,_::_,[],h=>h.elim
theorem Aq.set:∀ (j:Nat) {as:List α} {bs:List β} {a:α} {b:β},Aq R as bs->R a b->Aq R (as.set j a) (bs.set j b)
 | _,[],[],_,_,_,_=>trivial
 | 0,_::_,_::_,_,_,h,r=>⟨r,h.2⟩
 | j+1,_::_,_::_,_,_,h,r=>⟨h.1,Aq.set j h.2 r⟩
 | _,[],_::_,_,_,h,_=>h.elim
 | _,_::_,[],_,_,h,_=>h.elim
theorem Aq.cons {a:α} {as:List α} {bs:List β} (h:Aq R (a::as) bs):∃ b r,bs=b::r/\R a b/\Aq R as r:=by
 cases bs with
 | nil=>exact h.elim
 | cons b r=>exact ⟨b,r,rfl,h.1,h.2⟩
theorem Aq.nil {bs:List β} (h:Aq R [] bs):bs=[]:=by
 cases bs with
 | nil=>rfl
 | cons b r=>exact h.elim
theorem Aq.one {a:α} {bs:List β} (h:Aq R [a] bs):∃ b,bs=[b]/\R a b:=by
 obtain ⟨b,r,e,h1,h2⟩:=h.cons
 exact ⟨b,by rw [e,h2.nil],h1⟩
theorem Aq.two {a a':α} {bs:List β} (h:Aq R [a,a'] bs):∃ b b',bs=[b,b']/\R a b/\R a' b':=by
 obtain ⟨b,r,e,h1,h2⟩:=h.cons
 obtain ⟨b',e',h3⟩:=h2.one
 exact ⟨b,b',by rw [e,e'],h1,h3⟩
end
noncomputable def F2 (g:G):PyData ⊕ Nat->Value->Prop
 | .inl x,v=>Au g.fz x v
 | .inr k,v=>∃ a,g.mu[k]? = some a/\v=.ref a
noncomputable def attsP:List Str:=[Str.ofString "held",Str.ofString "grounds",Str.ofString "heights"]
def Ns1F (f:Addr->Option Obj) (a:Addr) (m:Str->Option Value):Prop:=∃ o es ep,f a=some o/\o.data=.dict es ep/\StrKeys es/\UniqKeys es/\∀ name,nsFind es name=m name
def ObjIs (T:Top) (g:G) (v:Value) (ks:List Nat):Prop :=
 ∀ R_:Value->Prop,(∀ (a d:Addr) (o:Obj) (mA:Str->Option Value),g.fz a=some o->o.cls=.ref T.cls->(∀ c,o.data≠.cls c)->o.dict=some d->d≠a->Ns1F g.fz d mA->(∀ nm,nm∉attsP->mA nm=none)->Aq (fun (k:Nat) (nm:Str)=>∃ a,g.mu[k]? = some a/\mA nm=some (.ref a)) ks attsP->R_ (.ref a))->R_ v
def ExcIs (T:Top) (fz:Addr->Option Obj) (v:Value) (k:Nat):Prop :=
 ∀ R_:Value->Prop,(∀ (e D:Addr) (o:Obj) (vs:Array Value),fz e=some o->T.exc k=some D->o.cls=.ref D->o.dict=none->o.data=.fields vs->R_ (.ref e))->R_ v
noncomputable def An (T:Top) (g:G):V->Value->Prop
 | .d x,v=>Au g.fz x v
 | .ref k,v=>∃ a,g.mu[k]? = some a/\v=.ref a
 | .tup ws,v=>BO g.fz "tuple" v (fun xs=>Aq (F2 g) ws xs) ws.length
 | .ty t,v=>v=.type t
 | .obj ks,v=>ObjIs T g v ks
 | .pr x y,v=>BO g.fz "tuple" v (fun xs=>∃ a b,xs=[a,b]/\An T g x a/\An T g y b) 2
 | .exc k,v=>ExcIs T g.fz v k
 | .ecl k,v=>∃ a,T.exc k=some a/\v=.ref a
def ListIs (o:Obj) (P:List Value->Prop) (n:Nat):Prop :=
 ∀ R_:Obj->Prop,(∀ (xs:Array Value) (m:Nat),P xs.toList->n<=line->R_ { cls:=.type "list",dict:=none,data:=.seq xs m,slots:=#[] })->R_ o
def TabS (T:Top) (g:G) (o:Obj) (kvs:List (Str×V)):Prop :=
 ∀ R_:Prop,(∀ (es:Array DictEntry) (ep:Nat) (ws:List (Str×Value)),o.ExactDict->o.data=.dict es ep->KeysOf (strKind T.prog T.w) es->Pairs (strKind T.prog T.w) es.toList ws->(ws.map (·.1)).Nodup->Aq (fun (d:Str×V) (v:Str×Value)=>d.1=v.1/\An T g d.2 v.2) kvs ws->kvs.length<=line->R_)->R_
noncomputable def FU (k:Str×Int):List (Str ⊕ Int):=[.inl k.1,.inr k.2]
def TabP (T:Top) (fz:Addr->Option Obj) (o:Obj) (kvs:List ((Str×Int)×PyData)):Prop :=
 ∀ R_:Prop,(∀ (es:Array DictEntry) (ep:Nat) (ws:List (List (Str ⊕ Int)×Addr×Value)),o.ExactDict->o.data=.dict es ep->es.toList=ws.map (entryOfKey (tupleKind (BS T.prog T.w)))->(ws.map (·.1)).Nodup ->
  Aq (fun (d:(Str×Int)×PyData) (v:List (Str ⊕ Int)×Addr×Value)=>FU d.1=v.1/\Au fz (.tuple [.str d.1.1,.int d.1.2]) (.ref v.2.1)/\Au fz d.2 v.2.2) kvs ws->kvs.length<=line->R_)->R_
noncomputable def Dp (T:Top) (g:G):O->Obj->Prop
 | .list vs,o=>ListIs o (fun xs=>Aq (An T g) vs xs) vs.length
 | .dictS kvs,o=>TabS T g o kvs
 | .dictP kvs,o=>TabP T g.fz o kvs
def FzLe (f f':Addr->Option Obj):Prop:=∀ a o,f a=some o->f' a=some o
structure G.up (g g':G):Prop where
 fz:FzLe g.fz g'.fz
 mu:∀ (k:Nat) (a:Addr),g.mu[k]? = some a->g'.mu[k]? = some a
structure G.le (own:List Addr) (g g':G):Prop extends G.up g g' where
 hid:∀ a,a∉own->g'.hid a=g.hid a
theorem G.up.refl (g:G):G.up g g:=⟨fun _ _ e=>e,fun _ _ e=>e⟩
theorem G.up.trans {g g' g'':G} (x:G.up g g') (y:G.up g' g''):G.up g g'':=⟨fun a o e=>y.fz a o (x.fz a o e),fun k a e=>y.mu k a (x.mu k a e)⟩
theorem G.le.refl (own:List Addr) (g:G):G.le own g g:=⟨.refl g,fun _ _=>rfl⟩
theorem G.le.trans {own:List Addr} {g g' g'':G} (x:G.le own g g') (y:G.le own g' g''):G.le own g g'':=⟨x.toup.trans y.toup,fun a h=>(y.hid a h).trans (x.hid a h)⟩
theorem G.le.toO {own:List Addr} {g g':G} (x:G.le [] g g'):G.le own g g':=⟨x.toup,fun a _=>x.hid a List.not_mem_nil⟩
theorem BO.mono {f f':Addr->Option Obj} {cl:String} {x:Value} {P P':List Value->Prop} {n:Nat} (h:FzLe f f') (hp:∀ vs,P vs->P' vs) (r:BO f cl x P n):BO f' cl x P' n :=
 fun R_ k=>r R_ fun a o vs m hf hc hd hr hl=>k a o vs m (h a o hf) hc hd (hp _ hr) hl
mutual
theorem Au.mono {f f':Addr->Option Obj} (h:FzLe f f'):∀ (d:PyData) (v:Value),Au f d v->Au f' d v
 | .none,_,x=>x
 | .bool _,_,x=>x
 | .int _,_,x=>x
 | .str _,_,x=>x
 | .list ds,_,x=>BO.mono h (fun vs=>RepDs.mono h ds vs) x
 | .tuple ds,_,x=>BO.mono h (fun vs=>RepDs.mono h ds vs) x
 | .dict _,_,x=>x
theorem RepDs.mono {f f':Addr->Option Obj} (h:FzLe f f'):∀ (ds:List PyData) (vs:List Value),RepDs f ds vs->RepDs f' ds vs
 | [],[],_=>trivial
 | d::ds,v::vs,x=>⟨Au.mono h d v x.1,RepDs.mono h ds vs x.2⟩
 | [],_::_,x=>x
 | _::_,[],x=>x
end
theorem RepDs.all {f:Addr->Option Obj}:∀ {ds:List PyData} {vs:List Value},RepDs f ds vs->Aq (Au f) ds vs
 | [],[],_=>trivial
 | _::_,_::_,x=>⟨x.1,RepDs.all x.2⟩
 | [],_::_,x=>x.elim
 | _::_,[],x=>x.elim
theorem RepDs.of {f:Addr->Option Obj}:∀ {ds:List PyData} {vs:List Value},Aq (Au f) ds vs->RepDs f ds vs
 | [],[],_=>trivial
 | _::_,_::_,x=>⟨x.1,RepDs.of x.2⟩
 | [],_::_,x=>x.elim
 | _::_,[],x=>x.elim
theorem Ns1F.to {f f':Addr->Option Obj} {a:Addr} {m:Str->Option Value} (x:Ns1F f a m) (h:FzLe f f'):Ns1F f' a m:=x.imp fun o x=>x.imp fun _ x=>x.imp fun _ x=>⟨h a o x.1,x.2⟩
section
variable {T:Top} {g g':G}
theorem F2.mono (h:G.up g g'):∀ (w:PyData ⊕ Nat) (v:Value),F2 g w v->F2 g' w v
 | .inl x,v,r=>Au.mono h.fz x v r
 | .inr k,v,r=>by obtain ⟨a,e,q⟩:=r; exact ⟨a,h.mu k a e,q⟩
theorem An.mono (h:G.up g g'):∀ (w:V) (v:Value),An T g w v->An T g' w v
 | .d x,v,r=>Au.mono h.fz x v r
 | .ref k,v,r=>by obtain ⟨a,e,q⟩:=r; exact ⟨a,h.mu k a e,q⟩
 | .tup ws,v,r=>BO.mono h.fz (fun vs=>Aq.mono (F2.mono h)) r
 | .ty _,_,r=>r
 | .obj ks,v,r=>fun R_ k=>r R_ fun a d o mA h1 h2 h3 h4 h5 h6 h7 h8=>k a d o mA (h.fz _ _ h1) h2 h3 h4 h5 (h6.to h.fz) h7 (Aq.mono (fun _ _=>fun ⟨a,e,q⟩=>⟨a,h.mu _ a e,q⟩) h8)
 | .pr x y,v,r=>BO.mono h.fz (fun vs=>fun ⟨a,b,e,h1,h2⟩=>⟨a,b,e,An.mono h x a h1,An.mono h y b h2⟩) r
 | .exc k,v,r=>fun R_ kk=>r R_ fun e D o vs h1 h2 h3 h4 h5=>kk e D o vs (h.fz _ _ h1) h2 h3 h4 h5
 | .ecl _,_,r=>r
noncomputable abbrev Aj (T:Top) (g:G):List V->List Value->Prop:=Aq (An T g)
theorem Aj.mono (h:G.up g g') {ws:List V} {vs:List Value} (r:Aj T g ws vs):Aj T g' ws vs:=Aq.mono (An.mono h) r
theorem An.eta {hd:Addr->Option Obj} {w:V} {v:Value} (r:An T g w v):An T ⟨g.fz,hd,g.mu⟩ w v:=An.mono (g:=g) (g':=⟨g.fz,hd,g.mu⟩) ⟨fun _ _ e=>e,fun _ _ e=>e⟩ w v r
theorem Aj.eta {hd:Addr->Option Obj} {ws:List V} {vs:List Value} (r:Aj T g ws vs):Aj T ⟨g.fz,hd,g.mu⟩ ws vs:=Aq.mono (fun _ _=>An.eta) r
theorem Dp.mono (h:G.up g g'):∀ (o:O) (x:Obj),Dp T g o x->Dp T g' o x
 | .list vs,_,r=>fun R_ k=>r R_ fun xs m hr hl=>k xs m (Aj.mono h hr) hl
 | .dictS kvs,_,r=>fun R_ k=>r R_ fun es ep ws ho hd hk hp hn hr hl=>k es ep ws ho hd hk hp hn (Aq.mono (fun d v r=>⟨r.1,An.mono h _ _ r.2⟩) hr) hl
 | .dictP kvs,_,r=>fun R_ k=>r R_ fun es ep ws ho hd he hn hr hl=>k es ep ws ho hd he hn (Aq.mono (fun d v r=>⟨r.1,Au.mono h.fz _ _ r.2.1,Au.mono h.fz _ _ r.2.2⟩) hr) hl
theorem Aj.ofD:∀ {ds:List PyData} {vs:List Value},RepDs g.fz ds vs->Aj T g (ds.map .d) vs
 | [],[],_=>trivial
 | _::_,_::_,x=>⟨x.1,Aj.ofD x.2⟩
 | [],_::_,x=>x.elim
 | _::_,[],x=>x.elim
theorem Aj.toD:∀ {ds:List PyData} {vs:List Value},Aj T g (ds.map .d) vs->RepDs g.fz ds vs
 | [],[],_=>trivial
 | _::_,_::_,x=>⟨x.1,Aj.toD x.2⟩
 | [],_::_,x=>x.elim
 | _::_,[],x=>x.elim
end
def TabIs (g:G) (h:Heap) (t:Addr) (q:Str):Prop :=
 ∀ R_:Prop,(∀ ps:Array Value,g.fz t=none->g.hid t=none->t∉g.mu->h.get? t=some { cls:=.none,data:=.fields ps } -> TriplesOk ps.toList ->
  (∀ pos cv,codeAmong pos ps.toList=some cv->∃ c o vs u,cv=.ref c/\g.fz c=some o/\o.data=.fields vs/\vs[1]? = some (.str q u))->R_)->R_
noncomputable def frC:Value:=.type "#frame"
def Hd (h:Heap) (a:Addr) (o:Obj):Prop:=∃ o',h.get? a=some o'/\o'.data=o.data/\(o.cls≠frC->o'=o)
theorem Hd.of {h:Heap} {a:Addr} {o:Obj} (e:h.get? a=some o):Hd h a o:=⟨o,e,rfl,fun _=>rfl⟩
theorem Hd.keep {h h':Heap} {a:Addr} {o:Obj} (x:Hd h a o) (k:∀ o,h.get? a=some o->h'.get? a=some o):Hd h' a o:=x.imp fun _ x=>⟨k _ x.1,x.2⟩
theorem Hd.ex {h:Heap} {a:Addr} {o:Obj} (x:Hd h a o) (n:o.cls≠frC):h.get? a=some o:=let ⟨_,e,_,q⟩:=x; q n▸e
noncomputable def frO (o:Obj):Obj:={ o with cls:=frC }
theorem Hd.fr {h:Heap} {a:Addr} {o:Obj} (e:h.get? a=some o):Hd h a (frO o):=⟨o,e,rfl,fun q=>absurd rfl q⟩
theorem AB {o:Obj} {t:String} (h:o.cls=.type t) (n:(t == "#frame")=false):o.cls≠frC:=fun q=>Bool.false_ne_true (n.symm.trans (beq_iff_eq.mpr (Value.type.inj (h.symm.trans q))))
structure Has (T:Top) (g:G) (σ:Aa) (s:Shared):Prop where
 fz:∀ a o,g.fz a=some o->s.heap.get? a=some o
 hd:∀ a o,g.hid a=some o->Hd s.heap a o
 len:g.mu.length=σ.length
 nd:g.mu.Nodup
 ap:∀ a,a∈g.mu->g.fz a=none
 ah:∀ a o,g.hid a=some o->g.fz a=none/\a∉g.mu
 ob:∀ (k:Nat) (a:Addr) (o:O),g.mu[k]? = some a->σ[k]? = some o->∀ R_:Prop,(∀ x,s.heap.get? a=some x->Dp T g o x->R_)->R_
 base:∀ a o,T.h0.get? a=some o->g.fz a=some o
 tb:∀ t q,(t,q)∈T.tabs->TabIs g s.heap t q
 gens:s.gens=T.gens
 os:s.os=T.os
def BI (T:Top) (own:List Addr) (g:G) (σ':Aa) (R:G->Prop) (s':Shared):Prop:=∀ R_:Prop,(∀ g',G.le own g g'->Has T g' σ' s'->R g'->R_)->R_
theorem BI.mk {T:Top} {own:List Addr} {g:G} {σ':Aa} {R:G->Prop} {s':Shared} (g':G) (le:G.le own g g') (h:Has T g' σ' s') (r:R g'):BI T own g σ' R s':=fun _ k=>k g' le h r
theorem BI.after {T:Top} {own:List Addr} {g g₁:G} {σ':Aa} {R:G->Prop} {s':Shared} (le:G.le own g g₁) (h:BI T own g₁ σ' R s'):BI T own g σ' R s':=fun R_ k=>h R_ fun g' l a r=>k g' (le.trans l) a r
end Mine
namespace Mine
open PySem
theorem AW (h:Heap):h.get? h.objs.size=none:=Heap.get?_none_of_le (Nat.le_refl _)
theorem AH:line=sizeLine:=by unfold sizeLine; rfl
structure Dv (T:Top) (g:G) (a:Addr):Prop where
 fz:g.fz a=none
 hid:g.hid a=none
 mu:a∉g.mu
 tab:∀ q,(a,q)∉T.tabs
section
variable {T:Top} {own:List Addr} {g g':G} {σ σ':Aa} {s s':Shared} {a:Addr} {o:Obj}
theorem Has.muAlive (H:Has T g σ s) (h:a∈g.mu):∃ o,s.heap.get? a=some o:=by
 obtain ⟨k,hk,e⟩:=List.mem_iff_getElem.mp h
 have hσ:k < σ.length:=H.len▸hk
 exact H.ob k a σ[k] (by rw [List.getElem?_eq_getElem hk,e]) (List.getElem?_eq_getElem hσ) _ fun x hx _=>⟨x,hx⟩
theorem DP {α:Type} {o:Option α} (h:∀ a,o=some a->False):o=none:=by
 cases o with
 | none=>rfl
 | some a=>exact (h a rfl).elim
theorem TabIs.at {h:Heap} {t:Addr} {q:Str} (x:TabIs g h t q):∃ o,h.get? t=some o:=x _ fun _ _ _ _ ho _ _=>⟨_,ho⟩
theorem Has.free (H:Has T g σ s) (h:s.heap.get? a=none):Dv T g a :=
 ⟨DP fun o e=>Am h (H.fz a o e),DP fun o e=>let ⟨_,q,_⟩:=H.hd a o e; Am h q,fun q=>by obtain ⟨o,e⟩:=H.muAlive q; exact Am h e,fun q m=>by obtain ⟨o,e⟩:=(H.tb _ _ m).at; exact Am h e⟩
theorem Has.hidTab (H:Has T g σ s) (e:g.hid a=some o) (q:Str):(a,q)∉T.tabs:=fun m=>H.tb _ _ m _ fun _ _ h2 _ _ _ _=>Am h2 e
theorem Has.re (H:Has T g σ s) (hd:Addr->Option Obj) (hh:∀ a o,hd a=some o->Hd s'.heap a o/\g.fz a=none/\a∉g.mu/\∀ q,(a,q)∉T.tabs)
 (kf:∀ b o,g.fz b=some o->s.heap.get? b=some o->s'.heap.get? b=some o) (km:∀ b o,b∈g.mu->s.heap.get? b=some o->s'.heap.get? b=some o) (kt:∀ t q o,(t,q)∈T.tabs->s.heap.get? t=some o->s'.heap.get? t=some o)
 (hg:s'.gens=s.gens) (ho:s'.os=s.os):Has T ⟨g.fz,hd,g.mu⟩ σ s':=by
 have up:G.up g ⟨g.fz,hd,g.mu⟩:=⟨fun _ _ e=>e,fun _ _ e=>e⟩
 refine ⟨fun a o e=>kf a o e (H.fz a o e),fun a o e=>(hh a o e).1,H.len,H.nd,H.ap,fun a o e=>⟨(hh a o e).2.1,(hh a o e).2.2.1⟩,fun k a o e1 e2 R_ r=>H.ob k a o e1 e2 R_ fun x h1 h2=>r x (km a x (List.mem_of_getElem? e1) h1) (Dp.mono up _ _ h2),H.base,
  fun t q m R_ r=>H.tb t q m R_ fun ps h1 h2 h3 h4 h5 h6=>r ps h1 (DP fun o e=>(hh _ o e).2.2.2 q m) h3 (kt t q _ m h4) h5 h6,hg.trans H.gens,ho.trans H.os⟩
theorem Has.keep (H:Has T g σ s) (k:∀ b o,s.heap.get? b=some o->s'.heap.get? b=some o) (hg:s'.gens=s.gens:=by rfl) (ho:s'.os=s.os:=by rfl):Has T g σ s' :=
 H.re g.hid (fun a o e=>⟨(H.hd a o e).keep (k _),(H.ah a o e).1,(H.ah a o e).2,H.hidTab e⟩) (fun b o _ e=>k b o e) (fun b o _ e=>k b o e) (fun t q o _ e=>k _ o e) hg ho
theorem Has.tok (H:Has T g σ s) (h:s'.heap=s.heap:=by rfl) (hg:s'.gens=s.gens:=by rfl) (ho:s'.os=s.os:=by rfl):Has T g σ s':=H.keep (fun b o e=>h▸e) hg ho
noncomputable def G.hide (g:G) (a:Addr) (o:Obj):G:=⟨g.fz,fun b=>if b=a then some o else g.hid b,g.mu⟩
theorem G.hide_self {g:G}:(g.hide a o).hid a=some o:=if_pos rfl
theorem G.hide_ne {g:G} {b:Addr} (h:b≠a):(g.hide a o).hid b=g.hid b:=if_neg h
theorem G.le.hide (h:a∈own):G.le own g (g.hide a o):=⟨⟨fun _ _ e=>e,fun _ _ e=>e⟩,fun b hb=>G.hide_ne fun q=>hb (q▸h)⟩
theorem Has.hideH (H:Has T g σ s) (h1:g.fz a=none) (h2:a∉g.mu) (h3:∀ q,(a,q)∉T.tabs) (k:∀ b x,b≠a->s.heap.get? b=some x->s'.heap.get? b=some x) (h:Hd s'.heap a o) (hg:s'.gens=s.gens:=by rfl) (ho:s'.os=s.os:=by rfl):Has T (g.hide a o) σ s':=by
 refine H.re _ (fun b x e=>?_) (fun b x e e'=>k b x (fun q=>Am h1 (q▸e)) e') (fun b x e e'=>k b x (fun q=>h2 (q▸e)) e') (fun t q x m e=>k _ x (fun e'=>h3 q (e'▸m)) e) hg ho
 by_cases q:b=a
 ·rw [if_pos q] at e; rw [q,<-Option.some.inj e]; exact ⟨h,h1,h2,h3⟩
 ·rw [if_neg q] at e
  exact ⟨(H.hd b x e).keep fun x=>k b x q,(H.ah b x e).1,(H.ah b x e).2,H.hidTab e⟩
theorem Has.hide (H:Has T g σ s) (h1:g.fz a=none) (h2:a∉g.mu) (h3:∀ q,(a,q)∉T.tabs) (k:∀ b x,b≠a->s.heap.get? b=some x->s'.heap.get? b=some x) (h:s'.heap.get? a=some o) (hg:s'.gens=s.gens:=by rfl) (ho:s'.os=s.os:=by rfl):Has T (g.hide a o) σ s':=H.hideH h1 h2 h3 k (.of h) hg ho
theorem Dv.hide (F:Dv T g a) (H:Has T g σ s) (h:s.heap.get? a=some o):Has T (g.hide a o) σ s:=H.hide F.fz F.mu F.tab (fun _ _ _ e=>e) h
theorem Has.rehideH {o0:Obj} (H:Has T g σ s) (e:g.hid a=some o0) (k:∀ b x,b≠a->s.heap.get? b=some x->s'.heap.get? b=some x) (h:Hd s'.heap a o) (hg:s'.gens=s.gens:=by rfl) (ho:s'.os=s.os:=by rfl):Has T (g.hide a o) σ s':=H.hideH (H.ah a _ e).1 (H.ah a _ e).2 (H.hidTab e) k h hg ho
theorem Has.rehide {o0:Obj} (H:Has T g σ s) (e:g.hid a=some o0) (k:∀ b x,b≠a->s.heap.get? b=some x->s'.heap.get? b=some x) (h:s'.heap.get? a=some o) (hg:s'.gens=s.gens:=by rfl) (ho:s'.os=s.os:=by rfl):Has T (g.hide a o) σ s' :=
 H.hide (H.ah a _ e).1 (H.ah a _ e).2 (H.hidTab e) k h hg ho
theorem Has.back {its:List Addr} (H:Has T g' σ s) (le:G.le (its++own) g g') (hn:∀ c,c∈its->g.hid c=none) (k:∀ c o,c∉its->s.heap.get? c=some o->s'.heap.get? c=some o) (hf:∀ c,c∈its->g'.fz c=none/\c∉g'.mu/\∀ q,(c,q)∉T.tabs)
 (hg:s'.gens=s.gens:=by rfl) (ho:s'.os=s.os:=by rfl):∃ hd,Has T ⟨g'.fz,hd,g'.mu⟩ σ s'/\G.le own g ⟨g'.fz,hd,g'.mu⟩/\∀ c,c∉its->hd c=g'.hid c:=by
 refine ⟨fun c=>@ite _ (c∈its) (Classical.propDecidable _) none (g'.hid c),H.re _ (fun a o e=>?_) (fun b o e e'=>k b o (fun q=>Am (hf b q).1 e) e') (fun b o e e'=>k b o (fun q=>(hf b q).2.1 e) e') (fun t q o m e=>k _ o (fun h=>(hf _ h).2.2 q m) e) hg ho,⟨⟨le.fz,le.mu⟩,fun c hc=>?_⟩,fun c hc=>if_neg hc⟩
 ·by_cases q:a∈its
  ·rw [if_pos q] at e; exact Ab e
  ·rw [if_neg q] at e
   exact ⟨(H.hd a o e).keep fun o=>k a o q,(H.ah a o e).1,(H.ah a o e).2,H.hidTab e⟩
 ·show @ite _ (c∈its) (Classical.propDecidable _) none (g'.hid c)=_
  by_cases q:c∈its
  ·rw [if_pos q,hn c q]
  ·rw [if_neg q]; exact le.hid c fun h=>(List.mem_append.mp h).elim q hc
noncomputable def G.put (g:G) (a:Addr) (o:Obj):G:=⟨fun b=>if b=a then some o else g.fz b,g.hid,g.mu⟩
theorem G.put_self {g:G}:(g.put a o).fz a=some o:=if_pos rfl
theorem G.le.put (h:g.fz a=none):G.le own g (g.put a o) :=
 ⟨⟨fun b x e=>by show (if b=a then some o else g.fz b)=some x; rw [if_neg (fun q=>by rw [q,h] at e; exact Ab e)]; exact e,fun _ _ e=>e⟩,fun _ _=>rfl⟩
theorem Dv.put (F:Dv T g a) (H:Has T g σ s) (h:s.heap.get? a=some o):Has T (g.put a o) σ s:=by
 have le:G.le [] g (g.put a o):=.put F.fz
 have ne:∀ {b:Addr},b≠a->(g.put a o).fz b=g.fz b:=fun q=>if_neg q
 refine ⟨fun b x e=>?_,H.hd,H.len,H.nd,fun b hb=>(ne fun q=>F.mu (q▸hb)).trans (H.ap b hb),fun b x e=>⟨(ne fun q=>Am F.hid (q▸e)).trans (H.ah b x e).1,(H.ah b x e).2⟩,fun k b x e1 e2 R_ r=>H.ob k b x e1 e2 R_ fun y h1 h2=>r y h1 (Dp.mono le.toup _ _ h2),fun b x e=>le.fz b x (H.base b x e),fun t q m R_ r=>H.tb t q m R_ fun ps h1 h2 h3 h4 h5 h6=>r ps ((ne fun e=>F.tab q (e▸m)).trans h1) h2 h3 h4 h5 fun pos cv e=>?_,H.gens,H.os⟩
 ·by_cases q:b=a
  ·rw [q] at e ⊢; rw [<-Option.some.inj (G.put_self.symm.trans e)]; exact h
  ·rw [ne q] at e; exact H.fz b x e
 ·obtain ⟨c,o,vs,t,q1,q2,q3⟩:=h6 pos cv e
  exact ⟨c,o,vs,t,q1,le.fz _ _ q2,q3⟩
noncomputable def G.add (g:G) (a:Addr):G:=⟨g.fz,g.hid,g.mu++[a]⟩
theorem G.le.add:G.le own g (g.add a) :=
 ⟨⟨fun _ _ e=>e,fun k b e=>by show (g.mu++[a])[k]? = some b; rw [List.getElem?_append_left (List.getElem?_eq_some_iff.mp e).1]; exact e⟩,fun _ _=>rfl⟩
theorem Has.addAt (H:Has T g σ s):(g.add a).mu[σ.length]? = some a:=by
 show (g.mu++[a])[σ.length]? = some a
 rw [<-H.len,List.getElem?_append_right (Nat.le_refl _),Nat.sub_self]; rfl
theorem GK {α:Type} {l:List α} {a b:α} (h:b∈l++[a]):b∈l\/b=a:=(List.mem_append.mp h).imp id List.mem_singleton.mp
theorem Dv.add {ob:O} (F:Dv T g a) (H:Has T g σ s) (h:s.heap.get? a=some o) (hr:Dp T (g.add a) ob o):Has T (g.add a) (σ++[ob]) s:=by
 refine ⟨H.fz,H.hd,by show (g.mu++[a]).length=_; rw [List.length_append,List.length_append,H.len]; rfl,?_,fun b hb=>(GK hb).elim (H.ap b) fun q=>q▸F.fz,fun b x e=>⟨(H.ah b x e).1,fun hb=>(GK hb).elim (H.ah b x e).2 fun q=>Am F.hid (q▸e)⟩,fun k b y e1 e2 R_ r=>?_,H.base,fun t q m R_ r=>H.tb t q m R_ fun ps h1 h2 h3 h4 h5 h6=>r ps h1 h2 (fun h=>(GK h).elim h3 fun e=>F.tab q (e▸m)) h4 h5 h6,H.gens,H.os⟩
 ·show (g.mu++[a]).Nodup
  exact List.nodup_append.mpr ⟨H.nd,List.nodup_cons.mpr ⟨List.not_mem_nil,List.nodup_nil⟩,fun x hx y hy q=>F.mu (List.mem_singleton.mp hy▸q▸hx)⟩
 ·have e1':(g.mu++[a])[k]? = some b:=e1
  by_cases hkl:k < σ.length
  ·rw [List.getElem?_append_left (H.len.symm▸hkl)] at e1'
   rw [List.getElem?_append_left hkl] at e2
   exact H.ob k b y e1' e2 R_ fun z h1 h2=>r z h1 (Dp.mono (G.le.add (own:=[])).toup _ _ h2)
  ·have hk':k=σ.length:=by
    have:=(List.getElem?_eq_some_iff.mp e2).1
    rw [List.length_append] at this
    exact Nat.le_antisymm (Nat.le_of_lt_succ this) (Nat.le_of_not_lt hkl)
   rw [hk'] at e1 e2
   have e3:(σ++[ob])[σ.length]? = some ob:=List.getElem?_concat_length
   rw [<-As H.addAt e1,<-As e3 e2] at r
   exact r o h hr
theorem Has.turn {k:Nat} {ob:O} (H:Has T g σ s) (hk:g.mu[k]? = some a) (hs:∀ b x,b≠a->s.heap.get? b=some x->s'.heap.get? b=some x) (hx:s'.heap.get? a=some o) (hr:Dp T g ob o) (hg:s'.gens=s.gens:=by rfl) (ho:s'.os=s.os:=by rfl):Has T g (σ.set k ob) s':=by
 have hm:a∈g.mu:=List.mem_of_getElem? hk
 refine ⟨fun b x e=>hs b x (fun q=>Am (H.ap a hm) (q▸e)) (H.fz b x e),fun b x e=>(H.hd b x e).keep fun y=>hs b y fun q=>(H.ah b x e).2 (q▸hm),by rw [List.length_set]; exact H.len,H.nd,H.ap,H.ah,fun j b y e1 e2 R_ r=>?_,H.base,fun t q m R_ r=>H.tb t q m R_ fun ps h1 h2 h3 h4 h5 h6=>r ps h1 h2 h3 (hs _ _ (fun q=>h3 (q▸hm)) h4) h5 h6,hg.trans H.gens,ho.trans H.os⟩
 ·by_cases q:j=k
  ·rw [q] at e1 e2
   have hkl:k < σ.length:=H.len▸(List.getElem?_eq_some_iff.mp hk).1
   rw [<-As hk e1,<-As (List.getElem?_set_self hkl) e2] at r
   exact r o hx hr
  ·rw [List.getElem?_set_ne (fun h=>q h.symm)] at e2
   refine H.ob j b y e1 e2 R_ fun z h1 h2=>r z (hs b z (fun q'=>q ?_) h1) h2
   obtain ⟨l1,m1⟩:=List.getElem?_eq_some_iff.mp e1
   obtain ⟨l2,m2⟩:=List.getElem?_eq_some_iff.mp hk
   exact (List.getElem_inj H.nd).mp (m1.trans (q'.trans m2.symm))
end
end Mine
namespace Mine
open PySem
set_option genCtorIdx true in
inductive Meth where
 | append | join | index | insert | pop | extend | remove | clear | get
set_option genCtorIdx true in
inductive Bi where
 | len | sorted | min | isinstance | str | all | any | list | max | ord | int | repr
inductive E where
 | cst (x:PyData)
 | var (i:Nat)
 | ty (t:String)
 | glb (x:PyData)
 | bin (op:Operator) (a b:E)
 | neg (a:E)
 | not (a:E)
 | bop (op:BoolOp) (es:E)
 | cmp (op:CmpOp) (a b:E)
 | nil
 | cons (a r:E)
 | tup (es:E)
 | lst (es:E)
 | dct
 | sub (a i:E)
 | slc (a lo hi:E)
 | bi (b:Bi) (es:E)
 | maxd (a z:E)
 | sortr (a:E)
 | sortk (rev:Bool) (a:E) (i:Nat) (key:E)
 | fcall (f:Nat) (es:E)
 | meth (m:Meth) (o es:E)
 | attr (nm:Str) (o:E)
 | mcall (nm:Str) (o es:E)
 | new
 | comp (elt:E) (ts:List Nat) (it ifs:E)
 | range (es:E)
 | zip (a b:E)
 | enum (a:E)
 | sset (b:Bi) (a:E)
 | glx (k:Nat)
inductive S where
 | any
 | nil
 | cons (s r:S)
 | asg (x:Nat) (e:E)
 | unp (xs:List Nat) (e:E)
 | swp (xs:List Nat) (es:E)
 | set (o i v:E)
 | exp (e:E)
 | ite (c:E) (a b:S)
 | for_ (ts:List Nat) (it:E) (body:S)
 | while_ (c:E) (body:S)
 | ret (e:E)
 | setd (x:Nat) (nm:Str)
 | swl (i j l:Nat) (es:E)
 | rse (k:Nat) (es:E)
 | try_ (b:S) (k:Nat) (h:S)
 | tryAs (b:S) (hs:List (Nat×Nat×E))
 | sw2 (i j:Nat) (es:E)
set_option genCtorIdx true in
inductive GV where
 | fn (f:Nat)
 | bi (b:Bi)
 | ty (t:String)
 | cst (x:PyData)
 | cls
 | exc (k:Nat)
structure Kx where
 vars:List Str
 names:List (Str×NameKind)
 wr:List Str
 gl:Str->Option GV
 lam:Option (Addr×Str)
noncomputable def Kx.kd (K:Kx) (n:Str) (k:NameKind):Bool:=decide (K.names.lookup n=some k)
noncomputable def Kx.isVar (K:Kx) (n:Str):Bool:=(K.kd n .local||(K.kd n .cell||K.kd n .free)) && !(n == ("__debug__" : Str)) && !(n == ("__classdict__" : Str))
noncomputable def Kx.isGl (K:Kx) (n:Str):Bool:=K.kd n .globalImplicit && !(n == ("__debug__" : Str))
noncomputable def Kx.canWr (K:Kx) (i:Nat) (n:Str):Bool:=decide (K.vars[i]? = some n)&&K.wr.contains n&&(K.kd n .local||K.kd n .cell)
theorem Kx.kd_eq {K:Kx} {n:Str} {k:NameKind} (h:K.kd n k=true):K.names.lookup n=some k:=of_decide_eq_true h
noncomputable def Kx.isAt (K:Kx) (i:Nat) (n:Str):Bool:=match K.vars[i]? with | some m=>m == n | none=>false
noncomputable def toC (x:PyData):Const:=match x with | .bool b=>.bool b | .int i=>.int i | .str t=>.str t | _=>.none
noncomputable def cOk (x:PyData):Bool:=match x with | .none=>true | .bool _=>true | .int _=>true | .str t=>decide (t.cps.size<=16777216) | _=>false
noncomputable def Fz (x y:PyData):Bool :=
 match x with
 | .int a=>(match y with | .int b=>a == b | _=>false)
 | .str a=>(match y with | .str b=>a == b | _=>false)
 | _=>false
noncomputable def gvIs (v w:GV):Bool :=
 match v with
 | .fn f=>(match w with | .fn f'=>f == f' | _=>false)
 | .bi f=>(match w with | .bi f'=>Nat.beq f.ctorIdx f'.ctorIdx | _=>false)
 | .ty f=>(match w with | .ty f'=>f == f' | _=>false)
 | .cst x=>(match w with | .cst y=>Fz x y | _=>false)
 | .cls=>(match w with | .cls=>true | _=>false)
 | .exc f=>(match w with | .exc f'=>f == f' | _=>false)
noncomputable def Du (K:Kx) (v:GV) (n:Str):Bool:=K.isGl n&&(match K.gl n with | some w=>gvIs w v | none=>false)
noncomputable def D5:Meth->String
 | .append => "append" | .join => "join" | .index => "index" | .insert => "insert" | .pop => "pop" | .extend => "extend" | .remove => "remove" | .clear => "clear" | .get => "get"
noncomputable def Br (e:E):Bool:=match e with | .comp _ _ _ _=>true | _=>false
noncomputable def CB (env:List (Str×NameKind)) (names:List (Str×NameKind)):List (Str×NameKind) :=
 names.map fun (n,k)=>if (k == .free&&env.lookup n == some .cell) then (n,.cell) else (n,k)
noncomputable def nameOk (K:Kx) (ts:List Nat) (p:Str×NameKind):Bool :=
 (decide (p.2=.local)&&(p.1 == (".0" : Str)||ts.any fun i=>decide (K.vars[i]? = some p.1)))||((decide (p.2=.free)&&(K.kd p.1 .cell||K.kd p.1 .free))||decide (p.2=.globalImplicit))
noncomputable def Gb (K:Kx) (ts:List Nat) (sc:Scope):Bool :=
 decide (sc.kind=.function)&&sc.names.all (nameOk K ts) &&
 sc.names.all (fun p=>decide (sc.names.lookup p.1=some p.2)) &&
 !K.vars.contains (".0" : Str) &&
 ts.all (fun i=>match K.vars[i]? with | some m=>decide (sc.names.lookup m=some .local) | none=>false)
noncomputable def Kx.sub (K:Kx) (ts:List Nat) (sc:Scope):Kx:={ K with names:=CB K.names sc.names,wr:=ts.filterMap (fun i=>K.vars[i]?),lam:=none }
noncomputable def lnameOk (K:Kx) (nm:Str) (p:Str×NameKind):Bool :=
 (decide (p.2=.local)&&p.1 == nm)||((decide (p.2=.free)&&(K.kd p.1 .cell||K.kd p.1 .free))||decide (p.2=.globalImplicit))
noncomputable def lamOk (K:Kx) (i:Nat) (nm:Str) (sc:Scope):Bool :=
 K.lam.isSome&&(K.isAt i nm&&(decide (sc.kind=.function)&&(!sc.isGenerator&&(!sc.isCoroutine&&(sc.names.all (lnameOk K nm)&&(sc.names.all (fun p=>decide (sc.names.lookup p.1=some p.2))&&decide (sc.names.lookup nm=some .local)))))))
noncomputable def Kx.lsub (K:Kx) (nm:Str) (sc:Scope):Kx:={ K with names:=sc.names,wr:=[nm],lam:=none }
noncomputable def DR (nm:Str) (ap:Pos):Arguments:=⟨[],[⟨nm,none,ap⟩],none,[],[],none,[]⟩
noncomputable def biGV (b:Bi):GV:=match b with | .str=>.ty "str" | .list=>.ty "list" | .int=>.ty "int" | b=>.bi b
def IsCst (x:PyData) (x_:Expr):Prop:=∀ R_:Expr->Prop,(∀ (k:Nat) (p:Pos),cOk x=true->R_ (.Constant (toC x) k p))->R_ x_
def IsNm (P:Str->Prop) (x_:Expr):Prop:=∀ R_:Expr->Prop,(∀ (n:Str) (p:Pos),P n->R_ (.Name n p))->R_ x_
def IsBin (op:Operator) (A B:Expr->Prop) (x_:Expr):Prop:=∀ R_:Expr->Prop,(∀ (l r:Expr) (p:Pos),A l->B r->R_ (.BinOp l op r p))->R_ x_
def IsUn (op:UnaryOp) (A:Expr->Prop) (x_:Expr):Prop:=∀ R_:Expr->Prop,(∀ (x:Expr) (p:Pos),A x->R_ (.UnaryOp op x p))->R_ x_
def IsBop (op:BoolOp) (A:List Expr->Prop) (x_:Expr):Prop:=∀ R_:Expr->Prop,(∀ (vs:List Expr) (p:Pos),A vs->R_ (.BoolOp op vs p))->R_ x_
def IsCmp (op:CmpOp) (A B:Expr->Prop) (x_:Expr):Prop:=∀ R_:Expr->Prop,(∀ (l r:Expr) (p:Pos),A l->B r->R_ (.Compare l [op] [r] p))->R_ x_
def IsTup (A:List Expr->Prop) (x_:Expr):Prop:=∀ R_:Expr->Prop,(∀ (vs:List Expr) (k:Nat) (p:Pos),A vs->R_ (.Tuple vs k p))->R_ x_
def IsLst (A:List Expr->Prop) (x_:Expr):Prop:=∀ R_:Expr->Prop,(∀ (vs:List Expr) (p:Pos),A vs->R_ (.List vs p))->R_ x_
def IsDct (x_:Expr):Prop:=∀ R_:Expr->Prop,(∀ (p:Pos),R_ (.Dict [] [] p))->R_ x_
def IsMax (P:Str->Prop) (A Z:Expr->Prop) (x_:Expr):Prop:=∀ R_:Expr->Prop,(∀ (n:Str) (np:Pos) (x y:Expr) (kp p:Pos),P n->A x->Z y->R_ (.Call (.Name n np) [x] [⟨some (Str.ofString "default"),y,kp⟩] p))->R_ x_
def IsSortR (P:Str->Prop) (A:Expr->Prop) (x_:Expr):Prop:=∀ R_:Expr->Prop,(∀ (n:Str) (np:Pos) (x:Expr) (k:Nat) (cp kp p:Pos),P n->A x->R_ (.Call (.Name n np) [x] [⟨some (Str.ofString "reverse"),.Constant (.bool true) k cp,kp⟩] p))->R_ x_
def IsSort (P:Str->Prop) (A:Expr->Prop) (B:Str->Scope->Expr->Prop) (rev:Bool) (x_:Expr):Prop:=∀ R_:Expr->Prop,(∀ (n:Str) (np:Pos) (x:Expr) (nm:Str) (ap:Pos) (b:Expr) (sc:Scope) (lp kp:Pos) (k:Nat) (cp kp' p:Pos),P n->A x->B nm sc b->R_ (.Call (.Name n np) [x] (⟨some (Str.ofString "key"),.Lambda (DR nm ap) b sc lp,kp⟩::bif rev then [⟨some (Str.ofString "reverse"),.Constant (.bool true) k cp,kp'⟩] else []) p))->R_ x_
def IsSub (A B:Expr->Prop) (x_:Expr):Prop:=∀ R_:Expr->Prop,(∀ (v x:Expr) (p:Pos),A v->B x->R_ (.Subscript v x p))->R_ x_
def IsSlc (A:Expr->Prop) (B C:Option Expr->Prop) (x_:Expr):Prop:=∀ R_:Expr->Prop,(∀ (v:Expr) (l u:Option Expr) (q p:Pos),A v->B l->C u->R_ (.Subscript v (.Slice l u none q) p))->R_ x_
def Ez (P:Str->Prop) (A:List Expr->Prop) (x_:Expr):Prop:=∀ R_:Expr->Prop,(∀ (n:Str) (np:Pos) (vs:List Expr) (p:Pos),P n->A vs->R_ (.Call (.Name n np) vs [] p))->R_ x_
def IsMeth (m:Str) (A:Expr->Prop) (B:List Expr->Prop) (x_:Expr):Prop:=∀ R_:Expr->Prop,(∀ (x:Expr) (ap:Pos) (vs:List Expr) (p:Pos),A x->B vs->ap.endLine=p.line->vs.length < 20->R_ (.Call (.Attribute x m ap) vs [] p))->R_ x_
def IsAttr (m:Str) (A:Expr->Prop) (x_:Expr):Prop:=∀ R_:Expr->Prop,(∀ (x:Expr) (p:Pos),A x->R_ (.Attribute x m p))->R_ x_
def IsComp (A:Expr->Prop) (S:Scope->Prop) (P X:Scope->Expr->Prop) (F:Scope->List Expr->Prop) (x_:Expr):Prop:=∀ R_:Expr->Prop,(∀ (x t i:Expr) (cs:List Expr) (sc:Scope) (p:Pos),A i->S sc->P sc t->X sc x->F sc cs->R_ (.ListComp x [⟨t,i,cs,0⟩] sc p))->R_ x_
def IsSset (P S:Str->Prop) (A:Expr->Prop) (x_:Expr):Prop:=∀ R_:Expr->Prop,(∀ (n m:Str) (np mp:Pos) (x:Expr) (q p:Pos),P n->S m->A x->R_ (.Call (.Name n np) [.Call (.Name m mp) [x] [] q] [] p))->R_ x_
def IsNil {α:Type} (x_:List α):Prop:=x_=[]
def IsCons (A:Expr->Prop) (B:List Expr->Prop) (x_:List Expr):Prop:=∀ R_:List Expr->Prop,(∀ (e:Expr) (l:List Expr),A e->B l->R_ (e::l))->R_ x_
def IsNone (x_:Option Expr):Prop:=x_=none
def IsSome (A:Expr->Prop) (x_:Option Expr):Prop:=∀ R_:Option Expr->Prop,(∀ (e:Expr),A e->R_ (some e))->R_ x_
noncomputable def IsNs (K:Kx):List Nat->List Expr->Prop
 | [],l=>l=[]
 | i::r,l=>∀ R_:List Expr->Prop,(∀ (n:Str) (p:Pos) (t:List Expr),K.canWr i n=true->IsNs K r t->R_ (.Name n p::t))->R_ l
def IsT (K:Kx) (ts:List Nat) (x_:Expr):Prop:=∀ R_:List Nat->Expr->Prop,(∀ (i:Nat) (n:Str) (p:Pos),K.canWr i n=true->R_ [i] (.Name n p))->(∀ (es:List Expr) (k:Nat) (p:Pos),ts.length≠1->IsNs K ts es->R_ ts (.Tuple es k p))->R_ ts x_
noncomputable def cellAmong (K:Kx) (ts:List Expr):Bool:=ts.any fun e=>match e with | .Name n _=>!K.kd n .local | _=>false
noncomputable abbrev Kx.to (K:Kx) (v:GV) (n:Str):Prop:=K.isGl n=true/\K.gl n=some v
noncomputable def Ba (it:E):Bool:=match it with | .zip _ _=>true | .enum _=>true | _=>false
noncomputable def F3 (ts:List Nat) (it:E):Bool:=if Ba it=true then decide (ts.length≠1) else true
noncomputable def Bq (e:E):Bool:=match e with | .nil=>true | _=>false
noncomputable def Is:E->Kx->(Expr->Prop)×(List Expr->Prop)
 | .cst x,_=>(IsCst x,fun _=>False)
 | .var i,K=>(IsNm fun n=>K.isVar n=true/\K.vars[i]? = some n,fun _=>False)
 | .ty t,K=>(IsNm (K.to (.ty t)),fun _=>False)
 | .glb x,K=>(IsNm (K.to (.cst x)),fun _=>False)
 | .bin op a b,K=>(IsBin op (Is a K).1 (Is b K).1,fun _=>False)
 | .neg a,K=>(IsUn .USub (Is a K).1,fun _=>False)
 | .not a,K=>(IsUn .Not (Is a K).1,fun _=>False)
 | .bop op es,K=>(IsBop op (Is es K).2,fun _=>False)
 | .cmp op a b,K=>(IsCmp op (Is a K).1 (Is b K).1,fun _=>False)
 | .nil,_=>(fun _=>False,IsNil)
 | .cons a r,K=>(fun _=>False,IsCons (Is a K).1 (Is r K).2)
 | .tup es,K=>(IsTup (Is es K).2,fun _=>False)
 | .lst es,K=>(IsLst (Is es K).2,fun _=>False)
 | .dct,_=>(IsDct,fun _=>False)
 | .sub a i,K=>(IsSub (Is a K).1 (Is i K).1,fun _=>False)
 | .slc a lo hi,K=>(IsSlc (Is a K).1 (if Bq lo then IsNone else IsSome (Is lo K).1) (if Bq hi then IsNone else IsSome (Is hi K).1),fun _=>False)
 | .bi b es,K=>(Ez (K.to (biGV b)) (Is es K).2,fun _=>False)
 | .maxd a z,K=>(IsMax (K.to (.bi .max)) (Is a K).1 (Is z K).1,fun _=>False)
 | .sortr a,K=>(IsSortR (K.to (.bi .sorted)) (Is a K).1,fun _=>False)
 | .sortk rev a i key,K=>(IsSort (K.to (.bi .sorted)) (Is a K).1 (fun nm sc b=>lamOk K i nm sc=true/\(Is key (K.lsub nm sc)).1 b) rev,fun _=>False)
 | .fcall f es,K=>(Ez (K.to (.fn f)) (Is es K).2,fun _=>False)
 | .meth m o es,K=>(IsMeth (Str.ofString (D5 m)) (Is o K).1 (Is es K).2,fun _=>False)
 | .attr nm o,K=>(IsAttr nm (Is o K).1,fun _=>False)
 | .mcall nm o es,K=>(IsMeth nm (Is o K).1 (Is es K).2,fun _=>False)
 | .new,K=>(Ez (K.to .cls) IsNil,fun _=>False)
 | .comp elt ts it ifs,K=>(IsComp (Is it K).1 (fun sc=>Gb K ts sc=true/\F3 ts it=true) (fun sc=>IsT (K.sub ts sc) ts) (fun sc=>(Is elt (K.sub ts sc)).1) (fun sc=>(Is ifs (K.sub ts sc)).2),fun _=>False)
 | .range es,K=>(Ez (K.to (.ty "range")) (Is es K).2,fun _=>False)
 | .zip a b,K=>(Ez (K.to (.ty "zip")) (IsCons (Is a K).1 (IsCons (Is b K).1 IsNil)),fun _=>False)
 | .enum a,K=>(Ez (K.to (.ty "enumerate")) (IsCons (Is a K).1 IsNil),fun _=>False)
 | .sset b a,K=>(IsSset (K.to (.bi b)) (K.to (.ty "set")) (Is a K).1,fun _=>False)
 | .glx k,K=>(IsNm (K.to (.exc k)),fun _=>False)
noncomputable abbrev IsE (e:E) (K:Kx):Expr->Prop:=(Is e K).1
noncomputable abbrev DY (e:E) (K:Kx):List Expr->Prop:=(Is e K).2
noncomputable def swapC (K:Kx) (n:Str) (p:Pos) (v:Expr):Bool :=
 match v with
 | .ListComp _ _ sc vp=>(decide (K.names.lookup n=some .local)&&(decide (p.line=vp.line) && !(sc.names.any fun q=>q.1 == n&&(q.2 == .local||q.2 == .cell))))||decide (K.names.lookup n=some .cell)
 | _=>false
def IsAsg (P:Str->Prop) (A:Expr->Prop) (W:Str->Pos->Expr->Bool) (x_:Stmt):Prop:=∀ R_:Stmt->Prop,(∀ (n:Str) (p:Pos) (v:Expr) (p':Pos),P n->A v->W n p v=true->R_ (.Assign [.Name n p] v p'))->R_ x_
def IsUnp (P:List Expr->Prop) (A:Expr->Prop) (x_:Stmt):Prop:=∀ R_:Stmt->Prop,(∀ (ts:List Expr) (k:Nat) (p:Pos) (v:Expr) (p':Pos),P ts->A v->R_ (.Assign [.Tuple ts k p] v p'))->R_ x_
def IsSwp (P A:List Expr->Prop) (x_:Stmt):Prop:=∀ R_:Stmt->Prop,(∀ (ts:List Expr) (k:Nat) (p:Pos) (vs:List Expr) (k':Nat) (p' pos:Pos),P ts->A vs->R_ (.Assign [.Tuple ts k p] (.Tuple vs k' p') pos))->R_ x_
def IsSet (A B C:Expr->Prop) (x_:Stmt):Prop:=∀ R_:Stmt->Prop,(∀ (o i:Expr) (p:Pos) (v:Expr) (p':Pos),A v->B o->C i->R_ (.Assign [.Subscript o i p] v p'))->R_ x_
def IsExp (A:Expr->Prop) (x_:Stmt):Prop:=∀ R_:Stmt->Prop,(∀ (v:Expr) (p:Pos),A v->R_ (.Expr v p))->R_ x_
def IsIte (A:Expr->Prop) (B C:List Stmt->Prop) (x_:Stmt):Prop:=∀ R_:Stmt->Prop,(∀ (t:Expr) (x y:List Stmt) (p:Pos),A t->B x->C y->R_ (.If t x y p))->R_ x_
def IsFor (P A:Expr->Prop) (B:List Stmt->Prop) (x_:Stmt):Prop:=∀ R_:Stmt->Prop,(∀ (t i:Expr) (b:List Stmt) (p:Pos),P t->A i->B b->R_ (.For t i b [] p))->R_ x_
def IsWhile (A:Expr->Prop) (B:List Stmt->Prop) (x_:Stmt):Prop:=∀ R_:Stmt->Prop,(∀ (t:Expr) (b:List Stmt) (p:Pos),A t->B b->R_ (.While t b [] p))->R_ x_
def IsRet (A:Expr->Prop) (x_:Stmt):Prop:=∀ R_:Stmt->Prop,(∀ (v:Expr) (p:Pos),A v->R_ (.Return (some v) p))->R_ x_
def IsSetd (P:Str->Prop) (nm:Str) (x_:Stmt):Prop:=∀ R_:Stmt->Prop,(∀ (n:Str) (p1 p2 p3 p4:Pos),P n->R_ (.Assign [.Attribute (.Name n p1) nm p2] (.Dict [] [] p3) p4))->R_ x_
noncomputable def swlOk (K:Kx) (a b c:Str) (pa pb pc:Pos) (vs:List Expr):Bool :=
 K.kd a .local&&K.kd b .local&&K.kd c .local&&pb.line == pa.line&&pc.line == pa.line&&[a,b,c].eraseDups.length == 3&&vs.length == 3 && !vs.all (foldedForSure 8) && !vs.all (constantsAlone 8)
def IsSwl (P:Str->Str->Str->Pos->Pos->Pos->List Expr->Prop) (A:List Expr->Prop) (x_:Stmt):Prop:=∀ R_:Stmt->Prop,(∀ (a b c:Str) (pa pb pc:Pos) (k:Nat) (p:Pos) (vs:List Expr) (k':Nat) (p' pos:Pos),P a b c pa pb pc vs->A vs->R_ (.Assign [.Tuple [.Name a pa,.Name b pb,.Name c pc] k p] (.Tuple vs k' p') pos))->R_ x_
def IsRse (P:Str->Prop) (A:List Expr->Prop) (x_:Stmt):Prop:=∀ R_:Stmt->Prop,(∀ (n:Str) (np:Pos) (vs:List Expr) (cp p:Pos),P n->A vs->vs.length < 20->R_ (.Raise (some (.Call (.Name n np) vs [] cp)) none p))->R_ x_
def IsTry (P:Str->Prop) (A B:List Stmt->Prop) (x_:Stmt):Prop:=∀ R_:Stmt->Prop,(∀ (b:List Stmt) (n:Str) (np:Pos) (y:Stmt) (ys:List Stmt) (hp p:Pos),A b->P n->B (y::ys)->R_ (.Try b [.ExceptHandler (some (.Name n np)) none (y::ys) hp] [] [] p))->R_ x_
noncomputable def IsHs (K:Kx):List (Nat×Nat×E)->List ExceptHandler->Prop
 | [],l=>l=[]
 | (k,i,e)::r,l=>∀ R_:List ExceptHandler->Prop,(∀ (n:Str) (np:Pos) (m:Str) (ex:Expr) (rp hp:Pos) (t:List ExceptHandler),K.to (.exc k) n->(K.canWr i m=true/\K.kd m .local=true)->IsE e K ex->IsHs K r t->R_ (.ExceptHandler (some (.Name n np)) (some m) [.Return (some ex) rp] hp::t))->R_ l
def IsTryAs (A:List Stmt->Prop) (B:List ExceptHandler->Prop) (x_:Stmt):Prop:=∀ R_:Stmt->Prop,(∀ (b:List Stmt) (h:ExceptHandler) (hs:List ExceptHandler) (p:Pos),A b->B (h::hs)->R_ (.Try b (h::hs) [] [] p))->R_ x_
noncomputable def sw2Ok (K:Kx) (a b:Str) (pa pb:Pos) (vs:List Expr):Bool :=
 K.kd a .local&&K.kd b .local&&pb.line == pa.line&&[a,b].eraseDups.length == 2&&vs.length == 2 && !vs.all (foldedForSure 8) && !vs.all (constantsAlone 8)
def IsSw2 (P:Str->Str->Pos->Pos->List Expr->Prop) (A:List Expr->Prop) (x_:Stmt):Prop:=∀ R_:Stmt->Prop,(∀ (a b:Str) (pa pb:Pos) (k:Nat) (p:Pos) (vs:List Expr) (k':Nat) (p' pos:Pos),P a b pa pb vs->A vs->R_ (.Assign [.Tuple [.Name a pa,.Name b pb] k p] (.Tuple vs k' p') pos))->R_ x_
def IsSCons (A:Stmt->Prop) (B:List Stmt->Prop) (x_:List Stmt):Prop:=∀ R_:List Stmt->Prop,(∀ (x:Stmt) (t:List Stmt),A x->B t->R_ (x::t))->R_ x_
noncomputable def Iss:S->Kx->(Stmt->Prop)×(List Stmt->Prop)
 | .any,_=>(fun _=>True,fun _=>True)
 | .nil,_=>(fun _=>False,IsNil)
 | .cons s r,K=>(fun _=>False,IsSCons (Iss s K).1 (Iss r K).2)
 | .asg x e,K=>(IsAsg (fun n=>K.canWr x n=true) (IsE e K) (fun n p v=>bif Br e then swapC K n p v else true),fun _=>False)
 | .unp xs e,K=>(IsUnp (IsNs K xs) (IsE e K),fun _=>False)
 | .swp xs es,K=>(IsSwp (fun ts=>IsNs K xs ts/\(cellAmong K ts=true/\xs.length=3)) (DY es K),fun _=>False)
 | .set o i v,K=>(IsSet (IsE v K) (IsE o K) (IsE i K),fun _=>False)
 | .exp e,K=>(IsExp (IsE e K),fun _=>False)
 | .ite c a b,K=>(IsIte (IsE c K) (Iss a K).2 (Iss b K).2,fun _=>False)
 | .for_ ts it body,K=>(IsFor (fun t=>IsT K ts t/\F3 ts it=true) (IsE it K) (Iss body K).2,fun _=>False)
 | .while_ c body,K=>(IsWhile (IsE c K) (Iss body K).2,fun _=>False)
 | .ret e,K=>(IsRet (IsE e K),fun _=>False)
 | .swl i j l es,K=>(IsSwl (fun a b c pa pb pc vs=>(K.canWr i a=true/\K.canWr j b=true/\K.canWr l c=true)/\swlOk K a b c pa pb pc vs=true) (DY es K),fun _=>False)
 | .rse k es,K=>(IsRse (K.to (.exc k)) (DY es K),fun _=>False)
 | .try_ b k h,K=>(IsTry (K.to (.exc k)) (Iss b K).2 (Iss h K).2,fun _=>False)
 | .tryAs b hs,K=>(IsTryAs (Iss b K).2 (IsHs K hs),fun _=>False)
 | .sw2 i j es,K=>(IsSw2 (fun a b pa pb vs=>(K.canWr i a=true/\K.canWr j b=true)/\sw2Ok K a b pa pb vs=true) (DY es K),fun _=>False)
 | .setd x nm,K=>(IsSetd (fun n=>K.kd n .local=true/\K.vars[x]? = some n/\(n == ("__debug__" : Str))=false) nm,fun _=>False)
noncomputable abbrev IsS (e:S) (K:Kx):Stmt->Prop:=(Iss e K).1
noncomputable abbrev IsSs (e:S) (K:Kx):List Stmt->Prop:=(Iss e K).2
structure Fn where
 np:Nat
 nv:Nat
 body:S
end Mine
namespace Mine
open PySem
noncomputable def Fkeeps:Fn:=⟨1,4,
 (.cons (.asg 1 (.dct))
  (.cons (.for_ [2] (.var 0)
   (.cons (.ite (.cmp .In (.sub (.var 2) (.cst (.int 0))) (.var 1))
    (.cons (.ret (.cst (.bool false)))
     .nil)
    .nil)
    (.cons (.for_ [3] (.sub (.var 2) (.cst (.int 1)))
     (.cons (.ite (.cmp .NotIn (.var 3) (.var 1))
      (.cons (.ret (.cst (.bool false)))
       .nil)
      .nil)
      .nil))
    (.cons (.set (.var 1) (.sub (.var 2) (.cst (.int 0))) (.cst (.bool true)))
    .nil))))
  (.cons (.ret (.cst (.bool true)))
  .nil)))⟩
noncomputable def Fordered:Fn:=⟨2,4,
 (.cons (.asg 2 (.sortr (.var 0)))
  (.cons (.ret (.sortk false (.var 2) 3 (.sub (.var 1) (.var 3))))
  .nil))⟩
noncomputable def Cv:Fn:=⟨1,7,
 (.cons (.asg 1 (.dct))
  (.cons (.asg 2 (.bi .list (.cons (.var 0) .nil)))
  (.cons (.while_ (.cmp .Gt (.bi .len (.cons (.var 2) .nil)) (.cst (.int 0)))
   (.cons (.asg 3 (.lst .nil))
    (.cons (.for_ [4] (.var 2)
     (.cons (.asg 5 (.comp (.sub (.var 1) (.var 6)) [6] (.sub (.var 4) (.cst (.int 1))) (.cons (.cmp .In (.var 6) (.var 1)) .nil)))
      (.cons (.ite (.cmp .Eq (.bi .len (.cons (.var 5) .nil)) (.bi .len (.cons (.sub (.var 4) (.cst (.int 1))) .nil)))
       (.cons (.set (.var 1) (.sub (.var 4) (.cst (.int 0))) (.bin .Add (.cst (.int 1)) (.maxd (.var 5) (.neg (.cst (.int 1))))))
        .nil)
       (.cons (.exp (.meth .append (.var 3) (.cons (.var 4) .nil)))
        .nil))
      .nil)))
    (.cons (.ite (.cmp .Eq (.bi .len (.cons (.var 3) .nil)) (.bi .len (.cons (.var 2) .nil)))
     (.cons (.rse 8 (.cons (.cst (.str (Str.ofString "leanings that lead back"))) .nil))
      .nil)
     .nil)
    (.cons (.asg 2 (.var 3))
    .nil)))))
  (.cons (.ret (.var 1))
  .nil))))⟩
noncomputable def B7:Fn:=⟨1,7,
 (.cons (.asg 1 (.dct))
  (.cons (.for_ [2] (.var 0)
   (.cons (.ite (.cmp .In (.sub (.var 2) (.cst (.int 0))) (.var 1))
    (.cons (.rse 4 (.cons (.cst (.str (Str.ofString "a name stands twice"))) .nil))
     .nil)
    .nil)
    (.cons (.set (.var 1) (.sub (.var 2) (.cst (.int 0))) (.var 2))
    .nil)))
  (.cons (.for_ [2] (.var 0)
   (.cons (.for_ [3] (.sub (.var 2) (.cst (.int 1)))
    (.cons (.ite (.cmp .NotIn (.var 3) (.var 1))
     (.cons (.rse 5 (.cons (.cst (.str (Str.ofString "a change leans on none in the list"))) .nil))
      .nil)
     .nil)
     .nil))
    .nil))
  (.cons (.asg 4 (.fcall 81 (.cons (.var 0) .nil)))
  (.cons (.asg 5 (.comp (.sub (.var 1) (.var 6)) [6] (.fcall 8 (.cons (.bi .list (.cons (.var 1) .nil)) (.cons (.var 4) .nil))) .nil))
  (.cons (.ret (.comp (.tup (.cons (.sub (.var 2) (.cst (.int 0))) (.cons (.bi .list (.cons (.sub (.var 2) (.cst (.int 1))) .nil)) (.cons (.bi .list (.cons (.sub (.var 2) (.cst (.int 2))) .nil)) .nil)))) [2] (.var 5) .nil))
  .nil))))))⟩
noncomputable def Fcell:Fn:=⟨2,2,
 (.cons (.ite (.cmp .Lt (.var 1) (.bi .len (.cons (.var 0) .nil)))
  (.cons (.ret (.sub (.var 0) (.var 1)))
   .nil)
  .nil)
  (.cons (.ret (.cst (.int 0)))
  .nil))⟩
noncomputable def Fmixed:Fn:=⟨2,2,
 (.cons (.ret (.bin .Mod (.bin .Mult (.bin .Add (.var 0) (.bin .Mult (.cst (.int 7919)) (.var 1))) (.cst (.int 48271))) (.cst (.int 2147483647))))
  .nil)⟩
noncomputable def Fname:Fn:=⟨2,7,
 (.cons (.asg 2 (.cst (.str (Str.ofString "abcdefghijklmnopqrstuvwxyz0123456789"))))
  (.cons (.asg 3 (.fcall 10 (.cons (.var 0) (.cons (.cst (.int 5)) .nil))))
  (.cons (.asg 4 (.meth .join (.cst (.str (Str.ofString ""))) (.cons (.comp (.sub (.var 2) (.bin .Mod (.fcall 10 (.cons (.var 0) (.cons (.var 5) .nil))) (.cst (.int 36)))) [5] (.range (.cons (.bin .Add (.cst (.int 1)) (.bin .Mod (.var 3) (.cst (.int 12)))) .nil)) .nil) .nil)))
  (.cons (.ite (.cmp .Eq (.bin .Mod (.var 0) (.cst (.int 8))) (.cst (.int 1)))
   (.cons (.asg 4 (.bi .str (.cons (.bin .Mod (.var 3) (.cst (.int 130))) .nil)))
    .nil)
   .nil)
  (.cons (.ite (.bop .And (.cons (.cmp .Eq (.bin .Mod (.var 0) (.cst (.int 8))) (.cst (.int 2))) (.cons (.var 1) .nil)))
   (.cons (.asg 4 (.bin .Add (.slc (.sub (.var 1) (.neg (.cst (.int 1)))) .nil (.cst (.int 11))) (.sub (.var 2) (.bin .Mod (.var 3) (.cst (.int 36))))))
    .nil)
   .nil)
  (.cons (.ite (.bop .And (.cons (.cmp .Gt (.bin .Mod (.var 0) (.cst (.int 8))) (.cst (.int 4))) (.cons (.var 1) .nil)))
   (.cons (.asg 4 (.sub (.var 1) (.bin .Mod (.var 3) (.bi .len (.cons (.var 1) .nil)))))
    (.cons (.asg 6 (.bin .Mod (.bin .FloorDiv (.var 3) (.cst (.int 60))) (.bi .len (.cons (.var 4) .nil))))
    (.cons (.asg 4 (.bin .Add (.bin .Add (.slc (.var 4) .nil (.var 6)) (.sub (.var 2) (.bin .Mod (.bin .FloorDiv (.var 3) (.cst (.int 720))) (.cst (.int 36))))) (.slc (.var 4) (.bin .Add (.var 6) (.cst (.int 1))) .nil)))
    .nil)))
   .nil)
  (.cons (.ite (.cmp .NotIn (.var 4) (.var 1))
   (.cons (.ret (.var 4))
    .nil)
   .nil)
  (.cons (.ret (.sub (.comp (.bi .str (.cons (.var 5) .nil)) [5] (.range (.cons (.bin .Add (.bi .len (.cons (.var 1) .nil)) (.cst (.int 1))) .nil)) (.cons (.cmp .NotIn (.bi .str (.cons (.var 5) .nil)) (.var 1)) .nil)) (.cst (.int 0))))
  .nil))))))))⟩
noncomputable def Fline:Fn:=⟨1,5,
 (.cons (.asg 1 (.cst (.str (Str.ofString " !\"#$&'()*+,-./0123456789:;<=>?\x40ABCDEFGHIJKLMNOPQRSTUVWXYZ[\\]^_`"))))
  (.cons (.asg 1 (.bin .Add (.var 1) (.cst (.str (Str.ofString "abcdefghijklmnopqrstuvwxyz{|}~")))))
  (.cons (.asg 2 (.bin .Mod (.var 0) (.cst (.int 4))))
  (.cons (.ite (.cmp .Eq (.bin .Mod (.bin .FloorDiv (.var 0) (.cst (.int 4))) (.cst (.int 9))) (.cst (.int 1)))
   (.cons (.asg 2 (.bin .Mod (.bin .FloorDiv (.var 0) (.cst (.int 36))) (.cst (.int 201))))
    .nil)
   .nil)
  (.cons (.asg 3 (.meth .join (.cst (.str (Str.ofString ""))) (.cons (.comp (.sub (.var 1) (.bin .Mod (.bin .Add (.bin .FloorDiv (.var 0) (.cst (.int 7))) (.bin .Mult (.var 4) (.bin .Add (.cst (.int 1)) (.bin .Mod (.var 0) (.cst (.int 5)))))) (.cst (.int 94)))) [4] (.range (.cons (.var 2) .nil)) .nil) .nil)))
  (.cons (.ite (.bop .And (.cons (.cmp .Eq (.bin .Mod (.bin .FloorDiv (.var 0) (.cst (.int 3))) (.cst (.int 8))) (.cst (.int 1))) (.cons (.cmp .Lt (.var 2) (.cst (.int 199))) .nil)))
   (.cons (.ret (.bin .Add (.bin .Add (.slc (.var 3) .nil (.cst (.int 1))) (.cst (.str (Str.ofString ": ")))) (.slc (.var 3) (.cst (.int 1)) .nil)))
    .nil)
   .nil)
  (.cons (.ret (.var 3))
  .nil)))))))⟩
noncomputable def Fleans:Fn:=⟨2,7,
 (.cons (.asg 2 (.fcall 10 (.cons (.var 0) (.cons (.cst (.int 1)) .nil))))
  (.cons (.asg 3 (.lst .nil))
  (.cons (.for_ [4,5] (.enum (.var 1))
   (.cons (.asg 6 (.bop .And (.cons (.cmp .Eq (.var 4) (.bin .Sub (.bi .len (.cons (.var 1) .nil)) (.cst (.int 1)))) (.cons (.cmp .Eq (.bin .Mod (.var 0) (.cst (.int 7))) (.cst (.int 3))) .nil))))
    (.cons (.ite (.bop .Or (.cons (.var 6) (.cons (.bop .And (.cons (.cmp .Eq (.bin .Mod (.var 2) (.bin .Add (.cst (.int 2)) (.bin .Mod (.var 0) (.cst (.int 3))))) (.cst (.int 0))) (.cons (.bop .Or (.cons (.cmp .Lt (.bi .len (.cons (.var 1) .nil)) (.cst (.int 20))) (.cons (.cmp .Eq (.bin .Mod (.var 4) (.cst (.int 7))) (.bin .Mod (.bin .FloorDiv (.var 2) (.cst (.int 4))) (.cst (.int 7)))) .nil))) .nil))) .nil)))
     (.cons (.exp (.meth .append (.var 3) (.cons (.sub (.var 5) (.cst (.int 0))) .nil)))
      .nil)
     .nil)
    (.cons (.asg 2 (.bin .FloorDiv (.var 2) (.cst (.int 3))))
    (.cons (.ite (.cmp .Lt (.var 2) (.cst (.int 100)))
     (.cons (.asg 2 (.fcall 10 (.cons (.var 0) (.cons (.bin .Add (.var 4) (.cst (.int 2))) .nil))))
      .nil)
     .nil)
    .nil)))))
  (.cons (.ret (.bi .sorted (.cons (.var 3) .nil)))
  .nil))))⟩
noncomputable def Fmarks:Fn:=⟨1,4,
 (.cons (.asg 1 (.bi .len (.cons (.comp (.var 2) [2] (.sub (.var 0) (.cst (.int 2))) (.cons (.cmp .Eq (.sub (.var 2) (.cst (.int 0))) (.cst (.str (Str.ofString "add")))) .nil)) .nil)))
  (.cons (.ret (.comp (.tup (.cons (.sub (.var 0) (.cst (.int 0))) (.cons (.var 3) .nil))) [3] (.range (.cons (.var 1) .nil)) .nil))
  .nil))⟩
noncomputable def Fdeeds:Fn:=⟨4,13,
 (.cons (.asg 4 (.lst .nil))
  (.cons (.asg 5 (.cst (.int 0)))
  (.cons (.for_ [6] (.range (.cons (.var 2) .nil))
   (.cons (.asg 7 (.bin .Add (.var 3) (.comp (.tup (.cons (.var 0) (.cons (.var 12) .nil))) [12] (.range (.cons (.var 5) .nil)) .nil)))
    (.cons (.asg 8 (.fcall 10 (.cons (.var 1) (.cons (.var 6) .nil))))
    (.cons (.asg 9 (.bin .Mod (.bin .FloorDiv (.var 8) (.cst (.int 5))) (.bin .Add (.bi .len (.cons (.var 7) .nil)) (.cst (.int 1)))))
    (.cons (.asg 10 (.fcall 12 (.cons (.bin .FloorDiv (.var 8) (.cst (.int 365))) .nil)))
    (.cons (.ite (.bop .Or (.cons (.cmp .Lt (.bin .Mod (.var 8) (.cst (.int 5))) (.cst (.int 3))) (.cons (.not (.var 7)) .nil)))
     (.cons (.asg 11 (.cst .none))
      (.cons (.ite (.cmp .Gt (.var 9) (.cst (.int 0)))
       (.cons (.asg 11 (.sub (.var 7) (.bin .Sub (.var 9) (.cst (.int 1)))))
        .nil)
       .nil)
      (.cons (.exp (.meth .append (.var 4) (.cons (.tup (.cons (.cst (.str (Str.ofString "add"))) (.cons (.var 11) (.cons (.var 10) .nil)))) .nil)))
      (.cons (.asg 5 (.bin .Add (.var 5) (.cst (.int 1))))
      .nil))))
     (.cons (.ite (.cmp .Eq (.bin .Mod (.var 8) (.cst (.int 5))) (.cst (.int 3)))
      (.cons (.exp (.meth .append (.var 4) (.cons (.tup (.cons (.cst (.str (Str.ofString "cut"))) (.cons (.sub (.var 7) (.bin .Mod (.var 9) (.bi .len (.cons (.var 7) .nil)))) .nil))) .nil)))
       .nil)
      (.cons (.exp (.meth .append (.var 4) (.cons (.tup (.cons (.cst (.str (Str.ofString "set"))) (.cons (.sub (.var 7) (.bin .Mod (.var 9) (.bi .len (.cons (.var 7) .nil)))) (.cons (.var 10) .nil)))) .nil)))
       .nil))
      .nil))
    .nil))))))
  (.cons (.ret (.var 4))
  .nil))))⟩
noncomputable def DK:Fn:=⟨2,10,
 (.cons (.asg 2 (.lst .nil))
  (.cons (.asg 3 (.lst (.cons (.cst (.str (Str.ofString "0"))) .nil)))
  (.cons (.for_ [4] (.range (.cons (.bi .min (.cons (.bin .FloorDiv (.bi .len (.cons (.var 0) .nil)) (.cst (.int 4))) (.cons (.var 1) .nil))) .nil))
   (.cons (.asg 5 (.fcall 11 (.cons (.sub (.var 0) (.bin .Mult (.cst (.int 4)) (.var 4))) (.cons (.var 3) .nil))))
    (.cons (.exp (.meth .append (.var 3) (.cons (.var 5) .nil)))
    (.cons (.asg 6 (.fcall 13 (.cons (.sub (.var 0) (.bin .Add (.bin .Mult (.cst (.int 4)) (.var 4)) (.cst (.int 1)))) (.cons (.var 2) .nil))))
    (.cons (.asg 7 (.lst .nil))
    (.cons (.for_ [8] (.var 2)
     (.cons (.ite (.cmp .In (.sub (.var 8) (.cst (.int 0))) (.var 6))
      (.cons (.asg 7 (.bin .Add (.var 7) (.fcall 14 (.cons (.var 8) .nil))))
       .nil)
      .nil)
      .nil))
    (.cons (.asg 9 (.bin .Mod (.sub (.var 0) (.bin .Add (.bin .Mult (.cst (.int 4)) (.var 4)) (.cst (.int 3)))) (.cst (.int 5))))
    (.cons (.ite (.cmp .Eq (.bin .Mod (.bin .FloorDiv (.sub (.var 0) (.bin .Add (.bin .Mult (.cst (.int 4)) (.var 4)) (.cst (.int 3)))) (.cst (.int 5))) (.cst (.int 16))) (.cst (.int 1)))
     (.cons (.asg 9 (.bin .Sub (.cst (.int 20)) (.bin .Mod (.bin .FloorDiv (.sub (.var 0) (.bin .Add (.bin .Mult (.cst (.int 4)) (.var 4)) (.cst (.int 3)))) (.cst (.int 80))) (.cst (.int 16)))))
      .nil)
     .nil)
    (.cons (.exp (.meth .append (.var 2) (.cons (.tup (.cons (.var 5) (.cons (.var 6) (.cons (.fcall 15 (.cons (.var 5) (.cons (.sub (.var 0) (.bin .Add (.bin .Mult (.cst (.int 4)) (.var 4)) (.cst (.int 2)))) (.cons (.var 9) (.cons (.var 7) .nil))))) .nil)))) .nil)))
    .nil)))))))))
  (.cons (.ret (.var 2))
  .nil))))⟩
noncomputable def Fdeed_like:Fn:=⟨2,4,
 (.cons (.ite (.bop .Or (.cons (.not (.bi .isinstance (.cons (.var 0) (.cons (.ty "tuple") .nil)))) (.cons (.cmp .NotEq (.bi .len (.cons (.var 0) .nil)) (.bi .len (.cons (.var 1) .nil))) (.cons (.not (.bi .isinstance (.cons (.sub (.var 0) (.cst (.int 0))) (.cons (.ty "str") .nil)))) .nil))))
  (.cons (.ret (.cst (.bool false)))
   .nil)
  .nil)
  (.cons (.ite (.cmp .IsNot (.sub (.var 1) (.cst (.int 1))) (.cst .none))
   (.cons (.asg 2 (.sub (.var 0) (.cst (.int 1))))
    (.cons (.ite (.bop .Or (.cons (.not (.bi .isinstance (.cons (.var 2) (.cons (.ty "tuple") .nil)))) (.cons (.cmp .NotEq (.bi .len (.cons (.var 2) .nil)) (.cst (.int 2))) (.cons (.not (.bi .isinstance (.cons (.sub (.var 2) (.cst (.int 0))) (.cons (.ty "str") .nil)))) .nil))))
     (.cons (.ret (.cst (.bool false)))
      .nil)
     .nil)
    (.cons (.ite (.bop .Or (.cons (.not (.bi .isinstance (.cons (.sub (.var 2) (.cst (.int 1))) (.cons (.ty "int") .nil)))) (.cons (.bi .isinstance (.cons (.sub (.var 2) (.cst (.int 1))) (.cons (.ty "bool") .nil))) .nil)))
     (.cons (.ret (.cst (.bool false)))
      .nil)
     .nil)
    .nil)))
   .nil)
  (.cons (.ret (.bop .And (.cons (.bi .all (.cons (.comp (.bi .isinstance (.cons (.var 3) (.cons (.ty "str") .nil))) [3] (.slc (.var 0) (.cst (.int 2)) .nil) .nil) .nil)) (.cons (.cmp .Eq (.var 0) (.var 1)) .nil))))
  .nil)))⟩
noncomputable def Fd:Fn:=⟨2,5,
 (.cons (.ite (.bop .Or (.cons (.not (.bi .isinstance (.cons (.var 0) (.cons (.ty "tuple") .nil)))) (.cons (.cmp .NotEq (.bi .len (.cons (.var 0) .nil)) (.cst (.int 3))) (.cons (.not (.bi .isinstance (.cons (.sub (.var 0) (.cst (.int 0))) (.cons (.ty "str") .nil)))) .nil))))
  (.cons (.ret (.cst (.bool false)))
   .nil)
  .nil)
  (.cons (.ite (.bop .Or (.cons (.not (.bi .isinstance (.cons (.sub (.var 0) (.cst (.int 1))) (.cons (.ty "list") .nil)))) (.cons (.not (.bi .isinstance (.cons (.sub (.var 0) (.cst (.int 2))) (.cons (.ty "list") .nil)))) .nil)))
   (.cons (.ret (.cst (.bool false)))
    .nil)
   .nil)
  (.cons (.ite (.bop .Or (.cons (.not (.bi .all (.cons (.comp (.bi .isinstance (.cons (.var 2) (.cons (.ty "str") .nil))) [2] (.sub (.var 0) (.cst (.int 1))) .nil) .nil))) (.cons (.cmp .NotEq (.bi .len (.cons (.sub (.var 0) (.cst (.int 2))) .nil)) (.bi .len (.cons (.sub (.var 1) (.cst (.int 2))) .nil))) .nil)))
   (.cons (.ret (.cst (.bool false)))
    .nil)
   .nil)
  (.cons (.ite (.bop .Or (.cons (.cmp .NotEq (.sub (.var 0) (.cst (.int 0))) (.sub (.var 1) (.cst (.int 0)))) (.cons (.cmp .NotEq (.sub (.var 0) (.cst (.int 1))) (.sub (.var 1) (.cst (.int 1)))) .nil)))
   (.cons (.ret (.cst (.bool false)))
    .nil)
   .nil)
  (.cons (.ret (.bi .all (.cons (.comp (.fcall 70 (.cons (.var 3) (.cons (.var 4) .nil))) [3,4] (.zip (.sub (.var 0) (.cst (.int 2))) (.sub (.var 1) (.cst (.int 2)))) .nil) .nil)))
  .nil)))))⟩
noncomputable def Fcopy:Fn:=⟨1,1,
 (.cons (.ret (.tup (.cons (.sub (.var 0) (.cst (.int 0))) (.cons (.bi .list (.cons (.sub (.var 0) (.cst (.int 1))) .nil)) (.cons (.bi .list (.cons (.sub (.var 0) (.cst (.int 2))) .nil)) .nil)))))
  .nil)⟩
noncomputable def Fshuffled:Fn:=⟨2,4,
 (.cons (.asg 2 (.bi .list (.cons (.var 0) .nil)))
  (.cons (.asg 3 (.lst .nil))
  (.cons (.while_ (.var 2)
   (.cons (.exp (.meth .append (.var 3) (.cons (.meth .pop (.var 2) (.cons (.bin .Mod (.fcall 10 (.cons (.var 1) (.cons (.bi .len (.cons (.var 2) .nil)) .nil))) (.bi .len (.cons (.var 2) .nil))) .nil)) .nil)))
    .nil))
  (.cons (.ret (.var 3))
  .nil))))⟩
noncomputable def El:Fn:=⟨2,6,
 (.cons (.asg 2 (.bin .Mod (.var 1) (.bi .len (.cons (.var 0) .nil))))
  (.cons (.asg 3 (.sub (.sub (.var 0) (.bin .Mod (.bin .FloorDiv (.var 1) (.cst (.int 60))) (.bi .len (.cons (.var 0) .nil)))) (.cst (.int 0))))
  (.cons (.asg 4 (.sub (.var 0) (.var 2)))
  (.cons (.asg 5 (.sset .sorted (.bin .Add (.sub (.var 4) (.cst (.int 1))) (.lst (.cons (.var 3) .nil)))))
  (.cons (.ret (.bin .Add (.bin .Add (.slc (.var 0) .nil (.var 2)) (.lst (.cons (.tup (.cons (.sub (.var 4) (.cst (.int 0))) (.cons (.var 5) (.cons (.sub (.var 4) (.cst (.int 2))) .nil)))) .nil))) (.slc (.var 0) (.bin .Add (.var 2) (.cst (.int 1))) .nil)))
  .nil)))))⟩
noncomputable def Fkept:Fn:=⟨1,4,
 (.cons (.asg 1 (.lst .nil))
  (.cons (.for_ [2] (.var 0)
   (.cons (.ite (.bop .Or (.cons (.cmp .In (.sub (.var 2) (.cst (.int 0))) (.var 1)) (.cons (.not (.bi .all (.cons (.comp (.cmp .In (.var 3) (.var 1)) [3] (.sub (.var 2) (.cst (.int 1))) .nil) .nil))) .nil)))
    (.cons (.ret (.cst (.bool false)))
     .nil)
    .nil)
    (.cons (.exp (.meth .append (.var 1) (.cons (.sub (.var 2) (.cst (.int 0))) .nil)))
    .nil)))
  (.cons (.ret (.cst (.bool true)))
  .nil)))⟩
noncomputable def Flevels:Fn:=⟨1,5,
 (.cons (.asg 1 (.dct))
  (.cons (.for_ [2] (.var 0)
   (.cons (.for_ [3] (.var 0)
    (.cons (.ite (.bop .And (.cons (.cmp .NotIn (.sub (.var 3) (.cst (.int 0))) (.var 1)) (.cons (.bi .all (.cons (.comp (.cmp .In (.var 4) (.var 1)) [4] (.sub (.var 3) (.cst (.int 1))) .nil) .nil)) .nil)))
     (.cons (.set (.var 1) (.sub (.var 3) (.cst (.int 0))) (.maxd (.comp (.bin .Add (.sub (.var 1) (.var 4)) (.cst (.int 1))) [4] (.sub (.var 3) (.cst (.int 1))) .nil) (.cst (.int 0))))
      .nil)
     .nil)
     .nil))
    .nil))
  (.cons (.ret (.var 1))
  .nil)))⟩
noncomputable def Fdue:Fn:=⟨1,7,
 (.cons (.asg 1 (.comp (.sub (.var 2) (.cst (.int 0))) [2] (.var 0) .nil))
  (.cons (.ite (.cmp .Lt (.sset .len (.var 1)) (.bi .len (.cons (.var 1) .nil)))
   (.cons (.ret (.tup (.cons (.cst (.str (Str.ofString "twice"))) (.cons (.lst .nil) .nil))))
    .nil)
   .nil)
  (.cons (.for_ [2] (.var 0)
   (.cons (.ite (.not (.bi .all (.cons (.comp (.cmp .In (.var 3) (.var 1)) [3] (.sub (.var 2) (.cst (.int 1))) .nil) .nil)))
    (.cons (.ret (.tup (.cons (.cst (.str (Str.ofString "missing"))) (.cons (.lst .nil) .nil))))
     .nil)
    .nil)
    .nil))
  (.cons (.asg 4 (.fcall 86 (.cons (.var 0) .nil)))
  (.cons (.ite (.cmp .Lt (.bi .len (.cons (.var 4) .nil)) (.bi .len (.cons (.var 1) .nil)))
   (.cons (.ret (.tup (.cons (.cst (.str (Str.ofString "ring"))) (.cons (.lst .nil) .nil))))
    .nil)
   .nil)
  (.cons (.asg 5 (.sortk true (.var 0) 2 (.sub (.var 2) (.cst (.int 0)))))
  (.cons (.ret (.tup (.cons (.cst (.str (Str.ofString ""))) (.cons (.sortk false (.var 5) 6 (.sub (.var 4) (.sub (.var 6) (.cst (.int 0))))) .nil))))
  .nil)))))))⟩
noncomputable def Falone:Fn:=⟨1,3,
 (.cons (.asg 1 (.lst (.cons (.bi .isinstance (.cons (.var 0) (.cons (.glx 2) .nil))) (.cons (.bi .isinstance (.cons (.var 0) (.cons (.glx 3) .nil))) (.cons (.bi .isinstance (.cons (.var 0) (.cons (.glx 4) .nil))) (.cons (.bi .isinstance (.cons (.var 0) (.cons (.glx 5) .nil))) .nil))))))
  (.cons (.asg 1 (.bin .Add (.var 1) (.lst (.cons (.bi .isinstance (.cons (.var 0) (.cons (.glx 6) .nil))) (.cons (.bi .isinstance (.cons (.var 0) (.cons (.glx 7) .nil))) (.cons (.bi .isinstance (.cons (.var 0) (.cons (.glx 8) .nil))) (.cons (.bi .isinstance (.cons (.var 0) (.cons (.glx 9) .nil))) .nil)))))))
  (.cons (.ret (.bop .And (.cons (.cmp .Eq (.bi .len (.cons (.comp (.var 2) [2] (.var 1) (.cons (.var 2) .nil)) .nil)) (.cst (.int 1))) (.cons (.bi .isinstance (.cons (.var 0) (.cons (.glx 1) .nil))) (.cons (.bi .isinstance (.cons (.var 0) (.cons (.ty "ValueError") .nil))) .nil)))))
  .nil)))⟩
noncomputable def Fanswer:Fn:=⟨1,2,
 (.cons (.tryAs
  (.cons (.ret (.tup (.cons (.cst (.str (Str.ofString ""))) (.cons (.fcall 82 (.cons (.var 0) .nil)) .nil))))
   .nil)
  [(4,1,.tup (.cons (.cst (.str (Str.ofString "twice"))) (.cons (.fcall 73 (.cons (.var 1) .nil)) .nil))),(5,1,.tup (.cons (.cst (.str (Str.ofString "missing"))) (.cons (.fcall 73 (.cons (.var 1) .nil)) .nil))),(8,1,.tup (.cons (.cst (.str (Str.ofString "ring"))) (.cons (.fcall 73 (.cons (.var 1) .nil)) .nil)))])
  .nil)⟩
noncomputable def Fwide:Fn:=⟨3,5,
 (.cons (.ite (.bop .Or (.cons (.cmp .Lt (.bi .len (.cons (.var 0) .nil)) (.cst (.int 4))) (.cons (.cmp .NotEq (.bin .Mod (.var 1) (.cst (.int 12))) (.cst (.int 5))) .nil)))
  (.cons (.ret (.var 0))
   .nil)
  .nil)
  (.cons (.asg 3 (.lst .nil))
  (.cons (.for_ [4] (.range (.cons (.bin .Mult (.cst (.int 4)) (.bin .Add (.var 2) (.bin .Mod (.bin .FloorDiv (.var 1) (.cst (.int 12))) (.bin .Sub (.cst (.int 61)) (.var 2))))) .nil))
   (.cons (.exp (.meth .append (.var 3) (.cons (.fcall 10 (.cons (.sub (.var 0) (.bin .Mod (.var 4) (.bi .len (.cons (.var 0) .nil)))) (.cons (.var 4) .nil))) .nil)))
    (.cons (.ite (.bop .And (.cons (.cmp .Eq (.bin .Mod (.var 4) (.cst (.int 4))) (.cst (.int 1))) (.cons (.cmp .Eq (.bin .Mod (.bin .FloorDiv (.var 1) (.cst (.int 12))) (.cst (.int 2))) (.cst (.int 1))) .nil)))
     (.cons (.set (.var 3) (.var 4) (.bin .Add (.bin .Mult (.bin .FloorDiv (.sub (.var 3) (.var 4)) (.cst (.int 7))) (.cst (.int 7))) (.cst (.int 3))))
      .nil)
     .nil)
    .nil)))
  (.cons (.ret (.var 3))
  .nil))))⟩
noncomputable def Fright:Fn:=⟨3,7,
 (.cons (.ite (.bop .Or (.cons (.not (.bi .isinstance (.cons (.var 1) (.cons (.ty "list") .nil)))) (.cons (.cmp .NotEq (.bi .len (.cons (.var 1) .nil)) (.bi .len (.cons (.var 2) .nil))) .nil)))
  (.cons (.ret (.cst (.bool false)))
   .nil)
  .nil)
  (.cons (.asg 3 (.fcall 82 (.cons (.comp (.fcall 17 (.cons (.var 4) .nil)) [4] (.var 0) .nil) .nil)))
  (.cons (.for_ [4] (.bin .Add (.var 0) (.var 3))
   (.cons (.exp (.meth .clear (.sub (.var 4) (.cst (.int 1))) .nil))
    (.cons (.exp (.meth .append (.sub (.var 4) (.cst (.int 2))) (.cons (.tup (.cons (.cst (.str (Str.ofString "cut"))) (.cons (.cst .none) .nil))) .nil)))
    .nil)))
  (.cons (.exp (.meth .clear (.var 0) .nil))
  (.cons (.exp (.meth .clear (.var 3) .nil))
  (.cons (.ret (.bi .all (.cons (.comp (.fcall 71 (.cons (.var 5) (.cons (.var 6) .nil))) [5,6] (.zip (.var 1) (.var 2)) .nil) .nil)))
  .nil))))))⟩
noncomputable def Flaw:Fn:=⟨1,13,
 (.cons (.asg 1 (.fcall 16 (.cons (.fcall 33 (.cons (.slc (.var 0) (.cst (.int 6)) .nil) (.cons (.fcall 9 (.cons (.var 0) (.cons (.cst (.int 5)) .nil))) (.cons (.cst (.int 14)) .nil)))) (.cons (.cst (.int 60)) .nil))))
  (.cons (.asg 2 (.fcall 9 (.cons (.var 0) (.cons (.cst (.int 0)) .nil))))
  (.cons (.ite (.bop .And (.cons (.var 1) (.cons (.cmp .Eq (.bin .Mod (.var 2) (.cst (.int 4))) (.cst (.int 1))) .nil)))
   (.cons (.asg 1 (.fcall 84 (.cons (.var 1) (.cons (.fcall 9 (.cons (.var 0) (.cons (.cst (.int 1)) .nil))) .nil))))
    .nil)
   .nil)
  (.cons (.ite (.bop .And (.cons (.var 1) (.cons (.cmp .Eq (.bin .Mod (.bin .FloorDiv (.var 2) (.cst (.int 4))) (.cst (.int 6))) (.cst (.int 1))) .nil)))
   (.cons (.exp (.meth .pop (.var 1) (.cons (.bin .Mod (.fcall 9 (.cons (.var 0) (.cons (.cst (.int 2)) .nil))) (.bi .len (.cons (.var 1) .nil))) .nil)))
    .nil)
   .nil)
  (.cons (.ite (.bop .And (.cons (.var 1) (.cons (.cmp .Eq (.bin .Mod (.bin .FloorDiv (.var 2) (.cst (.int 24))) (.cst (.int 6))) (.cst (.int 1))) .nil)))
   (.cons (.asg 3 (.sub (.var 1) (.bin .Mod (.fcall 9 (.cons (.var 0) (.cons (.cst (.int 3)) .nil))) (.bi .len (.cons (.var 1) .nil)))))
    (.cons (.asg 1 (.bin .Add (.var 1) (.lst (.cons (.tup (.cons (.sub (.var 3) (.cst (.int 0))) (.cons (.lst .nil) (.cons (.lst .nil) .nil)))) .nil))))
    .nil))
   .nil)
  (.cons (.ite (.bop .And (.cons (.var 1) (.cons (.cmp .Eq (.bin .Mod (.bin .FloorDiv (.var 2) (.cst (.int 432))) (.cst (.int 3))) (.cst (.int 1))) .nil)))
   (.cons (.asg 4 (.bin .Mod (.bin .FloorDiv (.fcall 9 (.cons (.var 0) (.cons (.cst (.int 3)) .nil))) (.cst (.int 60))) (.bi .len (.cons (.var 1) .nil))))
    (.cons (.asg 5 (.bin .Mult (.lst (.cons (.tup (.cons (.cst (.str (Str.ofString "add"))) (.cons (.cst .none) (.cons (.bin .Mult (.cst (.str (Str.ofString "x"))) (.cst (.int 201))) .nil)))) (.cons (.tup (.cons (.cst (.str (Str.ofString "put"))) (.cons (.tup (.cons (.cst (.str (Str.ofString "A"))) (.cons (.cst (.int 5)) .nil))) (.cons (.cst (.str (Str.ofString "\n"))) .nil)))) (.cons (.tup (.cons (.cst (.str (Str.ofString "cut"))) (.cons (.cst .none) .nil))) .nil)))) (.bin .Add (.cst (.int 1)) (.bin .Mod (.bin .FloorDiv (.var 2) (.cst (.int 1296))) (.cst (.int 9))))))
    (.cons (.set (.var 1) (.var 4) (.tup (.cons (.sub (.sub (.var 1) (.var 4)) (.cst (.int 0))) (.cons (.sub (.sub (.var 1) (.var 4)) (.cst (.int 1))) (.cons (.var 5) .nil)))))
    .nil)))
   .nil)
  (.cons (.ite (.cmp .Gt (.bin .Mod (.bin .FloorDiv (.var 2) (.cst (.int 144))) (.cst (.int 3))) (.cst (.int 0)))
   (.cons (.asg 1 (.fcall 83 (.cons (.var 1) (.cons (.fcall 9 (.cons (.var 0) (.cons (.cst (.int 4)) .nil))) .nil))))
    .nil)
   .nil)
  (.cons (.asg 6 (.comp (.fcall 17 (.cons (.var 7) .nil)) [7] (.var 1) .nil))
  (.cons (.unp [8,9] (.fcall 88 (.cons (.var 6) .nil)))
  (.cons (.unp [10,11] (.fcall 87 (.cons (.var 1) .nil)))
  (.cons (.asg 12 (.fcall 80 (.cons (.var 6) .nil)))
  (.cons (.ite (.bop .Or (.cons (.not (.bi .isinstance (.cons (.var 12) (.cons (.ty "bool") .nil)))) (.cons (.cmp .NotEq (.var 12) (.fcall 85 (.cons (.var 1) .nil))) (.cons (.cmp .NotEq (.var 6) (.var 1)) (.cons (.cmp .NotEq (.var 8) (.var 10)) .nil)))))
   (.cons (.ret (.cst (.bool false)))
    .nil)
   .nil)
  (.cons (.ite (.cmp .NotEq (.var 10) (.cst (.str (Str.ofString ""))))
   (.cons (.ret (.var 9))
    .nil)
   .nil)
  (.cons (.ret (.fcall 89 (.cons (.var 6) (.cons (.var 9) (.cons (.var 11) .nil)))))
  .nil))))))))))))))⟩
noncomputable def DB:List (Nat×Str×Fn×List Str):=[
 (80,Str.ofString "keeps",Fkeeps,[Str.ofString "changes",Str.ofString "seen",Str.ofString "change",Str.ofString "lean"]),
 (8,Str.ofString "ordered",Fordered,[Str.ofString "names",Str.ofString "heights",Str.ofString "falling",Str.ofString "name"]),
 (81,Str.ofString "heights_of",Cv,[Str.ofString "changes",Str.ofString "heights",Str.ofString "left",Str.ofString "later",Str.ofString "change",Str.ofString "known",Str.ofString "lean"]),
 (82,Str.ofString "plain_order",B7,[Str.ofString "changes",Str.ofString "by_name",Str.ofString "change",Str.ofString "lean",Str.ofString "heights",Str.ofString "told",Str.ofString "name"]),
 (9,Str.ofString "_law_cell",Fcell,[Str.ofString "_law_script",Str.ofString "_law_k"]),
 (10,Str.ofString "_law_mixed",Fmixed,[Str.ofString "_law_cell_here",Str.ofString "_law_k"]),
 (11,Str.ofString "_law_name",Fname,[Str.ofString "_law_cell_here",Str.ofString "_law_taken",Str.ofString "_law_signs",Str.ofString "_law_left",Str.ofString "_law_found",Str.ofString "_law_j",Str.ofString "_law_at"]),
 (12,Str.ofString "_law_line",Fline,[Str.ofString "_law_cell_here",Str.ofString "_law_some",Str.ofString "_law_size",Str.ofString "_law_found",Str.ofString "_law_j"]),
 (13,Str.ofString "_law_leans",Fleans,[Str.ofString "_law_cell_here",Str.ofString "_law_ahead",Str.ofString "_law_left",Str.ofString "_law_found",Str.ofString "_law_k",Str.ofString "_law_change",Str.ofString "_law_last"]),
 (14,Str.ofString "_law_marks",Fmarks,[Str.ofString "_law_change",Str.ofString "_law_many",Str.ofString "_law_deed",Str.ofString "_law_j"]),
 (15,Str.ofString "_law_deeds",Fdeeds,[Str.ofString "_law_name_here",Str.ofString "_law_cell_here",Str.ofString "_law_many",Str.ofString "_law_marks_here",Str.ofString "_law_deeds_here",Str.ofString "_law_own",Str.ofString "_law_k",Str.ofString "_law_known",Str.ofString "_law_left",Str.ofString "_law_at",Str.ofString "_law_line_here",Str.ofString "_law_mark",Str.ofString "_law_j"]),
 (16,Str.ofString "_law_changes",DK,[Str.ofString "_law_cells",Str.ofString "_law_most",Str.ofString "_law_found",Str.ofString "_law_taken",Str.ofString "_law_k",Str.ofString "_law_name_here",Str.ofString "_law_leans_here",Str.ofString "_law_marks_here",Str.ofString "_law_change",Str.ofString "_law_many"]),
 (70,Str.ofString "_law_deed_like",Fdeed_like,[Str.ofString "_law_found",Str.ofString "_law_due_here",Str.ofString "_law_mark",Str.ofString "_law_one"]),
 (71,Str.ofString "_law_change_like",Fd,[Str.ofString "_law_found",Str.ofString "_law_due_here",Str.ofString "_law_lean",Str.ofString "_law_one",Str.ofString "_law_other"]),
 (17,Str.ofString "_law_copy",Fcopy,[Str.ofString "_law_change"]),
 (83,Str.ofString "_law_shuffled",Fshuffled,[Str.ofString "_law_row",Str.ofString "_law_cell_here",Str.ofString "_law_left",Str.ofString "_law_found"]),
 (84,Str.ofString "_law_turned_leans",El,[Str.ofString "_law_changes_here",Str.ofString "_law_cell_here",Str.ofString "_law_at",Str.ofString "_law_lean",Str.ofString "_law_change",Str.ofString "_law_leans_here"]),
 (85,Str.ofString "_law_kept",Fkept,[Str.ofString "_law_changes_here",Str.ofString "_law_ahead",Str.ofString "_law_change",Str.ofString "_law_lean"]),
 (86,Str.ofString "_law_levels",Flevels,[Str.ofString "_law_changes_here",Str.ofString "_law_height",Str.ofString "_law_turn",Str.ofString "_law_change",Str.ofString "_law_lean"]),
 (87,Str.ofString "_law_due",Fdue,[Str.ofString "_law_changes_here",Str.ofString "_law_names",Str.ofString "_law_change",Str.ofString "_law_lean",Str.ofString "_law_height",Str.ofString "_law_order",Str.ofString "_law_one"]),
 (73,Str.ofString "_law_alone",Falone,[Str.ofString "_law_e",Str.ofString "_law_some",Str.ofString "_law_one"]),
 (88,Str.ofString "_law_answer",Fanswer,[Str.ofString "_law_changes_here",Str.ofString "_law_e"]),
 (33,Str.ofString "_law_wide",Fwide,[Str.ofString "_law_cells",Str.ofString "_law_flag",Str.ofString "_law_most",Str.ofString "_law_found",Str.ofString "_law_j"]),
 (89,Str.ofString "_law_right",Fright,[Str.ofString "_law_handed",Str.ofString "_law_found",Str.ofString "_law_order",Str.ofString "_law_again",Str.ofString "_law_change",Str.ofString "_law_one",Str.ofString "_law_other"]),
 (34,Str.ofString "law",Flaw,[Str.ofString "_law_script",Str.ofString "_law_changes_here",Str.ofString "_law_way",Str.ofString "_law_again",Str.ofString "_law_at",Str.ofString "_law_odd",Str.ofString "_law_handed",Str.ofString "_law_change",Str.ofString "_law_word",Str.ofString "_law_found",Str.ofString "_law_due_here",Str.ofString "_law_order",Str.ofString "_law_kept_here"])]
noncomputable def metP:List (Nat×Str×Fn×List Str):=[
 ]
noncomputable def glsP:List (Str×GV):=[
 (Str.ofString "keeps",.fn 80),
 (Str.ofString "ordered",.fn 8),
 (Str.ofString "heights_of",.fn 81),
 (Str.ofString "plain_order",.fn 82),
 (Str.ofString "_law_cell",.fn 9),
 (Str.ofString "_law_mixed",.fn 10),
 (Str.ofString "_law_name",.fn 11),
 (Str.ofString "_law_line",.fn 12),
 (Str.ofString "_law_leans",.fn 13),
 (Str.ofString "_law_marks",.fn 14),
 (Str.ofString "_law_deeds",.fn 15),
 (Str.ofString "_law_changes",.fn 16),
 (Str.ofString "_law_deed_like",.fn 70),
 (Str.ofString "_law_change_like",.fn 71),
 (Str.ofString "_law_copy",.fn 17),
 (Str.ofString "_law_shuffled",.fn 83),
 (Str.ofString "_law_turned_leans",.fn 84),
 (Str.ofString "_law_kept",.fn 85),
 (Str.ofString "_law_levels",.fn 86),
 (Str.ofString "_law_due",.fn 87),
 (Str.ofString "_law_alone",.fn 73),
 (Str.ofString "_law_answer",.fn 88),
 (Str.ofString "_law_wide",.fn 33),
 (Str.ofString "_law_right",.fn 89),
 (Str.ofString "BadChange",.exc 2),
 (Str.ofString "Missing",.exc 5),
 (Str.ofString "NoLine",.exc 6),
 (Str.ofString "NoNote",.exc 9),
 (Str.ofString "NotLeaned",.exc 3),
 (Str.ofString "Other",.exc 7),
 (Str.ofString "Ring",.exc 8),
 (Str.ofString "Twice",.exc 4),
 (Str.ofString "ValueError",.ty "ValueError"),
 (Str.ofString "WeaveError",.exc 1),
 (Str.ofString "all",.bi .all),
 (Str.ofString "bool",.ty "bool"),
 (Str.ofString "enumerate",.ty "enumerate"),
 (Str.ofString "int",.ty "int"),
 (Str.ofString "isinstance",.bi .isinstance),
 (Str.ofString "len",.bi .len),
 (Str.ofString "list",.ty "list"),
 (Str.ofString "max",.bi .max),
 (Str.ofString "min",.bi .min),
 (Str.ofString "range",.ty "range"),
 (Str.ofString "set",.ty "set"),
 (Str.ofString "sorted",.bi .sorted),
 (Str.ofString "str",.ty "str"),
 (Str.ofString "tuple",.ty "tuple"),
 (Str.ofString "zip",.ty "zip")]
noncomputable def excP:List (Nat×Str):=[(2,Str.ofString "BadChange"),(5,Str.ofString "Missing"),(6,Str.ofString "NoLine"),(9,Str.ofString "NoNote"),(3,Str.ofString "NotLeaned"),(7,Str.ofString "Other"),(8,Str.ofString "Ring"),(4,Str.ofString "Twice"),(1,Str.ofString "WeaveError")]
noncomputable def DD:List Nat:=[4,5,8]
@[irreducible] noncomputable def Pg (f:Nat):Option Fn:=((DB++metP).find? fun x=>Nat.beq x.1 f).map (·.2.2.1)
@[irreducible] noncomputable def glP (n:Str):Option GV:=glsP.lookup n
end Mine
namespace Mine
open PySem PySem.Calls
structure TopOk (T:Top):Prop where
 nolimit:T.h0.NoLimit
 seer:T.h0.NoSeer
 tree:T.prog.given.tree=none
 mods:∃ o,T.h0.get? sysModules=some o
 tf:∀ t q q',(t,q)∈T.tabs->(t,q')∈T.tabs->q=q'
noncomputable def A6:Bi->Value
 | .len=>.builtin "len"
 | .sorted=>.builtin "sorted"
 | .min=>.builtin "min"
 | .isinstance=>.builtin "isinstance"
 | .str=>.type "str"
 | .all=>.builtin "all"
 | .any=>.builtin "any"
 | .max=>.builtin "max"
 | .list=>.type "list"
 | .ord=>.builtin "ord"
 | .int=>.type "int"
 | .repr=>.builtin "repr"
noncomputable def GVal (T:Top):GV->Value->Prop
 | .fn f,x=>∃ a,T.fn f=some a/\x=.ref a
 | .bi b,x=>x=A6 b
 | .ty t,x=>x=.type t
 | .cst d,x=>Au T.h0.get? d x
 | .cls,x=>x=.ref T.cls
 | .exc k,x=>∃ a,T.exc k=some a/\x=.ref a
structure Ready (T:Top) (gl:Str->Option GV):Prop where
 ok:TopOk T
 fnob:∀ f a,T.fn f=some a->∃ o fd,T.h0.get? a=some o/\o.data=.func fd
 ns:∃ mg mb,T.h0.Ns mainGlobals mg/\T.h0.Ns builtinsNs mb/\(∀ n v,gl n=some v->∃ x,GVal T v x/\(mg n=some x\/(mg n=none/\mb n=some x))) ∧
  ∃ bm ob,mg "__builtins__" = some (.ref bm)/\bm≠builtinsNs/\T.h0.get? bm=some ob/\ob.cls=.type "module"/\ob.dict=some builtinsNs/\ob.data=.plain
structure FnIs (T:Top) (gl:Str->Option GV) (fn:Fn) (a:Addr) (fd:FuncData) (body:List Stmt) (o:Obj) (vars:List Str) (lam:Option (Addr×Str)):Prop where
 ob:T.h0.get? a=some o
 data:o.data=.func fd
 code:T.h0.CodeRec fd.code fd.qualname
 bd:fd.body=.stmts body
 clo:fd.closure=[]
 glob:fd.globals=mainGlobals
 blt:fd.builtins=builtinsNs
 kind:fd.scope.kind=.function
 gen:fd.scope.isGenerator=false
 cor:fd.scope.isCoroutine=false
 nd:vars.Nodup
 bind:∀ vals:List Value,vals.length=fn.np->bindArgs fd ⟨vals,[]⟩=pure ((vars.take fn.np).zip vals)
 par:∀ n,n∈vars.take fn.np->fd.scope.names.lookup n=some .local\/fd.scope.names.lookup n=some .cell
 nof:∀ p,p∈fd.scope.names->p.2≠.free
 is:IsSs fn.body ⟨vars,fd.scope.names,vars,gl,lam⟩ body
 lam:∀ t q,lam=some (t,q)->(t,q)∈T.tabs/\(fd.qualname++(".<locals>." : Str))++("<lambda>" : Str)=q/\∃ c,fd.code=.ref c/\W.CodeHd T.h0 c t
def FnOk (T:Top) (gl:Str->Option GV) (fn:Fn) (a:Addr):Prop:=∀ R_:Prop,(∀ fd body o vars lam,FnIs T gl fn a fd body o vars lam->R_)->R_
def ExcC (T:Top) (C:Addr):Prop:=∃ (x:Str) (bm:List Value) (newId B initId:String) (mg:Str->Option Value),PyProof.Rows.OwnCls x C bm newId mg T.h0/\ExcBaseFacts B newId initId bm
def XcV (T:Top) (k:Nat) (w:Value):Prop:=bif Nat.beq k 0 then w=.type "ValueError" else ∃ a,T.exc k=some a/\w=.ref a
noncomputable def Bm (c k:Nat):Bool:=Nat.beq c k||(Nat.beq k 1||Nat.beq k 0)
def IsiOk (T:Top):Prop:=∀ (c k:Nat) (D:Addr) (w:Value),c∈DD->k < 10->T.exc c=some D->XcV T k w->∀ (A:Around) (Q:Value->Shared->Prop) (E:Value->Shared->Prop) (s:Shared) (e:Addr) (o:Obj) (vs:Array Value),(∀ b o,T.h0.get? b=some o->s.heap.get? b=some o)->s.heap.get? e=some o->o.cls=.ref D->o.dict=none->o.data=.fields vs->(∀ tk,Q (.bool (Bm c k)) { s with toks:=tk })->wpAny (model T.prog T.w) A (call (.builtin "isinstance") [.ref e,w]) Q E s
def CatOk (T:Top):Prop:=∀ (c k:Nat) (D w:Addr),c∈DD->k∈DD->T.exc c=some D->T.exc k=some w->∀ (A:Around) (Q:Bool->Shared->Prop) (E:Value->Shared->Prop) (s:Shared) (e:Addr) (o:Obj) (vs:Array Value),(∀ b o,T.h0.get? b=some o->s.heap.get? b=some o)->s.heap.get? e=some o->o.cls=.ref D->o.dict=none->o.data=.fields vs->Q (Bm c k) s->wpAny (model T.prog T.w) A (excMatches (.ref e) (.ref w)) Q E s
structure ProgOk (T:Top):Prop extends Ready T glP where
 fns:∀ f fn a,Pg f=some fn->T.fn f=some a->FnOk T glP fn a
 excs:∀ k C,T.exc k=some C->ExcC T C
 isi:IsiOk T
 cat:CatOk T
structure Ar where
 T:Top
 fe:List Env
 A:Around
noncomputable abbrev Ar.wp {α:Type} (r:Ar) (m:Sem α) (Q:α->Shared->Prop) (s:Shared):Prop:=wpAny (model r.T.prog r.T.w) r.A m Q (fun _ _=>False) s
structure TopFr (e:Env):Prop where
 kind:e.scope.kind≠.module
 gen:e.scope.isGenerator=false
 cor:e.scope.isCoroutine=false
 blt:e.builtins=builtinsNs
 glob:e.globals=mainGlobals
inductive HExc (g:G) (hd:Option Value):Prop
 | mk (b:Addr) (o:Obj) (vs:Array Value) (h1:hd=some (.ref b)) (h2:g.fz b=some o) (h3:o.data=.fields vs/\vs[2]? = some .none):HExc g hd
def HOk (n:Nat) (g:G) (A:Around):Prop:=(A.handled=none\/(n < 3/\HExc g A.handled))/\A.guards=some []
theorem HOk.none {n:Nat} {g:G} {A:Around} (h:HOk n g A) (hn:3<=n):A.handled=none:=h.1.elim id fun q=>absurd q.1 (Nat.not_lt.mpr hn)
theorem HOk.less {n m:Nat} {g:G} {A:Around} (h:HOk n g A) (hm:m<=n):HOk m g A:=⟨h.1.imp id fun q=>⟨Nat.lt_of_le_of_lt hm q.1,q.2⟩,h.2⟩
def By (g:G) (fe:List Env):Prop:=∀ e,e∈fe->TopFr e/\∃ L o es ep,e.frame=some L/\g.hid L=some o/\o.cls=frC/\o.data=.dict es ep
theorem By.mono {g g':G} {fe:List Env} (x:By g fe) (h:∀ a,g'.hid a=g.hid a):By g' fe:=fun e he=>⟨(x e he).1,by obtain ⟨L,o,es,ep,h1,h2,h3⟩:=(x e he).2; exact ⟨L,o,es,ep,h1,(h L).trans h2,h3⟩⟩
theorem By.hideF {g:G} {fe:List Env} {a:Addr} {o:Obj} {es:Array DictEntry} {ep:Nat} (x:By g fe) (h:o.cls=frC) (d:o.data=.dict es ep):By (g.hide a o) fe:=fun e he=>⟨(x e he).1,by
 obtain ⟨L,o',es',ep',h1,h2,h3⟩:=(x e he).2
 by_cases q:L=a
 ·exact ⟨L,o,es,ep,h1,if_pos q,h,d⟩
 ·exact ⟨L,o',es',ep',h1,(if_neg q).trans h2,h3⟩⟩
structure At (n:Nat) (r:Ar) (g:G) (σ:Aa) (s:Shared):Prop where
 ok:ProgOk r.T
 frames:r.A.frames=some r.fe
 top:∃ e l,r.fe=e::l/\TopFr e
 depth:r.A.depth+n<=600
 units:r.A.units+100 * n<=9000
 hh:HOk n g r.A
 frs:By g r.fe
 has:Has r.T g σ s
theorem HOk.mono {n:Nat} {g g':G} {A:Around} (h:HOk n g A) (le:G.up g g'):HOk n g' A:=⟨h.1.imp id fun q=>⟨q.1,by obtain ⟨b,o,vs,h1,h2,h3⟩:=q.2; exact ⟨b,o,vs,h1,le.fz _ _ h2,h3⟩⟩,h.2⟩
section
variable {n m:Nat} {r:Ar} {g g':G} {σ σ':Aa} {s s':Shared} {own:List Addr}
theorem At.step (x:At n r g σ s) (le:G.le [] g g') (h:Has r.T g' σ' s'):At n r g' σ' s':=⟨x.ok,x.frames,x.top,x.depth,x.units,x.hh.mono le.toup,x.frs.mono fun a=>le.hid a List.not_mem_nil,h⟩
theorem At.stepF (x:At n r g σ s) (le:G.up g g') (f:By g' r.fe) (h:Has r.T g' σ' s'):At n r g' σ' s':=⟨x.ok,x.frames,x.top,x.depth,x.units,x.hh.mono le,f,h⟩
theorem At.less (x:At n r g σ s) (h:m<=n):At m r g σ s:=⟨x.ok,x.frames,x.top,Nat.le_trans (Nat.add_le_add_left h _) x.depth,Nat.le_trans (Nat.add_le_add_left (Nat.mul_le_mul_left _ h) _) x.units,x.hh.less h,x.frs,x.has⟩
theorem At.nolimit (x:At n r g σ s):s.heap.NoLimit:=x.ok.ok.nolimit.keeps fun b o e=>x.has.fz b o (x.has.base b o e)
theorem At.pylong (x:At n r g σ s):PylongRoom (model r.T.prog r.T.w) r.A s:=by
 obtain ⟨e,l,hf,t⟩:=x.top
 exact PylongRoom.of x.nolimit (Nat.lt_of_le_of_lt (Nat.add_le_add_right (Nat.le_trans (Nat.le_add_right _ _) x.depth) 100) (show 600+100 < 1000 by decide)) (SeerAt.of (x.ok.ok.seer.keeps fun b o e=>x.has.fz b o (x.has.base b o e)) x.ok.ok.tree (hf▸x.frames) t.gen t.cor t.blt t.glob)
theorem At.room (x:At n r g σ s):r.A.units+41 < cLine:=Nat.lt_of_le_of_lt (Nat.add_le_add_right (Nat.le_trans (Nat.le_add_right _ _) x.units) 41) (show 9000+41 < 9900 by decide)
end
noncomputable abbrev Ans (r:Ar) (g:G) (v:V) (σ':Aa) (x:Value) (s':Shared):Prop:=BI r.T [] g σ' (fun g'=>An r.T g' v x) s'
def Pr1 (m:Value->Sem Value) (x:V) (σ:Aa) (v:V) (σ':Aa) (k:Nat:=0):Prop :=
 ∀ (r:Ar) (g:G) (s:Shared) (X:Value),At k r g σ s->An r.T g x X->r.wp (m X) (Ans r g v σ') s
def Pr2 (m:Value->Value->Sem Value) (x y:V) (σ:Aa) (v:V) (σ':Aa) (k:Nat:=0):Prop :=
 ∀ (r:Ar) (g:G) (s:Shared) (X Y:Value),At k r g σ s->An r.T g x X->An r.T g y Y->r.wp (m X Y) (Ans r g v σ') s
def PrL (m:List Value->Sem Value) (xs:List V) (σ:Aa) (v:V) (σ':Aa) (k:Nat:=0):Prop :=
 ∀ (r:Ar) (g:G) (s:Shared) (Xs:List Value),At k r g σ s->Aj r.T g xs Xs->r.wp (m Xs) (Ans r g v σ') s
theorem Pr1.up {m:Value->Sem Value} {x v:V} {σ σ':Aa} {k:Nat} (h:Pr1 m x σ v σ'):Pr1 m x σ v σ' k:=fun r g s X A=>h r g s X (A.less (Nat.zero_le _))
theorem Pr2.up {m:Value->Value->Sem Value} {x y v:V} {σ σ':Aa} {k:Nat} (h:Pr2 m x y σ v σ'):Pr2 m x y σ v σ' k:=fun r g s X Y A=>h r g s X Y (A.less (Nat.zero_le _))
def FA (n f:Nat) (xs:List V) (σ:Aa) (v:V) (σ':Aa):Prop :=
 ∀ (r:Ar) (g:G) (s:Shared) (a:Addr) (Xs:List Value),r.T.fn f=some a->At n r g σ s->Aj r.T g xs Xs->r.wp (call (.ref a) Xs) (Ans r g v σ') s
noncomputable abbrev FN (n f:Nat) (xs:List V) (σ:Aa) (v:V) (σ':Aa):Prop:=FA (n+3) f xs σ v σ'
def NsF (f:Addr->Option Obj) (a:Addr) (m:Str->Option Value):Prop:=∃ o es ep,f a=some o/\o.data=.dict es ep/\StrKeys es/\∀ name,nsFind es name=m name
def Em (f:Addr->Option Obj) (c:Addr) (v:Option Value):Prop:=∃ o,f c=some o/\o.data=.cell v
structure Cx extends Ar where
 K:Kx
 env:Env
 own:List Addr
structure CxOk (n:Nat) (c:Cx):Prop where
 rd:Ready c.T c.K.gl
 names:c.env.scope.names=c.K.names
 kind:c.env.scope.kind=.function
 glob:c.env.globals=mainGlobals
 blt:c.env.builtins=builtinsNs
 hfr:∃ e l,c.fe=e::l/\c.env.frame=e.frame
 cinj:∀ m m' a,c.env.cells.lookup m=some a->c.env.cells.lookup m'=some a->m=m'
 nd:c.K.vars.Nodup
 oloc:c.env.locals∈c.own
 ocell:∀ m,m∈c.K.wr->∀ a,c.env.kindOf m=some .cell->c.env.cells.lookup m=some a->a∈c.own
 lamc:∀ t q,c.K.lam=some (t,q)->1<=n/\(t,q)∈c.T.tabs/\c.env.qual++("<lambda>" : Str)=q/\∃ a,c.env.code=.ref a/\W.CodeHd c.T.h0 a t
structure Loc (c:Cx) (ρ:Af) (g:G):Prop where
 ns:∀ R_:Prop,(∀ m,NsF g.hid c.env.locals m->(∀ (i:Nat) (nm:Str) (v:V),c.K.vars[i]? = some nm->ρ[i]? = some (some v)->c.env.kindOf nm=some .local->∃ x,m nm=some x/\An c.T g v x)->R_)->R_
 ce:∀ nm,c.env.kindOf nm=some .cell\/c.env.kindOf nm=some .free->∀ R_:Prop,(∀ a u,c.env.cells.lookup nm=some a->Em g.hid a u->(∀ (i:Nat) (v:V),c.K.vars[i]? = some nm->ρ[i]? = some (some v)->∃ x,u=some x/\An c.T g v x)->R_)->R_
 ow:∀ a,a∈c.own->g.hid a≠none
structure Inv (n:Nat) (c:Cx) (ρ:Af) (g:G) (σ:Aa) (s:Shared):Prop extends At n c.toAr g σ s where
 cx:CxOk n c
 loc:Loc c ρ g
def SE (n:Nat) (e:E) (ρ:Af) (σ:Aa) (v:V) (σ':Aa):Prop :=
 ∀ (c:Cx) (g:G) (s:Shared) (ex:Expr),IsE e c.K ex->Inv n c ρ g σ s->c.wp (eval ex c.env) (Ans c.toAr g v σ') s
def ST (n:Nat) (e:E) (ρ:Af) (σ:Aa) (b:Bool) (σ':Aa):Prop :=
 ∀ (c:Cx) (g:G) (s:Shared) (ex:Expr),IsE e c.K ex->Inv n c ρ g σ s->c.wp (isTrue ex c.env (eval ex c.env)) (fun x s'=>BI c.T [] g σ' (fun _=>x=b) s') s
def SEs (n:Nat) (e:E) (ρ:Af) (σ:Aa) (vs:List V) (σ':Aa):Prop :=
 ∀ (c:Cx) (g:G) (s:Shared) (xs:List Expr) (pos:Pos),DY e c.K xs->Inv n c ρ g σ s->c.wp (spliced (backTo pos (starEach xs c.env))) (fun xs s'=>BI c.T [] g σ' (fun g'=>Aj c.T g' vs xs) s') s
set_option genCtorIdx true in
inductive Fl where
 | next (ρ:Af)
 | ret (v:V)
def AO (n:Nat) (c:Cx) (g:G) (Q:Fl->Aa->Prop) (f:Flow) (s':Shared):Prop :=
 ∀ R_:Flow->Prop,(∀ (ρ:Af) (σ':Aa) (g':G),Q (.next ρ) σ'->G.le c.own g g'->Inv n c ρ g' σ' s'->R_ .next) ->
  (∀ (v:V) (x:Value) (σ':Aa) (g':G),Q (.ret v) σ'->G.le c.own g g'->Has c.T g' σ' s'->(∀ a,a∈c.own->g'.hid a≠none)->An c.T g' v x->R_ (.ret x))->R_ f
def SS (n:Nat) (st:S) (ρ:Af) (σ:Aa) (Q:Fl->Aa->Prop):Prop :=
 ∀ (c:Cx) (g:G) (s:Shared) (x:Stmt),IsS st c.K x->Inv n c ρ g σ s->c.wp (exec x c.env) (AO n c g Q) s
def SSs (n:Nat) (st:S) (ρ:Af) (σ:Aa) (Q:Fl->Aa->Prop):Prop :=
 ∀ (c:Cx) (g:G) (s:Shared) (xs:List Stmt),IsSs st c.K xs->Inv n c ρ g σ s->c.wp (execs xs c.env) (AO n c g Q) s
section
variable {n:Nat} {c:Cx} {ρ ρ':Af} {g g':G} {σ σ':Aa} {s s':Shared}
theorem NsF.to {f f':Addr->Option Obj} {a:Addr} {m:Str->Option Value} (x:NsF f a m) (h:∀ o,f a=some o->f' a=some o):NsF f' a m:=x.imp fun o x=>x.imp fun _ x=>x.imp fun _ x=>⟨h o x.1,x.2⟩
theorem Em.to {f f':Addr->Option Obj} {a:Addr} {u:Option Value} (x:Em f a u) (h:∀ o,f a=some o->f' a=some o):Em f' a u:=x.imp fun o x=>⟨h o x.1,x.2⟩
theorem Has.ns {T:Top} {a:Addr} {m:Str->Option Value} (H:Has T g σ s) (h:NsF g.hid a m):NsF s.heap.get? a m:=by
 obtain ⟨o,es,ep,e,d,k⟩:=h
 obtain ⟨o',e',d',_⟩:=H.hd a o e
 exact ⟨o',es,ep,e',d'.trans d,k⟩
theorem Has.cell {T:Top} {a:Addr} {u:Option Value} (H:Has T g σ s) (h:Em g.hid a u):Em s.heap.get? a u:=by
 obtain ⟨o,e,d⟩:=h
 obtain ⟨o',e',d',_⟩:=H.hd a o e
 exact ⟨o',e',d'.trans d⟩
theorem By.hideC {fe:List Env} {a:Addr} {o:Obj} {u:Option Value} (x:By g fe) (h:Em g.hid a u):By (g.hide a o) fe:=fun e he=>⟨(x e he).1,by
 obtain ⟨L,o',es',ep',h1,h2,h3,h4⟩:=(x e he).2
 obtain ⟨o2,e2,d2⟩:=h
 refine ⟨L,o',es',ep',h1,(if_neg fun q=>?_).trans h2,h3,h4⟩
 rw [q,e2] at h2
 rw [Option.some.inj h2,h4] at d2
 cases d2⟩
theorem BD {T:Top} {v:V} {o:Option Value} (up:G.up g g') (h:∃ x,o=some x/\An T g v x):∃ x,o=some x/\An T g' v x:=h.imp fun _ h=>⟨h.1,An.mono up _ _ h.2⟩
theorem Loc.step (x:Loc c ρ g) (up:G.up g g') (hd:∀ a,g'.hid a=g.hid a):Loc c ρ g' :=
 ⟨fun R_ k=>x.ns R_ fun m h1 h2=>k m (h1.to fun o e=>(hd _).trans e) fun i nm v e1 e2 e3=>BD up (h2 i nm v e1 e2 e3),
  fun nm hk R_ k=>x.ce nm hk R_ fun a u h1 h2 h3=>k a u h1 (h2.to fun o e=>(hd _).trans e) fun i v e1 e2=>BD up (h3 i v e1 e2),fun a h=>hd a▸x.ow a h⟩
theorem Inv.step (x:Inv n c ρ g σ s) (le:G.le [] g g') (h:Has c.T g' σ' s'):Inv n c ρ g' σ' s':=⟨x.toAt.step le h,x.cx,x.loc.step le.toup fun a=>le.hid a List.not_mem_nil⟩
theorem Inv.at0 (x:Inv n c ρ g σ s):At 0 c.toAr g σ s:=x.toAt.less (Nat.zero_le _)
theorem BI.refl {T:Top} {own:List Addr} {R:G->Prop} (h:Has T g σ s) (r:R g):BI T own g σ R s:=.mk g (.refl _ _) h r
theorem Bn {α β:Type} {r:Ar} {g:G} {σ₁:Aa} {s:Shared} {R:α->G->Prop} {m:Sem α} {k:α->Sem β} {Q:β->Shared->Prop} (h:r.wp m (fun x s'=>BI r.T [] g σ₁ (R x) s') s)
 (hk:∀ x g₁ s₁,G.le [] g g₁->Has r.T g₁ σ₁ s₁->R x g₁->r.wp (k x) Q s₁):r.wp (m>>=k) Q s :=
 wpAny_bind (wpAny_mono h (fun x s' p=>p _ fun g' le hs hr=>hk x g' s' le hs hr) fun _ _ h=>h)
theorem Bs {α:Type} {r:Ar} {g g₁:G} {σ':Aa} {s:Shared} {R:α->G->Prop} {m:Sem α} (le:G.le [] g g₁) (h:r.wp m (fun x s'=>BI r.T [] g₁ σ' (R x) s') s):r.wp m (fun x s'=>BI r.T [] g σ' (R x) s') s :=
 wpAny_mono h (fun _ _ p=>p.after le) fun _ _ h=>h
theorem ans_tok {r:Ar} {m:Sem Value} {v:V} (a:Has r.T g σ s) (h:∀ Q:Value->Shared->Prop,(∀ x k,An r.T g v x->Q x { s with toks:=k })->wpAny (model r.T.prog r.T.w) r.A m Q (fun _ _=>False) s):r.wp m (Ans r g v σ) s :=
 h _ fun x k rx=>.refl a.tok rx
end
end Mine
namespace Mine
open PySem PySem.Calls
noncomputable abbrev vi (i:Int):V:=.d (.int i)
noncomputable abbrev vb (b:Bool):V:=.d (.bool b)
def Tr (σ:Aa) (v:V) (b:Bool):Prop:=∀ (r:Ar) (g:G) (s:Shared) (X:Value),At 0 r g σ s->An r.T g v X->r.wp (truthy X) (fun x s'=>BI r.T [] g σ (fun _=>x=b) s') s
section
variable {n:Nat} {c:Cx} {ρ:Af} {g g':G} {σ σ₁ σ₂ σ3:Aa} {s s':Shared} {e a b:E} {x y v:V}
theorem A7 {env:Env} {K:Kx} (h:env.scope.names=K.names) (nm:Str):env.kindOf nm=K.names.lookup nm:=by unfold Env.kindOf; rw [h]
theorem isVar_kind {env:Env} {K:Kx} (h:env.scope.names=K.names) {nm:Str} (hv:K.isVar nm=true) :
 (env.kindOf nm=some .local\/env.kindOf nm=some .cell\/env.kindOf nm=some .free)/\(nm == ("__debug__" : Str))=false/\(nm == ("__classdict__" : Str))=false:=by
 rw [A7 h]
 unfold Kx.isVar at hv
 simp only [Bool.and_eq_true,Bool.not_eq_true',Bool.or_eq_true] at hv
 exact ⟨hv.1.1.imp Kx.kd_eq (Or.imp Kx.kd_eq Kx.kd_eq),hv.1.2,hv.2⟩
theorem isGl_kind {env:Env} {K:Kx} (h:env.scope.names=K.names) {nm:Str} (hv:K.isGl nm=true):env.kindOf nm=some .globalImplicit/\(nm == ("__debug__" : Str))=false:=by
 rw [A7 h]
 unfold Kx.isGl at hv
 simp only [Bool.and_eq_true,Bool.not_eq_true'] at hv
 exact ⟨Kx.kd_eq hv.1,hv.2⟩
theorem Inv.base (I:Inv n c ρ g σ s):∀ b o,c.T.h0.get? b=some o->s.heap.get? b=some o:=fun b o e=>I.has.fz b o (I.has.base b o e)
theorem Bp {A':Around} {p:Pos} {nm:Str} {v:GV} {Q:Value->Shared->Prop} {E:Value->Shared->Prop} (I:Inv n c ρ g σ s) (hv:c.K.to v nm) (h:∀ x,GVal c.T v x->Q x s):wpAny (model c.T.prog c.T.w) A' (eval (.Name nm p) c.env) Q E s:=by
 obtain ⟨mg,mb,hg,hb,ht,_⟩:=I.cx.rd.ns
 obtain ⟨hk,hd⟩:=isGl_kind I.cx.names hv.1
 have hg':s.heap.Ns c.env.globals mg:=by rw [I.cx.glob]; exact hg.keeps I.base
 obtain ⟨x,hx,h1⟩:=ht nm v hv.2
 refine Name_function_global I.cx.kind hk ?_ hd
 rcases h1 with h1 | ⟨h1,h2⟩
 ·exact loadGlobal_global hg' h1 (h x hx)
 ·exact loadGlobal_builtin hg' h1 (by rw [I.cx.blt]; exact hb.keeps I.base) h2 (h x hx)
theorem cst_is {x:PyData} {r:Ar} {m:Nat} {p:Pos} {env:Env} (a:Has r.T g σ s) (hc:cOk x=true):r.wp (eval (.Constant (toC x) m p) env) (Ans r g (.d x) σ) s:=by
 refine ans_tok a fun Q h=>?_
 cases x with
 | none=>exact wpAny_Constant_none (h _ s.toks rfl)
 | bool b=>exact wpAny_Constant_bool (h _ s.toks rfl)
 | int b=>exact wpAny_Constant_int (h _ _ ⟨s.toks,rfl⟩)
 | str b=>exact wpAny_Constant_str (h _ _ ⟨s.toks,rfl,of_decide_eq_true hc⟩)
 | _=>exact ff_ hc
theorem SE.cst (x:PyData):SE n (.cst x) ρ σ (.d x) σ:=fun c g s ex hc I=>hc (fun ex=>c.wp (eval ex c.env) (Ans c.toAr g (.d x) σ) s) fun m p hc=>cst_is I.has hc
theorem SE.var {i:Nat} (hv:ρ[i]? = some (some v)):SE n (.var i) ρ σ v σ:=by
 refine fun c g s ex hc I=>hc (fun ex=>c.wp (eval ex c.env) (Ans c.toAr g v σ) s) fun nm p h=>?_
 have hq:=isVar_kind I.cx.names h.1
 refine wpAny_Name ?_ hq.2.1
 rcases hq.1 with hk | hk
 ·refine I.loc.ns _ fun m hm hs=>?_
  obtain ⟨x,e,r⟩:=hs i nm v h.2 hv hk
  exact wpAny_loadName_local I.cx.kind hk (I.has.ns hm) e (.refl I.has r)
 ·refine I.loc.ce nm hk _ fun a u e hu hs=>?_
  obtain ⟨x,rfl,r⟩:=hs i v h.2 hv
  rcases hk with hk | hk
  ·exact wpAny_loadName_cell I.cx.kind hk e (I.has.cell hu) (.refl I.has r)
  ·exact wpAny_loadName_free I.cx.kind hk e (I.has.cell hu) (.refl I.has r) hq.2.2
theorem SE.ty {t:String}:SE n (.ty t) ρ σ (.ty t) σ:=fun c g s ex hc I=>hc (fun ex=>c.wp (eval ex c.env) (Ans c.toAr g (.ty t) σ) s) fun nm p hc=>Bp I hc fun x r=>.refl I.has r
theorem SE.glb {x:PyData}:SE n (.glb x) ρ σ (.d x) σ:=fun c g s ex hc I=>hc (fun ex=>c.wp (eval ex c.env) (Ans c.toAr g (.d x) σ) s) fun nm p hc=>Bp I hc fun x r=>.refl I.has (Au.mono I.has.base _ _ r)
theorem AL {α:Type} {r:Ar} {m m':Sem α} {Q:α->Shared->Prop} (e:m=m') (h:r.wp m' Q s):r.wp m Q s:=e▸h
theorem Bz {α:Type} {ex:Expr} {Q:α->Shared->Prop} {k:Value->Sem α} (ha:SE n a ρ σ x σ₁) (h1:IsE a c.K ex) (I:Inv n c ρ g σ s) (hk:∀ X g₁ s₁,G.le [] g g₁->Inv n c ρ g₁ σ₁ s₁->An c.T g₁ x X->c.wp (k X) Q s₁):c.wp (eval ex c.env>>=k) Q s :=
 Bn (ha c g s ex h1 I) fun X g₁ s₁ le a r=>hk X g₁ s₁ le (I.step le a) r
theorem Dw {α:Type} {l r:Expr} {Q:α->Shared->Prop} {k:Value->Value->Sem α} (ha:SE n a ρ σ x σ₁) (hb:SE n b ρ σ₁ y σ₂) (h1:IsE a c.K l) (h2:IsE b c.K r) (I:Inv n c ρ g σ s)
 (hk:∀ X Y g₁ s₁,G.le [] g g₁->Inv n c ρ g₁ σ₂ s₁->An c.T g₁ x X->An c.T g₁ y Y->c.wp (k X Y) Q s₁):c.wp (eval l c.env>>=fun X=>holding [X] (eval r c.env)>>=fun Y=>k X Y) Q s :=
 Bz ha h1 I fun X g₁ s₁ le1 I1 r1=>Bn (wpAny_holding (hb c g₁ s₁ r h2 I1)) fun Y g2 s2 le2 a2 r2=>hk X Y g2 s2 (le1.trans le2) (I1.step le2 a2) (An.mono le2.toup _ _ r1) r2
theorem SE.bin {op:Operator} (ha:SE n a ρ σ x σ₁) (hb:SE n b ρ σ₁ y σ₂) (h:Pr2 (binaryOp op) x y σ₂ v σ3):SE n (.bin op a b) ρ σ v σ3:=by
 refine fun c g s ex hc I=>hc (fun ex=>c.wp (eval ex c.env) (Ans c.toAr g v σ3) s) fun l r p h1 h2=>?_
 exact AL (arm_eval_BinOp ..) (Dw ha hb h1 h2 I fun X Y g2 s2 le I2 r1 r2=>wpAny_bind (wpAny_standAt (wpAny_operating (Bs le (h c.toAr g2 s2 X Y I2.at0 r1 r2)))))
theorem SE.neg {i:Int} (ha:SE n a ρ σ (vi i) σ₁):SE n (.neg a) ρ σ (vi (-i)) σ₁:=by
 refine fun c g s ex hc I=>hc (fun ex=>c.wp (eval ex c.env) (Ans c.toAr g (vi (-i)) σ₁) s) fun z p hc=>?_
 refine AL (arm_eval_UnaryOp ..) (Bz ha hc I fun X g₁ s₁ le I1 r1=>wpAny_bind (wpAny_standAt (wpAny_holding ?_)))
 obtain ⟨t,rfl⟩:=r1
 exact Bs le (ans_tok (r:=c.toAr) I1.has fun Q h=>P.neg_int (h _ _ ⟨_,rfl⟩))
theorem not_is {X:Value}:unaryOp .Not X=holding [X] (truthy X>>=fun b=>pure (Value.bool (!b))):=by unfold unaryOp; rfl
theorem SE.not {t:Bool} (ha:SE n a ρ σ x σ₁) (ht:Tr σ₁ x t):SE n (.not a) ρ σ (vb !t) σ₁:=by
 refine fun c g s ex hc I=>hc (fun ex=>c.wp (eval ex c.env) (Ans c.toAr g (vb !t) σ₁) s) fun z p hc=>?_
 exact AL (arm_eval_UnaryOp ..) (Bz ha hc I fun X g₁ s₁ le1 I1 r1=>wpAny_bind (wpAny_standAt (wpAny_holding (AL not_is (wpAny_holding (Bn (ht c.toAr g₁ s₁ X I1.at0 r1) fun b g2 s2 le2 a2 r2=>wpAny_pure (.mk g2 (le1.trans le2) a2 (congrArg (fun b=>Value.bool (!b)) r2))))))))
theorem ST.not {t:Bool} (ha:ST n a ρ σ t σ₁):ST n (.not a) ρ σ (!t) σ₁:=by
 exact fun c g s ex hc I=>hc (fun ex=>c.wp (isTrue ex c.env (eval ex c.env)) (fun x s'=>BI c.T [] g σ₁ (fun _=>x = !t) s') s) fun z p hc =>
  AL (arm_isTrue_UnaryOp ..) (Bn (ha c g s z hc I) fun b g₁ s₁ le1 a₁ r1=>wpAny_pure (.mk g₁ le1 a₁ (congrArg Bool.not r1)))
structure Plain (x:Expr):Prop where
 star:∀ env r,starEach (x::r) env=(false,eval x env)::starEach r env
 marks:∀ op t,markedBehindIn op x t=t
 fold:∀ env y,foldedSetIterable x env y=pure y
theorem Bj (e:E) {K:Kx} {ex:Expr} (h:IsE e K ex):Plain ex:=by
 cases e with
 | nil=>exact h.elim
 | cons _ _=>exact h.elim
 | _=>exact h Plain (by intros; exact ⟨fun _ _=>rfl,fun _ _=>rfl,fun _ _=>rfl⟩)
theorem Dz (e:E) {K:Kx} {ex:Expr} (hp:Br e=false) (h:IsE e K ex) (t:Option Expr) (l:Nat) (env:Env):swapsWith ex t l env=pure false:=by
 cases e with
 | nil=>exact h.elim
 | cons _ _=>exact h.elim
 | comp _ _ _ _=>exact tt_ hp
 | _=>exact h (fun ex=>swapsWith ex t l env=pure false) (by intros; rfl)
theorem tr_bool {t:Bool}:Tr σ (vb t) t:=fun r g s X A h=>by
 obtain rfl:X=.bool t:=h
 exact wpAny_truthy_bool (.refl A.has rfl)
theorem cmp_arm {l r:Expr} {op:CmpOp} {p:Pos} {env:Env} (h:Plain r):eval (.Compare l [op] [r] p) env=(eval l env>>=fun X=>holding [X] (eval r env)>>=fun Y=>standAt p>>=fun _=>operate [X,Y] (compareOp op X Y)):=by
 rw [arm_eval_Compare]
 show (eval l env>>=fun X=>holding [X] (markedBehindIn op r (eval r env))>>=_)=_
 rw [h.marks]
theorem cmpT_arm {l r:Expr} {op:CmpOp} {p:Pos} {env:Env} {w:Sem Value} (h:Plain r):isTrue (.Compare l [op] [r] p) env w=(eval l env>>=fun X=>holding [X] (eval r env)>>=fun Y=>standAt p>>=fun _=>operate [X,Y] (compareOp op X Y)>>=fun z=>holding [z] (truthy z)):=by
 rw [arm_isTrue_Compare]
 show (eval l env>>=fun X=>holding [X] (markedBehindIn op r (eval r env))>>=_)=_
 rw [h.marks]
theorem SE.cmp {op:CmpOp} (ha:SE n a ρ σ x σ₁) (hb:SE n b ρ σ₁ y σ₂) (h:Pr2 (compareOp op) x y σ₂ v σ3):SE n (.cmp op a b) ρ σ v σ3:=by
 refine fun c g s ex hc I=>hc (fun ex=>c.wp (eval ex c.env) (Ans c.toAr g v σ3) s) fun l r p h1 h2=>?_
 exact AL (cmp_arm (Bj b h2)) (Dw ha hb h1 h2 I fun X Y g2 s2 le I2 r1 r2=>wpAny_bind (wpAny_standAt (wpAny_operating (Bs le (h c.toAr g2 s2 X Y I2.at0 r1 r2)))))
theorem ST.cmp {op:CmpOp} {t:Bool} (ha:SE n a ρ σ x σ₁) (hb:SE n b ρ σ₁ y σ₂) (h:Pr2 (compareOp op) x y σ₂ (vb t) σ3):ST n (.cmp op a b) ρ σ t σ3:=by
 refine fun c g s ex hc I=>hc (fun ex=>c.wp (isTrue ex c.env (eval ex c.env)) (fun x s'=>BI c.T [] g σ3 (fun _=>x=t) s') s) fun l r p h1 h2=>?_
 exact AL (cmpT_arm (Bj b h2)) (Dw ha hb h1 h2 I fun X Y g2 s2 le2 I2 r1 r2=>wpAny_bind (wpAny_standAt (Bn (r:=c.toAr) (wpAny_operating (h c.toAr g2 s2 X Y I2.at0 r1 r2)) fun z g3 s3 le3 a3 r3=>wpAny_holding
  (Bs (le2.trans le3) (tr_bool c.toAr g3 s3 z (I2.step le3 a3).at0 r3)))))
theorem ST.plain {t:Bool} (hp:∀ {K:Kx} {ex:Expr},IsE e K ex->∀ env w,isTrue ex env w=(w>>=fun v=>standAt ex.pos>>=fun _=>holding [v] (truthy v))) (h:SE n e ρ σ x σ₁) (ht:Tr σ₁ x t):ST n e ρ σ t σ₁:=by
 intro c g s ex hc I
 exact AL (hp hc c.env _) (Bz h hc I fun X g₁ s₁ le I1 r1=>wpAny_bind (wpAny_standAt (wpAny_holding (Bs le (ht c.toAr g₁ s₁ X I1.at0 r1)))))
theorem SEs.nil:SEs n .nil ρ σ [] σ:=by
 intro c g s xs pos hc I
 obtain rfl:xs=[]:=hc
 exact spliced_nil (.refl I.has trivial)
theorem SEs.cons {xs:List V} (h1:SE n a ρ σ x σ₁) (h2:SEs n b ρ σ₁ xs σ₂):SEs n (.cons a b) ρ σ (x::xs) σ₂:=by
 refine fun c g s l pos hc I=>hc (fun l=>c.wp (spliced (backTo pos (starEach l c.env))) (fun Xs s'=>BI c.T [] g σ₂ (fun g'=>Aj c.T g' (x::xs) Xs) s') s) fun z l c1 c3=>?_
 rw [(Bj a c1).star]
 refine spliced_cons (wpAny_mono (h1 c g s z c1 I) (fun X s₁ p=>p _ fun g₁ le1 a₁ r1=>?_) fun _ _ h=>h)
 exact wpAny_mono (h2 c g₁ s₁ l pos c3 (I.step le1 a₁)) (fun Xs s2 p=>p _ fun g2 le2 a2 r2=>.mk g2 (le1.trans le2) a2 ⟨An.mono le2.toup _ _ r1,r2⟩) fun _ _ h=>h
def SB (n:Nat) (op:BoolOp) (e:E) (ρ:Af) (σ:Aa) (v:V) (σ':Aa):Prop :=
 ∀ (c:Cx) (g:G) (s:Shared) (xs:List Expr) (pos:Pos),DY e c.K xs->Inv n c ρ g σ s->c.wp (boolOp pos op (evalEach xs c.env)) (Ans c.toAr g v σ') s
def SBt (n:Nat) (op:BoolOp) (e:E) (ρ:Af) (σ:Aa) (b:Bool) (σ':Aa):Prop :=
 ∀ (c:Cx) (g:G) (s:Shared) (xs:List Expr),DY e c.K xs->Inv n c ρ g σ s->c.wp (allTrue op xs c.env) (fun x s'=>BI c.T [] g σ' (fun _=>x=b) s') s
noncomputable def Co (op:BoolOp):Bool:=match op with | .And=>false | .Or=>true
variable {op:BoolOp} {r:E}
theorem SB.one (h:SE n a ρ σ x σ₁):SB n op (.cons a .nil) ρ σ x σ₁ :=
 fun c g s xs pos hc I=>hc (fun xs=>c.wp (boolOp pos op (evalEach xs c.env)) (Ans c.toAr g x σ₁) s) fun z l c1 c3=>by
  obtain rfl:l=[]:=c3
  exact h c g s z c1 I
set_option backward.match.sparseCases true in
theorem boolOp_cons (pos:Pos) (op:BoolOp) (x y:Sem Value) (r:List (Sem Value)):boolOp pos op (x::y::r)=(x>>=fun v=>standAt pos>>=fun _=>holding [v] (truthy v)>>=fun t=>if t=Co op then pure v else boolOp pos op (y::r)):=by
 rw [boolOp]
 ·congr 1; funext v; congr 1; funext _; congr 1; funext t
  cases op <;> cases t <;> rfl
 ·intro q; exact cons_ne q
theorem row_cons (r:E) {K:Kx} {l:List Expr} (hn:Bq r=false) (h:DY r K l):∃ y l',l=y::l':=by
 cases r with
 | nil=>exact tt_ hn
 | cons a b=>exact h (fun l=>∃ y l',l=y::l') fun y l _ _=>⟨y,l,rfl⟩
 | _=>exact h.elim
theorem SB.more {t:Bool} (hr:Bq r=false) (h:SE n a ρ σ x σ₁) (ht:Tr σ₁ x t) (hs:t=Co op->v=x/\σ₂=σ₁) (hg:t≠Co op->SB n op r ρ σ₁ v σ₂):SB n op (.cons a r) ρ σ v σ₂:=by
 refine fun c g s xs pos hc I=>hc (fun xs=>c.wp (boolOp pos op (evalEach xs c.env)) (Ans c.toAr g v σ₂) s) fun z l c1 hl=>?_
 have k:c.wp (eval z c.env>>=fun v=>standAt pos>>=fun _=>holding [v] (truthy v)>>=fun t=>if t=Co op then pure v else boolOp pos op (evalEach l c.env)) (Ans c.toAr g v σ₂) s:=by
  refine Bz h c1 I fun X g₁ s₁ le1 I1 r1=>wpAny_bind (wpAny_standAt (Bn (wpAny_holding (ht c.toAr g₁ s₁ X I1.at0 r1)) fun b' g2 s2 le2 a2 r2=>?_))
  obtain rfl:b'=t:=r2
  by_cases q:b'=Co op
  ·exact AL (if_pos q) (wpAny_pure (.mk g2 (le1.trans le2) ((hs q).2▸a2) ((hs q).1▸An.mono le2.toup _ _ r1)))
  ·exact AL (if_neg q) (Bs (le1.trans le2) (hg q c g2 s2 _ pos hl (I1.step le2 a2)))
 obtain ⟨y,l',rfl⟩:=row_cons r hr hl
 exact AL (boolOp_cons ..) k
theorem SE.bop (h:SB n op e ρ σ v σ₁):SE n (.bop op e) ρ σ v σ₁:=fun c g s ex hc I=>hc (fun ex=>c.wp (eval ex c.env) (Ans c.toAr g v σ₁) s) fun vs p h1=>AL (arm_eval_BoolOp ..) (h c g s vs p h1 I)
theorem allTrue_arm {op:BoolOp} {z:Expr} {l:List Expr} {env:Env}:allTrue op (z::l) env=(isTrue z env (eval z env)>>=fun t=>if t=Co op then pure t else allTrue op l env):=by
 rw [arm_allTrue_cons]
 congr 1; funext t
 cases op <;> cases t <;> rfl
theorem SBt.nil:SBt n op .nil ρ σ (!Co op) σ:=by
 intro c g s xs hc I
 obtain rfl:xs=[]:=hc
 exact AL (by cases op <;> rfl) (wpAny_pure (.refl I.has rfl))
theorem SBt.cons {t q:Bool} (h:ST n a ρ σ t σ₁) (hs:t=Co op->q=t/\σ₂=σ₁) (hg:t≠Co op->SBt n op r ρ σ₁ q σ₂):SBt n op (.cons a r) ρ σ q σ₂:=by
 refine fun c g s xs hc I=>hc (fun xs=>c.wp (allTrue op xs c.env) (fun x s'=>BI c.T [] g σ₂ (fun _=>x=q) s') s) fun z l c1 hl=>?_
 refine AL allTrue_arm (Bn (h c g s z c1 I) fun b' g₁ s₁ le1 a₁ r1=>?_)
 obtain rfl:b'=t:=r1
 by_cases e:b'=Co op
 ·exact AL (if_pos e) (wpAny_pure (.mk g₁ le1 ((hs e).2▸a₁) (hs e).1.symm))
 ·exact AL (if_neg e) (Bs le1 (hg e c g₁ s₁ l hl (I.step le1 a₁)))
theorem ST.bop {t:Bool} (h:SBt n op e ρ σ t σ₁):ST n (.bop op e) ρ σ t σ₁ :=
 fun c g s ex hc I=>hc (fun ex=>c.wp (isTrue ex c.env (eval ex c.env)) (fun x s'=>BI c.T [] g σ₁ (fun _=>x=t) s') s) fun vs p h1=>AL (arm_isTrue_BoolOp ..) (h c g s vs h1 I)
end
end Mine
namespace Mine
open PySem PySem.Calls PySem.SeqAt
theorem Dl {n:Nat} (h:n<=line):n < 9223372036854775808:=Nat.lt_of_le_of_lt h (by decide)
noncomputable def eqLeaf (a b:PyData):Option Bool :=
 match a with
 | .none=>(match b with | .none=>some true | .str _=>some false | .tuple _=>some false | _=>none)
 | .bool x=>(match b with | .bool y=>some (x == y) | _=>none)
 | .int x=>(match b with | .int y=>some (x == y) | _=>none)
 | .str x=>(match b with | .str y=>some (x == y) | .none=>some false | _=>none)
 | .tuple _=>(match b with | .none=>some false | _=>none)
 | _=>none
noncomputable def Eh (f:PyData->PyData->Option Bool):List PyData->List PyData->Option Bool
 | [],ys=>(match ys with | []=>some true | _::_=>some false)
 | x::xs,ys=>(match ys with
  | []=>some false
  | y::ys=>(f x y).bind fun a=>(Eh f xs ys).bind fun b=>some (a&&b))
noncomputable def eqSeq (f:PyData->PyData->Option Bool) (a b:PyData):Option Bool :=
 match a with
 | .list xs=>(match b with | .list ys=>if xs.length=ys.length then Eh f xs ys else some false | _=>none)
 | .tuple xs=>(match b with | .tuple ys=>Eh f xs ys | _=>eqLeaf a b)
 | _=>eqLeaf a b
noncomputable def eqN:Nat->PyData->PyData->Option Bool
 | 0,a,b=>eqLeaf a b
 | n+1,a,b=>eqSeq (eqN n) a b
noncomputable def AK:Nat:=40
noncomputable def tagD:PyData->Nat
 | .none=>0 | .bool _=>1 | .int _=>2 | .str _=>3 | .list _=>4 | .tuple _=>5 | .dict _=>6
noncomputable def tagV (f:Addr->Option Obj):Value->Nat
 | .none=>0 | .bool _=>1 | .int _ _=>2 | .str _ _=>3
 | .ref a=>(match f a with | some o=>if o.cls == .type "list" then 4 else 5 | none=>7)
 | _=>7
theorem Dy {f:Addr->Option Obj} {d:PyData} {x:Value} (h:Au f d x):tagV f x=tagD d:=by
 cases d with
 | none=>exact congrArg (tagV f) h
 | bool b=>exact congrArg (tagV f) h
 | int i=>exact h.elim fun t h=>congrArg (tagV f) h
 | str s=>exact h.elim fun t h=>congrArg (tagV f) h.1
 | list xs=>exact h (fun x=>tagV f x=4) fun a o vs m hf hc _ _ _=>by show (match f a with | some o=>_ | none=>_)=_; rw [hf]; exact if_pos (by rw [hc]; rfl)
 | tuple xs=>exact h (fun x=>tagV f x=5) fun a o vs m hf hc _ _ _=>by show (match f a with | some o=>_ | none=>_)=_; rw [hf]; exact if_neg (by rw [hc]; decide)
 | dict es=>exact h.elim
theorem seqIs_inj {f:Addr->Option Obj} {cl:String} {x:Value} {P Q:List Value->Prop} {n m:Nat} {α:Prop} (k:∀ vs,P vs->Q vs->α) (h:BO f cl x P n) (h':BO f cl x Q m):α:=by
 refine h (fun x=>BO f cl x Q m->α) (fun a o vs n e2 _ e4 e5 _ h'=>?_) h'
 refine h' (fun y=>y=.ref a->α) (fun a' o' vs' n' e2' _ e4' e5' _ e=>?_) rfl
 obtain rfl:=As e2 (show f a=some o' from (PySem.Value.ref.inj e)▸e2')
 rw [e4] at e4'; cases e4'
 exact k _ e5 e5'
mutual
theorem Au.inj {f:Addr->Option Obj}:∀ (d d':PyData) (x:Value),tagD d'=tagD d->Au f d x->Au f d' x->d=d'
 | .none,d',x,t,h,h'=>by cases d' <;> first | rfl | exact Cc t rfl
 | .bool a,d',x,t,h,h'=>by
  cases d' <;> first | exact Cc t rfl | (cases (show Value.bool a=.bool _ from Eq.trans (Eq.symm h) h'); rfl)
 | .int a,d',x,t,h,h'=>by
  cases d' <;> first | exact Cc t rfl | (obtain ⟨_,h⟩:=h; obtain ⟨_,h'⟩:=h'; cases h.symm.trans h'; rfl)
 | .str a,d',x,t,h,h'=>by
  cases d' <;> first | exact Cc t rfl | (obtain ⟨_,h,_⟩:=h; obtain ⟨_,h',_⟩:=h'; cases h.symm.trans h'; rfl)
 | .list xs,d',x,t,h,h'=>by
  cases d' <;> first | exact Cc t rfl | exact congrArg _ (seqIs_inj (RepDs.inj xs _) h h')
 | .tuple xs,d',x,t,h,h'=>by
  cases d' <;> first | exact Cc t rfl | exact congrArg _ (seqIs_inj (RepDs.inj xs _) h h')
 | .dict _,_,_,_,h,_=>h.elim
theorem RepDs.inj {f:Addr->Option Obj}:∀ (ds ds':List PyData) (xs:List Value),RepDs f ds xs->RepDs f ds' xs->ds=ds'
 | [],[],_,_,_=>rfl
 | d::ds,d'::ds',x::xs,h,h'=>by rw [Au.inj d d' x ((Dy h'.1).symm.trans (Dy h.1)) h.1 h'.1,RepDs.inj ds ds' xs h.2 h'.2]
 | [],_::_,[],_,h=>h.elim
 | [],_::_,_::_,h,_=>h.elim
 | _::_,[],[],h,_=>h.elim
 | _::_,[],_::_,_,h=>h.elim
 | _::_,_::_,[],h,_=>h.elim
end
theorem eqNsW_self {f:PyData->PyData->Option Bool} (hf:∀ d b,f d d=some b->b=true) (l:List PyData):∀ (b:Bool),Eh f l l=some b->b=true:=by
 induction l with
 | nil=>exact fun b h=>(Option.some.inj h).symm
 | cons x xs ih =>
  intro b h
  obtain ⟨c,e,h⟩:=bind_some h
  obtain ⟨c',e',h⟩:=bind_some h
  rw [<-Option.some.inj h,hf x c e,ih c' e']; rfl
theorem FI (d:PyData) (b:Bool) (h:eqLeaf d d=some b):b=true:=by
 cases d with
 | none=>exact (Option.some.inj h).symm
 | bool x=>rw [<-Option.some.inj h]; exact beq_self_eq_true x
 | int x=>rw [<-Option.some.inj h]; exact beq_self_eq_true x
 | str x=>rw [<-Option.some.inj h]; exact beq_self_eq_true x
 | _=>exact Ab h
theorem eqN_self (n:Nat):∀ (d:PyData) (b:Bool),eqN n d d=some b->b=true:=by
 induction n with
 | zero=>exact FI
 | succ n ih =>
  intro d b h
  have hl:=FI d b
  cases d with
  | list xs =>
   have h:(if xs.length=xs.length then Eh (eqN n) xs xs else some false)=some b:=h
   rw [if_pos rfl] at h
   exact eqNsW_self ih xs b h
  | tuple xs=>exact eqNsW_self ih xs b h
  | _=>exact hl h
section
variable {A:Around} {s:Shared}
structure Fe (A:Around) (s:Shared) (x y:Value) (b:Bool):Prop where
 eq:EqAt A s x y b
 rc:RcAt A s x y b
 ne:RcNeAt A s x y (!b)
theorem eqNs_items {n:Nat} {A:Around} (ih:∀ (d d':PyData) (x x':Value) (b:Bool),Au s.heap.get? d x->Au s.heap.get? d' x'->eqN n d d'=some b->Fe A s x x' b) (ds:List PyData) :
 ∀ (ds':List PyData) (xs xs':List Value) (b:Bool),Aq (Au s.heap.get?) ds xs->Aq (Au s.heap.get?) ds' xs'->Eh (eqN n) ds ds'=some b ->
  ∃ e:Nat->Bool,(∀ j x x',xs[j]? = some x->xs'[j]? = some x'->EqAt A s x x' (e j))/\b=((List.range (min xs.length xs'.length)).all e&&xs.length == xs'.length):=by
 induction ds with
 | nil =>
  intro ds' xs xs' b r r' h
  rw [r.nil]
  refine ⟨fun _=>true,fun j x x' h=>Ab h,?_⟩
  rw [<-r'.length]
  cases ds' <;> exact (Option.some.inj h).symm
 | cons d ds ihl =>
  intro ds' xs xs' b r r' h
  obtain ⟨x,xs,rfl,r1,r2⟩:=r.cons
  cases ds' with
  | nil =>
   rw [r'.nil]
   exact ⟨fun _=>true,fun j x x' _ h=>Ab h,(Option.some.inj h).symm⟩
  | cons d' ds' =>
   obtain ⟨x',xs',rfl,r1',r2'⟩:=r'.cons
   obtain ⟨c,e,h⟩:=bind_some h
   obtain ⟨c',e',h⟩:=bind_some h
   obtain ⟨f,h1,h2⟩:=ihl ds' xs xs' c' r2 r2' e'
   refine ⟨fun j=>if j=0 then c else f (j-1),fun j y y' hy hy'=>?_,?_⟩
   ·cases j with
    | zero=>rw [<-Option.some.inj hy,<-Option.some.inj hy']; exact (ih d d' x x' c r1 r1' e).eq
    | succ j=>exact h1 j y y' hy hy'
   ·rw [<-Option.some.inj h,h2,List.length_cons,List.length_cons,Nat.add_min_add_right,List.range_succ_eq_map,List.all_cons,List.all_map]
    simp [Function.comp_def,Bool.and_assoc]
theorem Fw {d d':PyData} {x x':Value} {b:Bool} (hu:A.units < cLine) (r:Au s.heap.get? d x) (r':Au s.heap.get? d' x') (h:eqLeaf d d'=some b):Fe A s x x' b:=by
 have tn:∀ ds x,Au s.heap.get? (.tuple ds) x->Fe A s .none x false/\Fe A s x .none false:=fun ds x r=>r (fun x=>Fe A s .none x false/\Fe A s x .none false) fun a o vs k q1 q2 q3 q4 _ =>
  ⟨⟨EqAt.none_tuple ⟨_,q1,q2,_,q3⟩ hu,RcAt.none_tuple ⟨_,q1,q2,_,q3⟩ hu,RcNeAt.none_tuple ⟨_,q1,q2,_,q3⟩ hu⟩,EqAt.tuple_none ⟨_,q1,q2,_,q3⟩ hu,RcAt.tuple_none ⟨_,q1,q2,_,q3⟩ hu,RcNeAt.tuple_none ⟨_,q1,q2,_,q3⟩ hu⟩
 cases d with
 | none =>
  obtain rfl:x=.none:=r
  cases d' with
  | none=>obtain rfl:x'=.none:=r'; rw [<-Option.some.inj h]; exact ⟨EqAt.same _,RcAt.none_none,RcNeAt.none_none⟩
  | str _=>obtain ⟨t,rfl,_⟩:=r'; rw [<-Option.some.inj h]; exact ⟨EqAt.none_str _ _,RcAt.none_str _ _,RcNeAt.none_str _ _⟩
  | tuple _=>rw [<-Option.some.inj h]; exact (tn _ _ r').1
  | _=>exact Ab h
 | bool a=>cases d' with
  | bool c=>obtain rfl:x=.bool a:=r; obtain rfl:x'=.bool c:=r'; rw [<-Option.some.inj h]; exact ⟨EqAt.bool_bool _ _,RcAt.bool_bool _ _,RcNeAt.bool_bool _ _⟩
  | _=>exact Ab h
 | int a=>cases d' with
  | int c=>obtain ⟨t,rfl⟩:=r; obtain ⟨t',rfl⟩:=r'; rw [<-Option.some.inj h]; exact ⟨EqAt.int_int _ _ _ _,RcAt.int_int _ _ _ _,RcNeAt.int_int _ _ _ _⟩
  | _=>exact Ab h
 | str a=>obtain ⟨t,rfl,_⟩:=r; cases d' with
  | none=>obtain rfl:x'=.none:=r'; rw [<-Option.some.inj h]; exact ⟨EqAt.str_none _ _,RcAt.str_none _ _,RcNeAt.str_none _ _⟩
  | str c=>obtain ⟨t',rfl,_⟩:=r'; rw [<-Option.some.inj h]; exact ⟨EqAt.str_str _ _ _ _,RcAt.str_str _ _ _ _,RcNeAt.str_str _ _ _ _⟩
  | _=>exact Ab h
 | tuple _=>cases d' with
  | none=>obtain rfl:x'=.none:=r'; rw [<-Option.some.inj h]; exact (tn _ _ r).2
  | _=>exact Ab h
 | _=>exact Ab h
theorem eq_refs {n:Nat} {d d':PyData} {a a':Addr} {b:Bool} (rr:Au s.heap.get? d (.ref a)) (rr':Au s.heap.get? d' (.ref a')) (h:eqN n d d'=some b) (rc:RcAt A s (.ref a) (.ref a') b/\RcNeAt A s (.ref a) (.ref a') (!b)):Fe A s (.ref a) (.ref a') b:=by
 refine ⟨?_,rc.1,rc.2⟩
 by_cases ha:a=a'
 ·subst ha
  rw [<-Au.inj _ _ _ ((Dy rr').symm.trans (Dy rr)) rr rr'] at h
  rw [eqN_self n d b h]
  exact EqAt.same _
 ·exact EqAt.of_refs ha rc.1
theorem eqN_ok (n:Nat):∀ (A:Around),A.units+n < cLine->∀ (d d':PyData) (x x':Value) (b:Bool),Au s.heap.get? d x->Au s.heap.get? d' x'->eqN n d d'=some b->Fe A s x x' b:=by
 induction n with
 | zero=>exact fun A hu d d' x x' b r r' h=>Fw hu r r' h
 | succ n ih =>
  intro A hu d d' x x' b r r' h
  have hu':A.units < cLine:=Nat.lt_of_le_of_lt (Nat.le_add_right _ _) hu
  have hu1:A.in1.units+n < cLine:=by show A.units+1+n < cLine; rw [Nat.add_assoc,Nat.add_comm 1]; exact hu
  have it:=eqNs_items (s:=s) (ih A.in1 hu1)
  have hL:eqSeq (eqN n) d d'=some b:=h
  cases d with
  | list ds=>cases d' with
   | list ds' =>
    refine r (fun x=>Au s.heap.get? (.list ds) x->Fe A s x x' b) (fun a o vs k q1 q2 q3 q4 _ rr=>r' (fun x'=>Au s.heap.get? (.list ds') x'->Fe A s (.ref a) x' b) (fun a' o' vs' k' p1 p2 p3 p4 _ rr'=>eq_refs rr rr' h ?_) r') r
    have hl:s.heap.IsList a vs:=⟨_,q1,q2,_,q3⟩
    have hl':s.heap.IsList a' vs':=⟨_,p1,p2,_,p3⟩
    have l1:ds.length=vs.size:=q4.all.length
    have l2:ds'.length=vs'.size:=p4.all.length
    have hL:(if ds.length=ds'.length then Eh (eqN n) ds ds' else some false)=some b:=hL
    by_cases hsz:ds.length=ds'.length
    ·rw [if_pos hsz] at hL
     obtain ⟨e,h1,h2⟩:=it ds ds' vs.toList vs'.toList b q4.all p4.all hL
     have hsz':vs.size=vs'.size:=l1.symm.trans (hsz.trans l2)
     have hb:b=(List.range vs.size).all e:=by rw [h2]; simp [hsz']
     rw [hb]
     exact ⟨RcAt.lists hl hl' hsz' hu' fun j j1 j2=>h1 j _ _ (by simp [j1]) (by simp [j2]),RcNeAt.lists hl hl' hsz' hu' fun j j1 j2=>h1 j _ _ (by simp [j1]) (by simp [j2])⟩
    ·rw [if_neg hsz] at hL
     rw [<-Option.some.inj hL]
     have hsz':(vs.size != vs'.size)=true:=bne_iff_ne.mpr fun q=>hsz (l1.trans (q.trans l2.symm))
     exact ⟨RcAt.lists_lengths hl hl' hsz' hu',RcNeAt.lists_lengths hl hl' hsz' hu'⟩
   | _=>exact Ab hL
  | tuple ds=>cases d' with
   | tuple ds' =>
    refine r (fun x=>Au s.heap.get? (.tuple ds) x->Fe A s x x' b) (fun a o vs k q1 q2 q3 q4 _ rr=>r' (fun x'=>Au s.heap.get? (.tuple ds') x'->Fe A s (.ref a) x' b) (fun a' o' vs' k' p1 p2 p3 p4 _ rr'=>eq_refs rr rr' h ?_) r') r
    have hl:s.heap.IsTuple a vs:=⟨_,q1,q2,_,q3⟩
    have hl':s.heap.IsTuple a' vs':=⟨_,p1,p2,_,p3⟩
    obtain ⟨e,h1,h2⟩:=it ds ds' vs.toList vs'.toList b q4.all p4.all hL
    have hb:b=((List.range (min vs.size vs'.size)).all e&&vs.size == vs'.size):=h2
    rw [hb]
    exact ⟨RcAt.tuples hl hl' hu' fun j j1 j2=>h1 j _ _ (by simp [j1]) (by simp [j2]),RcNeAt.tuples hl hl' hu' fun j j1 j2=>h1 j _ _ (by simp [j1]) (by simp [j2])⟩
   | _=>exact Fw hu' r r' hL
  | _=>exact Fw hu' r r' hL
end
end Mine
namespace Mine
open PySem PySem.Calls PySem.SeqAt
noncomputable def wv:PyData ⊕ Nat->V:=Sum.elim .d .ref
noncomputable def BF (o:Option O):Option (List V):=match o with | some o=>(match o with | .list vs=>some vs | _=>none) | none=>none
noncomputable def Ag (σ:Aa) (v:V):Option (List V) :=
 match v with
 | .d x=>(match x with | .list xs=>some (xs.map .d) | _=>none)
 | .ref k=>BF σ[k]?
 | _=>none
noncomputable def Cm (v:V):Option (List V) :=
 match v with
 | .d x=>(match x with | .tuple xs=>some (xs.map .d) | _=>none)
 | .tup ws=>some (ws.map wv)
 | .pr x y=>some [x,y]
 | _=>none
noncomputable def isDV (v:V):Option PyData:=match v with | .d x=>some x | _=>none
noncomputable def CS:List V->Option (List PyData)
 | []=>some []
 | v::r=>(isDV v).bind fun x=>(CS r).bind fun xs=>some (x::xs)
noncomputable def lstD (o:Option (List V)):Option PyData:=o.bind fun vs=>(CS vs).bind fun xs=>some (.list xs)
noncomputable def snapW (σ:Aa):List (PyData ⊕ Nat)->Option (List PyData)
 | []=>some []
 | w::r=>(match w with | .inl x=>some x | .inr k=>lstD (BF σ[k]?)).bind fun x=>(snapW σ r).bind fun xs=>some (x::xs)
noncomputable def snap (σ:Aa) (v:V):Option PyData :=
 match v with
 | .d x=>some x
 | .ref k=>lstD (BF σ[k]?)
 | .tup ws=>(snapW σ ws).bind fun xs=>some (.tuple xs)
 | _=>none
theorem EZ {vs:List V}:∀ {xs:List PyData},CS vs=some xs->vs=xs.map .d:=by
 induction vs with
 | nil=>exact fun h=>by rw [<-Option.some.inj h]; rfl
 | cons v vs ih =>
  intro xs h
  obtain ⟨x,e,h'⟩:=bind_some h
  obtain ⟨ys,e',h''⟩:=bind_some h'
  cases v with
  | d y=>rw [<-Option.some.inj h'',ih e',Option.some.inj e]; rfl
  | _=>exact Ab e
theorem Cd {o:Option O} {vs:List V} (h:BF o=some vs):o=some (.list vs):=by
 cases o with
 | none=>exact Ab h
 | some o=>cases o with
  | list ws=>rw [Option.some.inj h]
  | _=>exact Ab h
section
variable {T:Top} {r:Ar} {g:G} {σ:Aa} {s:Shared} {v:V} {X:Value} {ws:List V}
theorem A3 (H:Has T g σ s) (rx:An T g v X) (e:Ag σ v=some ws) {R_:Value->Prop} (k:∀ a xs,s.heap.IsList a xs->Aj T g ws xs.toList->ws.length=xs.size->xs.size<=line->R_ (.ref a)):R_ X:=by
 cases v with
 | d y=>cases y with
  | list ds =>
   obtain rfl:ds.map .d=ws:=Option.some.inj e
   exact rx R_ fun a o vs n h1 h2 h3 h4 h5=>k a vs ⟨o,H.fz _ _ h1,h2,n,h3⟩ (.ofD h4) (Aj.ofD (T:=T) h4).length (by rw [<-Array.length_toList,<-h4.all.length]; exact h5)
  | _=>exact Ab e
 | ref j =>
  obtain ⟨a,e1,rfl⟩:=rx
  exact H.ob j a _ e1 (Cd e) _ fun o ho ro=>ro (fun o=>s.heap.get? a=some o->R_ (.ref a)) (fun xs m hr hl ho=>k a xs ⟨_,ho,rfl,m,rfl⟩ hr hr.length (by rw [<-Array.length_toList,<-hr.length]; exact hl)) ho
 | _=>exact Ab e
theorem F2.wv {xs:List Value} {ws:List (PyData ⊕ Nat)} (h:Aq (F2 g) ws xs):Aj T g (ws.map wv) xs:=by
 induction ws generalizing xs with
 | nil=>rw [h.nil]; exact trivial
 | cons w ws ih =>
  obtain ⟨x,xs,rfl,h1,h2⟩:=h.cons
  exact ⟨by cases w <;> exact h1,ih h2⟩
theorem CT (H:Has T g σ s) (rx:An T g v X) (e:Cm v=some ws) {R_:Value->Prop} (k:∀ a xs,s.heap.IsTuple a xs->Aj T g ws xs.toList->ws.length=xs.size->xs.size<=line->R_ (.ref a)):R_ X:=by
 cases v with
 | d y=>cases y with
  | tuple ds =>
   obtain rfl:ds.map .d=ws:=Option.some.inj e
   exact rx R_ fun a o vs n h1 h2 h3 h4 h5=>k a vs ⟨o,H.fz _ _ h1,h2,n,h3⟩ (.ofD h4) (Aj.ofD (T:=T) h4).length (by rw [<-Array.length_toList,<-h4.all.length]; exact h5)
  | _=>exact Ab e
 | tup us =>
  obtain rfl:us.map wv=ws:=Option.some.inj e
  exact rx R_ fun a o vs n h1 h2 h3 h4 h5=>k a vs ⟨o,H.fz _ _ h1,h2,n,h3⟩ (F2.wv h4) (F2.wv (T:=T) h4).length (by rw [<-Array.length_toList,<-h4.length]; exact h5)
 | pr x y =>
  obtain rfl:[x,y]=ws:=Option.some.inj e
  exact rx R_ fun a o vs n h1 h2 h3 h4 h5=>by
   obtain ⟨a',b',e4,r1,r2⟩:=h4
   exact k a vs ⟨o,H.fz _ _ h1,h2,n,h3⟩ (e4▸⟨r1,r2,trivial⟩) (by rw [<-Array.length_toList,e4]; rfl) (by rw [<-Array.length_toList,e4]; exact h5)
 | _=>exact Ab e
theorem lstD_rep (H:Has T g σ s) {k:Nat} {d:PyData} (rx:An T g (.ref k) X) (e:lstD (BF σ[k]?)=some d):Au s.heap.get? d X:=by
 obtain ⟨ws,e1,e⟩:=bind_some e
 obtain ⟨xs,e2,e⟩:=bind_some e
 rw [<-Option.some.inj e]
 rw [EZ e2] at e1
 refine A3 (v:=.ref k) H rx e1 fun a vs hL hr hl hs=>?_
 obtain ⟨o,ho,hc,n,hd⟩:=hL
 exact fun R_ kk=>kk a o vs n ho hc hd (RepDs.mono H.fz _ _ (Aj.toD hr)) (by rw [<-List.length_map (f:=V.d),hl]; exact hs)
theorem CA (H:Has T g σ s) {d:PyData} (rx:An T g v X) (e:snap σ v=some d):Au s.heap.get? d X:=by
 cases v with
 | d y=>rw [<-Option.some.inj e]; exact Au.mono H.fz _ _ rx
 | ref k=>exact lstD_rep H rx e
 | tup ws =>
  obtain ⟨xs,e,e'⟩:=bind_some e
  rw [<-Option.some.inj e']
  have key:∀ {ws:List (PyData ⊕ Nat)} {xs:List PyData} {vs:List Value},Aq (F2 g) ws vs->snapW σ ws=some xs->Aq (Au s.heap.get?) xs vs:=by
   intro ws
   induction ws with
   | nil=>intro xs vs h e; rw [h.nil,<-Option.some.inj e]; exact trivial
   | cons w ws ih =>
    intro xs vs h e
    obtain ⟨v,vs,rfl,h1,h2⟩:=h.cons
    obtain ⟨x,e1,e⟩:=bind_some e
    obtain ⟨ys,e2,e⟩:=bind_some e
    rw [<-Option.some.inj e]
    refine ⟨?_,ih h2 e2⟩
    cases w with
    | inl y=>rw [<-Option.some.inj e1]; exact Au.mono H.fz _ _ h1
    | inr k=>exact lstD_rep (T:=T) (k:=k) H h1 e1
  exact rx _ fun a o vs n h1 h2 h3 h4 h5 R_ kk=>kk a o vs n (H.fz _ _ h1) h2 h3 (.of (key h4 e)) (by rw [(key h4 e).length,<-h4.length]; exact h5)
 | _=>exact Ab e
end
section
variable {σ:Aa} {x y v:V} {i j:Int} {d d':PyData} {b:Bool}
theorem tr_none:Tr σ (.d .none) false:=fun r g s X A h=>by
 obtain rfl:X=.none:=h
 exact PyProof.Rows.truthy_none (.refl A.has rfl)
theorem tr_int:Tr σ (vi i) (i != 0):=fun r g s X A h=>by
 obtain ⟨t,rfl⟩:=h
 exact P.truthy_int (.refl A.has rfl)
theorem tr_str {t:Str}:Tr σ (.d (.str t)) (t.cps.size != 0):=fun r g s X A h=>by
 obtain ⟨k,rfl,hl⟩:=h
 refine P.truthy_str (Int.not_le.mpr (Int.ofNat_lt.mpr (Dl hl))) (.refl A.has.tok ?_)
 show ((t.cps.size:Int) != 0)=(t.cps.size != 0)
 cases t.cps.size <;> rfl
theorem arr_empty {α:Type} {ws:List V} {xs:Array α} (h:ws.length=xs.size):(!xs.isEmpty) = !ws.isEmpty:=by
 cases ws with
 | nil=>rw [Array.size_eq_zero_iff.mp h.symm]; rfl
 | cons w ws =>
  have:xs≠#[]:=fun q=>by rw [q] at h; exact Cc h rfl
  rw [show xs.isEmpty=false by simpa using this]; rfl
theorem tr_list {ws:List V} (e:Ag σ v=some ws):Tr σ v (!ws.isEmpty):=fun r g s X A h =>
 A3 A.has h e (R_:=fun X=>r.wp (truthy X) (fun x s'=>BI r.T [] g σ (fun _=>x = !ws.isEmpty) s') s) fun a xs hL hr hl hs=>wpAny_truthy_list hL (Int.ofNat_lt.mpr (Dl hs)) (.refl A.has.tok (arr_empty hl))
theorem tr_tup {ws:List V} (e:Cm v=some ws):Tr σ v (!ws.isEmpty):=fun r g s X A h =>
 CT A.has h e (R_:=fun X=>r.wp (truthy X) (fun x s'=>BI r.T [] g σ (fun _=>x = !ws.isEmpty) s') s) fun a xs hL hr hl hs=>PyProof.Rows.truthy_tuple hL (Int.ofNat_lt.mpr (Dl hs)) (.refl A.has.tok (arr_empty hl))
noncomputable def small (i:Int):Bool:=decide (-9223372036854775808 < i)&&decide (i < 9223372036854775808)
theorem Dx {m:Value->Value->Sem Value} {f:Int->Int->Int} (h:∀ (r:Ar) (g:G) (s:Shared) (t u:Tok),At 0 r g σ s->∀ Q:Value->Shared->Prop,(∀ t k,Q (.int (f i j) t) { s with toks:=k })->wpAny (model r.T.prog r.T.w) r.A (m (.int i t) (.int j u)) Q (fun _ _=>False) s):Pr2 m (vi i) (vi j) σ (vi (f i j)) σ:=fun r g s X Y A hx hy=>by
 obtain ⟨t,rfl⟩:=hx
 obtain ⟨u,rfl⟩:=hy
 exact h r g s t u A _ fun t k=>.refl A.has.tok ⟨t,rfl⟩
theorem p_add:Pr2 (binaryOp .Add) (vi i) (vi j) σ (vi (i+j)) σ:=Dx fun r g s t u A Q h=>P.add_int (h _ _)
theorem p_sub:Pr2 (binaryOp .Sub) (vi i) (vi j) σ (vi (i-j)) σ:=Dx fun r g s t u A Q h=>P.sub_int (h _ _)
theorem p_div (hj:j≠0):Pr2 (binaryOp .FloorDiv) (vi i) (vi j) σ (vi (i.fdiv j)) σ:=Dx fun r g s t u A Q h=>PyProof.Rows.floordiv_int hj (h _ _) (Or.inr A.pylong)
theorem p_mod (hj:j≠0):Pr2 (binaryOp .Mod) (vi i) (vi j) σ (vi (i.fmod j)) σ:=Dx fun r g s t u A Q h=>PyProof.Rows.mod_int' hj (h _ _)
theorem G2 {i:Int} (h:small i=true):Builtin.Int.intBits i<=64:=by
 have h:=Bool.and_eq_true_iff.mp h
 exact intBits_le_64 (by have:=of_decide_eq_true h.1; lia) (by have:=of_decide_eq_true h.2; lia)
theorem p_mul (hs:(small i||small j)=true):Pr2 (binaryOp .Mult) (vi i) (vi j) σ (vi (i * j)) σ:=Dx fun r g s t u A Q h=>P.mul_int (h _ _) ((Bool.or_eq_true_iff.mp hs).elim (fun h=>IntMulOk.of_left (G2 h)) fun h=>IntMulOk.of_right (G2 h))
theorem p_cat {a b:Str} (hl:a.length+b.length<=line):Pr2 (binaryOp .Add) (.d (.str a)) (.d (.str b)) σ (.d (.str (a++b))) σ:=fun r g s X Y A hx hy=>by
 obtain ⟨t,rfl,_⟩:=hx
 obtain ⟨u,rfl,_⟩:=hy
 exact SB.add (fun t' k=>.refl A.has.tok ⟨_,rfl,by rw [Str.length_append]; exact hl⟩) (AH▸hl)
theorem Ef {m:Value->Value->Sem Value} (h:∀ (r:Ar) (g:G) (s:Shared) (X Y:Value),At 0 r g σ s->An r.T g x X->An r.T g y Y->∀ Q:Value->Shared->Prop,Q (.bool b) s->wpAny (model r.T.prog r.T.w) r.A (m X Y) Q (fun _ _=>False) s):Pr2 m x y σ (vb b) σ :=
 fun r g s X Y A hx hy=>h r g s X Y A hx hy _ (.refl A.has rfl)
theorem eq_ok {r:Ar} {g:G} {s:Shared} {X Y:Value} (A:At 0 r g σ s) (hx:An r.T g x X) (hy:An r.T g y Y) (h1:snap σ x=some d) (h2:snap σ y=some d') (h:eqN AK d d'=some b):Fe r.A s X Y b :=
 eqN_ok AK r.A (Nat.lt_of_succ_lt A.room) d d' X Y b (CA A.has hx h1) (CA A.has hy h2) h
theorem p_eq (h1:snap σ x=some d) (h2:snap σ y=some d') (h:eqN AK d d'=some b):Pr2 (compareOp .Eq) x y σ (vb b) σ:=Ef fun r g s X Y A hx hy Q q=>(eq_ok A hx hy h1 h2 h).rc _ _ _ Q q
theorem p_ne (h1:snap σ x=some d) (h2:snap σ y=some d') (h:eqN AK d d'=some b):Pr2 (compareOp .NotEq) x y σ (vb !b) σ:=Ef fun r g s X Y A hx hy Q q=>(eq_ok A hx hy h1 h2 h).ne _ _ _ Q q
noncomputable def DW (h:Heap) (d:PyData) (v:Value):Bool:=@decide (∃ d',Au h.get? d' v/\eqN AK d' d=some true) (Classical.propDecidable _)
theorem eqTo_of {h:Heap} {d d':PyData} {v:Value} {b:Bool} (r:Au h.get? d' v) (e:eqN AK d' d=some b):DW h d v=b:=by
 unfold DW
 cases b with
 | true=>exact @decide_eq_true _ (Classical.propDecidable _) ⟨d',r,e⟩
 | false =>
  refine @decide_eq_false _ (Classical.propDecidable _) ?_
  intro q
  obtain ⟨d'',r',e'⟩:=q
  rw [Au.inj _ _ _ ((Dy r).symm.trans (Dy r')) r' r,e] at e'
  exact ff_ (Option.some.inj e')
noncomputable def inD (x:PyData):List PyData->Option Bool
 | []=>some false
 | y::r=>(eqN AK y x).bind fun a=>(inD x r).bind fun b=>some (a||b)
theorem inD_ok {A:Around} {s:Shared} {Y:Value} (hu:A.units+AK < cLine) (r:Au s.heap.get? d Y):∀ {ds:List PyData} {xs:List Value} {b:Bool},Aq (Au s.heap.get?) ds xs->inD d ds=some b ->
 (∀ x,x∈xs->EqAt A s x Y (DW s.heap d x))/\b=xs.any (DW s.heap d):=by
 intro ds
 induction ds with
 | nil=>intro xs b h e; rw [h.nil]; exact ⟨fun x h=>(nomatch h),(Option.some.inj e).symm⟩
 | cons z ds ih =>
  intro xs b h e
  obtain ⟨x,xs,rfl,h1,h2⟩:=h.cons
  obtain ⟨c,e1,e⟩:=bind_some e
  obtain ⟨c',e2,e⟩:=bind_some e
  obtain ⟨h3,h4⟩:=ih h2 e2
  have h5:=eqTo_of h1 e1
  refine ⟨fun w hw=>(List.mem_cons.mp hw).elim (fun q=>?_) (h3 w),by rw [List.any_cons,h5,<-h4,Option.some.inj e]⟩
  rw [q,h5]; exact (eqN_ok (s:=s) AK A hu z d x Y c h1 r e1).eq
theorem in_seq {ds:List PyData} (h1:snap σ x=some d) (h2:snap σ y=some (.list ds)\/snap σ y=some (.tuple ds)) (h:inD d ds=some b):Pr2 (compareOp .In) x y σ (vb b) σ/\Pr2 (compareOp .NotIn) x y σ (vb !b) σ:=by
 have key:∀ {op:CmpOp} {c:Bool},(∀ (r:Ar) (s:Shared) (X:Value) (a:Addr) (vs:Array Value),(s.heap.IsList a vs\/s.heap.IsTuple a vs)->(∀ z,z∈vs->EqAt r.A.in1 s z X (DW s.heap d z))->b=vs.any (DW s.heap d)->∀ Q:Value->Shared->Prop,Q (.bool c) s->wpAny (model r.T.prog r.T.w) r.A (compareOp op X (.ref a)) Q (fun _ _=>False) s)->Pr2 (compareOp op) x y σ (vb c) σ:=fun k =>
  Ef fun r g s X Y A hx hy Q q=>by
   have hX:=CA A.has hx h1
   have hu:r.A.in1.units+AK < cLine:=A.room
   rcases h2 with h2 | h2
   ·exact CA A.has hy h2 (fun Y=>wpAny _ r.A (compareOp _ X Y) Q _ s) fun a o vs n p1 p2 p3 p4 _=>by
     obtain ⟨q1,q2⟩:=inD_ok hu hX p4.all h
     exact k r s X a vs (.inl ⟨o,p1,p2,n,p3⟩) (fun z hz=>q1 z (Array.mem_toList_iff.mpr hz)) (q2.trans (by simp)) Q q
   ·exact CA A.has hy h2 (fun Y=>wpAny _ r.A (compareOp _ X Y) Q _ s) fun a o vs n p1 p2 p3 p4 _=>by
     obtain ⟨q1,q2⟩:=inD_ok hu hX p4.all h
     exact k r s X a vs (.inr ⟨o,p1,p2,n,p3⟩) (fun z hz=>q1 z (Array.mem_toList_iff.mpr hz)) (q2.trans (by simp)) Q q
 exact ⟨key fun r s X a vs hL hz e Q q=>hL.elim (fun hL=>in_listAt (DW s.heap d) hL hz (e▸q)) fun hL=>in_tupleAt (DW s.heap d) hL hz (e▸q),
  key fun r s X a vs hL hz e Q q=>hL.elim (fun hL=>notIn_listAt (DW s.heap d) hL hz (e▸q)) fun hL=>notIn_tupleAt (DW s.heap d) hL hz (e▸q)⟩
end
end Mine
namespace Mine
open PySem PySem.Calls PySem.SeqAt
def Be (r:Ar) (g:G) (σ':Aa) (ws:List V) (x:Value) (s':Shared):Prop :=
 ∀ R_:Value->Prop,(∀ (g':G) (a:Addr) (xs:Array Value) (m:Nat),G.le [] g g'->Has r.T g' σ' s'->Dv r.T g' a->s'.heap.get? a=some { cls:=.type "list",dict:=none,data:=.seq xs m,slots:=#[] } -> Aj r.T g' ws xs.toList->ws.length<=line->R_ (.ref a))->R_ x
def SL (n:Nat) (e:E) (ρ:Af) (σ:Aa) (ws:List V) (σ':Aa):Prop :=
 ∀ (c:Cx) (g:G) (s:Shared) (ex:Expr),IsE e c.K ex->Inv n c ρ g σ s->c.wp (eval ex c.env) (Be c.toAr g σ' ws) s
def PrN1 (m:Value->Sem Value) (x:V) (σ:Aa) (ws:List V) (k:Nat:=0):Prop :=
 ∀ (r:Ar) (g:G) (s:Shared) (X:Value),At k r g σ s->An r.T g x X->r.wp (m X) (Be r g σ ws) s
theorem PrN1.up {m:Value->Sem Value} {x:V} {σ:Aa} {ws:List V} {k:Nat} (h:PrN1 m x σ ws):PrN1 m x σ ws k:=fun r g s X A=>h r g s X (A.less (Nat.zero_le _))
def PrN2 (m:Value->Value->Sem Value) (x y:V) (σ:Aa) (ws:List V):Prop :=
 ∀ (r:Ar) (g:G) (s:Shared) (X Y:Value),At 0 r g σ s->An r.T g x X->An r.T g y Y->r.wp (m X Y) (Be r g σ ws) s
section
variable {n:Nat} {r:Ar} {c:Cx} {ρ:Af} {g g' g₁:G} {σ σ' σ₁ σ₂ σ3:Aa} {s s':Shared} {e a b:E} {x y v:V} {ws us:List V} {X:Value} {ds:List PyData}
theorem Be.frz (h:Be r g σ' (ds.map .d) X s'):Ans r g (.d (.list ds)) σ' X s' :=
 h (fun X=>Ans r g (.d (.list ds)) σ' X s') fun g' a xs m le H F ho hr hl=>.mk (g'.put a _) (le.trans (.put F.fz)) (F.put H ho) fun R_ k=>k a _ xs m G.put_self rfl rfl (RepDs.mono (G.le.put (own:=[]) F.fz).fz _ _ (Aj.toD hr)) (by rw [<-List.length_map (f:=V.d)]; exact hl)
theorem Be.trk (h:Be r g σ' ws X s'):Ans r g (.ref σ'.length) (σ'++[.list ws]) X s' :=
 h (fun X=>Ans r g (.ref σ'.length) (σ'++[.list ws]) X s') fun g' a xs m le H F ho hr hl=>.mk (g'.add a) (le.trans .add) (F.add (ob:=.list ws) H ho fun R_ k=>k xs m (Aj.mono (G.le.add (own:=[])).toup hr) hl) ⟨a,H.addAt,rfl⟩
theorem Be.after (le:G.le [] g g₁) (h:Be r g₁ σ' ws X s'):Be r g σ' ws X s':=fun R_ k=>h R_ fun g' a xs m l=>k g' a xs m (le.trans l)
theorem SE.frz (h:SL n e ρ σ (ds.map .d) σ'):SE n e ρ σ (.d (.list ds)) σ':=fun c g s ex hc I=>wpAny_mono (h c g s ex hc I) (fun _ _ p=>p.frz) fun _ _ h=>h
theorem SE.trk (h:SL n e ρ σ ws σ'):SE n e ρ σ (.ref σ'.length) (σ'++[.list ws]):=fun c g s ex hc I=>wpAny_mono (h c g s ex hc I) (fun _ _ p=>p.trk) fun _ _ h=>h
theorem Be.made {l:Addr} {xs:Array Value} {m:Nat} (H:Has r.T g σ s) (k:∀ b o,s.heap.get? b=some o->s'.heap.get? b=some o) (hn:s.heap.get? l=none) (ho:s'.heap.get? l=some { cls:=.type "list",dict:=none,data:=.seq xs m,slots:=#[] }) (hr:Aj r.T g ws xs.toList) (hl:ws.length<=line)
 (hg:s'.gens=s.gens:=by rfl) (hos:s'.os=s.os:=by rfl):Be r g σ ws (.ref l) s' :=
 fun R_ kk=>kk g l xs m (.refl _ _) (H.keep k hg hos) (H.free hn) ho hr hl
theorem Be.push {xs:Array Value} {m:Nat} (H:Has r.T g σ s) (hr:Aj r.T g ws xs.toList) (hl:ws.length<=line):Be r g σ ws (.ref s.heap.objs.size) { s with heap:=s.heap.push { cls:=.type "list",dict:=none,data:=.seq xs m,slots:=#[] } } :=
 .made H (fun b o e=>Heap.get?_push_of_some _ e) (AW _) (Heap.get?_push_size _ rfl) hr hl
theorem SL.lst (h:SEs n a ρ σ ws σ₁) (hl:ws.length<=line):SL n (.lst a) ρ σ ws σ₁:=fun c g s ex hc I=>hc (fun ex=>c.wp (eval ex c.env) (Be c.toAr g σ₁ ws) s) fun vs p hc=>AL (arm_eval_List ..) (wpAny_bind (wpAny_standAt
 (Bn (h c g s vs p hc I) fun xs g₁ s₁ le a₁ r1=>wpAny_newList ((Be.push (r:=c.toAr) a₁ (by rw [List.toList_toArray]; exact r1) hl).after le) (by rw [<-r1.length,<-AH]; exact hl))))
theorem SL.bin {op:Operator} (ha:SE n a ρ σ x σ₁) (hb:SE n b ρ σ₁ y σ₂) (h:PrN2 (binaryOp op) x y σ₂ ws):SL n (.bin op a b) ρ σ ws σ₂:=by
 refine fun c g s ex hc I=>hc (fun ex=>c.wp (eval ex c.env) (Be c.toAr g σ₂ ws) s) fun l r p h1 h2=>?_
 exact AL (arm_eval_BinOp ..) (Dw ha hb h1 h2 I fun X Y g2 s2 le I2 r1 r2=>wpAny_bind (wpAny_standAt (wpAny_operating (wpAny_mono (h c.toAr g2 s2 X Y I2.at0 r1 r2) (fun _ _ p=>p.after le) fun _ _ h=>h))))
theorem list_obj {h:Heap} {a:Addr} {xs:Array Value} (x:h.IsList a xs):∃ n dd sl,h.get? a=some { cls:=.type "list",dict:=dd,data:=.seq xs n,slots:=sl }:=by
 obtain ⟨⟨c,dd,data,sl⟩,ho,hc,n,hd⟩:=x
 simp only at hc hd
 subst hc hd
 exact ⟨n,dd,sl,ho⟩
theorem GC (h1:Ag σ x=some ws) (h2:Ag σ y=some us) (hl:ws.length+us.length<=line):PrN2 (binaryOp .Add) x y σ (ws++us):=fun r g s X Y A hx hy =>
 A3 A.has hx h1 (R_:=fun X=>r.wp (binaryOp .Add X Y) (Be r g σ (ws++us)) s) fun la ia ha1 ha2 ha3 _=>A3 A.has hy h2 (R_:=fun Y=>r.wp (binaryOp .Add (.ref la) Y) (Be r g σ (ws++us)) s) fun lb ib hb1 hb2 hb3 _=>by
  obtain ⟨n1,d1,s1,o1⟩:=list_obj ha1
  obtain ⟨n2,d2,s2,o2⟩:=list_obj hb1
  refine concat_meets ⟨_,o1,rfl⟩ ⟨_,o2,rfl⟩ noFill_list_add seq_list_add PySem.F.slot_list_add PySem.F.entry_list_add (PySem.F.args_list_add_2 _ _) (PyProof.Rows.list_addW la lb ia ib n1 n2 d1 d2 s1 s2 (by rw [<-ha3,<-hb3,<-AH]; exact hl)) ⟨o1,o2,?_⟩
  exact .push A.has (by rw [Array.toList_append]; exact ha2.append hb2) (by rw [List.length_append]; exact hl)
theorem tup_put {o:Obj} {xs:Array Value} {m:Nat} {l:Addr} (H:Has r.T g σ s) (F:Dv r.T g l) (ho:s.heap.get? l=some o) (hc:o.cls=.type "tuple") (hd:o.data=.seq xs m) (hr:Aq (Au g.fz) ds xs.toList) (hl:ds.length<=line):Ans r g (.d (.tuple ds)) σ (.ref l) s :=
 .mk (g.put l o) (.put F.fz) (F.put H ho) fun R_ k=>k l o xs m G.put_self hc hd (.of (hr.mono fun _ _=>Au.mono (G.le.put (own:=[]) F.fz).fz _ _)) hl
theorem toDs {xs:List Value} (h:Aj r.T g (ds.map .d) xs):Aq (Au g.fz) ds xs:=(Aj.toD h).all
theorem SE.tup (h:SEs n a ρ σ (ds.map .d) σ₁) (hl:ds.length<=line):SE n (.tup a) ρ σ (.d (.tuple ds)) σ₁:=fun c g s ex hc I=>hc (fun ex=>c.wp (eval ex c.env) (Ans c.toAr g (.d (.tuple ds)) σ₁) s) fun vs k p hc=>AL (arm_eval_Tuple ..) (wpAny_bind (wpAny_standAt
 (Bn (h c g s vs p hc I) fun xs g₁ s₁ le a₁ r1=>wpAny_newTuple (BI.after le (tup_put (r:=c.toAr) (a₁.keep fun b o e=>Heap.get?_push_of_some _ e) (a₁.free (AW _)) (Heap.get?_push_size _ rfl) rfl rfl (by rw [List.toList_toArray]; exact toDs (r:=c.toAr) r1) hl)) (by rw [<-r1.length,<-AH,List.length_map]; exact hl))))
end
end Mine
namespace Mine
open PySem PySem.Calls PySem.SeqAt
def PrG (x y:V) (σ:Aa) (v:V):Prop :=
 ∀ (r:Ar) (g:G) (s:Shared) (X Y:Value),At 0 r g σ s->An r.T g x X->An r.T g y Y->∀ R_:Prop,(∀ Ty id,s.TypeIs X Ty->typeLookup (.type Ty) "__getitem__" = pure (some (.builtin id))->r.wp (getItem X Y) (Ans r g v σ) s->R_)->R_
noncomputable def chr1 (c:Nat):Str:=⟨#[c]⟩
noncomputable def BG {α:Type} (lo hi:Option Int) (xs:List α):List α :=
 (xs.drop (lo.elim 0 (clipAt xs.length))).take (hi.elim xs.length (clipAt xs.length)-lo.elim 0 (clipAt xs.length))
noncomputable def cutS (lo hi:Option Int) (x:Str):Str:=⟨(BG lo hi x.cps.toList).toArray⟩
section
variable {n:Nat} {r:Ar} {c:Cx} {ρ:Af} {g g' g₁:G} {σ σ' σ₁ σ₂ σ3:Aa} {s s':Shared} {e a b:E} {x y v:V} {ws us:List V} {X:Value} {ds:List PyData}
theorem slice_is (slice:Expr) (x i:Value):∃ ws,subscripted slice false x i=operate ws (getItem x i):=by
 cases slice with
 | Slice _ _ c _=>cases c <;> exact ⟨_,rfl⟩
 | _=>exact ⟨_,rfl⟩
theorem sub_tail {value slice:Expr} {x i:Value} {Ty id:String} {Q:Value->Shared->Prop} (hT:s.TypeIs x Ty) (hl:typeLookup (.type Ty) "__getitem__" = pure (some (.builtin id)))
 (h:r.wp (getItem x i) Q s):r.wp (getitemInPython x>>=fun p=>subscripted slice p x i>>=fun v=>letTemporaryGo value x v>>=fun _=>pure v) Q s:=by
 rw [getitemInPython_of_ne hT.not_modules]
 refine wpAny_bind (wpAny_bind (wpAny_specialOf hT hl (wpAny_pure (wpAny_bind ?_))))
 obtain ⟨ws,hs⟩:=slice_is slice x i
 exact AL hs (wpAny_operating (wpAny_mono h (fun v s3 h3=>wpAny_bind (wpAny_letTemporaryGo (wpAny_pure h3))) fun _ _ y=>y))
theorem SE.sub (ha:SE n a ρ σ x σ₁) (hb:SE n b ρ σ₁ y σ₂) (h:PrG x y σ₂ v):SE n (.sub a b) ρ σ v σ₂:=by
 refine fun c g s ex hc I=>hc (fun ex=>c.wp (eval ex c.env) (Ans c.toAr g v σ₂) s) fun l r p h1 h2=>?_
 exact AL (arm_eval_Subscript ..) (Dw ha hb h1 h2 I fun X Y g2 s2 le I2 r1 r2=>wpAny_bind (wpAny_standAt (h c.toAr g2 s2 X Y I2.at0 r1 r2 _ fun Ty id hT hl w=>sub_tail (r:=c.toAr) hT hl (Bs le w))))
theorem D0 {i:Int} (h:small i=true):-(2 ^ 63)<=i/\i < 2 ^ 63:=by
 have h:=Bool.and_eq_true_iff.mp h
 exact ⟨Int.le_of_lt (of_decide_eq_true h.1),of_decide_eq_true h.2⟩
theorem FQ {k:Int} {n j:Nat} (h:seqIndex? k n=some j) (h0:0<=k):k.toNat=j:=by
 unfold seqIndex? at h
 rw [if_neg (Int.not_lt.mpr h0)] at h
 exact (AJ h).2
theorem E7 {k:Int} {n j:Nat} (h:seqIndex? k n=some j) (h0:k < 0):(k+n).toNat=j/\-(n:Int)<=k:=by
 unfold seqIndex? at h
 rw [if_pos h0] at h
 have h:=AJ h
 have q:=of_decide_eq_true (Bool.and_eq_true_iff.mp h.1).1
 exact ⟨h.2,by lia⟩
variable {k:Int} {j:Nat}
theorem g_list (h:Ag σ x=some ws) (hk:small k=true) (hj:seqIndex? k ws.length=some j) (hv:ws[j]? = some v):PrG x (vi k) σ v:=fun r g s X Y A hx hy=>by
 obtain ⟨t,rfl⟩:=hy
 refine A3 A.has hx h (R_:=fun X=>∀ R_:Prop,(∀ Ty id,s.TypeIs X Ty->typeLookup (.type Ty) "__getitem__" = pure (some (.builtin id))->r.wp (getItem X (.int k t)) (Ans r g v σ) s->R_)->R_) fun l xs hL hr hl _ R_ kk=>?_
 obtain ⟨w,hw,rw'⟩:=hr.get hv
 have hw:xs[j]? = some w:=Array.getElem?_toList.symm.trans hw
 obtain ⟨o,ho,hc,_⟩:=id hL
 refine kk "list" _ ⟨o,ho,hc⟩ slot_list_getitem.lookup ?_
 by_cases h0:0<=k
 ·exact wpAny_getItem_list hL h0 (D0 hk).2 (by rw [FQ hj h0]; exact hw) (.refl A.has rw')
 ·obtain ⟨q1,q2⟩:=E7 hj (Int.not_le.mp h0)
  exact wpAny_getItem_list_neg hL (Int.not_le.mp h0) (hl▸q2) (D0 hk).1 (by rw [<-hl,q1]; exact hw) (.refl A.has rw')
theorem g_tup (h:Cm x=some ws) (hk:small k=true) (hj:seqIndex? k ws.length=some j) (hv:ws[j]? = some v):PrG x (vi k) σ v:=fun r g s X Y A hx hy=>by
 obtain ⟨t,rfl⟩:=hy
 refine CT A.has hx h (R_:=fun X=>∀ R_:Prop,(∀ Ty id,s.TypeIs X Ty->typeLookup (.type Ty) "__getitem__" = pure (some (.builtin id))->r.wp (getItem X (.int k t)) (Ans r g v σ) s->R_)->R_) fun l xs hL hr hl _ R_ kk=>?_
 obtain ⟨w,hw,rw'⟩:=hr.get hv
 have hw:xs[j]? = some w:=Array.getElem?_toList.symm.trans hw
 obtain ⟨o,ho,hc,_⟩:=id hL
 exact kk "tuple" _ ⟨o,ho,hc⟩ F.slot_tuple_getitem.lookup (PyProof.Rows.getItem_tuple hL (D0 hk).1 (D0 hk).2 (by rw [<-hl]; exact hj) hw (.refl A.has rw'))
theorem chr1_len (c:Nat):(chr1 c).length<=line:=by show 1<=line; exact Nat.succ_pos _
theorem g_str {z:Str} {ch:Nat} (hk:small k=true) (hc:Txt.charAt z k=some ch):PrG (.d (.str z)) (vi k) σ (.d (.str (chr1 ch))):=fun r g s X Y A hx hy R_ kk=>by
 obtain ⟨t,rfl,_⟩:=hx
 obtain ⟨u,rfl⟩:=hy
 refine kk "str" _ (typeIs_str _ _ _) F.slot_str_getitem.lookup (SB.getItem ?_ (by rw [hc]; rfl) (.refl A.has.tok ⟨s.toks,?_,chr1_len ch⟩))
 ·unfold fitsSsize; simp; have:=D0 hk; lia
 ·unfold Txt.item; rw [hc]; rfl
def SO (n:Nat) (e:E) (ρ:Af) (σ:Aa) (l:Option Int) (σ':Aa):Prop :=
 ∀ (c:Cx) (g:G) (s:Shared) (x:Option Expr),(if Bq e then IsNone else IsSome (IsE e c.K)) x->Inv n c ρ g σ s->c.wp (valueOrNone (evalOpt x c.env)) (fun X s'=>BI c.T [] g σ' (fun _=>∃ p:Option (Int×Tok),X=partValue p/\p.map (·.1)=l) s') s
theorem SO.none:SO n .nil ρ σ none σ:=fun c g s x hc I=>by
 obtain rfl:x=Option.none:=hc
 exact wpAny_pure (.refl I.has ⟨Option.none,rfl,rfl⟩)
theorem SO.some {i:Int} (h0:Bq e=false) (h:SE n e ρ σ (vi i) σ'):SO n e ρ σ (some i) σ':=fun c g s x hc I=>by
 rw [h0] at hc
 refine hc (fun x=>c.wp (valueOrNone (evalOpt x c.env)) (fun X s'=>BI c.T [] g σ' (fun _=>∃ p:Option (Int×Tok),X=partValue p/\p.map (·.1)=Option.some i) s') s) fun ex hc=>?_
 exact wpAny_mono (h c g s ex hc I) (fun X s' p=>p _ fun g' le H r=>.mk g' le H (r.elim fun t r=>⟨Option.some (i,t),r,rfl⟩)) fun _ _ h=>h
def PrC (x:V) (σ:Aa) (lo hi:Option Int) (Q:Ar->G->Value->Shared->Prop):Prop :=
 ∀ (r:Ar) (g:G) (s:Shared) (X:Value) (sl:Addr) (q1 q2:Option (Int×Tok)),At 0 r g σ s->An r.T g x X->s.heap.IsSliceOf sl (partValue q1) (partValue q2) .none->q1.map (·.1)=lo->q2.map (·.1)=hi ->
  ∀ R_:Prop,(∀ Ty id,s.TypeIs X Ty->typeLookup (.type Ty) "__getitem__" = pure (some (.builtin id))->r.wp (getItem X (.ref sl)) (Q r g) s->R_)->R_
theorem slc_then {lo hi:E} {l h:Option Int} {Q:Ar->G->Value->Shared->Prop} (up:∀ {r:Ar} {g g₁:G} {X:Value} {s':Shared},G.le [] g g₁->Q r g₁ X s'->Q r g X s') (ha:SE n a ρ σ x σ₁) (hl:SO n lo ρ σ₁ l σ₂) (hh:SO n hi ρ σ₂ h σ3) (hx:PrC x σ3 l h Q) {ex:Expr} (hc:IsE (.slc a lo hi) c.K ex) (I:Inv n c ρ g σ s):c.wp (eval ex c.env) (Q c.toAr g) s:=by
 refine hc (fun ex=>c.wp (eval ex c.env) (Q c.toAr g) s) fun v l u p p' h1 h2 h3=>?_
 rw [arm_eval_Subscript,arm_eval_Slice]
 refine Bz ha h1 I fun X g₁ s₁ le1 I1 r1=>wpAny_bind (wpAny_holding (Bn (r:=c.toAr) (hl c g₁ s₁ l h2 I1) fun lv g2 s2 le2 a2 r2=>?_))
 have I2:=I1.step le2 a2
 refine Bn (r:=c.toAr) (wpAny_holding (hh c g2 s2 u h3 I2)) fun uv g3 s3 le3 a3 r3=>wpAny_bind (wpAny_holding (wpAny_pure (wpAny_newObj_type (wpAny_bind (wpAny_standAt ?_)))))
 obtain ⟨q1,rfl,e1⟩:=r2
 obtain ⟨q2,rfl,e2⟩:=r3
 have I3:=I2.step le3 a3
 have I4:=I3.step (.refl _ _) (a3.keep (s':={ s3 with heap:=s3.heap.push { cls:=.type "slice",data:=.fields #[partValue q1,partValue q2,.none] } }) fun b o e=>Heap.get?_push_of_some _ e)
 refine hx c.toAr g3 _ X _ q1 q2 I4.at0 (An.mono (le2.trans le3).toup _ _ r1) (Heap.IsSliceOf.new s3.heap _ _ .none) e1 e2 _ fun Ty id hT hk w=>sub_tail (r:=c.toAr) hT hk (wpAny_mono w (fun _ _ p=>up (le1.trans (le2.trans le3)) p) fun _ _ h=>h)
theorem SL.slc {lo hi:E} {l h:Option Int} (ha:SE n a ρ σ x σ₁) (hl:SO n lo ρ σ₁ l σ₂) (hh:SO n hi ρ σ₂ h σ3) (hx:PrC x σ3 l h fun r g=>Be r g σ3 ws):SL n (.slc a lo hi) ρ σ ws σ3:=fun c g s ex hc I=>slc_then (Q:=fun r g=>Be r g σ3 ws) (fun le p=>p.after le) ha hl hh hx hc I
theorem SE.slc {lo hi:E} {l h:Option Int} (ha:SE n a ρ σ x σ₁) (hl:SO n lo ρ σ₁ l σ₂) (hh:SO n hi ρ σ₂ h σ3) (hx:PrC x σ3 l h fun r g=>Ans r g v σ3):SE n (.slc a lo hi) ρ σ v σ3:=fun c g s ex hc I=>slc_then (Q:=fun r g=>Ans r g v σ3) (fun le p=>BI.after le p) ha hl hh hx hc I
theorem part_is {q:Option (Int×Tok)} {l:Option Int} (h:q.map (·.1)=l):IsPart (partValue q) l:=by
 cases q with
 | none=>exact h▸.none
 | some p=>exact h▸.int _ _
theorem c_list {lo hi:Option Int} (h:Ag σ x=some ws):PrC x σ lo hi fun r g=>Be r g σ (BG lo hi ws):=fun r g s X sl q1 q2 A hx hs e1 e2 =>
 A3 A.has hx h (R_:=fun X=>∀ R_:Prop,(∀ Ty id,s.TypeIs X Ty->typeLookup (.type Ty) "__getitem__" = pure (some (.builtin id))->r.wp (getItem X (.ref sl)) (Be r g σ (BG lo hi ws)) s->R_)->R_) fun l xs hL hr hl hsz R_ kk=>by
  obtain ⟨o,ho,hc,_⟩:=id hL
  refine kk "list" _ ⟨o,ho,hc⟩ slot_list_getitem.lookup (wpAny_getItem_list_slice hL hs (part_is e1) (part_is e2) .none (by simp) (.push A.has ?_ ?_) (AH▸hsz))
  ·rw [slicePick_plain]
   unfold BG
   rw [hl]
   exact (hr.drop _).take _
  ·exact Nat.le_trans ((List.take_sublist _ _).trans (List.drop_sublist _ _)).length_le (hl▸hsz)
end
end Mine
namespace Mine
open PySem PySem.Calls PySem.SeqAt
section
variable {n:Nat} {r:Ar} {c:Cx} {ρ:Af} {g g' g₁:G} {σ σ' σ₁ σ₂ σ3:Aa} {s s':Shared} {e a b:E} {x y v:V} {ws us:List V} {X:Value} {ds:List PyData}
theorem clipAt_le (n:Nat) (i:Int):clipAt n i<=n:=Int.toNat_le.mpr (Int.max_le.mpr ⟨Int.natCast_nonneg n,Int.min_le_right _ _⟩)
theorem strSlice_eq (lo hi:Option Int) (x:Str):Txt.slice x lo hi=cutS lo hi x:=by
 have e:Builtin.Str.strSliceIndices lo hi 1 x.length=sliceRange (sliceBounds lo hi none x.length).1 (sliceBounds lo hi none x.length).2.1 1:=by
  unfold Builtin.Str.strSliceIndices
  cases lo <;> cases hi <;> simp [sliceBounds]
 have e2:(Builtin.Str.strSliceIndices lo hi 1 x.length).filterMap (x.cps[·]?)=BG lo hi x.cps.toList:=by
  rw [e,sliceBounds_plain]
  simp only [sliceRange_one,pick_run]
  unfold BG
  simp [Str.length]
 unfold Txt.slice cutS
 split
 ·rename_i q
  have q2:=eq_of_beq (Bool.and_eq_true_iff.mp q).2
  have l1:(BG lo hi x.cps.toList).length=x.length:=by
   have hb:hi.elim x.length (clipAt x.length)<=x.length:=by
    cases hi with
    | none=>exact Nat.le_refl _
    | some i=>exact clipAt_le _ _
   rw [e,sliceBounds_plain] at q2
   simp only [sliceRange_one,List.length_map,List.length_range] at q2
   unfold BG
   have hx:x.cps.toList.length=x.length:=Array.length_toList
   rw [hx,List.length_take,List.length_drop,hx,q2]
   exact Nat.min_eq_left (Nat.le_trans (Nat.le_of_eq q2.symm) (Nat.sub_le_sub_right hb _))
  have l2:BG lo hi x.cps.toList=x.cps.toList:=((List.take_sublist _ _).trans (List.drop_sublist _ _)).eq_of_length (l1.trans Array.length_toList.symm)
  rw [l2]
 ·rw [e2]
theorem cutS_len (lo hi:Option Int) (x:Str):(cutS lo hi x).length<=x.length:=by
 show ((BG lo hi x.cps.toList).toArray).size<=x.cps.size
 rw [List.size_toArray,<-Array.length_toList]
 exact ((List.take_sublist _ _).trans (List.drop_sublist _ _)).length_le
theorem c_str {lo hi:Option Int} {z:Str}:PrC (.d (.str z)) σ lo hi fun r g=>Ans r g (.d (.str (cutS lo hi z))) σ:=fun r g s X sl q1 q2 A hx hs e1 e2 R_ kk=>by
 obtain ⟨t,rfl,hl⟩:=hx
 refine kk "str" _ (typeIs_str _ _ _) F.slot_str_getitem.lookup (wpAny_getItem_str_slice (l:=q1) (u:=q2) (st:=none) hs rfl ?_)
 have e:(if (((none:Option (Int×Tok)).map (·.1)).getD 1 == 1&&(slicePicked z q1 q2 none).length == z.length)=true then z else ⟨((slicePicked z q1 q2 none).filterMap (z.cps[·]?)).toArray⟩)=cutS (q1.map (·.1)) (q2.map (·.1)) z:=strSlice_eq _ _ _
 unfold sliceMade
 refine post_val_or_str ?_
 rw [e,e1,e2]
 exact ⟨Nat.le_trans (cutS_len _ _ _) (AH▸hl),fun t' k=>.refl A.has.tok ⟨t',rfl,Nat.le_trans (cutS_len _ _ _) hl⟩⟩
theorem c_tup {k:Nat} {xs:List PyData} (h1:1<=k) (h2:k<=xs.length):PrC (.d (.tuple xs)) σ (some (k:Int)) none fun r g=>Ans r g (.d (.tuple (xs.drop k))) σ:=fun r g s X sl q1 q2 A hx hs e1 e2=>by
 refine hx (fun X=>∀ R_:Prop,(∀ Ty id,s.TypeIs X Ty->typeLookup (.type Ty) "__getitem__" = pure (some (.builtin id))->r.wp (getItem X (.ref sl)) (Ans r g (.d (.tuple (xs.drop k))) σ) s->R_)->R_) fun l o vs m ho hc hd hr hl R_ kk=>?_
 have ho':=A.has.fz _ _ ho
 have hn:xs.length=vs.size:=hr.all.length
 refine kk "tuple" _ ⟨o,ho',hc⟩ F.slot_tuple_getitem.lookup ?_
 cases q1 with
 | none=>exact Ab e1
 | some q1=>cases q2 with
 | some _=>exact Ga e2
 | none =>
  obtain ⟨i,t⟩:=q1
  obtain rfl:i=(k:Int):=Option.some.inj e1
  have hlen:(xs.drop k).length<=line:=Nat.le_trans (List.drop_sublist _ _).length_le hl
  refine PyProof.Rows.getItem_tuple_from (u:=t) ⟨o,ho',hc,m,hd⟩ hs h1 (hn▸h2) ?_ (by rw [<-AH,<-hn]; exact hl)
  exact tup_put (A.has.keep fun b o e=>Heap.get?_push_of_some _ e) (A.has.free (AW _)) (Heap.get?_push_size _ rfl) rfl rfl (hr.all.drop k) hlen
theorem BL {es:E} {K:Kx} {xs:List Expr} (pos:Pos) (env:Env) (h:DY es K xs):(backTo pos (starEach xs env)).any (·.1)=false:=by
 induction es generalizing xs with
 | nil=>rw [show xs=[] from h]; rfl
 | cons e es _ ih=>exact h (fun xs=>(backTo pos (starEach xs env)).any (·.1)=false) fun x l h1 h3=>by rw [(Bj e h1).star]; exact ih h3
 | _=>exact h.elim
theorem Cg {es:E} {K:Kx} {xs:List Expr} {pos:Pos} {env:Env} {f:Value} {Q:Args->Shared->Prop} (hc:DY es K xs) (h:r.wp (spliced (backTo pos (starEach xs env))) (fun vs s'=>Q ⟨vs,[]⟩ s') s):r.wp (evalArgs f true (backTo pos (starEach xs env)) []) Q s:=by
 cases es with
 | nil =>
  obtain rfl:xs=[]:=hc
  have e2:evalArgs f true (backTo pos (starEach [] env)) []=pure ⟨[],[]⟩:=by first | rfl | (unfold evalArgs; rfl)
  exact AL e2 fun Γ p hΓ=>h Γ p hΓ
 | cons e es=>exact hc (fun xs=>r.wp (spliced (backTo pos (starEach xs env))) (fun vs s'=>Q ⟨vs,[]⟩ s') s->r.wp (evalArgs f true (backTo pos (starEach xs env)) []) Q s) (fun x l h1 h3 h=>by rw [(Bj e h1).star] at h ⊢; exact evalArgs_plain h) h
 | _=>exact hc.elim
theorem biVal_cases (b:Bi) {P:Value->Prop} (h1:∀ id,P (.builtin id)) (h2:∀ t,P (.type t)):P (A6 b):=by cases b <;> first | exact h1 _ | exact h2 _
theorem biGV_val {T:Top} {b:Bi} {x:Value} (h:GVal T (biGV b) x):x=A6 b:=by cases b <;> exact h
theorem bi_then {b:Bi} {Q:Ar->G->Value->Shared->Prop} (up:∀ {r:Ar} {g g₁:G} {X:Value} {s':Shared},G.le [] g g₁->Q r g₁ X s'->Q r g X s') (h:SEs n a ρ σ ws σ₁) (hx:∀ (r:Ar) (g:G) (s:Shared) (Xs:List Value),At n r g σ₁ s->Aj r.T g ws Xs->r.wp (call (A6 b) Xs) (Q r g) s) {ex:Expr} (hc:IsE (.bi b a) c.K ex) (I:Inv n c ρ g σ s):c.wp (eval ex c.env) (Q c.toAr g) s:=by
 refine hc (fun ex=>c.wp (eval ex c.env) (Q c.toAr g) s) fun nm np vs p h1 h2=>?_
 refine PyProof.Rows.Call_Name rfl (Bp I h1 fun x hv=>?_)
 obtain rfl:=biGV_val hv
 have k:c.wp (evalArgs (A6 b) true (backTo p (starEach vs c.env)) []) (fun a s₁=>wpAny (model c.T.prog c.T.w) c.A (call (A6 b) a.pos a.kw) (Q c.toAr g) (fun _ _=>False) s₁) s :=
  Cg (r:=c.toAr) h2 (wpAny_mono (h c g s vs p h2 I) (fun Xs s₁ p=>p _ fun g₁ le a₁ r1=>wpAny_mono (hx c.toAr g₁ s₁ Xs (I.step le a₁).toAt r1) (fun _ _ p=>up le p) fun _ _ h=>h) fun _ _ h=>h)
 exact biVal_cases b (P:=fun f=>c.wp (evalArgs f true (backTo p (starEach vs c.env)) []) (fun a s₁=>wpAny (model c.T.prog c.T.w) c.A (call f a.pos a.kw) (Q c.toAr g) (fun _ _=>False) s₁) s->c.wp (callWith p f [] (backTo p (starEach vs c.env)) []) (Q c.toAr g) s)
  (fun id k=>callWith_builtin (BL _ _ h2) k) (fun t k=>PyProof.Rows.callWith_type (BL _ _ h2) k) k
theorem SE.bi {b:Bi} (h:SEs n a ρ σ ws σ₁) (hx:PrL (fun Xs=>call (A6 b) Xs) ws σ₁ v σ₂ n):SE n (.bi b a) ρ σ v σ₂:=fun c g s ex hc I=>bi_then (Q:=fun r g=>Ans r g v σ₂) (fun le p=>BI.after le p) h hx hc I
theorem SL.bi {b:Bi} (h:SEs n a ρ σ ws σ₁) (hx:∀ (r:Ar) (g:G) (s:Shared) (Xs:List Value),At n r g σ₁ s->Aj r.T g ws Xs->r.wp (call (A6 b) Xs) (Be r g σ₁ us) s):SL n (.bi b a) ρ σ us σ₁:=fun c g s ex hc I=>bi_then (Q:=fun r g=>Be r g σ₁ us) (fun le p=>p.after le) h hx hc I
theorem SE.bi1 {b:Bi} {k:Nat} (h:SEs n a ρ σ [x] σ₁) (hx:Pr1 (fun X=>call (A6 b) [X]) x σ₁ v σ₂ k) (hk:k<=n:=by exact Nat.zero_le _):SE n (.bi b a) ρ σ v σ₂:=SE.bi h fun r g s Xs A R=>by
 obtain ⟨X,rfl,rx⟩:=R.one
 exact hx r g s X (A.less hk) rx
theorem SE.bi2 {f:Bi} {k:Nat} (h:SEs n a ρ σ [x,y] σ₂) (hx:Pr2 (fun X Y=>call (A6 f) [X,Y]) x y σ₂ v σ3 k) (hk:k<=n:=by exact Nat.zero_le _):SE n (.bi f a) ρ σ v σ3:=SE.bi h fun r g s Xs A R=>by
 obtain ⟨X,Y,rfl,rx,ry⟩:=R.two
 exact hx r g s X Y (A.less hk) rx ry
theorem SL.bi1 {b:Bi} {k:Nat} (h:SEs n a ρ σ [x] σ₁) (hx:PrN1 (fun X=>call (A6 b) [X]) x σ₁ ws k) (hk:k<=n:=by exact Nat.zero_le _):SL n (.bi b a) ρ σ ws σ₁:=SL.bi h fun r g s Xs A R=>by
 obtain ⟨X,rfl,rx⟩:=R.one
 exact hx r g s X (A.less hk) rx
end
end Mine
namespace Mine
open PySem PySem.Calls PySem.SeqAt
noncomputable def strOf (n:Int):Str:=Str.ofString (toString n)
noncomputable def AN (a b:Str):Bool:=decide (a.cps.toList < b.cps.toList)
theorem ltStr_trans {a b c:Str} (h:AN a b=true) (h':AN b c=true):AN a c=true:=decide_eq_true (List.lt_trans (of_decide_eq_true h) (of_decide_eq_true h'))
theorem F9 {a b:Str} (h:AN a b=false) (h':AN b a=false):a=b:=by
 have:a.cps.toList=b.cps.toList:=List.le_antisymm (List.not_lt.mp (of_decide_eq_false h')) (List.not_lt.mp (of_decide_eq_false h))
 cases a; cases b; exact congrArg _ (Array.toList_inj.mp this)
theorem leStr_trans {a b c:Str} (h:AN b a=false) (h':AN c b=false):AN c a=false:=by
 cases e:AN c a with
 | false=>rfl
 | true=>cases e':AN a b with
  | true=>exact tt_ ((ltStr_trans e e').symm.trans h')
  | false=>rw [F9 e' h] at e; exact tt_ (e.symm.trans h')
def CD (l:List Str):Prop:=l.Pairwise fun a b=>AN b a=false
theorem CM {l:List Str}:∀ {l':List Str},CD l->CD l'->l.Perm l'->l=l':=by
 induction l with
 | nil=>exact fun _ _ p=>(List.nil_perm.mp p).symm
 | cons x r ih =>
  intro l' h h' p
  cases l' with
  | nil=>exact absurd (List.perm_nil.mp p) (List.cons_ne_nil _ _)
  | cons y r' =>
   obtain ⟨h1,h2⟩:=List.pairwise_cons.mp h
   obtain ⟨h1',h2'⟩:=List.pairwise_cons.mp h'
   have e:x=y:=(List.mem_cons.mp (p.mem_iff.mpr (List.mem_cons_self ..))).elim (fun q=>q.symm) fun q=>(List.mem_cons.mp (p.mem_iff.mp (List.mem_cons_self ..))).elim id fun q'=>F9 (h1' x q') (h1 y q)
   subst e
   rw [ih h2 h2' (List.Perm.cons_inv p)]
theorem E9 (l:List Str):∀ (p:Str),PyProof.Rows.risingS p l=true->CD (p::l):=by
 induction l with
 | nil=>exact fun p _=>List.pairwise_singleton ..
 | cons x r ih =>
  intro p h
  have h:=Bool.and_eq_true_iff.mp h
  have h0:AN x p=false:=by have:=h.1; rw [Bool.not_eq_true',PyProof.Rows.ltCps_eq] at this; exact this
  have h2:=ih x h.2
  exact List.pairwise_cons.mpr ⟨fun z hz=>(List.mem_cons.mp hz).elim (fun q=>q▸h0) fun hz=>leStr_trans h0 ((List.pairwise_cons.mp h2).1 z hz),h2⟩
theorem BQ {l:List Str} (h:PyProof.Rows.sortedS l=true):CD l:=by
 cases l with
 | nil=>exact List.Pairwise.nil
 | cons x r=>exact E9 r x h
section
variable {σ:Aa} {x y v:V} {i j:Int} {ws:List V} {t:String} {T:Top} {g:G}
noncomputable abbrev vss (ss:List Str):List V:=ss.map fun y=>.d (.str y)
theorem E4 {ss:List Str}:∀ {xs:List Value},Aj T g (vss ss) xs->PyProof.Rows.StrsAre xs ss/\∀ y∈ss,y.length<=line:=by
 induction ss with
 | nil=>intro xs h; rw [h.nil]; exact ⟨.nil,fun _ h=>(nomatch h)⟩
 | cons s ss ih =>
  intro xs h
  obtain ⟨x,xs,rfl,⟨t,rfl,hl⟩,h2⟩:=h.cons
  exact ⟨.cons s t (ih h2).1,fun z hz=>(List.mem_cons.mp hz).elim (fun q=>q▸hl) ((ih h2).2 z)⟩
theorem G6 {xs:List Value} {ss:List Str} (h:PyProof.Rows.StrsAre xs ss) (hl:∀ y∈ss,y.length<=line):Aj T g (vss ss) xs:=by
 induction h with
 | nil=>exact trivial
 | cons y t h ih=>exact ⟨⟨t,rfl,hl y (List.mem_cons_self ..)⟩,ih fun z hz=>hl z (List.mem_cons_of_mem _ hz)⟩
theorem f_sorted {ss ss':List Str} (h:Ag σ x=some (vss ss)) (hl:ss.length < 64) (hp:ss'.Perm ss) (hs:CD ss'):PrN1 (fun X=>call (A6 .sorted) [X]) x σ (vss ss'):=fun r g s X A hx =>
 A3 A.has hx h (R_:=fun X=>r.wp (call (.builtin "sorted") [X]) (Be r g σ (vss ss')) s) fun a ys hL hr hn _=>by
  obtain ⟨h1,h2⟩:=E4 hr
  have hlen:ys.toList.length < 64:=by rw [<-hr.length,List.length_map]; exact hl
  refine PyProof.Rows.sorted_strs (vs:=ys.toList) hL h1 hlen fun out out' a1 a2 a3=>?_
  obtain rfl:out'=ss':=CM (BQ a3) hs (a2.trans hp.symm)
  obtain ⟨k,hk⟩:=PyProof.Rows.sortedAll_at s.heap ys.toList out
  exact .made A.has (fun b o e=>PyProof.Rows.sortedAll_old e) (Heap.get?_none_of_le (Nat.le_succ _)) hk (G6 a1 fun z hz=>h2 z (a2.mem_iff.mp hz)) (by rw [List.length_map,hp.length_eq]; exact Nat.le_trans (Nat.le_of_lt hl) (by decide))
theorem f_len (h:Ag σ x=some ws):Pr1 (fun X=>call (A6 .len) [X]) x σ (vi ws.length) σ:=fun r g s X A hx =>
 A3 A.has hx h (R_:=fun X=>r.wp (call (.builtin "len") [X]) (Ans r g (vi ws.length) σ) s) fun a ys hL hr hn hs=>PyProof.Rows.len_list hL (Int.ofNat_lt.mpr (Dl hs)) (.refl A.has.tok ⟨_,by rw [hn]⟩)
theorem f_lenT (h:Cm x=some ws):Pr1 (fun X=>call (A6 .len) [X]) x σ (vi ws.length) σ:=fun r g s X A hx =>
 CT A.has hx h (R_:=fun X=>r.wp (call (.builtin "len") [X]) (Ans r g (vi ws.length) σ) s) fun a ys hL hr hn hs=>PyProof.Rows.len_tuple hL (Int.ofNat_lt.mpr (Dl hs)) (.refl A.has.tok ⟨_,by rw [hn]⟩)
theorem f_lenS {z:Str}:Pr1 (fun X=>call (A6 .len) [X]) (.d (.str z)) σ (vi z.cps.size) σ:=fun r g s X A hx=>by
 obtain ⟨t,rfl,hl⟩:=hx
 exact P.len_str (Int.not_le.mpr (Int.ofNat_lt.mpr (Dl hl))) (.refl A.has.tok ⟨_,rfl⟩)
theorem f_str (hi:i.natAbs < 1000000000000):Pr1 (fun X=>call (A6 .str) [X]) (vi i) σ (.d (.str (strOf i))) σ:=fun r g s X A hx=>by
 obtain ⟨t,rfl⟩:=hx
 refine P.str_of_int ?_ (.refl A.has.tok ⟨_,rfl,?_⟩)
 ·by_cases h0:i.natAbs=0
  ·rw [h0]; decide
  ·exact Nat.lt_trans ((Nat.log2_lt (k:=40) h0).mpr (Nat.lt_trans hi (by decide))) (by decide)
 ·show (Str.ofString (toString i)).length<=line
  rw [ofString_length]
  exact Nat.le_trans (int_text_length_le10 (a:=i) (k:=12) (by decide) hi) (by decide)
theorem f_min:Pr2 (fun X Y=>call (A6 .min) [X,Y]) (vi i) (vi j) σ (vi (if j < i then j else i)) σ 3:=fun r g s X Y A hx hy=>by
 obtain ⟨t,rfl⟩:=hx
 obtain ⟨u,rfl⟩:=hy
 refine min_two_ints (A.hh.none (Nat.le_refl _)) fun h' tk hk=>.refl (A.has.keep hk) ?_
 by_cases q:j < i
 ·rw [if_pos q,if_pos q]; exact ⟨u,rfl⟩
 ·rw [if_neg q,if_neg q]; exact ⟨t,rfl⟩
theorem f_list (h:Ag σ x=some ws):PrN1 (fun X=>call (A6 .list) [X]) x σ ws:=fun r g s X A hx =>
 A3 A.has hx h (R_:=fun X=>r.wp (call (.type "list") [X]) (Be r g σ ws) s) fun a ys hL hr hn hs=>by
  obtain ⟨o,ho,hc,m,hd⟩:=hL
  exact PySem.call_list_seq (hsz:=AH▸hs) a (.inl rfl) ho hc hd fun h' c' hk hD=>.made A.has hk (AW _) hD hr (hn▸hs)
theorem f_ord {ch:Nat}:Pr1 (fun X=>call (A6 .ord) [X]) (.d (.str (chr1 ch))) σ (vi ch) σ:=fun r g s X A hx=>by
 obtain ⟨t,rfl,_⟩:=hx
 exact P.ord_of_char (.refl A.has.tok ⟨_,rfl⟩)
noncomputable abbrev vbs (bs:List Bool):List V:=bs.map fun b=>.d (.bool b)
theorem bools_rep {bs:List Bool}:∀ {xs:List Value},Aj T g (vbs bs) xs->xs=bs.map Value.bool:=by
 induction bs with
 | nil=>exact fun h=>h.nil
 | cons b bs ih =>
  intro xs h
  obtain ⟨x,xs,rfl,h1,h2⟩:=h.cons
  rw [ih h2,show x=.bool b from h1]; rfl
theorem range_bs (bs:List Bool):(List.range bs.length).map (fun i=>bs[i]?.getD false)=bs:=by
 induction bs with
 | nil=>rfl
 | cons b bs ih=>rw [List.length_cons,List.range_succ_eq_map,List.map_cons,List.map_map]; exact congrArg (b :: ·) ih
theorem bools_walk {r:Ar} {s:Shared} {X:Value} {bs:List Bool} {Q:Value->Shared->Prop} {f:List Nat->(Nat->Bool)->Bool} {q:Bool} (A:At 3 r g σ s) (h:Ag σ x=some (vbs bs)) (hx:An r.T g x X) (hq:f (List.range bs.length) (fun i=>bs[i]?.getD false)=q) (k:∀ s',Has r.T g σ s'->Q (.bool q) s') :
 wpAny (model r.T.prog r.T.w) r.A.in1 (pyIter X) (fun it s2=>∃ I fp wr n P St tr,it=.ref I/\Walks r.T.prog r.T.w r.A.in1 I fp wr n P St/\St 0 s2.heap/\TruthOf r.T.prog r.T.w r.A.in1 P tr ∧
  ∀ h' tk,(∀ b o,b∉wr->s2.heap.get? b=some o->h'.get? b=some o)->Q (.bool (f (List.range n) tr)) { s2 with heap:=h',toks:=tk }) (fun _ _=>False) s:=by
 refine (A3 A.has hx h (R_:=fun X=>wpAny (model r.T.prog r.T.w) r.A.in1 (pyIter X) _ (fun _ _=>False) s) fun a ys hL hr hn hs=>wpAny_pyIter_list hL ?_)
 have hb:=bools_rep hr
 have hsz:ys.size=bs.length:=by rw [<-hn,List.length_map]
 obtain ⟨ol,hol,hcl,nl,hdl⟩:=id hL
 refine ⟨_,_,_,_,_,_,fun i=>bs[i]?.getD false,rfl,Walks.list (A:=r.A.in1) (show r.A.in1.handled=none from A.hh.none (Nat.le_refl _)) s.heap.objs.size a (Nat.ne_of_lt (Heap.lt_size hol)) ys,⟨⟨_,Heap.get?_push_size _ rfl,rfl,rfl⟩,⟨ol,Heap.get?_push_of_some _ hol,hcl,nl,hdl⟩⟩,?_,fun h' tk hk=>?_⟩
 ·intro i w s' Q E hw hq
  have hw:ys.toList[i]? = some w:=Array.getElem?_toList.trans hw
  have hq:Q (bs[i]?.getD false) s':=hq
  rw [hb,List.getElem?_map] at hw
  cases ebi:bs[i]? with
  | none=>rw [ebi] at hw; exact Ab hw
  | some c =>
   rw [ebi] at hw hq
   rw [<-Option.some.inj hw]
   exact wpAny_truthy_bool hq
 ·rw [hsz,hq]
  exact k _ (A.has.keep fun b o e=>hk b o (fun q=>by rw [List.mem_singleton.mp q,AW] at e; exact Ab e) (Heap.get?_push_of_some _ e))
theorem f_all {bs:List Bool} (h:Ag σ x=some (vbs bs)):Pr1 (fun X=>call (A6 .all) [X]) x σ (vb (bs.all id)) σ 3:=fun r g s X A hx =>
 call_all_walk (bools_walk (f:=fun l t=>l.all t) A h hx (List.all_map.symm.trans (congrArg (List.all · id) (range_bs bs))) fun s' H=>.refl H rfl)
theorem f_any {bs:List Bool} (h:Ag σ x=some (vbs bs)):Pr1 (fun X=>call (A6 .any) [X]) x σ (vb (bs.any id)) σ 3:=fun r g s X A hx =>
 call_any_walk (bools_walk (f:=fun l t=>l.any t) A h hx (List.any_map.symm.trans (congrArg (List.any · id) (range_bs bs))) fun s' H=>.refl H rfl)
end
end Mine
namespace Mine
open PySem PySem.Calls PySem.SeqAt
section
variable {σ:Aa} {x y v:V} {i j:Int} {a b:Str}
theorem c_ints {m:Value->Value->Sem Value} {q:Bool} (h:∀ (r:Ar) (s:Shared) (t u:Tok) (Q:Value->Shared->Prop),Q (.bool q) s->wpAny (model r.T.prog r.T.w) r.A (m (.int i t) (.int j u)) Q (fun _ _=>False) s):Pr2 m (vi i) (vi j) σ (vb q) σ:=Ef fun r g s X Y A hx hy Q k=>by
 obtain ⟨t,rfl⟩:=hx
 obtain ⟨u,rfl⟩:=hy
 exact h r s t u Q k
theorem p_lt:Pr2 (compareOp .Lt) (vi i) (vi j) σ (vb (decide (i < j))) σ:=c_ints fun r s t u Q h=>P.lt_int h
theorem p_le:Pr2 (compareOp .LtE) (vi i) (vi j) σ (vb (decide (i<=j))) σ:=c_ints fun r s t u Q h=>P.le_int h
theorem p_gt:Pr2 (compareOp .Gt) (vi i) (vi j) σ (vb (decide (i > j))) σ:=c_ints fun r s t u Q h=>P.gt_int h
theorem p_ge:Pr2 (compareOp .GtE) (vi i) (vi j) σ (vb (decide (i ≥ j))) σ:=c_ints fun r s t u Q h=>P.ge_int h
theorem p_geS:Pr2 (compareOp .GtE) (.d (.str a)) (.d (.str b)) σ (vb (!AN a b)) σ:=Ef fun r g s X Y A hx hy Q k=>by
 obtain ⟨t,rfl,_⟩:=hx
 obtain ⟨u,rfl,_⟩:=hy
 exact P.ge_str k
theorem p_is:Pr2 (compareOp .Is) (.d .none) (.d .none) σ (vb true) σ/\Pr2 (compareOp .IsNot) (.d .none) (.d .none) σ (vb false) σ:=by
 constructor <;> exact Ef fun r g s X Y A hx hy Q k=>by
  obtain rfl:X=.none:=hx
  obtain rfl:Y=.none:=hy
  first | exact wpAny_is_self rfl k | exact wpAny_isNot_self rfl k
noncomputable def EF (v:V):Bool:=match v with | .d x=>(match x with | .none=>false | .dict _=>false | _=>true) | .ty _=>false | _=>true
theorem notNone_form {T:Top} {g:G} {X:Value} (h:EF v=true) (r:An T g v X):plainIs X .none=true/\X≠.none:=by
 have rf:∀ a,plainIs (.ref a) .none=true/\Value.ref a≠.none:=fun a=>⟨rfl,fun q=>nomatch q⟩
 cases v with
 | d x=>cases x with
  | none=>exact ff_ h
  | bool b=>rw [show X=.bool b from r]; exact ⟨rfl,fun q=>nomatch q⟩
  | int i=>obtain ⟨t,rfl⟩:=r; exact ⟨rfl,fun q=>nomatch q⟩
  | str z=>obtain ⟨t,rfl,_⟩:=r; exact ⟨rfl,fun q=>nomatch q⟩
  | list _=>exact r (fun X=>plainIs X .none=true/\X≠.none) fun a _ _ _ _ _ _ _ _=>rf a
  | tuple _=>exact r (fun X=>plainIs X .none=true/\X≠.none) fun a _ _ _ _ _ _ _ _=>rf a
  | dict _=>exact ff_ h
 | ref k=>obtain ⟨a,_,rfl⟩:=r; exact rf a
 | tup _=>exact r (fun X=>plainIs X .none=true/\X≠.none) fun a _ _ _ _ _ _ _ _=>rf a
 | ty _=>exact ff_ h
 | obj _=>exact r (fun X=>plainIs X .none=true/\X≠.none) fun a _ _ _ _ _ _ _ _ _ _ _=>rf a
 | pr _ _=>exact r (fun X=>plainIs X .none=true/\X≠.none) fun a _ _ _ _ _ _ _ _=>rf a
 | exc _=>exact r (fun X=>plainIs X .none=true/\X≠.none) fun a _ _ _ _ _ _ _ _=>rf a
 | ecl _=>obtain ⟨a,_,rfl⟩:=r; exact rf a
theorem p_isN (h:EF v=true):Pr2 (compareOp .Is) v (.d .none) σ (vb false) σ/\Pr2 (compareOp .IsNot) v (.d .none) σ (vb true) σ:=by
 constructor <;> exact Ef fun r g s X Y A hx hy Q k=>by
  obtain rfl:Y=.none:=hy
  have f:=notNone_form h hx
  first | exact wpAny_is_other f.1 f.2 k | exact wpAny_isNot_other f.1 f.2 k
noncomputable def tyOf (σ:Aa) (v:V):Option String :=
 match v with
 | .d x=>(match x with | .tuple _=>some "tuple" | .list _=>some "list" | .str _=>some "str" | .int _=>some "int" | .bool _=>some "bool" | _=>none)
 | .tup _=>some "tuple"
 | .ref k=>(BF σ[k]?).bind fun _=>some "list"
 | _=>none
theorem tyOf_is {T:Top} {g:G} {s:Shared} {X:Value} {t:String} (H:Has T g σ s) (r:An T g v X) (h:tyOf σ v=some t):s.TypeIs X t:=by
 have sq:∀ {cl:String} {P:List Value->Prop} {n:Nat},BO g.fz cl X P n->s.TypeIs X cl:=fun r=>r (fun X=>s.TypeIs X _) fun a o vs m hf hc _ _ _=>⟨o,H.fz _ _ hf,hc⟩
 cases v with
 | d x=>cases x with
  | bool b=>rw [show X=.bool b from r,<-Option.some.inj h]; exact typeIs_bool _ _
  | int i=>obtain ⟨u,rfl⟩:=r; rw [<-Option.some.inj h]; exact typeIs_int _ _ _
  | str z=>obtain ⟨u,rfl,_⟩:=r; rw [<-Option.some.inj h]; exact typeIs_str _ _ _
  | list _=>rw [<-Option.some.inj h]; exact sq r
  | tuple _=>rw [<-Option.some.inj h]; exact sq r
  | _=>exact Ab h
 | tup _=>rw [<-Option.some.inj h]; exact sq r
 | ref k =>
  obtain ⟨ws,e,h⟩:=bind_some h
  rw [<-Option.some.inj h]
  exact A3 (v:=.ref k) H r e (R_:=fun X=>s.TypeIs X "list") fun a xs hL _ _ _=>hL.elim fun o h=>⟨o,h.1,h.2.1⟩
 | _=>exact Ab h
theorem f_isi {t:String} (h:tyOf σ v=some t) (ht:typeOf (.type t)=pure (.type "type")) (hs:isSubtype (.type t) (.type t)=pure true):Pr2 (fun X Y=>call (A6 .isinstance) [X,Y]) v (.ty t) σ (vb true) σ:=fun r g s X Y A hx hy=>by
 obtain rfl:Y=.type t:=hy
 exact call_isinstance (isinstance_true (Tx:=t) ht hs) ⟨tyOf_is A.has hx h,.refl A.has.tok rfl⟩
theorem f_isIB:Pr2 (fun X Y=>call (A6 .isinstance) [X,Y]) (vi i) (.ty "bool") σ (vb false) σ:=fun r g s X Y A hx hy=>by
 obtain rfl:Y=.type "bool" := hy
 obtain ⟨t,rfl⟩:=hx
 exact call_isinstance (isinstance_false_int (by decide) (by kernel_rfl) (by rw [isSubtype_type]; kernel_rfl)) (.refl A.has.tok rfl)
end
section
variable {κ:Type} [DecidableEq κ]
noncomputable def Al {β:Type} (kvs:List (κ×β)) (k:κ):Option β:=(kvs.find? fun p=>p.1=k).map (·.2)
noncomputable def Fj {β:Type} (kvs:List (κ×β)) (k:κ) (d:β):List (κ×β) :=
 if kvs.any (fun p=>p.1=k) then kvs.map (fun p=>if p.1=k then (p.1,d) else p) else kvs++[(k,d)]
theorem put_len {β:Type} (kvs:List (κ×β)) (k:κ) (d:β):(Fj kvs k d).length<=kvs.length+1:=by
 unfold Fj
 by_cases e:(kvs.any fun p=>p.1=k)=true
 ·rw [if_pos e,List.length_map]; exact Nat.le_succ _
 ·rw [if_neg e,List.length_append]; exact Nat.le_refl _
theorem any_find {α:Type} (p:α->Bool) (l:List α):l.any p=(l.find? p).isSome:=by
 induction l with
 | nil=>rfl
 | cons a l ih=>rw [List.any_cons,List.find?_cons,ih]; cases p a <;> rfl
theorem find_rep {β ω κ':Type} [DecidableEq κ'] {R:κ×β->ω->Prop} {key:ω->κ'} {f:κ->κ'} (hf:∀ a b,f a=f b->a=b) (hR:∀ p w,R p w->f p.1=key w) (k:κ) {kvs:List (κ×β)}:∀ {ws:List ω},Aq R kvs ws ->
 (kvs.find? (fun p=>p.1=k)=none/\ws.find? (fun w=>key w=f k)=none)\/∃ p w,kvs.find? (fun p=>p.1=k)=some p/\ws.find? (fun w=>key w=f k)=some w/\R p w:=by
 induction kvs with
 | nil=>intro ws h; rw [h.nil]; exact .inl ⟨rfl,rfl⟩
 | cons p kvs ih =>
  intro ws h
  obtain ⟨w,ws,rfl,h1,h2⟩:=h.cons
  rw [List.find?_cons,List.find?_cons,<-hR p w h1]
  by_cases e:p.1=k
  ·rw [decide_eq_true e,decide_eq_true (congrArg f e)]; exact .inr ⟨p,w,rfl,rfl,h1⟩
  ·rw [decide_eq_false e,decide_eq_false fun q=>e (hf _ _ q)]; exact ih h2
theorem put_rep {β ω κ':Type} [DecidableEq κ'] {R:κ×β->ω->Prop} {key:ω->κ'} {f:κ->κ'} (hf:∀ a b,f a=f b->a=b) (hR:∀ p w,R p w->f p.1=key w) {k:κ} {d:β} {w₀:ω} {up:ω->ω} (h0:R (k,d) w₀) (hu:∀ p w,R p w->p.1=k->R (p.1,d) (up w)) {kvs:List (κ×β)} {ws:List ω} (h:Aq R kvs ws) :
 Aq R (Fj kvs k d) (if (ws.find? (fun w=>key w=f k)).isSome then ws.map (fun w=>if key w=f k then up w else w) else ws++[w₀]):=by
 have hm:∀ {kvs:List (κ×β)} {ws:List ω},Aq R kvs ws->Aq R (kvs.map fun p=>if p.1=k then (p.1,d) else p) (ws.map fun w=>if key w=f k then up w else w):=by
  intro kvs
  induction kvs with
  | nil=>intro ws h; rw [h.nil]; exact trivial
  | cons p kvs ih =>
   intro ws h
   obtain ⟨w,ws,rfl,h1,h2⟩:=h.cons
   refine ⟨?_,ih h2⟩
   dsimp only
   rw [<-hR p w h1]
   by_cases e:p.1=k
   ·rw [if_pos e,if_pos (congrArg f e)]; exact hu p w h1 e
   ·rw [if_neg e,if_neg fun q=>e (hf _ _ q)]; exact h1
 unfold Fj
 rw [any_find]
 rcases find_rep hf hR k h with ⟨e1,e2⟩ | ⟨p,w,e1,e2,_⟩
 ·rw [e1,e2]; exact h.append ⟨h0,trivial⟩
 ·rw [e1,e2]; exact hm h
end
section
variable {r:Ar} {g:G} {σ σ':Aa} {s:Shared} {k:Nat} {a b:Addr} {kvs:List (Str×V)} {u:V} {kvp:List ((Str×Int)×PyData)} {z:Str} {q:Str×Int} {d:PyData} {v:V}
theorem At.notMods (A:At 0 r g σ s) (hk:g.mu[k]? = some a):(a == sysModules)=false:=by
 obtain ⟨o,ho⟩:=A.ok.ok.mods
 exact beq_eq_false_iff_ne.mpr fun e=>Am (A.has.ap a (List.mem_of_getElem? hk)) (e▸A.has.base _ _ ho)
noncomputable abbrev SRel (T:Top) (g:G) (d:Str×V) (v:Str×Value):Prop:=d.1=v.1/\An T g d.2 v.2
noncomputable abbrev PRel (fz:Addr->Option Obj) (d:(Str×Int)×PyData) (v:List (Str ⊕ Int)×Addr×Value):Prop:=FU d.1=v.1/\Au fz (.tuple [.str d.1.1,.int d.1.2]) (.ref v.2.1)/\Au fz d.2 v.2.2
theorem keyP_inj (k k':Str×Int) (h:FU k=FU k'):k=k':=by
 have h1:=List.cons.inj h
 exact Prod.ext (Sum.inl.inj h1.1) (Sum.inr.inj (List.cons.inj h1.2).1)
theorem Has.dictS {T:Top} (H:Has T g σ s) (hk:g.mu[k]? = some a) (hσ:σ[k]? = some (.dictS kvs)) {R_:Prop} (kk:∀ ws,s.heap.DictOf (strKind T.prog T.w) a ws->Aq (SRel T g) kvs ws->R_):R_ :=
 H.ob k a _ hk hσ R_ fun x hx r=>r R_ fun es ep ws ho hd hk' hp hn hr hl=>kk ws ⟨x,es,ep,hx,ho,hd,hk',hp,hn⟩ hr
theorem ED {T:Top} (H:Has T g σ s) (r:Au g.fz (.tuple [.str q.1,.int q.2]) (.ref b)):IsTupleKey (BS T.prog T.w) s.heap (FU q) b:=by
 refine r (fun x=>x=.ref b->IsTupleKey (BS T.prog T.w) s.heap (FU q) b) (fun a o vs m hf hc hd hr _ e=>?_) rfl
 obtain rfl:a=b:=Value.ref.inj e
 refine ⟨o,vs,m,H.fz _ _ hf,hc,hd,?_⟩
 obtain ⟨x,y,e,⟨t,rfl,_⟩,⟨t',rfl⟩⟩:=hr.all.two
 rw [e]
 exact .cons (strKind_is T.prog T.w q.1 t) (.cons (show Value.isInt q.2 (.int q.2 t')=true by simp [Value.isInt]) .nil)
theorem Has.dictP {T:Top} (H:Has T g σ s) (hk:g.mu[k]? = some a) (hσ:σ[k]? = some (.dictP kvp)) {R_:Prop} (kk:∀ ws,s.heap.DictOfH (tupleKind (BS T.prog T.w)) a ws->Aq (PRel g.fz) kvp ws->R_):R_ :=
 H.ob k a _ hk hσ R_ fun x hx r=>r R_ fun es ep ws ho hd he hn hr hl=>kk ws ⟨x,es,ep,hx,ho,hd,he,(by
  have key:∀ {kvp:List ((Str×Int)×PyData)} {ws:List (List (Str ⊕ Int)×Addr×Value)},Aq (PRel g.fz) kvp ws->∀ x∈ws,IsTupleKey (BS T.prog T.w) s.heap x.1 x.2.1:=by
   intro kvp
   induction kvp with
   | nil=>intro ws h x hx; rw [h.nil] at hx; exact nomatch hx
   | cons p kvp ih =>
    intro ws h x hx
    obtain ⟨w,ws,rfl,h1,h2⟩:=h.cons
    exact (List.mem_cons.mp hx).elim (fun e=>by rw [e,<-h1.1]; exact ED H h1.2.1) (ih h2 x)
  exact key hr),hn⟩ hr
theorem getS_rep {T:Top} {ws:List (Str×Value)} (h:Aq (SRel T g) kvs ws) (z:Str):(Al kvs z=none/\valueAt ws z=none)\/∃ d v,Al kvs z=some d/\valueAt ws z=some v/\An T g d v:=by
 rcases find_rep (f:=id) (key:=fun w:Str×Value=>w.1) (fun _ _ h=>h) (fun _ _ h=>h.1) z h with ⟨e1,e2⟩ | ⟨p,w,e1,e2,r⟩
 ·exact .inl ⟨congrArg (Option.map _) e1,congrArg (Option.map _) e2⟩
 ·exact .inr ⟨p.2,w.2,congrArg (Option.map _) e1,congrArg (Option.map _) e2,r.2⟩
theorem getP_rep {ws:List (List (Str ⊕ Int)×Addr×Value)} {fz:Addr->Option Obj} (h:Aq (PRel fz) kvp ws) (q:Str×Int):(Al kvp q=none/\atKey ws (FU q)=none)\/∃ d v,Al kvp q=some d/\atKey ws (FU q)=some v/\Au fz d v.2:=by
 rcases find_rep (f:=FU) (key:=fun w:List (Str ⊕ Int)×Addr×Value=>w.1) keyP_inj (fun _ _ h=>h.1) q h with ⟨e1,e2⟩ | ⟨p,w,e1,e2,r⟩
 ·exact .inl ⟨congrArg (Option.map _) e1,congrArg (Option.map _) e2⟩
 ·exact .inr ⟨p.2,w.2,congrArg (Option.map _) e1,congrArg (Option.map _) e2,r.2.2⟩
theorem p_inS (hσ:σ[k]? = some (.dictS kvs)):Pr2 (compareOp .In) (.d (.str z)) (.ref k) σ (vb (Al kvs z).isSome) σ/\Pr2 (compareOp .NotIn) (.d (.str z)) (.ref k) σ (vb !(Al kvs z).isSome) σ:=by
 have key:∀ {op:CmpOp} {f:Bool->Bool},(∀ (r:Ar) (s:Shared) (a:Addr) (t:Tok) (ws:List (Str×Value)) (Q:Value->Shared->Prop),(a == sysModules)=false->s.heap.DictOf (strKind r.T.prog r.T.w) a ws->(∀ tk,Q (.bool (f (valueAt ws z).isSome)) { s with toks:=tk })->wpAny (model r.T.prog r.T.w) r.A (compareOp op (.str z t) (.ref a)) Q (fun _ _=>False) s)->Pr2 (compareOp op) (.d (.str z)) (.ref k) σ (vb (f (Al kvs z).isSome)) σ:=fun h r g s X Y A hx hy=>by
  obtain ⟨t,rfl,_⟩:=hx
  obtain ⟨a,hk,rfl⟩:=hy
  refine A.has.dictS hk hσ fun ws hD hr=>h r s a t ws _ (A.notMods hk) hD fun tk=>.refl A.has.tok ?_
  rcases getS_rep hr z with ⟨e1,e2⟩ | ⟨d,v,e1,e2,_⟩ <;> rw [e1,e2] <;> rfl
 exact ⟨key (f:=id) fun r s a t ws Q hm hD h=>wpAny_in_of (k:=z) (strKind_is _ _ z t) hm hD.mapOf (h _),key (f:=not) fun r s a t ws Q hm hD h=>wpAny_notIn_of (k:=z) (strKind_is _ _ z t) hm hD.mapOf (h _)⟩
noncomputable abbrev vp (q:Str×Int):V:=.d (.tuple [.str q.1,.int q.2])
theorem pair_at {X:Value} {T:Top} (h:An T g (vp q) X) {R_:Value->Prop} (k:∀ b,Au g.fz (.tuple [.str q.1,.int q.2]) (.ref b)->R_ (.ref b)):R_ X :=
 h (fun X=>An T g (vp q) X->R_ X) (fun a _ _ _ _ _ _ _ _ h=>k a h) h
theorem p_inP (hσ:σ[k]? = some (.dictP kvp)):Pr2 (compareOp .In) (vp q) (.ref k) σ (vb (Al kvp q).isSome) σ/\Pr2 (compareOp .NotIn) (vp q) (.ref k) σ (vb !(Al kvp q).isSome) σ:=by
 have key:∀ {op:CmpOp} {f:Bool->Bool},(∀ (r:Ar) (s:Shared) (a b:Addr) (ws:List (List (Str ⊕ Int)×Addr×Value)) (Q:Value->Shared->Prop),r.A.in1.units < cLine->(a == sysModules)=false->s.heap.DictOfH (tupleKind (BS r.T.prog r.T.w)) a ws->IsTupleKey (BS r.T.prog r.T.w) s.heap (FU q) b->(∀ tk,Q (.bool (f (atKey ws (FU q)).isSome)) { s with toks:=tk })->wpAny (model r.T.prog r.T.w) r.A (compareOp op (.ref b) (.ref a)) Q (fun _ _=>False) s)->Pr2 (compareOp op) (vp q) (.ref k) σ (vb (f (Al kvp q).isSome)) σ:=fun h r g s X Y A hx hy=>by
  obtain ⟨a,hk,rfl⟩:=hy
  refine pair_at hx (R_:=fun X=>r.wp (compareOp _ X (.ref a)) (Ans r g _ σ) s) fun b hb=>A.has.dictP hk hσ fun ws hD hr=>h r s a b ws _ (Nat.lt_of_le_of_lt (Nat.le_add_right _ 40) A.room) (A.notMods hk) hD (ED A.has hb) fun tk=>.refl A.has.tok ?_
  rcases getP_rep hr q with ⟨e1,e2⟩ | ⟨d,v,e1,e2,_⟩ <;> rw [e1,e2] <;> rfl
 exact ⟨key (f:=id) fun r s a b ws Q hu hm hD hb h=>wpAny_in_heap (knd:=tupleKind (BS r.T.prog r.T.w)) hu hb hm hD (h _),key (f:=not) fun r s a b ws Q hu hm hD hb h=>PyProof.Rows.wpAny_notIn_heap (knd:=tupleKind (BS r.T.prog r.T.w)) hu hb hm hD (h _)⟩
theorem Fy {r:Ar} {a:Addr} {ob:O} (A:At 0 r g σ s) (hk:g.mu[k]? = some a) (hσ:σ[k]? = some ob) (h:∀ vs,ob≠.list vs):s.TypeIs (.ref a) "dict" :=
 A.has.ob k a _ hk hσ _ fun x hx rx=>by
  cases ob with
  | list vs=>exact absurd rfl (h vs)
  | dictS _=>exact rx _ fun _ _ _ ho _ _ _ _ _ _=>⟨x,hx,ho.1⟩
  | dictP _=>exact rx _ fun _ _ _ ho _ _ _ _ _=>⟨x,hx,ho.1⟩
theorem g_dictS (hσ:σ[k]? = some (.dictS kvs)) (hd:Al kvs z=some u):PrG (.ref k) (.d (.str z)) σ u:=fun r g s X Y A hx hy R_ kk=>by
 obtain ⟨a,hk,rfl⟩:=hx
 obtain ⟨t,rfl,_⟩:=hy
 refine kk "dict" _ (Fy A hk hσ fun _ q=>nomatch q) slot_dict_getitem.lookup (A.has.dictS hk hσ fun ws hD hr=>?_)
 rcases getS_rep hr z with ⟨e1,_⟩ | ⟨d',v,e1,e2,rv⟩
 ·exact Am e1 hd
 ·rw [As hd e1]; exact wpAny_getItem_of (k:=z) (strKind_is _ _ z t) hD.mapOf e2 (.refl A.has.tok rv)
theorem g_dictP (hσ:σ[k]? = some (.dictP kvp)) (hd:Al kvp q=some d):PrG (.ref k) (vp q) σ (.d d):=fun r g s X Y A hx hy R_ kk=>by
 obtain ⟨a,hk,rfl⟩:=hx
 refine kk "dict" _ (Fy A hk hσ fun _ q=>nomatch q) slot_dict_getitem.lookup (pair_at hy (R_:=fun Y=>r.wp (getItem (.ref a) Y) (Ans r g (.d d) σ) s) fun b hb=>A.has.dictP hk hσ fun ws hD hr=>?_)
 rcases getP_rep hr q with ⟨e1,_⟩ | ⟨d',v,e1,e2,rv⟩
 ·exact Am e1 hd
 ·rw [As hd e1]; exact wpAny_getItem_heap (knd:=tupleKind (BS r.T.prog r.T.w)) (Nat.lt_of_le_of_lt (Nat.le_add_right _ 40) A.room) (ED A.has hb) hD e2 (.refl A.has.tok rv)
end
end Mine
namespace Mine
open PySem PySem.Calls PySem.SeqAt
noncomputable abbrev lObj (xs:Array Value) (m:Nat):Obj:={ cls:=.type "list",dict:=none,data:=.seq xs m,slots:=#[] }
noncomputable abbrev vnone:V:=.d .none
section
variable {n:Nat} {T:Top} {r:Ar} {c:Cx} {ρ:Af} {g g' g₁:G} {σ σ' σ₁ σ₂ σ3:Aa} {s s':Shared} {e a b:E} {x y v:V} {ws us:List V} {X:Value} {ds:List PyData} {k:Nat} {l:Addr}
theorem Has.lst (H:Has T g σ s) (hk:g.mu[k]? = some l) (hσ:σ[k]? = some (.list ws)) {R_:Prop} (kk:∀ xs m,s.heap.get? l=some (lObj xs m)->Aj T g ws xs.toList->ws.length=xs.size->ws.length<=line->R_):R_ :=
 H.ob k l _ hk hσ R_ fun o ho ro=>ro (fun o=>s.heap.get? l=some o->R_) (fun xs m hr hl ho=>kk xs m ho hr hr.length hl) ho
theorem Has.relst {xs:Array Value} {m:Nat} (H:Has T g σ s) (hk:g.mu[k]? = some l) (hs:∀ b x,b≠l->s.heap.get? b=some x->s'.heap.get? b=some x) (ho:s'.heap.get? l=some (lObj xs m)) (hr:Aj T g us xs.toList) (hl:us.length<=line) (hg:s'.gens=s.gens:=by rfl) (hos:s'.os=s.os:=by rfl):Has T g (σ.set k (.list us)) s' :=
 H.turn (ob:=.list us) hk hs ho (fun R_ kk=>kk xs m hr hl) hg hos
theorem upd_ne {h:Heap} {f:Obj->Obj}:∀ b x,b≠l->h.get? b=some x->(h.update l f).get? b=some x:=fun b x hb e=>(Heap.get?_update_other _ _ (Ne.symm hb)).trans e
theorem Has.upd {xs:Array Value} {m:Nat} {f:Array Value->Array Value} {tk:Nat} (H:Has T g σ s) (hk:g.mu[k]? = some l) (ho:s.heap.get? l=some (lObj xs m)) (hr:Aj T g us (f xs).toList) (hl:us.length<=line):Has T g (σ.set k (.list us)) { s with heap:=s.heap.update l (Obj.mapSeq f),toks:=tk } :=
 H.relst hk upd_ne (Heap.get?_update_self _ ho rfl) hr hl
def PrM (id:String) (k:Nat) (ws us:List V) (σ:Aa) (v:V) (σ':Aa):Prop :=
 ∀ (r:Ar) (g:G) (s:Shared) (l:Addr) (xs:Array Value) (m:Nat) (Ys:List Value),At 0 r g σ s->g.mu[k]? = some l->s.heap.get? l=some (lObj xs m)->Aj r.T g ws xs.toList->ws.length=xs.size->ws.length<=line->Aj r.T g us Ys->r.wp (call (.builtin id) (.ref l::Ys)) (Ans r g v σ') s
theorem GL (hl:ws.length < line):PrM "list.append" k ws [x] σ vnone (σ.set k (.list (ws++[x]))):=fun r g s l xs m Ys A hk ho hr hn _ hy=>by
 obtain ⟨Y,rfl,ry⟩:=hy.one
 refine wpAny_list_append_plain ⟨m,ho⟩ (fun h' hp hs=>?_) (by rw [<-hn,<-AH]; exact Nat.le_of_lt hl)
 obtain ⟨m',ho'⟩:=hp
 exact .refl (A.has.relst hk (fun b x hb e=>(hs.2 b hb).trans e) ho' (by rw [Array.toList_push]; exact hr.append ⟨ry,trivial⟩) (by rw [List.length_append]; exact Nat.succ_le_of_lt hl)) rfl
theorem m_clear:PrM "list.clear" k ws [] σ vnone (σ.set k (.list [])):=fun r g s l xs m Ys A hk ho hr hn hl hy=>by
 rw [hy.nil]
 exact call_meets F.slot_list_clear ⟨_,ho,rfl⟩ F.entry_list_clear (F.args_list_clear_1 _) (AutoSeq1.list_clear_list_0 l xs m (by rw [<-hn,<-AH]; exact hl)) ⟨ho,.refl (A.has.upd (us:=[]) hk ho trivial (Nat.zero_le _)) rfl⟩
theorem nat_fit {i:Int} (h0:0<=i) (h:i.toNat<=line):Builtin.List.listFitsIndex i=true:=by
 have h1:=Dl h
 simp [Builtin.List.listFitsIndex]; lia
theorem Aq.erase {α β:Type} {R:α->β->Prop} {as:List α} {bs:List β} (h:Aq R as bs) (j:Nat):Aq R (as.eraseIdx j) (bs.eraseIdx j):=by
 rw [List.eraseIdx_eq_take_drop_succ,List.eraseIdx_eq_take_drop_succ]; exact (h.take j).append (h.drop (j+1))
theorem m_popAt {i:Int} (h0:0<=i) (hv:ws[i.toNat]? = some v):PrM "list.pop" k ws [vi i] σ v (σ.set k (.list (ws.eraseIdx i.toNat))):=fun r g s l xs m Ys A hk ho hr hn hl hy=>by
 obtain ⟨Z,rfl,⟨t,rfl⟩⟩:=hy.one
 obtain ⟨Y,hY,ry⟩:=hr.get hv
 have hi:=(List.getElem?_eq_some_iff.mp hv).1
 have hix:seqIndex? i xs.size=some i.toNat:=by
  unfold seqIndex?
  rw [if_neg (Int.not_lt.mpr h0),if_pos]
  rw [<-hn]; simp; lia
 refine call_meets F.slot_list_pop ⟨_,ho,rfl⟩ F.entry_list_pop (F.args_list_pop_2 _ _) (MeetsSeq.list_pop_at l xs m i t i.toNat Y (nat_fit h0 (Nat.le_trans (Nat.le_of_lt hi) hl)) hix (Array.getElem?_toList.symm.trans hY) (by rw [<-hn,<-AH]; exact hl)) ⟨ho,.refl (A.has.upd hk ho ?_ ?_) ry⟩
 ·rw [show (xs.eraseIdxIfInBounds i.toNat).toList=xs.toList.eraseIdx i.toNat by simp]; exact hr.erase _
 ·exact Nat.le_trans (List.length_eraseIdx_le _ _) hl
noncomputable def idxD (x:PyData):List PyData->Option Nat
 | []=>none
 | y::r=>(eqN AK y x).bind fun b=>bif b then some 0 else (idxD x r).bind fun j=>some (j+1)
theorem idx_ok {h:Heap} {d:PyData}:∀ {xs:List Value} {j:Nat},Aq (Au h.get?) ds xs->idxD d ds=some j->∃ (hj:j < xs.length),DW h d xs[j]=true/\∀ (m:Nat) (hm:m < xs.length),m < j->DW h d xs[m]=false:=by
 induction ds with
 | nil=>exact fun _ h=>Ab h
 | cons z ds ih =>
  intro xs j hr e0
  obtain ⟨x,xs,rfl,h1,h2⟩:=hr.cons
  obtain ⟨b,e,e0⟩:=bind_some e0
  have h0:=eqTo_of h1 e
  cases b with
  | true =>
   obtain rfl:0=j:=Option.some.inj e0
   exact ⟨Nat.succ_pos _,h0,fun m _ hm=>absurd hm (Nat.not_lt_zero m)⟩
  | false =>
   obtain ⟨j',e2,e3⟩:=bind_some e0
   obtain rfl:j' + 1=j:=Option.some.inj e3
   obtain ⟨q1,q2,q3⟩:=ih h2 e2
   refine ⟨Nat.succ_lt_succ q1,q2,fun m hm hj=>?_⟩
   cases m with
   | zero=>exact h0
   | succ m=>exact q3 m (Nat.lt_of_succ_lt_succ hm) (Nat.lt_of_succ_lt_succ hj)
theorem idx_at {d:PyData} {q:Bool} {j:Nat} {xs:Array Value} {Y:Value} (A:At 0 r g σ s) (hr:Aj r.T g (ds.map .d) xs.toList) (hy:Au g.fz d Y) (h1:inD d ds=some q) (h2:idxD d ds=some j) {R_:Prop}
 (kk:∀ (hj:j < xs.size),(∀ z,z∈xs->EqAt r.A.in1 s z Y (DW s.heap d z))->DW s.heap d xs[j]=true->(∀ m (hm:m < xs.size),m < j->DW s.heap d xs[m]=false)->R_):R_:=by
 have hd:=(toDs hr).mono fun _ _=>Au.mono A.has.fz _ _
 obtain ⟨h4,_⟩:=inD_ok (A:=r.A.in1) A.room (Au.mono A.has.fz _ _ hy) hd h1
 obtain ⟨q1,q2,q3⟩:=idx_ok hd h2
 exact kk q1 (fun z hz=>h4 z (Array.mem_toList_iff.mpr hz)) q2 fun m hm hj=>q3 m hm hj
theorem m_index {d:PyData} {q:Bool} {j:Nat} (h1:inD d ds=some q) (h2:idxD d ds=some j):PrM "list.index" k (ds.map .d) [.d d] σ (vi j) σ:=fun r g s l xs m Ys A hk ho hr hn hl hy=>by
 obtain ⟨Y,rfl,ry⟩:=hy.one
 refine idx_at A hr ry h1 h2 fun hj hz q1 q2=>?_
 have hj':(j:Int) < 2 ^ 63-1:=Int.lt_of_lt_of_le (Int.ofNat_lt.mpr (Nat.lt_of_lt_of_le hj (hn▸hl))) (by decide)
 exact call_meets F.slot_list_index ⟨_,ho,rfl⟩ F.entry_list_index (F.args_list_index_2 _ _) (list_indexAt l xs m none #[] Y (DW s.heap d) j hj hj' q1 q2) ⟨ho,hz,.refl A.has.tok ⟨_,rfl⟩⟩
end
end Mine
namespace Mine
open PySem PySem.Calls PySem.SeqAt
section
variable {n:Nat} {T:Top} {r:Ar} {c:Cx} {ρ:Af} {g g' g₁:G} {σ σ' σ₁ σ₂ σ3:Aa} {s s':Shared} {e a b:E} {x y v:V} {ws us:List V} {X:Value} {ds:List PyData} {k:Nat} {l:Addr}
def Ff (e:E):Prop:=∀ {K:Kx} {ex:Expr},IsE e K ex->∀ nm env w,attributeBase ex nm env w=w
theorem basic_var {i:Nat}:Ff (.var i):=fun h nm env w=>h (fun ex=>attributeBase ex nm env w=w) fun _ _ _=>rfl
theorem basic_cst {d:PyData}:Ff (.cst d):=fun h nm env w=>h (fun ex=>attributeBase ex nm env w=w) fun _ _ _=>rfl
theorem basic_sub:Ff (.sub a b):=fun h nm env w=>h (fun ex=>attributeBase ex nm env w=w) fun _ _ _ _ _=>rfl
theorem basic_attr {z:Str}:Ff (.attr z a):=fun h nm env w=>h (fun ex=>attributeBase ex nm env w=w) fun _ _ _=>rfl
theorem SE.meth {m:Meth} {Ty id:String} (hb0:Ff a) (pa:PlainAttrs Ty) (slot:Slot Ty (Str.ofString (D5 m)) id) (ty:typeOf (.builtin id)=pure (.type "method_descriptor")) (ha:SE n a ρ σ x σ₁) (hb:SEs n b ρ σ₁ ws σ₂)
 (hT:∀ (r:Ar) (g:G) (s:Shared) (X:Value),At 0 r g σ₁ s->An r.T g x X->s.TypeIs X Ty/\∀ l,X=.ref l->∃ o,s.heap.get? l=some o/\o.dict=none)
 (h:∀ (r:Ar) (g:G) (s:Shared) (X:Value) (Ys:List Value),At 0 r g σ₂ s->An r.T g x X->Aj r.T g ws Ys->r.wp (call (.builtin id) (X::Ys)) (Ans r g v σ3) s):SE n (.meth m a b) ρ σ v σ3:=by
 refine fun c g s ex hc I=>hc (fun ex=>c.wp (eval ex c.env) (Ans c.toAr g v σ3) s) fun z ap vs p h1 h2 h3 h4=>?_
 refine wpAny_Call_method_lateS (hb0 h1 _ _ _) ?_ (decide_eq_true h3) (wpAny_mono (ha c g s z h1 I) (fun X s₁ p1=>p1 _ fun g₁ le1 a₁ r1=>?_) fun _ _ h=>h)
 ·have e:=BL p c.env h2
  rw [List.any_eq_false] at e
  exact (Bool.and_eq_true _ _).mpr ⟨(Bool.and_eq_true _ _).mpr ⟨List.all_eq_true.mpr fun x hx=>by simpa using e x hx,rfl⟩,decide_eq_true (Nat.lt_trans h4 (by decide))⟩
 ·have I1:=I.step le1 a₁
  have t:=hT c.toAr g₁ s₁ X I1.at0 r1
  exact ⟨Ty,id,pa,slot,ty,t.1,t.2,callWith_builtin (BL _ _ h2) (Cg (r:=c.toAr) h2 (wpAny_mono (hb c g₁ s₁ vs p h2 I1) (fun Ys s2 p2=>p2 _ fun g2 le2 a2 r2=>Bs (r:=c.toAr) (le1.trans le2) (h c.toAr g2 s2 X Ys (I1.step le2 a2).at0 (An.mono le2.toup _ _ r1) r2)) fun _ _ h=>h))⟩
theorem SE.lmeth {m:Meth} {id:String} (hb0:Ff a) (slot:Slot "list" (Str.ofString (D5 m)) id) (ty:typeOf (.builtin id)=pure (.type "method_descriptor")) (ha:SE n a ρ σ (.ref k) σ₁) (hb:SEs n b ρ σ₁ us σ₂) (h0:σ₁[k]? = some (.list ws)) (h1:σ₂[k]? = some (.list ws)) (h:PrM id k ws us σ₂ v σ3):SE n (.meth m a b) ρ σ v σ3:=by
 refine SE.meth hb0 F.plainAttrs_list slot ty ha hb (fun r g s X A hx=>?_) fun r g s X Ys A hx hy=>?_
 ·obtain ⟨l,hk,rfl⟩:=hx
  exact A.has.lst hk h0 fun xs m ho _ _ _=>⟨⟨_,ho,rfl⟩,fun l' q=>Value.ref.inj q▸⟨_,ho,rfl⟩⟩
 ·obtain ⟨l,hk,rfl⟩:=hx
  exact A.has.lst hk h1 fun xs m ho hr hn hl=>h r g s l xs m Ys A hk ho hr hn hl hy
theorem strs_pairs {zs:List Value} {ss:List Str} (h:PyProof.Rows.StrsAre zs ss):∃ l':List (Str×Tok),strValues l'=zs/\l'.map (·.1)=ss:=by
 induction h with
 | nil=>exact ⟨[],rfl,rfl⟩
 | cons y t _ ih=>obtain ⟨l,q1,q2⟩:=ih; exact ⟨(y,t)::l,by rw [<-q1]; rfl,by rw [<-q2]; rfl⟩
theorem SE.join {z:Str} {ss:List Str} (hb0:Ff a) (hs:Ag σ₂ y=some (vss ss)) (hj:JoinOk z ss=true) (ha:SE n a ρ σ (.d (.str z)) σ₁) (hb:SEs n b ρ σ₁ [y] σ₂):SE n (.meth .join a b) ρ σ (.d (.str (Txt.join z ss))) σ₂:=by
 refine SE.meth hb0 F.plainAttrs_str F.slot_str_join F.type_str_join ha hb (fun r g s X A hx=>?_) fun r g s X Ys A hx hy=>?_
 ·obtain ⟨t,rfl,_⟩:=hx
  exact ⟨typeIs_str _ _ _,fun _ q=>nomatch q⟩
 ·obtain ⟨t,rfl,_⟩:=hx
  obtain ⟨Y,rfl,ry⟩:=hy.one
  refine A3 A.has ry hs (R_:=fun Y=>r.wp (call (.builtin "str.join") [.str z t,Y]) (Ans r g (.d (.str (Txt.join z ss))) σ₂) s) fun l xs hL hr _ _=>?_
  obtain ⟨l',hl1,hl2⟩:=strs_pairs (E4 hr).1
  exact SC.join (l:=l') (texts:=ss) (by rw [hl1]; simpa using hL) hl2 hj fun t' k=>.refl A.has.tok ⟨t',rfl,by rw [AH]; exact joinOk_length hj⟩
end
end Mine
namespace Mine
open PySem PySem.Calls PySem.SeqAt
section
variable {n:Nat} {a b:E} {ρ:Af} {σ σ₁ σ₂:Aa} {k:Nat} {kvp:List ((Str×Int)×PyData)} {q:Str×Int} {z:V}
noncomputable def dfl (o:Option PyData) (z:V):V:=match o with | some d=>.d d | none=>z
theorem SE.getP (hb0:Ff a) (ha:SE n a ρ σ (.ref k) σ₁) (hb:SEs n b ρ σ₁ [vp q,z] σ₂) (h0:σ₁[k]? = some (.dictP kvp)) (h1:σ₂[k]? = some (.dictP kvp)):SE n (.meth .get a b) ρ σ (dfl (Al kvp q) z) σ₂:=by
 refine SE.meth hb0 F.plainAttrs_dict F.slot_dict_get F.type_dict_get ha hb (fun r g s X A hx=>?_) fun r g s X Ys A hx hy=>?_
 ·obtain ⟨c,hk,rfl⟩:=hx
  refine ⟨Fy A hk h0 (fun _ q=>nomatch q),fun l e=>?_⟩
  obtain rfl:=Value.ref.inj e
  exact A.has.ob k c _ hk h0 _ fun x hx rx=>rx _ fun _ _ _ ho _ _ _ _ _=>⟨x,hx,ho.2.1⟩
 ·obtain ⟨c,hk,rfl⟩:=hx
  obtain ⟨Y,Z,rfl,ry,rz⟩:=hy.two
  refine pair_at ry (R_:=fun Y=>r.wp (call (.builtin "dict.get") [.ref c,Y,Z]) (Ans r g _ σ₂) s) fun b hb=>A.has.dictP hk h1 fun ws hD hr=>?_
  refine call_meetsIn F.slot_dict_get hD.typeIs F.entry_dict_get (F.args_dict_get_3 _ _ _) (meetsH_dict_get_default (tupleKind (BS r.T.prog r.T.w)) c b (A.notMods hk) Z) ⟨Nat.lt_of_le_of_lt (Nat.le_add_right _ 40) A.room,FU q,ws,ED A.has hb,hD,.refl A.has.tok ?_⟩
  rcases getP_rep hr q with ⟨e1,e2⟩ | ⟨d,v,e1,e2,rv⟩
  ·rw [e1,e2]; exact rz
  ·rw [e1,e2]; exact rv
end
end Mine
namespace Mine
open PySem PySem.Calls PySem.SeqAt
section
variable {fz:Addr->Option Obj} {h:Heap}
mutual
theorem Au.reads (hz:∀ a o,fz a=some o->h.get? a=some o):∀ (d:PyData) (v:Value),Au fz d v->∃ as,Reads h v d as
 | .none,v,r=>⟨[],(show v=.none from r)▸.none⟩
 | .bool b,v,r=>⟨[],(show v=.bool b from r)▸.bool b⟩
 | .int i,v,r=>let ⟨t,e⟩:=r; ⟨[],e▸.int i t⟩
 | .str s,v,r=>let ⟨t,e,_⟩:=r; ⟨[],e▸.str s t⟩
 | .list ds,v,r=>r (fun v=>∃ as,Reads h v (.list ds) as) fun a o vs m h1 h2 h3 h4 _=>let ⟨as,ra⟩:=RepDs.reads hz ds vs.toList h4; ⟨a::as,.list (hz a o h1) h2 h3 ra⟩
 | .tuple ds,v,r=>r (fun v=>∃ as,Reads h v (.tuple ds) as) fun a o vs m h1 h2 h3 h4 _=>let ⟨as,ra⟩:=RepDs.reads hz ds vs.toList h4; ⟨as,.tuple (hz a o h1) h2 h3 ra⟩
 | .dict _,_,r=>r.elim
theorem RepDs.reads (hz:∀ a o,fz a=some o->h.get? a=some o):∀ (ds:List PyData) (vs:List Value),RepDs fz ds vs->∃ as,ReadsAll h vs ds as
 | [],[],_=>⟨[],.nil⟩
 | d::ds,v::vs,r=>let ⟨as,ra⟩:=Au.reads hz d v r.1; let ⟨bs,rb⟩:=RepDs.reads hz ds vs r.2; ⟨as++bs,.cons ra rb⟩
 | [],_::_,r=>r.elim
 | _::_,[],r=>r.elim
end
end
structure Shw (d:PyData):Prop where
 able:d.showable=true
 nod:d.hasDict=false
 dep:d.depth<=50
 len:d.shown.length<=line
noncomputable def shwB (d:PyData):Bool:=d.showable&&(!d.hasDict&&(decide (d.depth<=50)&&decide (d.shown.length<=line)))
theorem shw_iff {d:PyData}:shwB d=true ↔ Shw d:=by
 unfold shwB
 rw [Bool.and_eq_true_iff,Bool.and_eq_true_iff,Bool.and_eq_true_iff,decide_eq_true_iff,decide_eq_true_iff,Bool.not_eq_true']
 exact ⟨fun h=>⟨h.1,h.2.1,h.2.2.1,h.2.2.2⟩,fun h=>⟨h.able,h.nod,h.dep,h.len⟩⟩
noncomputable def isLT (d:PyData):Bool:=match d with | .list _=>true | .tuple _=>true | _=>false
theorem isLT_ref {fz:Addr->Option Obj} {d:PyData} {X:Value} (q:isLT d=true) (hx:Au fz d X):∃ a,X=.ref a:=by
 cases d with
 | list ds=>exact hx (fun X=>∃ a,X=.ref a) fun a _ _ _ _ _ _ _ _=>⟨a,rfl⟩
 | tuple ds=>exact hx (fun X=>∃ a,X=.ref a) fun a _ _ _ _ _ _ _ _=>⟨a,rfl⟩
 | _=>exact ff_ q
theorem f_repr {σ:Aa} {d:PyData} (q:isLT d=true) (h:Shw d):Pr1 (fun X=>call (A6 .repr) [X]) (.d d) σ (.d (.str d.shown)) σ:=fun r g s X A hx=>by
 obtain ⟨as,R⟩:=Au.reads A.has.fz d X hx
 obtain ⟨a,rfl⟩:=isLT_ref q hx
 have hu:r.A.units+(d.depth+1) < cLine:=Nat.lt_of_le_of_lt (Nat.add_le_add (Nat.le_trans (Nat.le_add_right _ _) A.units) (Nat.succ_le_succ h.dep)) (show 9000+51 < 9900 by decide)
 exact repr_of_reads' R h.able (PyData.noDict_hsm h.nod) A.hh.2 hu (fun _ _ e=>e) (fun h' u tk hk=>.refl (A.has.keep hk) ⟨u,rfl,h.len⟩) (AH▸h.len)
end Mine
namespace Mine
open PySem PySem.Calls
noncomputable def Ed:Af->List Nat->List V->Af
 | ρ,i::is,v::vs=>Ed (ρ.set i (some v)) is vs
 | ρ,_,_=>ρ
section
variable {n:Nat} {c:Cx} {ρ ρ':Af} {g g':G} {σ σ' σ₁ σ₂ σ3:Aa} {s s':Shared} {i:Nat} {nm:Str} {v:V} {X:Value} {Er:Value->Shared->Prop} {e a b:E} {Q:Fl->Aa->Prop}
theorem canWr_ok {env:Env} {K:Kx} (h:env.scope.names=K.names) (hc:K.canWr i nm=true):K.vars[i]? = some nm/\nm∈K.wr/\(env.kindOf nm=some .local\/env.kindOf nm=some .cell):=by
 have h1:=Bool.and_eq_true_iff.mp hc
 have h2:=Bool.and_eq_true_iff.mp h1.1
 rw [A7 h]
 exact ⟨of_decide_eq_true h2.1,List.contains_iff_mem.mp h2.2,(Bool.or_eq_true_iff.mp h1.2).imp Kx.kd_eq Kx.kd_eq⟩
theorem Gu {j:Nat} {v w:V} (h:(ρ.set i (some w))[j]? = some (some v)):(j=i/\w=v)\/(j≠i/\ρ[j]? = some (some v)):=by
 by_cases q:i=j
 ·subst q
  by_cases hl:i < ρ.length
  ·rw [List.getElem?_set_self hl] at h; exact .inl ⟨rfl,Option.some.inj (Option.some.inj h)⟩
  ·rw [List.getElem?_eq_none (by rw [List.length_set]; exact Nat.le_of_not_lt hl)] at h; exact Ab h
 ·rw [List.getElem?_set_ne q] at h
  exact .inr ⟨fun e=>q e.symm,h⟩
theorem Fm {vars:List Str} (hn:vars.Nodup) {i j:Nat} {n:Str} (h1:vars[i]? = some n) (h2:vars[j]? = some n):i=j:=by
 obtain ⟨a,ha⟩:=List.getElem?_eq_some_iff.mp h1
 obtain ⟨b,hb⟩:=List.getElem?_eq_some_iff.mp h2
 exact (List.getElem_inj hn).mp (ha.trans hb.symm)
theorem GE {f:Addr->Option Obj} {a b:Addr} {m:Str->Option Value} {u:Option Value} (hn:NsF f a m) (hc:Em f b u):b≠a:=by
 obtain ⟨o,es,ep,ho,hd,_⟩:=hn
 obtain ⟨o',ho',hd'⟩:=hc
 intro q
 rw [q,ho] at ho'
 rw [<-Option.some.inj ho',hd] at hd'
 exact nomatch hd'
theorem DU {a b:Addr} {o:Obj} (h:g.hid a≠none):(g.hide b o).hid a≠none:=by
 show (if a=b then some o else g.hid a)≠none
 by_cases q:a=b
 ·rw [if_pos q]; exact fun q=>nomatch q
 ·rw [if_neg q]; exact h
theorem Inv.store {A':Around} {Q:Unit->Shared->Prop} (I:Inv n c ρ g σ s) (hc:c.K.canWr i nm=true) (r:An c.T g v X) (h:∀ g' s',G.le c.own g g'->G.up g g'->Inv n c (ρ.set i (some v)) g' σ s'->Q () s'):wpAny (model c.T.prog c.T.w) A' (storeName c.env nm X) Q Er s:=by
 obtain ⟨h1,h2,h3⟩:=canWr_ok I.cx.names hc
 refine I.loc.ns _ fun m hm hs=>?_
 have oth:∀ {j nm' w},c.K.vars[j]? = some nm'->(ρ.set i (some v))[j]? = some (some w)->(nm'=nm/\v=w)\/(nm'≠nm/\ρ[j]? = some (some w)):=fun {j nm' w} e1 e2=>(Gu e2).imp (fun q=>⟨As e1 (q.1▸h1),q.2⟩) fun q=>⟨fun q'=>q.1 (Fm I.cx.nd e1 (q'▸h1)),q.2⟩
 rcases h3 with hk | hk
 ·refine wpAny_storeName_local hk (I.has.ns hm) (fun h' hn hb=>?_) (by rw [I.cx.kind]; rfl)
  obtain ⟨o0,_,_,e0,_⟩:=id hm
  obtain ⟨o,es,ep,ho,hd⟩:=hn
  have up:G.up g (g.hide c.env.locals (frO o)):=⟨fun _ _ e=>e,fun _ _ e=>e⟩
  refine h (g.hide c.env.locals (frO o)) _ (.hide I.cx.oloc) up ⟨I.toAt.stepF up (I.frs.hideF rfl hd.1) (I.has.rehideH e0 (fun b x q e=>(hb.2 b q).trans e) (.fr ho)),I.cx,fun R_ k=>k (fun x=>if x=nm then some X else m x) ⟨frO o,es,ep,G.hide_self,hd⟩ fun j nm' w e1 e2 e3=>?_,fun nm' hk' R_ k=>I.loc.ce nm' hk' R_ fun a u q1 q2 q3=>k a u q1 (q2.to fun o' e=>(G.hide_ne (GE hm q2)).trans e) fun j w e1 e2=>?_,fun a ha=>DU (I.loc.ow a ha)⟩
  ·show ∃ x,(if nm'=nm then some X else m nm')=some x/\_
   rcases oth e1 e2 with ⟨q,q'⟩ | ⟨q,q'⟩
   ·rw [if_pos q,<-q']; exact ⟨X,rfl,An.mono up _ _ r⟩
   ·rw [if_neg q]; exact BD up (hs j nm' w e1 q' e3)
  ·rcases oth e1 e2 with ⟨q,q'⟩ | ⟨q,q'⟩
   ·rw [q,hk] at hk'; exact hk'.elim (fun q=>nomatch q) fun q=>nomatch q
   ·exact BD up (q3 j w e1 q')
 ·refine I.loc.ce nm (.inl hk) _ fun a u q1 q2 q3=>wpAny_storeName_cell I.cx.kind hk q1 (I.has.cell q2) fun h' hn hb=>?_
  obtain ⟨o0,e0,_⟩:=id q2
  obtain ⟨o,ho,hd⟩:=hn
  have up:G.up g (g.hide a o):=⟨fun _ _ e=>e,fun _ _ e=>e⟩
  refine h (g.hide a o) _ (.hide (I.cx.ocell nm h2 a hk q1)) up ⟨I.toAt.stepF up (I.frs.hideC q2) (I.has.rehide e0 (fun b x q e=>(hb.2 b q).trans e) ho),I.cx,fun R_ k=>k m (hm.to fun o' e=>(G.hide_ne (GE hm q2).symm).trans e) fun j nm' w e1 e2 e3=>?_,fun nm' hk' R_ k=>?_,fun a ha=>DU (I.loc.ow a ha)⟩
  ·rcases oth e1 e2 with ⟨q,q'⟩ | ⟨q,q'⟩
   ·rw [q,hk] at e3; exact nomatch e3
   ·exact BD up (hs j nm' w e1 q' e3)
  ·by_cases q:nm'=nm
   ·refine k a (some X) (q▸q1) ⟨o,G.hide_self,hd⟩ fun j w e1 e2=>(oth e1 e2).elim (fun p=>p.2▸⟨X,rfl,An.mono up _ _ r⟩) fun p=>absurd q p.1
   ·refine I.loc.ce nm' hk' R_ fun a' u' p1 p2 p3=>k a' u' p1 (p2.to fun o' e=>(G.hide_ne fun (q':a'=a)=>q (I.cx.cinj nm' nm a (q'▸p1) q1)).trans e) fun j w e1 e2=>(oth e1 e2).elim (fun p=>absurd p.1 q) fun p=>BD up (p3 j w e1 p.2)
theorem Inv.asgn {A':Around} {p:Pos} {Q:Unit->Shared->Prop} (I:Inv n c ρ g σ s) (hc:c.K.canWr i nm=true) (r:An c.T g v X) (h:∀ g' s',G.le c.own g g'->G.up g g'->Inv n c (ρ.set i (some v)) g' σ s'->Q () s'):wpAny (model c.T.prog c.T.w) A' (assign (.Name nm p) c.env X) Q Er s:=by
 rw [arm_assign_Name]
 exact wpAny_bind (wpAny_standAt (wpAny_bindName (I.store hc r h)))
theorem assign_names {ts:List Nat}:∀ {es:List Expr},IsNs c.K ts es->∀ {vs:List V} {Xs:List Value} {ρ:Af} {g:G} {s:Shared} {Q:Unit->Shared->Prop},Inv n c ρ g σ s->Aj c.T g vs Xs->vs.length=ts.length ->
 (∀ g' s',G.le c.own g g'->Inv n c (Ed ρ ts vs) g' σ s'->Q () s')->wpAny (model c.T.prog c.T.w) c.A (assignInOrder ((assignEach es c.env).map (·.2)) Xs) Q Er s:=by
 induction ts with
 | nil =>
  intro es hc vs Xs ρ g s Q I r hl h
  obtain rfl:es=[]:=hc
  obtain rfl:vs=[]:=List.length_eq_zero_iff.mp hl
  rw [r.nil]
  exact wpAny_pure (h g s (.refl _ _) I)
 | cons t ts ih =>
  intro es hc vs Xs ρ g s Q I r hl h
  cases vs with
  | nil=>exact Cc hl rfl
  | cons v vs =>
   obtain ⟨X,Xs,rfl,r1,r2⟩:=r.cons
   refine hc (fun es=>wpAny (model c.T.prog c.T.w) c.A (assignInOrder ((assignEach es c.env).map (·.2)) (X::Xs)) Q Er s) fun nm p l h1 h2=>?_
   show wpAny _ _ (holding Xs (assign (.Name nm p) c.env X)>>=fun _=>assignInOrder ((assignEach l c.env).map (·.2)) Xs) _ _ _
   exact wpAny_bind (wpAny_holding (I.asgn h1 r1 fun g₁ s₁ le1 up I1=>ih h2 I1 (Aj.mono up r2) (Nat.succ.inj hl) fun g' s' le' I'=>h g' s' (le1.trans le') I'))
theorem ns_len {ts:List Nat}:∀ {es:List Expr},IsNs c.K ts es->(assignEach es c.env).length=ts.length/\(assignEach es c.env).findIdx? (·.1)=none:=by
 induction ts with
 | nil=>intro es hc; rw [show es=[] from hc]; exact ⟨rfl,rfl⟩
 | cons t ts ih =>
  intro es hc
  refine hc (fun es=>(assignEach es c.env).length=ts.length+1/\(assignEach es c.env).findIdx? (·.1)=none) fun nm p l h1 h2=>⟨congrArg (· + 1) (ih h2).1,?_⟩
  show ((false,assign (.Name nm p) c.env)::assignEach l c.env).findIdx? (·.1)=none
  rw [List.findIdx?_cons,(ih h2).2]; rfl
theorem Inv.unpack {ts:List Nat} {es:List Expr} {k:Nat} {p:Pos} {vs:List V} {Xs:Array Value} {t:Addr} {Q:Unit->Shared->Prop} (I:Inv n c ρ g σ s) (hc:IsNs c.K ts es) (ht:s.heap.IsTuple t Xs) (r:Aj c.T g vs Xs.toList) (hl:vs.length=ts.length) (hn:3<=n)
 (h:∀ g' s',G.le c.own g g'->Inv n c (Ed ρ ts vs) g' σ s'->Q () s'):wpAny (model c.T.prog c.T.w) c.A (assign (.Tuple es k p) c.env (.ref t)) Q Er s:=by
 obtain ⟨l1,l2⟩:=ns_len (c:=c) hc
 refine wpAny_assign_Tuple (I.hh.none hn) ht (by rw [l1,<-hl,r.length]; rfl) l2 fun h' he=>?_
 exact assign_names hc (I.step (.refl _ _) (I.has.keep fun b o e=>he b o (fun q=>by rw [q,AW] at e; exact Ab e) e)) r hl h
theorem SS.ret (h:SE n e ρ σ v σ') (hq:Q (.ret v) σ'):SS n (.ret e) ρ σ Q:=fun c g s x hc I=>hc (fun x=>c.wp (exec x c.env) (AO n c g Q) s) fun ex p hc=>AL (arm_exec_Return ..) (wpAny_bind (wpAny_standAt
 (Bn (h c g s ex hc I) fun X g₁ s₁ le a₁ r1=>wpAny_pure fun R_ _ k2=>k2 v X σ' g₁ hq le.toO a₁ (I.step le a₁).loc.ow r1)))
theorem drop_any {prog:Program} {w:World} {A:Around} {s:Shared} {Q:Flow->Shared->Prop} {E:Value->Shared->Prop} {e:Expr} {p:Pos} {v:Value} (h:Q .next s):wpAny (model prog w) A (dropValue e p v) Q E s:=by
 have key:∀ a,wpAny (model prog w) A (dropValue (.List [] default) p (.ref a)) Q E s:=fun a=>by
  refine wpAny_bind (wpAny_standAt (wpAny_bind (wpAny_runValue (codeAny_builtin entry_let_go ?_))))
  unfold Builtin.«proto.let_go»
  exact wpAny_pure (wpAny_pure h)
 have key2:wpAny (model prog w) A (dropValue (.List [] default) p v) Q E s:=by
  cases v <;> first | exact wpAny_pure h | exact key _
 have to:∀ t,t=dropValue (.List [] default) p v->wpAny (model prog w) A t Q E s:=fun t e=>e▸key2
 cases e <;> first | exact wpAny_pure h | exact to _ (by kernel_rfl)
theorem SS.exp (hp:Br e=false) (h:SE n e ρ σ v σ') (hq:Q (.next ρ) σ'):SS n (.exp e) ρ σ Q:=fun c g s x hc I=>hc (fun x=>c.wp (exec x c.env) (AO n c g Q) s) fun ex p hc=>by
 have hi:interactive c.env=false:=by unfold interactive; rw [I.cx.kind]; rfl
 rw [arm_exec_Expr]
 refine wpAny_bind (wpAny_standAt ?_)
 rw [hi]
 show c.wp (swapsWith ex none p.line c.env>>=_) _ _
 rw [Dz e hp hc,pure_bind,if_neg Bool.false_ne_true]
 exact Bz h hc I fun X g₁ s₁ le I1 r1=>drop_any fun R_ k1 _=>k1 ρ σ' g₁ hq le.toO I1
theorem SS.asg (hp:Br e=false) (h:SE n e ρ σ v σ') (hq:Q (.next (ρ.set i (some v))) σ'):SS n (.asg i e) ρ σ Q:=fun c g s x hc I=>hc (fun x=>c.wp (exec x c.env) (AO n c g Q) s) fun nm p ex p' h1 hc _=>by
 rw [arm_exec_Assign]
 refine wpAny_bind (wpAny_standAt ?_)
 show c.wp (swapsWith ex (some (.Name nm p)) p'.line c.env>>=_) _ _
 rw [Dz e hp hc,pure_bind,if_neg Bool.false_ne_true]
 refine Bz h hc I fun X g₁ s₁ le I1 r1=>?_
 rw [show swappedStores [.Name nm p] ex c.env=pure none by unfold swappedStores; rfl,pure_bind]
 unfold assignStores
 show c.wp (assignAll X [assign (.Name nm p) c.env]>>=fun _=>pure Flow.next) _ _
 rw [show assignAll X [assign (.Name nm p) c.env]=assign (.Name nm p) c.env X by first | rfl | (unfold assignAll; rfl)]
 exact wpAny_bind (I1.asgn h1 r1 fun g2 s2 le2 _ I2=>wpAny_pure fun R_ k1 _=>k1 _ σ' g2 hq (le.toO.trans le2) I2)
end
end Mine
namespace Mine
open PySem PySem.Calls
section
variable {n:Nat} {c:Cx} {ρ ρ':Af} {g g' g₁:G} {σ σ' σ₁ σ₂ σ3:Aa} {s s':Shared} {i:Nat} {nm:Str} {v x y z:V} {X:Value} {e a b d:E} {Q M:Fl->Aa->Prop} {st r:S} {vs:List V} {xs:List Nat}
theorem AO.after {f:Flow} (le:G.le c.own g g₁) (h:AO n c g₁ Q f s'):AO n c g Q f s':=fun R_ k1 k2=>h R_ (fun ρ σ g' q l I=>k1 ρ σ g' q (le.trans l) I) fun v x σ g' q l H w r=>k2 v x σ g' q (le.trans l) H w r
theorem AO.elim {f:Flow} {P:Prop} (h:AO n c g Q f s') (k1:∀ ρ σ' g',f=.next->Q (.next ρ) σ'->G.le c.own g g'->Inv n c ρ g' σ' s'->P) (k2:∀ v x σ' g',f=.ret x->Q (.ret v) σ'->G.le c.own g g'->Has c.T g' σ' s'->(∀ a,a∈c.own->g'.hid a≠none)->An c.T g' v x->P):P :=
 h (fun f'=>f=f'->P) (fun ρ σ g' q l I e=>k1 ρ σ g' e q l I) (fun v x σ g' q l H w r e=>k2 v x σ g' e q l H w r) rfl
theorem AO.mono {f:Flow} (hm:∀ fl σ,M fl σ->Q fl σ) (h:AO n c g M f s'):AO n c g Q f s':=fun R_ k1 k2=>h R_ (fun ρ σ g' q l I=>k1 ρ σ g' (hm _ _ q) l I) fun v x σ g' q l H w r=>k2 v x σ g' (hm _ _ q) l H w r
theorem SS.mono (hm:∀ fl σ,M fl σ->Q fl σ) (h:SS n st ρ σ M):SS n st ρ σ Q:=fun c g s x hc I=>wpAny_mono (h c g s x hc I) (fun _ _ p=>p.mono hm) fun _ _ h=>h
theorem SSs.mono (hm:∀ fl σ,M fl σ->Q fl σ) (h:SSs n st ρ σ M):SSs n st ρ σ Q:=fun c g s x hc I=>wpAny_mono (h c g s x hc I) (fun _ _ p=>p.mono hm) fun _ _ h=>h
def andThen (n:Nat) (r:S) (Q:Fl->Aa->Prop) (fl:Fl) (σ:Aa):Prop:=match fl with | .next ρ=>SSs n r ρ σ Q | .ret v=>Q (.ret v) σ
theorem SSs.nil (h:Q (.next ρ) σ):SSs n .nil ρ σ Q:=fun c g s xs hc I=>by
 obtain rfl:xs=[]:=hc
 exact wpAny_execs_nil fun R_ k1 _=>k1 ρ σ g h (.refl _ _) I
theorem SSs.cons (h:SS n st ρ σ (andThen n r Q)):SSs n (.cons st r) ρ σ Q:=fun c g s xs hc I=>hc (fun xs=>c.wp (execs xs c.env) (AO n c g Q) s) fun x l h1 h2=>by
 rw [execs_cons]
 refine wpAny_bind (wpAny_mono (h c g s x h1 I) (fun f s₁ p=>p.elim (fun ρ1 σ₁ g₁ e q le I1=>?_) fun v x σ₁ g₁ e q le H w r=>?_) fun _ _ h=>h)
 ·subst e
  exact wpAny_mono (q c g₁ s₁ l h2 I1) (fun _ _ p=>p.after le) fun _ _ h=>h
 ·subst e
  exact wpAny_pure fun R_ _ k2=>k2 v x σ₁ g₁ q le H w r
theorem SS.ite {t:Bool} {p q:S} (h:ST n e ρ σ t σ₁) (h1:t=true->SSs n p ρ σ₁ Q) (h2:t=false->SSs n q ρ σ₁ Q):SS n (.ite e p q) ρ σ Q:=fun c g s x hc I=>hc (fun x=>c.wp (exec x c.env) (AO n c g Q) s) fun ex xs ys pos c1 c2 c3=>by
 refine wpAny_If (wpAny_mono (h c g s ex c1 I) (fun b s₁ p=>p _ fun g₁ le a₁ e₁=>?_) fun _ _ h=>h)
 subst e₁
 cases b with
 | true=>exact wpAny_mono (h1 rfl c g₁ s₁ xs c2 (I.step le a₁)) (fun _ _ p=>p.after le.toO) fun _ _ h=>h
 | false=>exact wpAny_mono (h2 rfl c g₁ s₁ ys c3 (I.step le a₁)) (fun _ _ p=>p.after le.toO) fun _ _ h=>h
noncomputable def WhQ (n:Nat) (e:E) (b:S) (Q:Fl->Aa->Prop):Nat->Af->Aa->Prop
 | 0,_,_=>False
 | k+1,ρ,σ=>∃ t σ₁,ST n e ρ σ t σ₁/\(t=false->Q (.next ρ) σ₁)/\(t=true->SSs n b ρ σ₁ fun fl σ'=>match fl with | .next ρ'=>WhQ n e b Q k ρ' σ' | .ret v=>Q (.ret v) σ')
theorem SS.while_ {k:Nat} (h:WhQ n e r Q k ρ σ):SS n (.while_ e r) ρ σ Q:=fun c g s x hc I=>hc (fun x=>c.wp (exec x c.env) (AO n c g Q) s) fun t bd p h1 h4=>by
 refine wpAny_While (codeAny_whileLoop (I:=fun k s'=>∀ R_:Prop,(∀ ρ σ g',WhQ n e r Q k ρ σ->G.le c.own g g'->Inv n c ρ g' σ s'->R_)->R_) (fun k s3 hz=>hz _ fun ρ3 σ3 g3 w le3 I3=>?_) k fun R_ kk=>kk ρ σ g h (.refl _ _) I)
 cases k with
 | zero=>exact w.elim
 | succ k =>
  obtain ⟨q,σ4,w1,w2,w3⟩:=w
  refine wpAny_mono (w1 c g3 s3 t h1 I3) (fun b s4 p=>p _ fun g4 le4 a4 e4=>?_) fun _ _ h=>h.elim
  subst e4
  have I4:=I3.step le4 a4
  have le:=le3.trans (le4.toO (own:=c.own))
  cases b with
  | false=>exact wpAny_execs_nil fun R_ k1 _=>k1 ρ3 σ4 g4 (w2 rfl) le I4
  | true =>
   refine wpAny_mono (w3 rfl c g4 s4 bd h4 I4) (fun f s5 p=>p.elim (fun ρ5 σ5 g5 e5 q l5 I5=>?_) fun v x σ5 g5 e5 q l5 H w r5=>?_) fun _ _ h=>h.elim
   ·subst e5
    exact ⟨k,Nat.lt_succ_self k,fun R_ kk=>kk ρ5 σ5 g5 q (le.trans l5) I5⟩
   ·subst e5
    exact fun R_ _ k2=>k2 v x σ5 g5 q (le.trans l5) H w r5
def PrS (x y z:V) (σ σ':Aa):Prop :=
 ∀ (r:Ar) (g:G) (s:Shared) (X Y Z:Value),At 0 r g σ s->An r.T g x X->An r.T g y Y->An r.T g z Z->r.wp (setItem X Y Z) (fun _ s'=>Has r.T g σ' s') s
theorem set_arm {oe ie ve:Expr} {p p':Pos} {env:Env} (h:∀ t l,swapsWith ve t l env=pure false):exec (.Assign [.Subscript oe ie p] ve p') env=(standAt p'>>=fun _=>eval ve env>>=fun Z=>assign (.Subscript oe ie p) env Z>>=fun _=>pure Flow.next):=by
 rw [arm_exec_Assign]
 show (standAt p'>>=fun _=>swapsWith ve (some (.Subscript oe ie p)) p'.line env>>=_)=_
 rw [h]
 rfl
theorem SS.set (hp:Br d=false) (hz:SE n d ρ σ z σ₁) (hx:SE n a ρ σ₁ x σ₂) (hy:SE n b ρ σ₂ y σ3) (h:PrS x y z σ3 σ') (hq:Q (.next ρ) σ'):SS n (.set a b d) ρ σ Q:=fun c g s st hc I=>hc (fun st=>c.wp (exec st c.env) (AO n c g Q) s) fun oe ie p ve p' h1 h2 h3=>by
 refine AL (set_arm fun t l=>Dz d hp h1 t l c.env) (wpAny_bind (wpAny_standAt (Bz hz h1 I fun Z g₁ s₁ le1 I1 r1=>?_)))
 rw [arm_assign_Subscript]
 refine wpAny_bind (wpAny_bind (wpAny_holding (wpAny_mono (hx c g₁ s₁ oe h2 I1) (fun X s2 p=>p _ fun g2 le2 a2 r2=>?_) fun _ _ h=>h)))
 have I2:=I1.step le2 a2
 refine wpAny_bind (wpAny_holding (wpAny_mono (hy c g2 s2 ie h3 I2) (fun Y s3 p=>p _ fun g3 le3 a3 r3=>?_) fun _ _ h=>h))
 have I3:=I2.step le3 a3
 refine wpAny_bind (wpAny_standAt (wpAny_bind (wpAny_holding (wpAny_mono (h c.toAr g3 s3 X Y Z I3.at0 (An.mono le3.toup _ _ r2) r3 (An.mono (le2.trans le3).toup _ _ r1)) (fun _ s4 a4=>wpAny_release (wpAny_pure ?_)) fun _ _ h=>h))))
 exact fun R_ k1 _=>k1 ρ σ' g3 hq (le1.trans (le2.trans le3)).toO (I3.step (.refl _ _) a4)
end
end Mine
namespace Mine
open PySem PySem.Calls
section
variable {T:Top} {A:Around} {s:Shared} {g:G} {Er:Value->Shared->Prop}
theorem setItem_plain {l:Addr} {items:Array Value} {m:Nat} {k:Int} {t:Tok} {v:Value} {Q:Unit->Shared->Prop} (ho:s.heap.get? l=some { cls:=.type "list",dict:=none,data:=.seq items m,slots:=#[] }) (h0:0<=k) (hfit:k < 2 ^ 63) (hn:k < items.size)
 (hQ:∀ h' m',h'.get? l=some { cls:=.type "list",dict:=none,data:=.seq (items.setIfInBounds k.toNat v) m',slots:=#[] } -> Heap.SameBut l s.heap h'->Q () { s with heap:=h' }):wpAny (model T.prog T.w) A (setItem (.ref l) (.int k t) v) Q Er s:=by
 have hT:s.TypeIs (.ref l) "list" := ⟨_,ho,rfl⟩
 unfold setItem
 refine wpAny_holding (wpAny_bind (wpAny_sequenceKey hT (by decide) (wpAny_bind (wpAny_callSpecial?_slot (name:=Str.ofString "__setitem__") hT slot_list_setitem (wpAny_call_entry slot_list_setitem hT entry_list_setitem ?_ (args_list_setitem _ _ _))))))
 show wpAny _ _ (Builtin.List.listSubscript? (.int k t)>>=_) _ _ s
 refine wpAny_bind (wpAny_listSubscript_int (fitsIndex_of h0 hfit) ?_)
 clear hfit
 obtain ⟨j,rfl⟩:=Int.eq_ofNat_of_zero_le h0
 have hj:j < items.size:=Int.ofNat_lt.mp hn
 show wpAny _ _ ((seqItemAt l j>>=fun r=>pure (r.map (j,·)))>>=_) _ _ s
 refine wpAny_bind (wpAny_bind (wpAny_seqItemAt ho rfl (wpAny_pure ?_)))
 rw [Array.getElem?_eq_getElem hj]
 show wpAny _ _ (setSeqItemAt l j v>>=_) _ _ s
 refine wpAny_bind (wpAny_setSeqItemAt ho rfl ?_)
 have e:=Heap.get?_update_self (Obj.mapSeq (·.setIfInBounds j v)) ho rfl
 exact wpAny_bind (wpAny_pure (wpAny_pure ⟨.none,rfl,wpAny_pure (hQ _ _ e (Heap.SameBut.update ..))⟩))
end
section
variable {n:Nat} {c:Cx} {ρ ρ':Af} {g g' g₁:G} {σ σ' σ₁ σ₂ σ3:Aa} {s s':Shared} {v x y z:V} {e a b d:E} {Q M:Fl->Aa->Prop} {ws vs:List V} {xs:List Nat} {k:Nat} {kvs:List (Str×V)} {kvp:List ((Str×Int)×PyData)} {w:Str} {q:Str×Int} {dd:PyData}
theorem s_list {i:Int} (hσ:σ[k]? = some (.list ws)) (h0:0<=i) (hi:i < ws.length):PrS (.ref k) (vi i) z σ (σ.set k (.list (ws.set i.toNat z))):=fun r g s X Y Z A hx hy hz=>by
 obtain ⟨l,hk,rfl⟩:=hx
 obtain ⟨t,rfl⟩:=hy
 refine A.has.lst hk hσ fun xs m ho hr hn hl=>setItem_plain ho h0 (Int.lt_trans hi (Int.ofNat_lt.mpr (Dl hl))) (hn▸hi) fun h' m' ho' hs=>?_
 exact A.has.relst hk (fun b x hb e=>(hs.2 b hb).trans e) ho' (by rw [Array.toList_setIfInBounds]; exact hr.set _ hz) (by rw [List.length_set]; exact hl)
theorem len_of {α β:Type} {R:α->β->Prop} {as:List α} {bs:List β} (h:Aq R as bs) (hl:as.length < line):bs.length<=sizeLine:=by rw [<-h.length,<-AH]; exact Nat.le_of_lt hl
theorem s_dictS (hσ:σ[k]? = some (.dictS kvs)) (hl:kvs.length < line):PrS (.ref k) (.d (.str w)) z σ (σ.set k (.dictS (Fj kvs w z))):=fun r g s X Y Z A hx hy hz=>by
 obtain ⟨l,hk,rfl⟩:=hx
 obtain ⟨t,rfl,_⟩:=hy
 refine A.has.dictS hk hσ fun ws hD hr=>wpAny_setItem_pairs (k:=w) (strKind_is _ _ w t) hD (fun h' hD' hs=>?_) (len_of hr hl)
 obtain ⟨x,es,ep,hx,ho,hd,hk',hp,hn⟩:=hD'
 refine A.has.turn (ob:=.dictS (Fj kvs w z)) hk (fun b x hb e=>(hs.2 b hb).trans e) hx fun R_ kk=>kk es ep _ ho hd hk' hp hn ?_ (Nat.le_trans (put_len _ _ _) hl)
 have h:=put_rep (f:=id) (key:=fun w:Str×Value=>w.1) (d:=z) (w₀:=(w,Z)) (up:=fun p=>(p.1,Z)) (fun _ _ h=>h) (fun _ _ h=>h.1) (k:=w) ⟨rfl,hz⟩ (fun p w h e=>⟨h.1,hz⟩) hr
 rw [<-any_find] at h
 exact h
end
end Mine
namespace Mine
open PySem PySem.Calls
section
variable {n:Nat} {c:Cx} {ρ ρ':Af} {g g' g₁:G} {σ σ' σ₁ σ₂ σ3:Aa} {s s':Shared} {v x y z:V} {e a b d:E} {Q M:Fl->Aa->Prop} {ws vs:List V} {xs:List Nat} {k:Nat}
theorem dct_is {ob:O} (h:∀ (T:Top) (g:G),Dp T g ob { cls:=.type "dict",data:=.dict #[] }):SE n .dct ρ σ (.ref σ.length) (σ++[ob]):=fun c g s ex hc I=>hc (fun ex=>c.wp (eval ex c.env) (Ans c.toAr g (.ref σ.length) (σ++[ob])) s) fun p=>wpAny_Dict_empty
 (.mk (g.add s.heap.objs.size) .add ((I.has.free (AW _)).add (ob:=ob) (I.has.keep fun b o e=>Heap.get?_push_of_some _ e) (Heap.get?_push_size _ rfl) (h _ _)) ⟨_,I.has.addAt,rfl⟩)
theorem SE.dctS:SE n .dct ρ σ (.ref σ.length) (σ++[.dictS []]):=dct_is fun T g R_ k=>by
 obtain ⟨o,es,ep,h1,h2,h3,h4,h5,h6⟩:=Heap.DictOf.new (knd:=strKind T.prog T.w) {}
 rw [Heap.get?_push_size _ rfl] at h1
 rw [<-Option.some.inj h1] at h2 h3
 exact k es ep [] h2 h3 h4 h5 h6 trivial (Nat.zero_le _)
theorem wv_rep {T:Top} {us:List (PyData ⊕ Nat)}:∀ {Xs:List Value},Aj T g (us.map wv) Xs->Aq (F2 g) us Xs:=by
 induction us with
 | nil=>intro Xs h; rw [h.nil]; exact trivial
 | cons u us ih =>
  intro Xs h
  obtain ⟨X,Xs,rfl,h1,h2⟩:=h.cons
  exact ⟨by cases u <;> exact h1,ih h2⟩
theorem SE.tupR {us:List (PyData ⊕ Nat)} (h:SEs n a ρ σ (us.map wv) σ₁) (hl:us.length<=line):SE n (.tup a) ρ σ (.tup us) σ₁:=fun c g s ex hc I=>hc (fun ex=>c.wp (eval ex c.env) (Ans c.toAr g (.tup us) σ₁) s) fun vs k p hc=>AL (arm_eval_Tuple ..) (wpAny_bind (wpAny_standAt
 (Bn (h c g s vs p hc I) fun xs g₁ s₁ le a₁ r1=>wpAny_newTuple (by
  have F:=a₁.free (AW _)
  have up:=(G.le.put (own:=[]) (o:={ cls:=.type "tuple",data:=.seq xs.toArray }) F.fz).toup
  exact .mk (g₁.put s₁.heap.objs.size _) (le.trans (.put F.fz)) (F.put (a₁.keep fun b o e=>Heap.get?_push_of_some _ e) (Heap.get?_push_size _ rfl)) fun R_ k=>k _ _ xs.toArray _ G.put_self rfl rfl (by rw [List.toList_toArray]; exact (wv_rep r1).mono (F2.mono up)) hl) (by rw [<-r1.length,<-AH,List.length_map]; exact hl))))
theorem SE.fcall {f:Nat} (h:SEs n a ρ σ vs σ₁) (hf:FA n f vs σ₁ v σ₂):SE n (.fcall f a) ρ σ v σ₂:=fun c g s ex hc I=>hc (fun ex=>c.wp (eval ex c.env) (Ans c.toAr g v σ₂) s) fun nm np es p h1 h2=>by
 refine PyProof.Rows.Call_Name rfl (Bp I h1 fun x hv=>?_)
 obtain ⟨l,hl,rfl⟩:=hv
 obtain ⟨o,fd,ho,hd⟩:=I.cx.rd.fnob f l hl
 refine callWith_function (o:=o) (fd:=fd) (Cg (r:=c.toAr) h2 (wpAny_mono (h c g s es p h2 I) (fun Xs s₁ p=>p _ fun g₁ le a₁ r1=>?_) fun _ _ h=>h))
 have I1:=I.step le a₁
 exact ⟨⟨I1.base _ _ ho,hd⟩,Bs (r:=c.toAr) le (hf c.toAr g₁ s₁ l Xs hl I1.toAt r1)⟩
theorem unp_arm {ts:List Expr} {k:Nat} {p p':Pos} {ve:Expr} {env:Env} (h:∀ t l,swapsWith ve t l env=pure false) (h':swappedStores [.Tuple ts k p] ve env=pure none):exec (.Assign [.Tuple ts k p] ve p') env=(standAt p'>>=fun _=>eval ve env>>=fun Z=>assign (.Tuple ts k p) env Z>>=fun _=>pure Flow.next):=by
 rw [arm_exec_Assign]
 show (standAt p'>>=fun _=>swapsWith ve (some (.Tuple ts k p)) p'.line env>>=_)=_
 rw [h]
 show (standAt p'>>=fun _=>eval ve env>>=fun Z=>swappedStores [.Tuple ts k p] ve env>>=_)=_
 rw [h']
 rfl
theorem SS.unp (hn:3<=n) (hp:Br e=false) (hs:∀ {K:Kx} {ex:Expr},IsE e K ex->∀ ts k p env,swappedStores [.Tuple ts k p] ex env=pure none) (h:SE n e ρ σ v σ₁) (hv:Cm v=some vs) (hl:vs.length=xs.length) (hq:Q (.next (Ed ρ xs vs)) σ₁):SS n (.unp xs e) ρ σ Q:=fun c g s x hc I=>hc (fun x=>c.wp (exec x c.env) (AO n c g Q) s) fun ts k p ve p' h1 h2=>by
 refine AL (unp_arm (fun t l=>Dz e hp h2 t l c.env) (hs h2 _ _ _ _)) (wpAny_bind (wpAny_standAt (Bz h h2 I fun X g₁ s₁ le I1 r1=>?_)))
 exact CT I1.has r1 hv (R_:=fun X=>c.wp (assign (.Tuple ts k p) c.env X>>=fun _=>pure Flow.next) (AO n c g Q) s₁) fun t Xs hT hr _ _=>wpAny_bind (I1.unpack h1 hT hr hl hn fun g2 s2 le2 I2=>wpAny_pure fun R_ k1 _=>k1 _ σ₁ g2 hq (le.toO.trans le2) I2)
end
end Mine
namespace Mine
open PySem PySem.Calls
def Bt (σ:Aa) (kps:List (Nat×List V)):Prop:=∀ k ws,(k,ws)∈kps->σ[k]? = some (.list ws)
noncomputable def ItS (m:Nat) (T:Top) (b:Bool) (kps:List (Nat×List V)) (its:List Addr) (a:Addr):List V->G->Prop
 | [],g₀=>(∀ c,c∈its->g₀.hid c≠none)/\∀ (r:Ar) (g:G) (σ:Aa) (s:Shared),r.T=T->At m r g σ s->G.up g₀ g->(∀ c,c∈its->g.hid c=g₀.hid c)->Bt σ kps->∀ Q:Option Value->Shared->Prop,
  (∀ h',(∀ c o,c∉its->s.heap.get? c=some o->h'.get? c=some o)->Q none { s with heap:=h' })->r.wp (pyNext (.ref a)) Q s
 | v::vs,g₀=>(∀ c,c∈its->g₀.hid c≠none)/\∀ (r:Ar) (g:G) (σ:Aa) (s:Shared),r.T=T->At m r g σ s->G.up g₀ g->(∀ c,c∈its->g.hid c=g₀.hid c)->Bt σ kps->∀ (t:Expr) (Q:Option Value->Shared->Prop),(b=true->∃ es k p,t=.Tuple es k p) ->
  (∀ X s₁,(∀ Q':Unit->Shared->Prop,(∀ g' s',G.le its g g'->Has r.T g' σ s'->An r.T g' v X->ItS m T b kps its a vs g'->Q' () s')->r.wp (letOwnedTupleGo t (.ref a) X) Q' s₁)->Q (some X) s₁)->r.wp (pyNext (.ref a)) Q s
def Lsrc (T:Top) (kps:List (Nat×List V)) (l:Addr) (ws:List V) (g₀:G):Prop:=∀ (g:G) (σ:Aa) (s:Shared),Has T g σ s->G.up g₀ g->Bt σ kps->∀ R_:Prop,(∀ xs,s.heap.IsList l xs->Aj T g ws xs.toList->R_)->R_
section
variable {n m:Nat} {T:Top} {r:Ar} {c:Cx} {ρ ρ':Af} {g g' g₁:G} {σ σ' σ₁ σ₂ σ3:Aa} {s s':Shared} {v x y z:V} {e a b d:E} {ws vs:List V} {kps:List (Nat×List V)} {its:List Addr} {it l:Addr} {q:Bool} {prog:Program} {w:World} {A:Around} {E:Value->Shared->Prop}
theorem ItS.mono (up:G.up g g') (hd:∀ c,c∈its->g'.hid c=g.hid c) (h:ItS m T q kps its it vs g):ItS m T q kps its it vs g':=by
 cases vs with
 | nil=>exact ⟨fun c hc=>(hd c hc).symm▸h.1 c hc,fun r g2 σ s hT A up' hd'=>h.2 r g2 σ s hT A (up.trans up') fun c hc=>(hd' c hc).trans (hd c hc)⟩
 | cons v vs=>exact ⟨fun c hc=>(hd c hc).symm▸h.1 c hc,fun r g2 σ s hT A up' hd'=>h.2 r g2 σ s hT A (up.trans up') fun c hc=>(hd' c hc).trans (hd c hc)⟩
theorem ItS.at (h:ItS m T q kps its it vs g):∀ c,c∈its->g.hid c≠none:=by cases vs with | nil=>exact h.1 | cons v vs=>exact h.1
theorem Ay {o:Obj} {a:Addr} (h:g.hid a=some o):g.hid a≠none:=fun q=>Am q h
theorem Av {P:Addr->Prop} (h:P it):∀ c,c∈[it]->P c:=fun c hc=>List.mem_singleton.mp hc▸h
theorem Lsrc.frozen {o:Obj} {xs:Array Value} {m:Nat} (hf:g.fz l=some o) (hc:o.cls=.type "list") (hd:o.data=.seq xs m) (hr:Aj T g ws xs.toList):Lsrc T [] l ws g:=fun g' σ s H up _ R_ k=>k xs ⟨o,H.fz _ _ (up.fz _ _ hf),hc,m,hd⟩ (Aj.mono up hr)
theorem Lsrc.tracked {k:Nat} (hk:g.mu[k]? = some l):Lsrc T [(k,ws)] l ws g:=fun g' σ s H up hq R_ kk=>H.lst (up.mu _ _ hk) (hq k ws (List.mem_singleton.mpr rfl)) fun xs m ho hr _ _=>kk xs ⟨_,ho,rfl,m,rfl⟩ hr
theorem no_rule {b c:Bool} {x y:Sem Unit} {Q:Unit->Shared->Prop} (hb:b=false) (h:wpAny (model prog w) A y Q E s):wpAny (model prog w) A (if (b&&c)=true then x else y) Q E s:=by
 rw [hb,Bool.false_and,if_neg Bool.false_ne_true]; exact h
theorem letOwned_plain {target:Expr} {a:Addr} {o:Obj} {n:String} {v:Value} {Q:Unit->Shared->Prop} (ho:s.heap.get? a=some o) (hc:o.cls=.type n)
 (hn:["enumerate","zip","dict_itemiterator","dict_reverseitemiterator","odict_iterator","itertools.zip_longest","itertools.pairwise"].contains n=false) (h:Q () s) :
 wpAny (model prog w) A (letOwnedTupleGo target (.ref a) v) Q E s:=by
 have key:∀ v:Addr,wpAny (model prog w) A (letOwnedTupleGo (.List [] default) (.ref a) (.ref v)) Q E s:=fun v=>by
  refine wpAny_bind (wpAny_load ho ?_)
  rw [hc]
  cases o.data <;> first
   | exact wpAny_pure h
   | exact no_rule hn (wpAny_pure h)
 have key2:wpAny (model prog w) A (letOwnedTupleGo (.List [] default) (.ref a) v) Q E s:=by
  cases v <;> first | exact wpAny_pure h | exact key _
 cases target <;> first | exact wpAny_pure h | exact key2
theorem Gf {o o':Obj} {nm:String} {t:Expr} {X:Value} {Q':Unit->Shared->Prop} (A:At m r g σ s) (e:g.hid it=some o) (hs:Heap.SameBut it s.heap s'.heap) (ho:s'.heap.get? it=some o') (hc:o'.cls=.type nm)
 (hn:["enumerate","zip","dict_itemiterator","dict_reverseitemiterator","odict_iterator","itertools.zip_longest","itertools.pairwise"].contains nm=false) (hg:s'.gens=s.gens) (hos:s'.os=s.os)
 (k:∀ g' s',G.le [it] g g'->G.up g g'->g'.hid it=some o'->Has r.T g' σ s'->Q' () s'):r.wp (letOwnedTupleGo t (.ref it) X) Q' s' :=
 letOwned_plain ho hc hn (k (g.hide it o') s' (.hide (.head _)) ⟨fun _ _ e=>e,fun _ _ e=>e⟩ G.hide_self (A.has.rehide e (fun b x q e=>(hs.2 b q).trans e) ho hg hos))
theorem Cs {α:Type} {xs:List α} {i:Nat} {x:α} {r:List α} (h:xs.drop i=x::r):xs[i]? = some x/\xs.drop (i+1)=r:=by
 have h1:=congrArg List.head? h
 have h2:=congrArg List.tail h
 rw [List.head?_drop] at h1
 rw [List.tail_drop] at h2
 exact ⟨h1,h2⟩
theorem entry_unchain:entryFor table "proto.unchain" = some Builtin.«proto.unchain»:=entryFor_of_fast (by kernel_rfl)
theorem plain_unchain:plainId "proto.unchain" = true:=by decide +kernel
theorem raiseNew_any {α:Type} {a:Addr} {o:Obj} {vs:Array Value} {Q:α->Shared->Prop} (hH:A.handled=none\/HExc g A.handled) (fz:∀ a o,g.fz a=some o->s.heap.get? a=some o)
 (ho:s.heap.get? a=some o) (hd:o.data=.fields vs) (hs:2 < vs.size) (hn:g.fz a=none)
 (h:∀ h' o',Heap.SameBut a s.heap h'->h'.get? a=some o'->o'.cls=o.cls->E (.ref a) { s with heap:=h' }) :
 wpAny (model prog w) A (raiseNew (.ref a):Sem α) Q E s:=by
 unfold raiseNew
 refine wpAny_bind (wpAny_handled ?_)
 rcases hH with hh | ⟨b,ob,bs,hh,hb,hbd,hb2⟩
 ·rw [hh]
  exact wpAny_bind (wpAny_pure (wpAny_throw (h s.heap o (Heap.SameBut.refl ..) ho rfl)))
 ·rw [hh]
  have hne:b≠a:=fun q=>by rw [q,hn] at hb; cases hb
  have hne':((Value.ref b) != (Value.ref a))=true:=by simp [hne]
  show wpAny _ _ (if (Value.ref b != Value.ref a)=true then _ else _) _ _ _
  rw [if_pos hne']
  refine wpAny_bind (wpAny_holding (wpAny_runValue (codeAny_builtin entry_unchain ?_)))
  rw [Around.under_plainId plain_unchain]
  unfold Builtin.«proto.unchain»
  show wpAny _ _ (field (.ref b) 2>>=_) _ _ _
  refine wpAny_bind (wpAny_field (fz _ _ hb) hbd hb2 ?_)
  refine wpAny_pure ?_
  show wpAny _ _ (updateField a 2 (.ref b)>>=_) _ _ _
  refine wpAny_bind ?_
  refine wpAny_setField (s:=s) ho hd hs ?_
  exact wpAny_throw (h _ _ (Heap.SameBut.update ..) (Heap.get?_update_self _ ho (Obj.isFreed_of_fields (Obj.data_mapFields hd _))) (Obj.cls_mapFields ..))
theorem next_list_end {i:Nat} {items:Array Value} {Q:Option Value->Shared->Prop} (hH:A.handled=none\/HExc g A.handled) (fz:∀ a o,g.fz a=some o->s.heap.get? a=some o) (hn:g.fz it=none)
 (hit:s.heap.IsListIter it l i) (hl:s.heap.IsList l items) (hx:items[i]? = none)
 (hQ:∀ h',Heap.ExtBut it s.heap h'->Q none { s with heap:=h' }):wpAny (model prog w) A (pyNext (.ref it)) Q E s:=by
 obtain ⟨o,ho,hc,hd⟩:=id hit
 obtain ⟨ol,hol,_,nl,hdl⟩:=hl
 unfold pyNext
 refine wpAny_bind (wpAny_attempt (wpAny_callSpecial?_slot (name:=Str.ofString "__next__") hit.typeIs slot_listiter_next
  (wpAny_call_entry slot_listiter_next hit.typeIs entry_listiter_next ?_ (args_listiter_next _))))
 show wpAny _ _ (field (.ref it) 0>>=_) _ _ s
 refine wpAny_bind (wpAny_field ho hd (x:=.ref l) rfl ?_)
 show wpAny _ _ (if (Value.ref l == Value.none)=true then _ else _) _ _ s
 rw [if_neg (show ¬ ((Value.ref l == Value.none)=true) from Bool.false_ne_true)]
 show wpAny _ _ (field (.ref it) 1>>=_) _ _ s
 refine wpAny_bind (wpAny_field ho hd (x:=.int i 0) rfl ?_)
 show wpAny _ _ (seqItems? (.ref l)>>=_) _ _ s
 refine wpAny_bind (wpAny_seqItems hol hdl ?_)
 simp only [Int.toNat_natCast,hx]
 refine wpAny_bind (wpAny_rule (wpAny_bind (wpAny_setField ho hd (by simp) ?_)))
 show wpAny _ _ (newExc (.type "StopIteration") []>>=_) _ _ _
 refine wpAny_bind ?_
 simp only [newExc,newTuple]
 refine wpAny_bind (wpAny_newObj_type ?_ (by size_fits))
 refine wpAny_bind (m:=firstArgMember _ _) (wpAny_of_eq (a:=Value.none) (by first | rfl | (simp only [firstArgMember]; rfl)) ?_)
 refine wpAny_newObj_type ?_ (by size_fits)
 have hsz:∀ (h:Heap) (o:Obj),Heap.SameBut it s.heap h->g.fz (h.push o).objs.size=none:=fun h o hs=>by
  cases e:g.fz (h.push o).objs.size with
  | none=>rfl
  | some ob =>
   have:=Heap.lt_size (fz _ _ e)
   rw [Heap.size_push,hs.1] at this; exact absurd this (Nat.not_lt.mpr (Nat.le_succ _))
 refine raiseNew_any (g:=g) hH (fun b ob e=>Heap.get?_push_of_some _ (Heap.get?_push_of_some _ ?_)) (Heap.get?_push_size _ rfl) rfl (by simp [ownMembersOf]) (hsz _ _ ?_) fun h' o' hs' ho' hc'=>?_
 ·exact (Heap.SameBut.update ..).extBut b ob (fun q=>by rw [q,hn] at e; cases e) (fz _ _ e)
 ·exact Heap.SameBut.update ..
 ·refine wpAny_bind (wpAny_isInstance (T := "StopIteration") (b:=true) ⟨o',ho',hc'⟩ isSubtype_stop ?_)
  refine wpAny_pure (hQ _ fun b ob hb e=>?_)
  have:=Heap.lt_size e
  refine (hs'.2 b ?_).trans (Heap.ExtBut.push (Heap.ExtBut.push (Heap.SameBut.update ..).extBut _) _ b ob hb e)
  simp only [Heap.size_push,(Heap.SameBut.update ..).1]
  exact Nat.ne_of_lt (Nat.lt_succ_of_lt this)
theorem it_list (hL:Lsrc T kps l ws g):∀ {i:Nat} {g₀:G} {o:Obj},ws.drop i=vs->G.up g g₀->g₀.hid it=some o->o.cls=.type "list_iterator" -> o.data=.fields #[.ref l,.int i 0]->ItS m T false kps [it] it vs g₀:=by
 induction vs with
 | nil =>
  intro i g₀ o hv up0 e hc hd
  refine ⟨Av (Ay e),fun r g' σ s hT A up hh hk Q hQ=>?_⟩
  subst hT
  have hit:s.heap.IsListIter it l i:=⟨o,(A.has.hd _ _ ((hh it (.head _)).trans e)).ex (AB hc (by decide)),hc,hd⟩
  refine hL g' σ s A.has (up0.trans up) hk _ fun xs hl hr=>next_list_end (g:=g') (A.hh.1.imp id (·.2)) A.has.fz (A.has.ah _ _ ((hh it (.head _)).trans e)).1 hit hl ?_ fun h' he=>hQ h' fun c o hc e=>he c o (fun q=>hc (q▸.head _)) e
  exact Array.getElem?_eq_none (by rw [<-Array.length_toList,<-hr.length]; exact List.drop_eq_nil_iff.mp hv)
 | cons v vs ih =>
  intro i g₀ o hv up0 e hc hd
  refine ⟨Av (Ay e),fun r g' σ s hT A up hh hk t Q ht hQ=>?_⟩
  subst hT
  have e':=(hh it (.head _)).trans e
  have hit:s.heap.IsListIter it l i:=⟨o,(A.has.hd _ _ e').ex (AB hc (by decide)),hc,hd⟩
  obtain ⟨q1,q2⟩:=Cs hv
  refine hL g' σ s A.has (up0.trans up) hk _ fun xs hl hr=>?_
  obtain ⟨X,hX,rX⟩:=hr.get q1
  refine wpAny_pyNext_list_item hit hl (Array.getElem?_toList.symm.trans hX) fun h' it' hs=>hQ X _ fun Q' k=>?_
  obtain ⟨o',ho',hc',hd'⟩:=it'
  exact Gf (s':={ s with heap:=h' }) A e' hs ho' hc' (by decide) rfl rfl fun g2 s2 le up2 e2 H=>k g2 s2 le H (An.mono up2 _ _ rX) (ih q2 (up0.trans (up.trans up2)) e2 hc' hd')
end
end Mine
namespace Mine
open PySem PySem.Calls
noncomputable def upV (lo:Int):Nat->List V
 | 0=>[]
 | n+1=>.d (.int lo)::upV (lo+1) n
noncomputable def FJ (k:Nat):List PyData->List V
 | []=>[]
 | x::xs=>.d (.tuple [.int k,x])::FJ (k+1) xs
noncomputable def zp (x y:V):V:=match x with | .d a=>(match y with | .d b=>.d (.tuple [a,b]) | y=>.pr (.d a) y) | x=>.pr x y
noncomputable def Gr:List V->List V->List V
 | x::xs,y::ys=>zp x y::Gr xs ys
 | _,_=>[]
noncomputable def signsV:List Nat->List V
 | []=>[]
 | c::r=>.d (.str (chr1 c))::signsV r
section
variable {n m₀:Nat} {T:Top} {r:Ar} {c:Cx} {ρ ρ':Af} {g g' g₁:G} {σ σ' σ₁ σ₂ σ3:Aa} {s s':Shared} {v x y z:V} {e a b d:E} {ws vs:List V} {kps:List (Nat×List V)} {its:List Addr} {it l:Addr} {q:Bool}
theorem Has.away (H:Has T g σ s) (hi:∀ c,c∈its->g.hid c≠none) (c:Addr) (hc:c∈its):g.fz c=none/\c∉g.mu/\∀ q,(c,q)∉T.tabs:=by
 cases e:g.hid c with
 | none=>exact absurd e (hi c hc)
 | some o=>exact ⟨(H.ah c o e).1,(H.ah c o e).2,H.hidTab e⟩
theorem Has.rehL (H:Has T g σ s) (hi:∀ c,c∈its->g.hid c≠none) (k:∀ c o,c∉its->s.heap.get? c=some o->s'.heap.get? c=some o) (hg:s'.gens=s.gens:=by rfl) (ho:s'.os=s.os:=by rfl):Has T ⟨g.fz,fun c=>if c∈its then s'.heap.get? c else g.hid c,g.mu⟩ σ s':=by
 have it:=H.away hi
 refine H.re _ (fun a o e=>?_) (fun b o e e'=>k b o (fun q=>Am (it b q).1 e) e') (fun b o e e'=>k b o (fun q=>(it b q).2.1 e) e') (fun t q o m e=>k t o (fun h=>(it t h).2.2 q m) e) hg ho
 by_cases q:a∈its
 ·rw [if_pos q] at e; exact ⟨.of e,it a q⟩
 ·rw [if_neg q] at e; exact ⟨(H.hd a o e).keep fun o=>k a o q,(H.ah a o e).1,(H.ah a o e).2,H.hidTab e⟩
theorem zp_rep {v w:V} {x y X:Value} (hx:An T g v x) (hy:An T g w y) (h:BO g.fz "tuple" X (fun xs=>xs=[x,y]) 2):An T g (zp v w) X:=by
 have k:An T g (.pr v w) X:=BO.mono (fun _ _ e=>e) (fun vs e=>⟨x,y,e,hx,hy⟩) h
 cases v with
 | d a=>cases w with
  | d b=>exact BO.mono (P':=fun vs=>RepDs g.fz [a,b] vs) (fun _ _ e=>e) (fun vs (e:vs=[x,y])=>by rw [e]; exact ⟨hx,hy,trivial⟩) h
  | _=>exact k
 | _=>exact k
theorem pair_step {x y:Value} {v w:V} (H:Has T g σ s) (hi:∀ c,c∈its->g.hid c≠none) (k:∀ c o,c∉its->s.heap.get? c=some o->s'.heap.get? c=some o)
 (pr:s'.heap.get? s.heap.objs.size=some { cls:=.type "tuple",data:=.seq #[x,y] }) (hx:An T g v x) (hy:An T g w y) (hg:s'.gens=s.gens) (ho:s'.os=s.os) {R_:Prop}
 (kk:∀ g',G.le its g g'->G.up g g'->Has T g' σ s'->An T g' (zp v w) (.ref s.heap.objs.size)->(∀ c,c∈its->g'.hid c=s'.heap.get? c)->R_):R_:=by
 have F:=H.free (AW s.heap)
 have hn:s.heap.objs.size∉its:=fun q=>hi _ q F.hid
 have H1:=H.rehL (s':=s') hi k hg ho
 have F1:Dv T ⟨g.fz,fun c=>if c∈its then s'.heap.get? c else g.hid c,g.mu⟩ s.heap.objs.size:=⟨F.fz,(if_neg hn).trans F.hid,F.mu,F.tab⟩
 have up:=(G.le.put (own:=[]) (g:=⟨g.fz,fun c=>if c∈its then s'.heap.get? c else g.hid c,g.mu⟩) (o:={ cls:=.type "tuple",data:=.seq #[x,y] }) F1.fz).toup
 have up':G.up g (G.put ⟨g.fz,fun c=>if c∈its then s'.heap.get? c else g.hid c,g.mu⟩ s.heap.objs.size { cls:=.type "tuple",data:=.seq #[x,y] }):=⟨up.fz,up.mu⟩
 exact kk _ ⟨up',fun c hc=>if_neg hc⟩ up' (F1.put H1 pr) (zp_rep (An.mono up' _ _ hx) (An.mono up' _ _ hy) fun R_ k=>k _ _ #[x,y] _ G.put_self rfl rfl rfl (show 2<=line by decide)) fun c hc=>if_pos hc
theorem it_range (h3:3<=m₀):∀ {m:Nat} {lo left:Int} {g₀:G},left.toNat=m->g₀.hid it=some { cls:=.type "range_iterator",dict:=none,data:=.fields #[rawInt lo,rawInt left,rawInt 1],slots:=#[] } -> ItS m₀ T false kps [it] it (upV lo m) g₀:=by
 intro m
 induction m with
 | zero =>
  intro lo left g₀ hm e
  refine ⟨Av (Ay e),fun r g' σ s hT A up hh hk Q hQ=>?_⟩
  exact wpAny_pyNext_range_end (A.hh.none h3) ((A.has.hd _ _ ((hh it (.head _)).trans e)).ex (AB rfl (by decide))) (Int.toNat_eq_zero.mp hm) fun h' he=>hQ h' fun c o hc e=>he c o (fun q=>hc (q▸.head _)) e
 | succ m ih =>
  intro lo left g₀ hm e
  refine ⟨Av (Ay e),fun r g' σ s hT A up hh hk t Q ht hQ=>?_⟩
  have e':=(hh it (.head _)).trans e
  refine wpAny_pyNext_range_item ((A.has.hd _ _ e').ex (AB rfl (by decide))) (Int.pos_iff_toNat_pos.mpr (hm▸Nat.succ_pos m)) fun h' it' hs=>hQ _ _ fun Q' k=>?_
  exact Gf (s':={ s with heap:=h',toks:=s.toks+1 }) A e' hs it' rfl (by decide) rfl rfl fun g2 s2 le up2 e2 H=>k g2 s2 le H ⟨_,rfl⟩ (ih (by rw [Int.pred_toNat,hm]; rfl) e2)
theorem it_str {z:Str} {t0:Tok} {ch:List Nat} (h3:3<=m₀) (ha:z.cps.all (· < 128)=true):∀ {i:Nat} {g₀:G} {o:Obj},z.cps.toList.drop i=ch->g₀.hid it=some o->o.cls=.type "str_ascii_iterator" -> o.data=.fields #[.str z t0,.int i 0]->ItS m₀ T false kps [it] it (signsV ch) g₀:=by
 induction ch with
 | nil =>
  intro i g₀ o hv e hc hd
  refine ⟨Av (Ay e),fun r g' σ s hT A up hh hk Q hQ=>?_⟩
  refine wpAny_pyNext_ascii_end (A.hh.none h3) ⟨o,(A.has.hd _ _ ((hh it (.head _)).trans e)).ex (AB hc (by decide)),hc,hd⟩ ?_ fun h' he=>hQ h' fun c o hc e=>he c o (fun q=>hc (q▸.head _)) e
  exact Array.getElem?_eq_none (by rw [<-Array.length_toList]; exact List.drop_eq_nil_iff.mp hv)
 | cons k ch ih =>
  intro i g₀ o hv e hc hd
  refine ⟨Av (Ay e),fun r g' σ s hT A up hh hk t Q ht hQ=>?_⟩
  have e':=(hh it (.head _)).trans e
  obtain ⟨q1,q2⟩:=Cs hv
  refine wpAny_pyNext_ascii_item ⟨o,(A.has.hd _ _ e').ex (AB hc (by decide)),hc,hd⟩ (Array.getElem?_toList.symm.trans q1) fun h' it' hs=>hQ _ _ fun Q' kk=>?_
  obtain ⟨o',ho',hc',hd'⟩:=it'
  exact Gf (s':={ s with heap:=h',toks:=s.toks+1 }) A e' hs ho' hc' (by decide) rfl rfl fun g2 s2 le up2 e2 H=>kk g2 s2 le H ⟨_,rfl,chr1_len k⟩ (ih q2 e2 hc' hd')
theorem nhd {α:Type} {a c:α} {l:List α} (h:c∉a::l):c≠a:=fun q=>h (q▸.head _)
theorem ntl {α:Type} {a c:α} {l:List α} (h:c∉a::l):c∉l:=fun q=>h (.tail _ q)
theorem Cl {α:Type} {P:α->Prop}:∀ c,c∈([]:List α)->P c:=fun _ h=>nomatch h
theorem all_cons {α:Type} {P:α->Prop} {a:α} {l:List α} (h:P a) (t:∀ c,c∈l->P c):∀ c,c∈a::l->P c:=fun c q=>(List.mem_cons.mp q).elim (fun e=>e▸h) (t c)
noncomputable abbrev GM (l:Addr) (i:Nat) (o:Obj):Prop:=o.cls=.type "list_iterator"/\o.data=.fields #[.ref l,.int i 0]
theorem end_of {xs:Array Value} {ds:List PyData} {i:Nat} (hr:Aj T g (ds.map .d) xs.toList) (h:ds.drop i=[]):xs[i]? = none:=Array.getElem?_eq_none (by rw [<-Array.length_toList,<-hr.length,List.length_map]; exact List.drop_eq_nil_iff.mp h)
theorem item_of {xs:Array Value} {ds rest:List PyData} {d:PyData} {i:Nat} (hr:Aj T g (ds.map .d) xs.toList) (h:ds.drop i=d::rest):∃ X,xs[i]? = some X/\Au g.fz d X:=by
 obtain ⟨X,hX,rX⟩:=hr.get (k:=i) (a:=.d d) (by rw [List.getElem?_map,(Cs h).1]; rfl)
 exact ⟨X,Array.getElem?_toList.symm.trans hX,rX⟩
theorem end_ofV {xs:Array Value} {ds:List V} {i:Nat} (hr:Aj T g ds xs.toList) (h:ds.drop i=[]):xs[i]? = none:=Array.getElem?_eq_none (by rw [<-Array.length_toList,<-hr.length]; exact List.drop_eq_nil_iff.mp h)
theorem item_ofV {xs:Array Value} {ds rest:List V} {d:V} {i:Nat} (hr:Aj T g ds xs.toList) (h:ds.drop i=d::rest):∃ X,xs[i]? = some X/\An T g d X:=by
 obtain ⟨X,hX,rX⟩:=hr.get (k:=i) (a:=d) (Cs h).1
 exact ⟨X,Array.getElem?_toList.symm.trans hX,rX⟩
theorem it_enum {ds rest:List PyData} {ea:Addr} (h3:3<=m₀) (hL:Lsrc T kps l (ds.map .d) g):∀ {i:Nat} {g₀:G} {o:Obj} {old:Value},ds.drop i=rest->G.up g g₀->ea≠it->g₀.hid ea=some { cls:=.type "enumerate",dict:=none,data:=.fields #[.none,.bool false,.ref it,rawInt i,.none,old],slots:=#[] } -> g₀.hid it=some o->GM l i o->ItS m₀ T true kps [ea,it] ea (FJ i rest) g₀:=by
 induction rest with
 | nil =>
  intro i g₀ o old hv up0 ne e1 e2 ho
  refine ⟨all_cons (Ay e1) (all_cons (Ay e2) Cl),fun r g' σ s hT A up hh hk Q hQ=>?_⟩
  subst hT
  have f1:=(A.has.hd _ _ ((hh ea (.head _)).trans e1)).ex (AB rfl (by decide))
  have f2:=(A.has.hd _ _ ((hh it (.tail _ (.head _))).trans e2)).ex (AB ho.1 (by decide))
  exact hL g' σ s A.has (up0.trans up) hk _ fun xs hl hr=>wpAny_pyNext_enum_end (A.hh.none h3) f1 ⟨o,f2,ho⟩ hl (end_of hr hv) fun h' he=>hQ h' fun c o hc e=>he c o (nhd (ntl hc)) e
 | cons d rest ih =>
  intro i g₀ o old hv up0 ne e1 e2 ho
  refine ⟨all_cons (Ay e1) (all_cons (Ay e2) Cl),fun r g' σ s hT A up hh hk t Q ht hQ=>?_⟩
  subst hT
  have k1:=(hh ea (.head _)).trans e1
  have k2:=(hh it (.tail _ (.head _))).trans e2
  have f1:=(A.has.hd _ _ k1).ex (AB rfl (by decide))
  have f2:=(A.has.hd _ _ k2).ex (AB ho.1 (by decide))
  refine hL g' σ s A.has (up0.trans up) hk _ fun xs hl hr=>?_
  obtain ⟨X,hX,rX⟩:=item_of hr hv
  refine wpAny_pyNext_enum_item f1 ⟨o,f2,ho⟩ hl hX ne fun h' heo hit' pr hsz hkp=>hQ _ _ fun Q' k=>?_
  obtain ⟨es,cc,p,rfl⟩:=ht rfl
  refine wpAny_letOwnedTupleGo_enum heo fun h'' he'' hs''=>?_
  have nz:s.heap.objs.size≠ea:=fun q=>by have:=Heap.lt_size f1; rw [q] at this; exact Nat.lt_irrefl _ this
  obtain ⟨o',ho',hd'⟩:=hit'
  have ho'':h''.get? it=some o':=(hs''.2 _ (Ne.symm ne)).trans ho'
  refine pair_step (s':={ s with heap:=h'',toks:=s.toks+1 }) (its:=[ea,it]) (v:=.d (.int i)) (w:=.d d) A.has (all_cons (Ay k1) (all_cons (Ay k2) Cl)) (fun c o hc e=>(hs''.2 c (nhd hc)).trans (hkp c o (nhd hc) (nhd (ntl hc)) e)) ((hs''.2 _ nz).trans pr) ⟨_,rfl⟩ rX rfl rfl fun g2 le up2 H R hd=>?_
  exact k g2 _ le H R (ih (Cs hv).2 (up0.trans (up.trans up2)) ne ((hd ea (.head _)).trans he'') ((hd it (.tail _ (.head _))).trans ho'') hd')
theorem it_zip {kps':List (Nat×List V)} {ds ds' rest:List V} {za TI TO i1 i2 l1 l2:Addr} (h3:3<=m₀) (hL1:Lsrc T kps l1 ds g) (hL2:Lsrc T kps' l2 ds' g) (D:ZipApart za TI TO i1 i2 l1 l2):∀ {rest':List V} {j1 j2:Nat} {g₀:G} {o1 o2:Obj} {a b:Value},ds.drop j1=rest->ds'.drop j2=rest'->G.up g g₀ ->
 g₀.hid za=some { cls:=.type "zip",dict:=none,data:=.fields #[.none,.bool false,.bool false,.ref TI,.ref TO],slots:=#[] } -> g₀.hid TI=some { cls:=.type "tuple",data:=.seq #[.ref i1,.ref i2] } -> g₀.hid TO=some { cls:=.type "tuple",data:=.seq #[a,b] } -> g₀.hid i1=some o1->GM l1 j1 o1->g₀.hid i2=some o2->GM l2 j2 o2 ->
 ItS m₀ T true (kps++kps') [za,TO,i1,i2,TI] za (Gr rest rest') g₀:=by
 have fin:∀ {rest rest':List V} {j1 j2:Nat} {g₀:G} {o1 o2:Obj} {a b:Value},ds.drop j1=rest->ds'.drop j2=rest'->(rest=[]\/rest'=[])->G.up g g₀ ->
  g₀.hid za=some { cls:=.type "zip",dict:=none,data:=.fields #[.none,.bool false,.bool false,.ref TI,.ref TO],slots:=#[] } -> g₀.hid TI=some { cls:=.type "tuple",data:=.seq #[.ref i1,.ref i2] } -> g₀.hid TO=some { cls:=.type "tuple",data:=.seq #[a,b] } -> g₀.hid i1=some o1->GM l1 j1 o1->g₀.hid i2=some o2->GM l2 j2 o2 ->
  ItS m₀ T true (kps++kps') [za,TO,i1,i2,TI] za [] g₀:=by
  intro rest rest' j1 j2 g₀ o1 o2 a b v1 v2 hend up0 e1 e2 e3 e4 q4 e5 q5
  refine ⟨all_cons (Ay e1) (all_cons (Ay e3) (all_cons (Ay e4) (all_cons (Ay e5) (all_cons (Ay e2) Cl)))),fun r g' σ s hT A up hh hk Q hQ=>?_⟩
  subst hT
  have H:=fun c hc o (e:g₀.hid c=some o)=>A.has.hd c o ((hh c hc).trans e)
  refine hL1 g' σ s A.has (up0.trans up) (fun k ws m=>hk k ws (List.mem_append_left _ m)) _ fun xs hl1 hr1=>hL2 g' σ s A.has (up0.trans up) (fun k ws m=>hk k ws (List.mem_append_right _ m)) _ fun ys hl2 hr2=>?_
  refine wpAny_pyNext_zip_end (A.hh.none h3) D ((H za (.head _) _ e1).ex (AB rfl (by decide))) ((H TI (.tail _ (.tail _ (.tail _ (.tail _ (.head _))))) _ e2).ex (AB rfl (by decide))) ((H TO (.tail _ (.head _)) _ e3).ex (AB rfl (by decide))) ⟨o1,(H i1 (.tail _ (.tail _ (.head _))) _ e4).ex (AB q4.1 (by decide)),q4⟩ ⟨o2,(H i2 (.tail _ (.tail _ (.tail _ (.head _)))) _ e5).ex (AB q5.1 (by decide)),q5⟩ hl1 hl2 (hend.imp (fun q=>end_ofV hr1 (v1.trans q)) fun q=>end_ofV hr2 (v2.trans q)) fun h' hkp=>hQ h' fun c o hc e=>hkp c o (nhd hc) (nhd (ntl hc)) (nhd (ntl (ntl hc))) (nhd (ntl (ntl (ntl hc)))) e
 induction rest with
 | nil=>intro rest' j1 j2 g₀ o1 o2 a b v1 v2; exact fin v1 v2 (.inl rfl)
 | cons d rest ih =>
  intro rest' j1 j2 g₀ o1 o2 a b v1 v2 up0 e1 e2 e3 e4 q4 e5 q5
  cases rest' with
  | nil=>exact fin v1 v2 (.inr rfl) up0 e1 e2 e3 e4 q4 e5 q5
  | cons d' rest' =>
  refine ⟨all_cons (Ay e1) (all_cons (Ay e3) (all_cons (Ay e4) (all_cons (Ay e5) (all_cons (Ay e2) Cl)))),fun r g' σ s hT A up hh hk t Q ht hQ=>?_⟩
  subst hT
  have K:=fun c hc o (e:g₀.hid c=some o)=>(hh c hc).trans e
  have m1:=K za (.head _) _ e1
  have m2:=K TO (.tail _ (.head _)) _ e3
  have m3:=K i1 (.tail _ (.tail _ (.head _))) _ e4
  have m4:=K i2 (.tail _ (.tail _ (.tail _ (.head _)))) _ e5
  have m5:=K TI (.tail _ (.tail _ (.tail _ (.tail _ (.head _))))) _ e2
  refine hL1 g' σ s A.has (up0.trans up) (fun k ws m=>hk k ws (List.mem_append_left _ m)) _ fun xs hl1 hr1=>hL2 g' σ s A.has (up0.trans up) (fun k ws m=>hk k ws (List.mem_append_right _ m)) _ fun ys hl2 hr2=>?_
  obtain ⟨X,hX,rX⟩:=item_ofV hr1 v1
  obtain ⟨Y,hY,rY⟩:=item_ofV hr2 v2
  refine wpAny_pyNext_zip_item D ((A.has.hd _ _ m1).ex (AB rfl (by decide))) ((A.has.hd _ _ m5).ex (AB rfl (by decide))) ((A.has.hd _ _ m2).ex (AB rfl (by decide))) ⟨o1,(A.has.hd _ _ m3).ex (AB q4.1 (by decide)),q4⟩ ⟨o2,(A.has.hd _ _ m4).ex (AB q5.1 (by decide)),q5⟩ hl1 hl2 hX hY fun h' z' TO' t1' t2' pr hsz hkp=>hQ _ _ fun Q' k=>?_
  obtain ⟨es,cc,p,rfl⟩:=ht rfl
  refine wpAny_letOwnedTupleGo_zip z' fun h'' z'' hs''=>?_
  have nz:s.heap.objs.size≠za:=fun q=>by have:=Heap.lt_size ((A.has.hd _ _ m1).ex (AB rfl (by decide))); rw [q] at this; exact Nat.lt_irrefl _ this
  have kp:∀ c o,c≠za->c≠TO->c≠i1->c≠i2->s.heap.get? c=some o->h''.get? c=some o:=fun c o q1 q2 q3 q4 e=>(hs''.2 c q1).trans (hkp c o q1 q2 q3 q4 e)
  obtain ⟨p1,w1,w2⟩:=t1'
  obtain ⟨p2,w3,w4⟩:=t2'
  refine pair_step (s':={ s with heap:=h'' }) (its:=[za,TO,i1,i2,TI]) A.has (all_cons (Ay m1) (all_cons (Ay m2) (all_cons (Ay m3) (all_cons (Ay m4) (all_cons (Ay m5) Cl))))) (fun c o hc e=>kp c o (nhd hc) (nhd (ntl hc)) (nhd (ntl (ntl hc))) (nhd (ntl (ntl (ntl hc)))) e) ((hs''.2 _ nz).trans pr) rX rY rfl rfl fun g2 le up2 H R hd=>?_
  exact k g2 _ le H R (ih (Cs v1).2 (Cs v2).2 (up0.trans (up.trans up2)) ((hd za (.head _)).trans z'') ((hd TI (.tail _ (.tail _ (.tail _ (.tail _ (.head _)))))).trans (kp TI _ D.TIz D.TITO D.TIi1 D.TIi2 ((A.has.hd _ _ m5).ex (AB rfl (by decide))))) ((hd TO (.tail _ (.head _))).trans ((hs''.2 _ D.TOz).trans TO')) ((hd i1 (.tail _ (.tail _ (.head _)))).trans ((hs''.2 _ D.i1z).trans w1)) w2 ((hd i2 (.tail _ (.tail _ (.tail _ (.head _))))).trans ((hs''.2 _ D.i2z).trans w3)) w4)
end
end Mine
namespace Mine
open PySem PySem.Calls
def Self (its:List Addr) (a:Addr) (g₀:G):Prop:=∀ (r:Ar) (g:G) (σ:Aa) (s:Shared),Has r.T g σ s->(∀ c,c∈its->g.hid c=g₀.hid c)->∀ Q:Value->Shared->Prop,Q (.ref a) s->r.wp (pyIter (.ref a)) Q s
def Made (m:Nat) (T:Top) (b:Bool) (kps:List (Nat×List V)) (vs:List V) (g:G) (σ':Aa) (x:Value) (s':Shared):Prop :=
 ∀ R_:Value->Prop,(∀ its a g',G.le its g g'->Has T g' σ' s'->(∀ c,c∈its->g.hid c=none)->ItS m T b kps its a vs g'->Self its a g'->R_ (.ref a))->R_ x
def SI (n:Nat) (e:E) (ρ:Af) (σ:Aa) (vs:List V) (kps:List (Nat×List V)) (σ':Aa):Prop :=
 ∀ (c:Cx) (g:G) (s:Shared) (ex:Expr),IsE e c.K ex->Inv n c ρ g σ s->c.wp (eval ex c.env) (fun x s₁=>c.wp (pyIter x) (Made n c.T (Ba e) kps vs g σ') s₁) s
noncomputable def C4 (v:V) (ws:List V):List (Nat×List V):=match v with | .ref k=>[(k,ws)] | _=>[]
section
variable {n m₀:Nat} {T:Top} {r:Ar} {c:Cx} {ρ ρ':Af} {g g' g₁:G} {σ σ' σ₁ σ₂ σ3:Aa} {s s':Shared} {v x y z:V} {e a b d:E} {ws vs:List V} {kps:List (Nat×List V)} {its:List Addr} {it l:Addr} {q:Bool}
theorem Has.newL (H:Has T g σ s) (hn:∀ c,c∈its->s.heap.get? c=none) (k:∀ c o,s.heap.get? c=some o->s'.heap.get? c=some o) (hg:s'.gens=s.gens:=by rfl) (ho:s'.os=s.os:=by rfl):Has T ⟨g.fz,fun c=>if c∈its then s'.heap.get? c else g.hid c,g.mu⟩ σ s':=by
 refine H.re _ (fun a o e=>?_) (fun b o _ e'=>k b o e') (fun b o _ e'=>k b o e') (fun t q o _ e=>k t o e) hg ho
 by_cases q:a∈its
 ·have F:=H.free (hn a q)
  rw [if_pos q] at e; exact ⟨.of e,F.fz,F.mu,F.tab⟩
 ·rw [if_neg q] at e; exact ⟨(H.hd a o e).keep (k a),(H.ah a o e).1,(H.ah a o e).2,H.hidTab e⟩
theorem Made.new (le:G.le [] g g₁) (H:Has T g₁ σ s) (hn:∀ c,c∈its->s.heap.get? c=none) (k:∀ c o,s.heap.get? c=some o->s'.heap.get? c=some o) (hg:s'.gens=s.gens) (ho:s'.os=s.os) (h:∀ g',G.up g₁ g'->(∀ c,c∈its->g'.hid c=s'.heap.get? c)->ItS m₀ T q kps its it vs g'/\Self its it g'):Made m₀ T q kps vs g σ (.ref it) s':=fun R_ kk=>by
 have up:G.up g₁ ⟨g₁.fz,fun c=>if c∈its then s'.heap.get? c else g₁.hid c,g₁.mu⟩:=⟨fun _ _ e=>e,fun _ _ e=>e⟩
 have h:=h _ up fun c hc=>if_pos hc
 exact kk its it _ ⟨le.toup.trans up,fun c hc=>(if_neg hc).trans (le.hid c List.not_mem_nil)⟩ (H.newL hn k hg ho) (fun c hc=>(le.hid c List.not_mem_nil)▸(H.free (hn c hc)).hid) h.1 h.2
theorem EI {X:Value} (H:Has T g σ s) (rx:An T g v X) (e:Ag σ v=some ws) {R_:Value->Prop} (k:∀ l xs,s.heap.IsList l xs->Lsrc T (C4 v ws) l ws g->R_ (.ref l)):R_ X:=by
 cases v with
 | d y=>cases y with
  | list ds =>
   obtain rfl:=Option.some.inj e
   exact rx R_ fun a o vs m hf hc hd hr hl=>k a vs ⟨o,H.fz _ _ hf,hc,m,hd⟩ (.frozen hf hc hd (Aj.ofD hr))
  | _=>exact Ab e
 | ref j =>
  obtain ⟨l,hk,rfl⟩:=rx
  have L:=Lsrc.tracked (T:=T) (ws:=ws) hk
  exact A3 (v:=.ref j) H ⟨l,hk,rfl⟩ e (R_:=fun X=>X=.ref l->R_ X) (fun a xs hL hr _ _ q=>k a xs hL (Value.ref.inj q▸L)) rfl
 | _=>exact Ab e
theorem iter_list {xs:Array Value} (le:G.le [] g g₁) (H:Has r.T g₁ σ s) (hL:s.heap.IsList l xs) (L:Lsrc r.T kps l ws g₁):r.wp (pyIter (.ref l)) (Made m₀ r.T false kps ws g σ) s :=
 wpAny_pyIter_list hL (.new (its:=[s.heap.objs.size]) le H (Av (AW _)) (fun c o e=>Heap.get?_push_of_some _ e) rfl rfl fun g' up hd =>
  have e:=(hd _ (.head _)).trans (Heap.get?_push_size _ rfl)
  ⟨it_list L (i:=0) rfl up e rfl rfl,fun r' g2 σ' s2 H2 hh Q hQ=>wpAny_pyIter_listiter (l:=l) (i:=0) ⟨_,(H2.hd _ _ ((hh _ (.head _)).trans e)).ex (AB rfl (by decide)),rfl,rfl⟩ hQ⟩)
theorem SI.lst (h:SE n e ρ σ v σ₁) (hv:Ag σ₁ v=some ws) (hz:Ba e=false:=by rfl):SI n e ρ σ ws (C4 v ws) σ₁:=fun c g s ex hc I=>by
 rw [hz]
 exact wpAny_mono (h c g s ex hc I) (fun X s₁ p=>p _ fun g₁ le a₁ r1=>EI a₁ r1 hv (R_:=fun X=>c.wp (pyIter X) (Made n c.T false (C4 v ws) ws g σ₁) s₁) fun l xs hL L=>iter_list (r:=c.toAr) le a₁ hL L) fun _ _ h=>h
theorem SI.str {z:Str} (hn:3<=n) (h:SE n e ρ σ (.d (.str z)) σ₁) (ha:z.cps.all (· < 128)=true) (hz:Ba e=false:=by rfl):SI n e ρ σ (signsV z.cps.toList) [] σ₁:=fun c g s ex hc I=>by
 rw [hz]
 refine wpAny_mono (h c g s ex hc I) (fun X s₁ p=>p _ fun g₁ le a₁ r1=>?_) fun _ _ h=>h
 obtain ⟨t,rfl,_⟩:=r1
 exact wpAny_pyIter_ascii ha (.new (its:=[s₁.heap.objs.size]) le a₁ (Av (AW _)) (fun c o e=>Heap.get?_push_of_some _ e) rfl rfl fun g' up hd =>
  have e:=(hd _ (.head _)).trans (Heap.get?_push_size _ rfl)
  ⟨it_str hn ha (i:=0) rfl e rfl rfl,fun r' g2 σ' s2 H2 hh Q hQ=>wpAny_pyIter_striter_ascii (x:=z) (t:=t) (i:=0) ⟨_,(H2.hd _ _ ((hh _ (.head _)).trans e)).ex (AB rfl (by decide)),rfl,rfl⟩ hQ⟩)
theorem cls_then {t:String} {Q:Value->Shared->Prop} {ex:Expr} (h:SEs n a ρ σ ws σ₁) (hc:Ez (c.K.to (.ty t)) (DY a c.K) ex) (I:Inv n c ρ g σ s) (hx:∀ g₁ s₁ Xs,G.le [] g g₁->Inv n c ρ g₁ σ₁ s₁->Aj c.T g₁ ws Xs->c.wp (call (.type t) Xs) Q s₁):c.wp (eval ex c.env) Q s:=by
 refine hc (fun ex=>c.wp (eval ex c.env) Q s) fun nm np vs p h1 h2=>?_
 refine PyProof.Rows.Call_Name rfl (Bp I h1 fun x hv=>?_)
 obtain rfl:x=.type t:=hv
 exact PyProof.Rows.callWith_type (BL _ _ h2) (Cg (r:=c.toAr) h2 (wpAny_mono (h c g s vs p h2 I) (fun Xs s₁ p=>p _ fun g₁ le a₁ r1=>hx g₁ s₁ Xs le (I.step le a₁) r1) fun _ _ h=>h))
theorem rangeSmall {n:Int} (h1:n<=1000000) (h2:-1000000<=n):Builtin.Range.small 0 n 1=true/\(Builtin.Range.rangeSize 0 n 1).toNat=n.toNat:=by
 refine ⟨small_one (by decide) (by decide) (Int.le_trans (by decide) h2) (Int.lt_of_le_of_lt h1 (by decide)),?_⟩
 rw [rangeSize_one]
 by_cases q:(0:Int) < n
 ·rw [if_pos q,Int.sub_zero]
 ·rw [if_neg q,Int.toNat_eq_zero.mpr (Int.not_lt.mp q)]; rfl
theorem SI.range {k:Int} (hn:3<=n) (h:SEs n a ρ σ [.d (.int k)] σ₁) (h1:k<=1000000) (h2:-1000000<=k):SI n (.range a) ρ σ (upV 0 k.toNat) [] σ₁:=fun c g s ex hc I=>by
 refine cls_then h hc I fun g₁ s₁ Xs le I1 R=>?_
 obtain ⟨X,rfl,t,rfl⟩:=R.one
 obtain ⟨e1,e2⟩:=rangeSmall h1 h2
 refine call_range_1 (wpAny_pyIter_range (Heap.get?_push_size _ rfl) e1 (.new (its:=[_]) le (I1.has.keep (s':={ s₁ with heap:=_,toks:=s₁.toks+1+1 }) fun b o e=>Heap.get?_push_of_some _ e) (Av (AW _)) (fun c o e=>Heap.get?_push_of_some _ e) rfl rfl fun g' up hd=>?_))
 have e:=(hd _ (.head _)).trans (Heap.get?_push_size _ rfl)
 exact ⟨it_range hn e2 e,fun r' g2 σ' s2 H2 hh Q hQ=>wpAny_pyIter_rangeiter (x:=0) (left:=Builtin.Range.rangeSize 0 k 1) (step:=1) ((H2.hd _ _ ((hh _ (.head _)).trans e)).ex (AB rfl (by decide))) hQ⟩
theorem SI.enum {ds:List PyData} (hn:3<=n) (h:SE n a ρ σ v σ₁) (hv:Ag σ₁ v=some (ds.map .d)):SI n (.enum a) ρ σ (FJ 0 ds) (C4 v (ds.map .d)) σ₁:=fun c g s ex hc I=>by
 refine cls_then (a:=.cons a .nil) (.cons h .nil) hc I fun g₁ s₁ Xs le I1 R=>?_
 obtain ⟨X,rfl,r1⟩:=R.one
 refine EI I1.has r1 hv (R_:=fun X=>c.wp (call (.type "enumerate") [X]) (fun x s₁=>c.wp (pyIter x) (Made n c.T true (C4 v (ds.map .d)) (FJ 0 ds) g σ₁) s₁) s₁) fun l xs hL L=>call_enumerate_list hL fun h' he hi hz hk=>?_
 refine wpAny_pyIter_enum he (.new (its:=[s₁.heap.objs.size+1,s₁.heap.objs.size]) le I1.has (all_cons (Heap.get?_none_of_le (Nat.le_add_right _ 1)) (Av (AW _))) hk rfl rfl fun g' up hd=>?_)
 obtain ⟨o,ho,hl⟩:=hi
 have e:=(hd _ (.head _)).trans he
 exact ⟨it_enum hn L (i:=0) rfl up (Nat.succ_ne_self _) e ((hd _ (.tail _ (.head _))).trans ho) hl,fun r' g2 σ' s2 H2 hh Q hQ=>wpAny_pyIter_enum ((H2.hd _ _ ((hh _ (.head _)).trans e)).ex (AB rfl (by decide))) hQ⟩
theorem add_ne {m i j:Nat} (h:i≠j):m+i≠m+j:=fun q=>h (Nat.add_left_cancel q)
theorem new_ne {h:Heap} {l:Addr} {xs:Array Value} (hL:h.IsList l xs) (j:Nat):l≠h.objs.size+j:=fun q=>by
 obtain ⟨o,ho,_⟩:=hL
 rw [q,Heap.get?_none_of_le (Nat.le_add_right _ j)] at ho
 exact Ab ho
theorem SI.zip {ds ds':List V} (hn:3<=n) (h:SE n a ρ σ x σ₁) (h':SE n b ρ σ₁ y σ₂) (hx:Ag σ₂ x=some ds) (hy:Ag σ₂ y=some ds'):SI n (.zip a b) ρ σ (Gr ds ds') (C4 x ds++C4 y ds') σ₂:=fun c g s ex hc I=>by
 refine cls_then (a:=.cons a (.cons b .nil)) (.cons h (.cons h' .nil)) hc I fun g₁ s₁ Xs le I1 R=>?_
 obtain ⟨X,Y,rfl,r1,r2⟩:=R.two
 refine EI I1.has r1 hx (R_:=fun X=>c.wp (call (.type "zip") [X,Y]) (fun x s₁=>c.wp (pyIter x) (Made n c.T true _ (Gr ds ds') g σ₂) s₁) s₁) fun l xs hL L=>EI I1.has r2 hy (R_:=fun Y=>c.wp (call (.type "zip") [.ref l,Y]) (fun x s₁=>c.wp (pyIter x) (Made n c.T true _ (Gr ds ds') g σ₂) s₁) s₁) fun l' ys hL' L'=>call_zip_2 hL hL' fun h' hz hTI hTO t1 t2 hsz hk=>?_
 have gone:∀ j,s₁.heap.get? (s₁.heap.objs.size+j)=none:=fun j=>Heap.get?_none_of_le (Nat.le_add_right _ _)
 refine wpAny_pyIter_zip hz (.new (its:=[s₁.heap.objs.size+4,s₁.heap.objs.size+3,s₁.heap.objs.size,s₁.heap.objs.size+1,s₁.heap.objs.size+2]) le I1.has (all_cons (gone 4) (all_cons (gone 3) (all_cons (gone 0) (all_cons (gone 1) (Av (gone 2)))))) hk rfl rfl fun g' up hd=>?_)
 have D:ZipApart (s₁.heap.objs.size+4) (s₁.heap.objs.size+2) (s₁.heap.objs.size+3) (s₁.heap.objs.size) (s₁.heap.objs.size+1) l l':=by
  constructor <;> first
   | exact new_ne hL _ | exact new_ne hL 0 | exact new_ne hL' _ | exact new_ne hL' 0 | exact add_ne (by decide) | exact add_ne (j:=0) (by decide) | exact add_ne (i:=0) (by decide)
 obtain ⟨o1,ho1,hl1⟩:=t1
 obtain ⟨o2,ho2,hl2⟩:=t2
 have e:=(hd _ (.head _)).trans hz
 exact ⟨it_zip hn L L' D (j1:=0) (j2:=0) rfl rfl up e ((hd _ (.tail _ (.tail _ (.tail _ (.tail _ (.head _)))))).trans hTI) ((hd _ (.tail _ (.head _))).trans hTO) ((hd _ (.tail _ (.tail _ (.head _)))).trans ho1) hl1 ((hd _ (.tail _ (.tail _ (.tail _ (.head _))))).trans ho2) hl2,fun r' g2 σ' s2 H2 hh Q hQ=>wpAny_pyIter_zip ((H2.hd _ _ ((hh _ (.head _)).trans e)).ex (AB rfl (by decide))) hQ⟩
end
end Mine
namespace Mine
open PySem PySem.Calls
section
variable {n m₀:Nat} {T:Top} {r:Ar} {c:Cx} {ρ:Af} {g g' g₁:G} {σ σ₁:Aa} {s:Shared} {e:E} {vs:List V} {it l:Addr}
theorem it_tup {ol:Obj} {xs:Array Value} {ws:List V} {nn:Nat} (h3:3<=m₀) (hf:g.fz l=some ol) (hlc:ol.cls=.type "tuple") (hld:ol.data=.seq xs nn) (hr:Aj T g ws xs.toList):∀ {i:Nat} {g₀:G} {o:Obj},ws.drop i=vs->G.up g g₀->g₀.hid it=some o->o.cls=.type "tuple_iterator" -> o.data=.fields #[.ref l,.int i 0]->ItS m₀ T false [] [it] it vs g₀:=by
 induction vs with
 | nil =>
  intro i g₀ o hv up0 e hc hd
  refine ⟨Av (Ay e),fun r g' σ s hT A up hh hk Q hQ=>?_⟩
  subst hT
  refine wpAny_pyNext_tuple_end (A.hh.none h3) ⟨o,(A.has.hd _ _ ((hh it (.head _)).trans e)).ex (AB hc (by decide)),hc,hd⟩ ⟨ol,A.has.fz _ _ (up.fz _ _ (up0.fz _ _ hf)),hlc,nn,hld⟩ ?_ fun h' he=>hQ h' fun c o hc e=>he c o (fun q=>hc (q▸.head _)) e
  exact end_ofV hr hv
 | cons v vs ih =>
  intro i g₀ o hv up0 e hc hd
  refine ⟨Av (Ay e),fun r g' σ s hT A up hh hk t Q ht hQ=>?_⟩
  subst hT
  have e':=(hh it (.head _)).trans e
  obtain ⟨X,hX,rX⟩:=item_ofV hr hv
  refine wpAny_pyNext_tuple_item ⟨o,(A.has.hd _ _ e').ex (AB hc (by decide)),hc,hd⟩ ⟨ol,A.has.fz _ _ (up.fz _ _ (up0.fz _ _ hf)),hlc,nn,hld⟩ hX fun h' it' hs=>hQ X _ fun Q' k=>?_
  obtain ⟨o',ho',hc',hd'⟩:=it'
  exact Gf (s':={ s with heap:=h' }) A e' hs ho' hc' (by decide) rfl rfl fun g2 s2 le up2 e2 H=>k g2 s2 le H (An.mono (up0.trans (up.trans up2)) _ _ rX) (ih (Cs hv).2 (up0.trans (up.trans up2)) e2 hc' hd')
theorem SI.tup {ds:List PyData} (hn:3<=n) (h:SE n e ρ σ (.d (.tuple ds)) σ₁) (hz:Ba e=false:=by rfl):SI n e ρ σ (ds.map .d) [] σ₁:=fun c g s ex hc I=>by
 rw [hz]
 refine wpAny_mono (h c g s ex hc I) (fun X s₁ p=>p _ fun g₁ le a₁ r1=>?_) fun _ _ h=>h
 refine r1 (fun X=>c.wp (pyIter X) (Made n c.T false [] (ds.map .d) g σ₁) s₁) fun l o xs m hf hlc hld hr hl=>?_
 exact wpAny_pyIter_tuple ⟨o,a₁.fz _ _ hf,hlc,m,hld⟩ (.new (its:=[s₁.heap.objs.size]) le a₁ (Av (AW _)) (fun c o e=>Heap.get?_push_of_some _ e) rfl rfl fun g' up hd =>
  have e:=(hd _ (.head _)).trans (Heap.get?_push_size _ rfl)
  ⟨it_tup hn hf hlc hld (Aj.ofD hr) (i:=0) rfl up e rfl rfl,fun r' g2 σ' s2 H2 hh Q hQ=>wpAny_pyIter_tupleiter (t:=l) (i:=0) ⟨_,(H2.hd _ _ ((hh _ (.head _)).trans e)).ex (AB rfl (by decide)),rfl,rfl⟩ hQ⟩)
end
end Mine
namespace Mine
open PySem PySem.Calls
noncomputable def Bw (ρ:Af) (ts:List Nat) (v:V):Af:=match ts with | [i]=>ρ.set i (some v) | ts=>Ed ρ ts ((Cm v).getD [])
def Ex (ts:List Nat) (v:V):Prop:=ts.length=1\/∃ vs,Cm v=some vs/\vs.length=ts.length
def bindN (n:Nat) (ts:List Nat) (v:V):Prop:=ts.length=1\/(3<=n/\∃ vs,Cm v=some vs/\vs.length=ts.length)
theorem Ex.at {n:Nat} {ts:List Nat} {v:V} (h:Ex ts v) (hn:3<=n):bindN n ts v:=h.imp id fun q=>⟨hn,q⟩
noncomputable def ForQ (n:Nat) (ts:List Nat) (b:S) (kps:List (Nat×List V)) (Q:Fl->Aa->Prop):List V->Af->Aa->Prop
 | [],ρ,σ=>Bt σ kps/\Q (.next ρ) σ
 | v::vs,ρ,σ=>Bt σ kps/\bindN n ts v/\SSs n b (Bw ρ ts v) σ fun fl σ'=>match fl with | .next ρ'=>ForQ n ts b kps Q vs ρ' σ' | .ret v=>Q (.ret v) σ'
section
variable {n:Nat} {T:Top} {r:Ar} {c:Cx} {ρ ρ' ρ0:Af} {g g' g₀ g₁:G} {σ σ' σ₁ σ₂ σ3:Aa} {s s':Shared} {v x y z:V} {e a b d it:E} {ws vs:List V} {kps:List (Nat×List V)} {its:List Addr} {ts:List Nat} {st:S} {Q:Fl->Aa->Prop}
theorem Loc.far (x0:Loc c ρ0 g₀) (hn:∀ a,a∈its->g₀.hid a=none) (x:Loc c ρ g) (le:G.le its g g'):Loc c ρ g':=by
 have h:∀ {a o},g₀.hid a=some o->g'.hid a=g.hid a:=fun e=>le.hid _ fun q=>Am (hn _ q) e
 refine ⟨fun R_ k=>x0.ns R_ fun m₀ h0 _=>x.ns R_ fun m h1 h2=>?_,fun nm hk R_ k=>x0.ce nm hk R_ fun a₀ u0 q0 q1 _=>x.ce nm hk R_ fun a u h1 h2 h3=>?_,fun a ha q=>?_⟩
 ·obtain ⟨o,_,_,e,_⟩:=h0
  exact k m (h1.to fun _ e'=>(h e).trans e') fun i nm v e1 e2 e3=>BD le.toup (h2 i nm v e1 e2 e3)
 ·obtain ⟨o,e,_⟩:=q1
  obtain rfl:=As q0 h1
  exact k a₀ u h1 (h2.to fun _ e'=>(h e).trans e') fun i v e1 e2=>BD le.toup (h3 i v e1 e2)
 ·cases e:g₀.hid a with
  | none=>exact x0.ow a ha e
  | some o=>exact x.ow a ha ((h e).symm.trans q)
theorem By.far {fe:List Env} (f0:By g₀ fe) (hn:∀ a,a∈its->g₀.hid a=none) (x:By g fe) (le:G.le its g g'):By g' fe:=fun e he=>by
 obtain ⟨_,L0,o0,_,_,h1,h2,_⟩:=f0 e he
 obtain ⟨h0,L,o,es,ep,h3,h4,h5⟩:=x e he
 obtain rfl:=As h1 h3
 exact ⟨h0,L0,o,es,ep,h3,(le.hid L0 fun q=>Am (hn L0 q) h2).trans h4,h5⟩
theorem By.hideN {fe:List Env} {a:Addr} {o:Obj} (x:By g fe) (h:g.hid a=none):By (g.hide a o) fe:=fun e he=>by
 obtain ⟨h0,L,o',es,ep,h1,h2,h3⟩:=x e he
 exact ⟨h0,L,o',es,ep,h1,(G.hide_ne fun q=>Am h (q▸h2)).trans h2,h3⟩
theorem Inv.far (f0:By g₀ c.fe) (x0:Loc c ρ0 g₀) (hn:∀ a,a∈its->g₀.hid a=none) (x:Inv n c ρ g σ s) (le:G.le its g g') (H:Has c.T g' σ' s'):Inv n c ρ g' σ' s':=⟨x.toAt.stepF le.toup (f0.far hn x.frs le) H,x.cx,x0.far hn x.loc le⟩
theorem Inv.bind {t:Expr} {X:Value} {Q:Unit->Shared->Prop} {Er:Value->Shared->Prop} (I:Inv n c ρ g σ s) (hc:IsT c.K ts t) (hb:bindN n ts v) (r:An c.T g v X) (h:∀ g' s',G.le c.own g g'->Inv n c (Bw ρ ts v) g' σ s'->Q () s'):wpAny (model c.T.prog c.T.w) c.A (assign t c.env X) Q Er s:=by
 refine hc (fun ts t=>bindN n ts v->(∀ g' s',G.le c.own g g'->Inv n c (Bw ρ ts v) g' σ s'->Q () s')->wpAny (model c.T.prog c.T.w) c.A (assign t c.env X) Q Er s) (fun i nm p h1 _ h=>I.asgn h1 r fun g' s' le _ I'=>h g' s' le I') (fun es k p h1 h2 hb h=>?_) hb h
 obtain ⟨hn,vs,e,hl⟩:=hb.resolve_left h1
 have eb:Bw ρ ts v=Ed ρ ts vs:=by
  match ts,h1 with
  | [],_=>rfl
  | [_],q=>exact absurd rfl q
  | i::j::l,_=>show Ed ρ (i::j::l) ((Cm v).getD [])=_; rw [e]; rfl
 rw [eb] at h
 exact CT I.has r e (R_:=fun X=>wpAny (model c.T.prog c.T.w) c.A (assign (.Tuple es k p) c.env X) Q Er s) fun t Xs hT hr _ _=>I.unpack h2 hT hr hl hn h
theorem is_tup {t:Expr} (hc:IsT c.K ts t) (hz:F3 ts it=true) (h:Ba it=true):∃ es k p,t=.Tuple es k p :=
 hc (fun ts t=>F3 ts it=true->∃ es k p,t=.Tuple es k p) (fun i nm p _ hz=>by unfold F3 at hz; rw [if_pos h] at hz; exact absurd hz Bool.false_ne_true) (fun es k p _ _ _=>⟨es,k,p,rfl⟩) hz
theorem SS.for_ (hi:SI n it ρ σ vs kps σ₁) (h:ForQ n ts st kps Q vs ρ σ₁):SS n (.for_ ts it st) ρ σ Q:=fun c g s x hc I=>hc (fun x=>c.wp (exec x c.env) (AO n c g Q) s) fun t i bd p h1 h2 h3=>by
 refine wpAny_For (wpAny_mono (hi c g s i h2 I) (fun X s₁ h₁=>wpAny_mono h₁ (fun itv s2 p=>?_) fun _ _ h=>h) fun _ _ h=>h) ((Bj it h2).fold c.env)
 refine p (fun itv=>codeAny (model c.T.prog c.T.w) c.A (.forLoop t itv bd [] c.env) _ s2) fun its a g2 le2 H2 new it2 _=>?_
 have ni:∀ a,a∈its->a∉c.own:=fun a q q'=>I.loc.ow a q' (new a q)
 have toI:∀ {g g'},G.le its g g'->G.le (its++c.own) g g':=fun le=>⟨le.toup,fun a q=>le.hid a fun h=>q (List.mem_append_left _ h)⟩
 have toO:∀ {g g'},G.le c.own g g'->G.le (its++c.own) g g':=fun le=>⟨le.toup,fun a q=>le.hid a fun h=>q (List.mem_append_right _ h)⟩
 have mono:∀ {vs g g'},G.le c.own g g'->ItS n c.T (Ba it) kps its a vs g->ItS n c.T (Ba it) kps its a vs g':=fun le h=>h.mono le.toup fun c hc=>le.hid c (ni c hc)
 refine codeAny_forLoop_any (I:=fun k s'=>∀ R_:Prop,(∀ vs ρ σ g',k=vs.length->ForQ n ts st kps Q vs ρ σ->G.le (its++c.own) g g'->Inv n c ρ g' σ s'->ItS n c.T (Ba it) kps its a vs g'->R_)->R_) (fun k s3 hz=>hz _ fun vs ρ3 σ3 g3 hk w le3 I3 it3=>?_) vs.length
  fun R_ kk=>kk vs ρ σ₁ g2 rfl h (toI le2) (I.far I.frs I.loc new le2 H2) it2
 subst hk
 cases vs with
 | nil =>
  refine wpAny_mono (it3.2 c.toAr g3 σ3 s3 rfl I3.toAt (.refl _) (fun _ _=>rfl) w.1 (fun r s₁=>r=none/\AO n c g Q .next s₁) fun h' hk=>⟨rfl,?_⟩) (fun r s₁ h=>by rw [h.1]; exact wpAny_execs_nil h.2) fun _ _ h=>h.elim
  obtain ⟨hd,H,le,e⟩:=I3.has.back (s':={ s3 with heap:=h' }) le3 new hk (I3.has.away it3.1)
  exact fun R_ k1 _=>k1 ρ3 σ3 _ w.2 le (I3.far I.frs I.loc new ⟨⟨fun _ _ e=>e,fun _ _ e=>e⟩,e⟩ H)
 | cons v vs =>
  refine wpAny_mono (it3.2 c.toAr g3 σ3 s3 rfl I3.toAt (.refl _) (fun _ _=>rfl) w.1 t (fun r s₁=>∃ X,r=some X/\∀ Q':Unit->Shared->Prop,(∀ g' s',G.le its g3 g'->Has c.T g' σ3 s'->An c.T g' v X->ItS n c.T (Ba it) kps its a vs g'->Q' () s')->c.wp (letOwnedTupleGo t (.ref a) X) Q' s₁) (is_tup h1.1 h1.2) fun X s₁ k=>⟨X,rfl,k⟩) (fun r s₁ h=>?_) fun _ _ h=>h.elim
  obtain ⟨X,rfl,h⟩:=h
  refine wpAny_mono (h _ fun g4 s4 le4 H4 r4 it4=>?_) (fun _ _ h=>h) fun _ _ h=>h.elim
  refine (I3.far I.frs I.loc new le4 H4).bind h1.1 w.2.1 r4 fun g5 s5 le5 I5=>?_
  have le':=le3.trans ((toI le4).trans (toO le5))
  refine wpAny_mono (w.2.2 c g5 s5 bd h3 I5) (fun f s6 p=>p.elim (fun ρ6 σ6 g6 e6 q l6 I6=>?_) fun v x σ6 g6 e6 q l6 H w r6=>?_) fun _ _ h=>h.elim
  ·subst e6
   exact ⟨vs.length,Nat.lt_succ_self _,fun R_ kk=>kk vs ρ6 σ6 g6 rfl q (le'.trans (toO l6)) I6 (mono (le5.trans l6) it4)⟩
  ·subst e6
   obtain ⟨hd,H',le,e⟩:=H.back (s':=s6) (le'.trans (toO l6)) new (fun _ _ _ e=>e) (H.away (mono (le5.trans l6) it4).at)
   exact fun R_ _ k2=>k2 v x σ6 _ q le H' (fun a ha q=>w a ha ((e a fun q=>ni a q ha).symm.trans q)) (An.eta r6)
end
end Mine
namespace Mine
open PySem PySem.Calls
noncomputable def Dc (env:Env):List (Str×NameKind)->List (Str×Addr)->List (Str×Addr)
 | [],acc=>acc
 | p::r,acc=>Dc env r (if (p.2 == .free)=true then (p.1,(env.cells.lookup p.1).getD 0)::acc else acc)
noncomputable def AA:Af->List Nat->Af
 | ρ,[]=>ρ
 | ρ,i::ts=>AA (ρ.set i none) ts
section
variable {α β:Type} [BEq α] [LawfulBEq α]
theorem AF {l:List (α×β)} {a:α} {b:β} (h:l.lookup a=some b):(a,b)∈l:=by
 induction l with
 | nil=>exact Ab h
 | cons p r ih =>
  obtain ⟨x,y⟩:=p
  rw [List.lookup_cons] at h
  cases q:a == x with
  | true=>rw [q] at h; rw [eq_of_beq q,<-Option.some.inj h]; exact .head _
  | false=>rw [q] at h; exact .tail _ (ih h)
theorem EK {l:List (α×β)} {a:α} {b:β} (h:(a,b)∈l):∃ b',l.lookup a=some b':=by
 induction l with
 | nil=>exact nomatch h
 | cons p r ih =>
  obtain ⟨x,y⟩:=p
  rw [List.lookup_cons]
  cases q:a == x with
  | true=>exact ⟨y,rfl⟩
  | false=>exact (List.mem_cons.mp h).elim (fun e=>by rw [Prod.mk.inj e |>.1,beq_self_eq_true] at q; exact tt_ q) ih
end
section
variable {env:Env} {names:List (Str×NameKind)} {acc:List (Str×Addr)} {n:Str} {c:Addr}
theorem isFree {k:NameKind} (h:(k == .free)=true):k=.free:=eq_of_beq h
theorem EW:∀ {names:List (Str×NameKind)} {acc:List (Str×Addr)},(n,c)∈Dc env names acc->(n,c)∈acc\/((n,NameKind.free)∈names/\c=(env.cells.lookup n).getD 0)
 | [],acc,h=>.inl h
 | (m,k)::r,acc,h=>by
  rcases EW (names:=r) h with h | h
  ·by_cases hk:(k == NameKind.free)=true
   ·rw [if_pos hk] at h
    exact (List.mem_cons.mp h).elim (fun h=>.inr ⟨by rw [isFree hk,(Prod.mk.inj h).1]; exact .head _,by rw [(Prod.mk.inj h).1]; exact (Prod.mk.inj h).2⟩) .inl
   ·rw [if_neg hk] at h; exact .inl h
  ·exact .inr ⟨.tail _ h.1,h.2⟩
theorem clOf_acc {p:Str×Addr}:∀ {names:List (Str×NameKind)} {acc:List (Str×Addr)},p∈acc->p∈Dc env names acc
 | [],_,h=>h
 | (m,k)::r,acc,h=>clOf_acc (names:=r) (by
  by_cases hk:(k == NameKind.free)=true
  ·rw [if_pos hk]; exact .tail _ h
  ·rw [if_neg hk]; exact h)
theorem clOf_has:∀ {names:List (Str×NameKind)} {acc:List (Str×Addr)},(n,NameKind.free)∈names->(n,(env.cells.lookup n).getD 0)∈Dc env names acc
 | [],_,h=>nomatch h
 | (m,k)::r,acc,h=>(List.mem_cons.mp h).elim (fun h=>clOf_acc (names:=r) (by rw [<-(Prod.mk.inj h).2,<-(Prod.mk.inj h).1]; exact .head _)) (clOf_has (names:=r))
theorem cl_look (h:(n,NameKind.free)∈names) (e:env.cells.lookup n=some c):(Dc env names []).lookup n=some c:=by
 obtain ⟨c',h'⟩:=EK (clOf_has (env:=env) (acc:=[]) h)
 rcases EW (AF h') with q | q
 ·exact nomatch q
 ·rw [h',q.2,e]; rfl
theorem Ej (scope:Scope) (h:∀ n,(n,NameKind.free)∈scope.names->∃ c,env.cells.lookup n=some c):closureFor scope env=pure (Dc env scope.names []):=by
 have gen:∀ (names:List (Str×NameKind)) (acc:List (Str×Addr)),(∀ n,(n,NameKind.free)∈names->∃ c,env.cells.lookup n=some c) ->
  (forIn names acc (fun x r=>if (x.2 == NameKind.free)=true then (cellOf env x.1>>=fun c=>pure (ForInStep.yield ((x.1,c)::r))) else pure (ForInStep.yield r)):Sem (List (Str×Addr)))=pure (Dc env names acc):=by
  intro names
  induction names with
  | nil=>intro acc _; rfl
  | cons p r ih =>
   intro acc hh
   rw [List.forIn_cons]
   by_cases hk:(p.2 == NameKind.free)=true
   ·obtain ⟨c,hc⟩:=hh p.1 (isFree hk▸.head _)
    have e:cellOf env p.1=pure c:=by unfold cellOf; rw [hc]
    rw [if_pos hk,e,pure_bind,pure_bind]
    refine (ih _ fun n hn=>hh n (.tail _ hn)).trans ?_
    show _=pure (Dc env r (if (p.2 == NameKind.free)=true then _ else _))
    rw [if_pos hk,hc]; rfl
   ·rw [if_neg hk,pure_bind]
    refine (ih _ fun n hn=>hh n (.tail _ hn)).trans ?_
    show _=pure (Dc env r (if (p.2 == NameKind.free)=true then _ else _))
    rw [if_neg hk]
 have g:=gen scope.names [] h
 unfold closureFor
 rw [bind_pure]
 exact g
end
theorem CL:∀ {ts:List Nat} {ρ:Af} {i:Nat} {v:V},(AA ρ ts)[i]? = some (some v)->i∉ts/\ρ[i]? = some (some v)
 | [],ρ,i,v,h=>⟨List.not_mem_nil,h⟩
 | j::ts,ρ,i,v,h=>by
  obtain ⟨h1,h2⟩:=CL (ts:=ts) h
  by_cases q:j=i
  ·rw [q] at h2
   by_cases hl:i < ρ.length
   ·rw [List.getElem?_set_self hl] at h2; exact Ab (Option.some.inj h2)
   ·rw [List.getElem?_eq_none (by rw [List.length_set]; exact Nat.le_of_not_lt hl)] at h2; exact Ab h2
  ·rw [List.getElem?_set_ne q] at h2
   exact ⟨fun m=>(List.mem_cons.mp m).elim (fun e=>q e.symm) h1,h2⟩
theorem Fg:∀ {ts:List Nat} {vs:List V} {ρ:Af} {i:Nat},i∉ts->(Ed ρ ts vs)[i]? = ρ[i]?
 | [],vs,ρ,i,h=>by cases vs <;> rfl
 | j::ts,[],ρ,i,h=>rfl
 | j::ts,w::vs,ρ,i,h=>(Fg (ts:=ts) fun q=>h (.tail _ q)).trans (List.getElem?_set_ne fun (q:j=i)=>h (q▸.head _))
theorem bindV_get {ts:List Nat} {v u:V} {ρ:Af} {i:Nat} (h:(AA ρ ts)[i]? = some (some u)):(Bw (AA ρ ts) ts v)[i]? = some (some u):=by
 have q:=(CL h).1
 refine Eq.trans ?_ h
 match ts,q with
 | [],_=>exact Fg List.not_mem_nil
 | [j],q=>exact List.getElem?_set_ne fun (e:j=i)=>q (e▸.head _)
 | j::k::l,q=>exact Fg q
end Mine
namespace Mine
open PySem PySem.Calls
structure FY (K:Kx) (ts:List Nat) (sc:Scope):Prop where
 kind:sc.kind=.function
 nm:∀ p,p∈sc.names->nameOk K ts p=true
 uni:∀ p,p∈sc.names->sc.names.lookup p.1=some p.2
 dot:(".0" : Str)∉K.vars
 tgt:∀ i,i∈ts->∃ m,K.vars[i]? = some m/\sc.names.lookup m=some .local
section
variable {K:Kx} {ts:List Nat} {sc:Scope} {p:Str×NameKind} {x:Str} {k:NameKind}
theorem scopeOk_ok (h:Gb K ts sc=true):FY K ts sc:=by
 have h1:=Bool.and_eq_true_iff.mp h
 have h2:=Bool.and_eq_true_iff.mp h1.1
 have h3:=Bool.and_eq_true_iff.mp h2.1
 have h4:=Bool.and_eq_true_iff.mp h3.1
 refine ⟨of_decide_eq_true h4.1,List.all_eq_true.mp h4.2,fun p hp=>of_decide_eq_true (List.all_eq_true.mp h3.2 p hp),fun q=>?_,fun i hi=>?_⟩
 ·have:=h2.2
  rw [List.contains_iff_mem.mpr q] at this
  exact ff_ this
 ·have:=List.all_eq_true.mp h1.2 i hi
  cases e:K.vars[i]? with
  | none=>rw [e] at this; exact ff_ this
  | some m=>rw [e] at this; exact ⟨m,rfl,of_decide_eq_true this⟩
theorem Fo {R_:Prop} (h:nameOk K ts p=true) (k1:p.2=.local->(p.1=(".0" : Str)\/∃ i,i∈ts/\K.vars[i]? = some p.1)->R_) (k2:p.2=.free->(K.names.lookup p.1=some .cell\/K.names.lookup p.1=some .free)->R_) (k3:p.2=.globalImplicit->R_):R_:=by
 rcases Bool.or_eq_true_iff.mp h with h | h
 ·have h1:=Bool.and_eq_true_iff.mp h
  refine k1 (of_decide_eq_true h1.1) ((Bool.or_eq_true_iff.mp h1.2).imp eq_of_beq fun q=>?_)
  obtain ⟨i,hi,e⟩:=List.any_eq_true.mp q
  exact ⟨i,hi,of_decide_eq_true e⟩
 ·rcases Bool.or_eq_true_iff.mp h with h | h
  ·have h1:=Bool.and_eq_true_iff.mp h
   exact k2 (of_decide_eq_true h1.1) ((Bool.or_eq_true_iff.mp h1.2).imp Kx.kd_eq Kx.kd_eq)
  ·exact k3 (of_decide_eq_true h)
theorem AY {R_:Prop} {a b:NameKind} (h:a=b) (e:decide (a=b)=false):R_:=by rw [decide_eq_true h] at e; exact tt_ e
theorem FY.noc (S:FY K ts sc):∀ p,p∈sc.names->p.2≠.cell:=fun p hp q=>Fo (S.nm p hp) (fun e _=>AY (q.symm.trans e) rfl) (fun e _=>AY (q.symm.trans e) rfl) fun e=>AY (q.symm.trans e) rfl
theorem FY.fre (S:FY K ts sc) (h:(x,NameKind.free)∈sc.names):K.names.lookup x=some .cell\/K.names.lookup x=some .free:=Fo (S.nm _ h) (fun e _=>AY e rfl) (fun _ q=>q) fun e=>AY e rfl
theorem Fi {E names:List (Str×NameKind)} (h:(CB E names).lookup x=some k):(x,k)∈names\/((x,NameKind.free)∈names/\k=.cell):=by
 obtain ⟨⟨m,k'⟩,hp,e⟩:=List.mem_map.mp (AF h)
 have e:(if (k' == .free&&E.lookup m == some .cell)=true then (m,NameKind.cell) else (m,k'))=(x,k):=e
 by_cases q:(k' == .free&&E.lookup m == some .cell)=true
 ·rw [if_pos q] at e
  have q1:=isFree (Bool.and_eq_true_iff.mp q).1
  rw [q1,(Prod.mk.inj e).1] at hp
  exact .inr ⟨hp,(Prod.mk.inj e).2.symm⟩
 ·rw [if_neg q] at e
  rw [e] at hp
  exact .inl hp
theorem FY.loc (S:FY K ts sc) (h:(CB K.names sc.names).lookup x=some .local):x=(".0" : Str)\/∃ i,i∈ts/\K.vars[i]? = some x:=by
 rcases Fi h with h | h
 ·exact Fo (S.nm _ h) (fun _ q=>q) (fun e _=>AY e rfl) fun e=>AY e rfl
 ·exact AY h.2 rfl
theorem FY.out (S:FY K ts sc) (h:(CB K.names sc.names).lookup x=some .cell\/(CB K.names sc.names).lookup x=some .free):(x,NameKind.free)∈sc.names:=by
 rcases h with h | h
 ·rcases Fi h with h | h
  ·exact absurd rfl (S.noc _ h)
  ·exact h.1
 ·rcases Fi h with h | h
  ·exact h
  ·exact h.1
theorem Ee {env:Env} (hk:env.scope.kind=.function) (hn:env.scope.names=K.names):(relabel sc env).names=CB K.names sc.names:=List.map_congr_left fun p _=>by
 obtain ⟨m,k⟩:=p
 show (if (k == .free&&env.scope.kind == .function&&env.kindOf m == some .cell)=true then (m,NameKind.cell) else (m,k))=(if (k == .free&&K.names.lookup m == some .cell)=true then (m,NameKind.cell) else (m,k))
 rw [hk,A7 hn,show (ScopeKind.function == ScopeKind.function)=true from rfl,Bool.and_true]
end
noncomputable abbrev subC (c:Cx) (ts:List Nat) (sc:Scope) (C:Addr):Cx:=⟨c.toAr,c.K.sub ts sc,compEnvC sc (Dc c.env sc.names []) C c.env,[C]⟩
section
variable {n:Nat} {c:Cx} {ρ:Af} {g:G} {ts:List Nat} {sc:Scope} {C:Addr} {x:Str}
theorem Gx (X:CxOk n c):(subC c ts sc C).env.kindOf x=(CB c.K.names sc.names).lookup x:=A7 (K:=c.K.sub ts sc) (Ee X.kind X.names) x
theorem Gy (S:FY c.K ts sc) (X:CxOk n c) (L:Loc c ρ g) (h:(x,NameKind.free)∈sc.names) {R_:Prop} (k:∀ a u,c.env.cells.lookup x=some a->(subC c ts sc C).env.cells.lookup x=some a->Em g.hid a u->(∀ (i:Nat) (v:V),c.K.vars[i]? = some x->ρ[i]? = some (some v)->∃ x,u=some x/\An c.T g v x)->R_):R_ :=
 L.ce x (by rw [A7 X.names]; exact S.fre h) R_ fun a u h1 h2 h3=>k a u h1 (cl_look h h1) h2 h3
theorem sub_cx (S:FY c.K ts sc) (X:CxOk n c) (L:Loc c ρ g):CxOk n (subC c ts sc C):=by
 have look:∀ m a,(subC c ts sc C).env.cells.lookup m=some a->c.env.cells.lookup m=some a:=fun m a h=>by
  rcases EW (AF h) with q | q
  ·exact nomatch q
  ·exact Gy (C:=C) S X L q.1 fun a' u h1 h2 _ _=>h1.trans (h2.symm.trans h)
 refine ⟨X.rd,Ee X.kind X.names,S.kind,X.glob,X.blt,X.hfr,fun m m' a h h'=>X.cinj m m' a (look m a h) (look m' a h'),X.nd,.head _,fun m hm a hk _=>?_,fun t q h=>Ab h⟩
 obtain ⟨i,hi,e⟩:=List.mem_filterMap.mp (show m∈ts.filterMap fun i=>c.K.vars[i]? from hm)
 obtain ⟨m',e',hl⟩:=S.tgt i hi
 rw [As e' e] at hl
 rw [Gx X] at hk
 exact AY (As (S.uni _ (S.out (.inl hk))) hl) rfl
theorem sub_loc {o:Obj} (S:FY c.K ts sc) (X:CxOk n c) (L:Loc c ρ g) (hC:g.hid C=none) (hn:NsF (g.hide C o).hid C fun _=>none):Loc (subC c ts sc C) (AA ρ ts) (g.hide C o):=by
 have up:G.up g (g.hide C o):=⟨fun _ _ e=>e,fun _ _ e=>e⟩
 refine ⟨fun R_ k=>k _ hn fun i nm v e1 e2 e3=>?_,fun nm hk R_ k=>?_,Av (Ay G.hide_self)⟩
 ·rw [Gx X] at e3
  rcases S.loc e3 with q | ⟨j,hj,q⟩
  ·exact absurd (q▸List.mem_of_getElem? e1) S.dot
  ·exact absurd (Fm X.nd q e1▸hj) (CL e2).1
 ·rw [Gx X] at hk
  refine Gy (C:=C) S X L (S.out hk) fun a u h1 h2 h3 h4=>k a u h2 (h3.to fun o' e=>(G.hide_ne fun q=>Am hC (q▸e)).trans e) fun i v e1 e2=>BD up (h4 i v e1 (CL e2).2)
end
end Mine
namespace Mine
open PySem PySem.Calls
noncomputable abbrev Df (ifs:List Expr) (env:Env) (b:Bool):Sem Bool :=
 forIn ifs b fun c r=>if r=true then (isTrue c env (eval c env)>>=fun ok=>pure (ForInStep.yield ok)) else pure (ForInStep.yield r)
def TurnC (c:Cx) (target elt:Expr) (ifs:List Expr) (it acc:Value) (Dn:Shared->Prop) (v:Value) (s:Shared):Prop :=
 c.wp (letOwnedTupleGo target it v) (fun _ s₁=>c.wp (assign target c.env v) (fun _ s2=>c.wp (Df ifs c.env true) (fun ok s3=>(ok=false->Dn s3)/\(ok=true->c.wp (eval elt c.env) (fun x s4=>c.wp (call (.builtin "list.append") [acc,x]) (fun _ s5=>Dn s5) s4) s3)) s2) s₁) s
theorem compLoop_any {c:Cx} {R:Result->Shared->Prop} {s:Shared} {elt target iter:Expr} {ifs:List Expr} {scope:Scope} {pos:Pos} {it acc:Value} (I:Nat->Shared->Prop)
 (turn:∀ n s,I n s->∀ Q:Option Value->Shared->Prop,(∀ s₁,R (.ok .next) s₁->Q none s₁)->(∀ v s₁,TurnC c target elt ifs it acc (fun s'=>∃ m,m < n/\I m s') v s₁->Q (some v) s₁)->c.wp (pyNext it) Q s)
 (n:Nat) (h:I n s):codeAny (model c.T.prog c.T.w) c.A (.compLoop (.ListComp elt [⟨target,iter,ifs,0⟩] scope pos) 0 it acc c.env) R s:=by
 refine codeAny_loop rfl I (fun n s hI=>?_) n h
 show wpAny _ c.A ((compTurn (.ListComp elt [⟨target,iter,ifs,0⟩] scope pos) 0 it acc c.env).onRaise (fun x=>do noteFrame x c.env; theTreesLotGoes x)) _ _ s
 refine wpAny_noted ?_
 rw [compTurn_list]
 refine wpAny_bind (wpAny_standAt (wpAny_bind (wpAny_mono (turn n s hI _ ?_ ?_) (fun r s₁ h=>h) fun _ _ h'=>h'.elim)))
 ·exact fun s₁ h=>wpAny_pure h
 intro v s₁ h
 refine wpAny_bind (wpAny_mono h (fun _ s1' h1'=>?_) fun _ _ h'=>h'.elim)
 refine wpAny_bind (wpAny_mono h1' (fun _ s2 h2=>wpAny_bind (wpAny_mono h2 (fun ok s3 h3=>?_) fun _ _ h'=>h'.elim)) fun _ _ h'=>h'.elim)
 cases ok with
 | false=>exact wpAny_pure ⟨rfl,h3.1 rfl⟩
 | true=>exact wpAny_bind (wpAny_bind (wpAny_mono (h3.2 rfl) (fun x s4 h4=>wpAny_bind (wpAny_mono h4 (fun _ s5 h5=>wpAny_pure (wpAny_pure ⟨rfl,h5⟩)) fun _ _ h'=>h'.elim)) fun _ _ h'=>h'.elim))
def SIf (n:Nat) (e:E) (ρ:Af) (σ:Aa) (b:Bool) (σ':Aa):Prop :=
 ∀ (c:Cx) (g:G) (s:Shared) (xs:List Expr),DY e c.K xs->Inv n c ρ g σ s->c.wp (Df xs c.env true) (fun x s'=>BI c.T [] g σ' (fun _=>x=b) s') s
noncomputable def Ds (n:Nat) (elt:E) (ts:List Nat) (ifs:E) (kps:List (Nat×List V)) (ρ:Af) (σ':Aa):List V->Aa->List V->Prop
 | [],σ,ws=>Bt σ kps/\ws=[]/\σ'=σ
 | v::vs,σ,ws=>Bt σ kps/\bindN n ts v/\∃ t σ₁,SIf n ifs (Bw (AA ρ ts) ts v) σ t σ₁/\(t=false->Ds n elt ts ifs kps ρ σ' vs σ₁ ws)/\(t=true->∃ u us σ₂,SE n elt (Bw (AA ρ ts) ts v) σ₁ u σ₂/\ws=u::us/\Ds n elt ts ifs kps ρ σ' vs σ₂ us)
noncomputable abbrev Cy (xs:Array Value) (m:Nat):Obj:={ cls:=.type "list",dict:=none,data:=.seq xs m,slots:=#[] }
section
variable {n:Nat} {c:Cx} {ρ ρ':Af} {g g' g₀ g₁:G} {σ σ' σ₁ σ₂:Aa} {s s':Shared} {e a b r elt ifs:E} {ws vs:List V} {kps:List (Nat×List V)} {its:List Addr} {ts:List Nat} {q:Bool}
theorem Ec (env:Env):∀ ifs:List Expr,Df ifs env false=pure false
 | []=>rfl
 | c::r=>by
  show (forIn (c::r) false _:Sem Bool)=_
  rw [List.forIn_cons,if_neg Bool.false_ne_true,pure_bind]
  exact Ec env r
theorem SIf.nil:SIf n .nil ρ σ true σ:=fun c g s xs hc I=>by
 obtain rfl:xs=[]:=hc
 exact wpAny_pure (.refl I.has rfl)
theorem if_arm {x:Expr} {l:List Expr} {env:Env}:Df (x::l) env true=(isTrue x env (eval x env)>>=fun ok=>Df l env ok):=by
 show (forIn (x::l) true _:Sem Bool)=_
 rw [List.forIn_cons,if_pos rfl,bind_assoc]
 exact bind_congr fun ok=>pure_bind _ _
theorem SIf.cons (h:ST n a ρ σ true σ₁) (h':SIf n r ρ σ₁ q σ₂):SIf n (.cons a r) ρ σ q σ₂:=fun c g s xs hc I=>hc (fun xs=>c.wp (Df xs c.env true) (fun x s'=>BI c.T [] g σ₂ (fun _=>x=q) s') s) fun x l h1 h2=>AL if_arm
 (Bn (r:=c.toAr) (h c g s x h1 I) fun ok g₁ s₁ le a₁ e=>by subst e; exact Bs (r:=c.toAr) le (h' c g₁ s₁ l h2 (I.step le a₁)))
theorem SIf.no (h:ST n a ρ σ false σ₁):SIf n (.cons a r) ρ σ false σ₁:=fun c g s xs hc I=>hc (fun xs=>c.wp (Df xs c.env true) (fun x s'=>BI c.T [] g σ₁ (fun _=>x=false) s') s) fun x l h1 h2=>AL if_arm
 (Bn (r:=c.toAr) (h c g s x h1 I) fun ok g₁ s₁ le a₁ e=>by subst e; exact AL (Ec _ _) (wpAny_pure (.mk g₁ le a₁ rfl)))
theorem Loc.less (L:Loc c ρ g) (h:∀ (i:Nat) (v:V),ρ'[i]? = some (some v)->ρ[i]? = some (some v)):Loc c ρ' g:=⟨fun R_ k=>L.ns R_ fun m h1 h2=>k m h1 fun i nm v e1 e2 e3=>h2 i nm v e1 (h i v e2) e3,fun nm hk R_ k=>L.ce nm hk R_ fun a u h1 h2 h3=>k a u h1 h2 fun i v e1 e2=>h3 i v e1 (h i v e2),L.ow⟩
theorem comp_turns {D it:Addr} {x t i:Expr} {cs:List Expr} {sc:Scope} {pos:Pos} {m₀:Nat} {R:Result->Shared->Prop} (f0:By g₀ c.fe) (x0:Loc c (AA ρ ts) g₀) (hn:∀ b,b∈D::its->g₀.hid b=none) (hD:D∉its) (h4:IsT c.K ts t) (h5:IsE elt c.K x) (h6:DY ifs c.K cs) (ht:q=true->∃ es k p,t=.Tuple es k p) (hl:ws.length<=line)
 (fin:∀ g' s' xs m h',G.le ((D::its)++c.own) g g'->Inv n c (AA ρ ts) g' σ' s'->ItS n c.T q kps its it [] g'->g'.hid D=some (Cy xs m)->Aj c.T g' ws xs.toList->(∀ b o,b∉its->s'.heap.get? b=some o->h'.get? b=some o)->R (.ok .next) { s' with heap:=h' })
 (hr:Ds n elt ts ifs kps ρ σ' vs σ ws) (I:Inv n c (AA ρ ts) g σ s) (hi:ItS n c.T q kps its it vs g) (hDo:g.hid D=some (Cy #[] m₀)):codeAny (model c.T.prog c.T.w) c.A (.compLoop (.ListComp x [⟨t,i,cs,0⟩] sc pos) 0 (.ref it) (.ref D) c.env) R s:=by
 have no:∀ b,b∈D::its->b∉c.own:=fun b h h'=>x0.ow b h' (hn b h)
 have toO:∀ {g g'},G.le c.own g g'->G.le ((D::its)++c.own) g g':=fun le=>⟨le.toup,fun a q=>le.hid a fun h=>q (List.mem_append_right _ h)⟩
 have toA:∀ {g g'},G.le (D::its) g g'->G.le ((D::its)++c.own) g g':=fun le=>⟨le.toup,fun a q=>le.hid a fun h=>q (List.mem_append_left _ h)⟩
 have toI:∀ {g g'},G.le its g g'->G.le (D::its) g g':=fun le=>⟨le.toup,fun a q=>le.hid a fun h=>q (.tail _ h)⟩
 refine compLoop_any (I:=fun k s=>∀ R_:Prop,(∀ vs σ g' ys zs xs m,k=vs.length->Ds n elt ts ifs kps ρ σ' vs σ zs->ws=ys++zs->G.le ((D::its)++c.own) g g'->Inv n c (AA ρ ts) g' σ s->ItS n c.T q kps its it vs g'->g'.hid D=some (Cy xs m)->Aj c.T g' ys xs.toList->R_)->R_) (fun k s3 hz=>hz _ fun vs σ3 g3 ys zs xs m hk w hw le3 I3 i3 d3 r3 Q kn ks=>?_) vs.length
  fun R_ kk=>kk vs σ g [] ws #[] m₀ rfl hr rfl (.refl _ _) I hi hDo trivial
 subst hk
 cases vs with
 | nil =>
  obtain ⟨w1,rfl,rfl⟩:=w
  rw [List.append_nil] at hw
  exact i3.2 c.toAr g3 _ s3 rfl I3.toAt (.refl _) (fun _ _=>rfl) w1 Q fun h' hk=>kn _ (fin g3 s3 xs m h' le3 I3 i3 d3 (hw▸r3) hk)
 | cons v vs =>
  obtain ⟨w1,w2,t1,σ6,w3,w4,w5⟩:=w
  refine i3.2 c.toAr g3 σ3 s3 rfl I3.toAt (.refl _) (fun _ _=>rfl) w1 t Q ht fun X s₁ k=>ks X s₁ (k _ fun g4 s4 le4 H4 r4 i4=>?_)
  refine (I3.far f0 x0 hn (toI le4) H4).bind h4 w2 r4 fun g5 s5 le5 I5=>?_
  refine wpAny_mono (w3 c g5 s5 cs h6 I5) (fun ok s6 p=>p _ fun g6 le6 a6 e6=>?_) fun _ _ h=>h
  have I6:=I5.step le6 a6
  have l56:G.le c.own g4 g6:=le5.trans le6.toO
  have d6:g6.hid D=some (Cy xs m):=(l56.hid D (no D (.head _))).trans ((le4.hid D hD).trans d3)
  have i6:ItS n c.T q kps its it vs g6:=i4.mono l56.toup fun b hb=>l56.hid b (no b (.tail _ hb))
  have L6:=le3.trans ((toA (toI le4)).trans (toO l56))
  have r6:=Aj.mono (le4.toup.trans l56.toup) r3
  have less:∀ (i:Nat) (u:V),(AA ρ ts)[i]? = some (some u)->(Bw (AA ρ ts) ts v)[i]? = some (some u):=fun i u=>bindV_get
  subst e6
  refine ⟨fun q=>⟨vs.length,Nat.lt_succ_self _,fun R_ kk=>kk vs σ6 g6 ys zs xs m rfl (w4 q) hw L6 ⟨I6.toAt,I6.cx,I6.loc.less less⟩ i6 d6 r6⟩,fun q=>?_⟩
  obtain ⟨u,us,σ7,w6,rfl,w7⟩:=w5 q
  refine wpAny_mono (w6 c g6 s6 x h5 I6) (fun Y s7 p=>p _ fun g7 le7 a7 r7=>?_) fun _ _ h=>h
  have I7:=I6.step le7 a7
  have d7:=(le7.hid D List.not_mem_nil).trans d6
  have r8:=Aj.mono le7.toup r6
  have hz:xs.size<=sizeLine:=by
   rw [<-AH,<-Array.length_toList,<-r8.length]
   rw [hw,List.length_append] at hl
   exact Nat.le_trans (Nat.le_add_right _ _) hl
  refine wpAny_list_append_plain ⟨m,(a7.hd _ _ d7).ex (AB rfl (by decide))⟩ (fun h' hp hs=>?_) hz
  obtain ⟨m',hp⟩:=hp
  have le8:G.le (D::its) g7 (g7.hide D (Cy (xs.push Y) m')):=.hide (.head _)
  have I8:=I7.far f0 x0 hn le8 (a7.rehide (s':={ s7 with heap:=h' }) d7 (fun b x q e=>(hs.2 b q).trans e) hp)
  refine ⟨vs.length,Nat.lt_succ_self _,fun R_ kk=>kk vs σ7 _ (ys++[u]) us (xs.push Y) m' rfl w7 (by rw [List.append_assoc]; exact hw) (L6.trans (le7.toO.trans (toA le8))) ⟨I8.toAt,I8.cx,I8.loc.less less⟩ ((i6.mono le7.toup fun b _=>le7.hid b List.not_mem_nil).mono le8.toup fun b hb=>G.hide_ne fun q=>hD (q▸hb)) G.hide_self ?_⟩
  rw [Array.toList_push]
  exact (Aj.mono le8.toup r8).append ⟨An.mono le8.toup _ _ r7,trivial⟩
end
end Mine
namespace Mine
open PySem PySem.Calls
section
variable {n:Nat} {c:Cx} {ρ ρ':Af} {g g' g₀ g₁:G} {σ σ' σ₁ σ₂:Aa} {s s':Shared} {e it elt ifs:E} {v:V} {ws vs:List V} {kps:List (Nat×List V)} {its:List Addr} {ts:List Nat} {q:Bool} {Q:Fl->Aa->Prop} {k:Nat}
theorem NsF.heap {T:Top} {C:Addr} {m:Str->Option Value} (H:Has T g σ s) (h:NsF g.hid C m):s.heap.Ns C m:=H.ns h
theorem comp_run {x t i:Expr} {cs:List Expr} {sc:Scope} {pos P:Pos} {use:Option (Value->Sem Unit)} {Q:Value->Shared->Prop} (hI:SI n it ρ σ vs kps σ₁) (hr:Ds n elt ts ifs kps ρ σ' vs σ₁ ws) (hl:ws.length<=line)
 (h1:IsE it c.K i) (hs:Gb c.K ts sc=true) (hz:F3 ts it=true) (h4:IsT (c.K.sub ts sc) ts t) (h5:IsE elt (c.K.sub ts sc) x) (h6:DY ifs (c.K.sub ts sc) cs) (I:Inv n c ρ g σ s)
 (fin:∀ g2 s2 D C m,G.le [C] g g2->g.hid C=none->NsF g2.hid C m->Be c.toAr g2 σ' ws (.ref D) s2->compPost (model c.T.prog c.T.w) c.A (fun _ _=>False) use Q (.ref D) C (.ok .next) s2) :
 c.wp (comprehension (.ListComp x [⟨t,i,cs,0⟩] sc pos) sc c.env P (newList []) false (eval i c.env) use) Q s:=by
 have S:=scopeOk_ok hs
 refine wpAny_comprehension_free (use:=use) rfl ((Bj it h1).fold c.env) (Ej sc fun m hm=>Gy (C:=0) S I.cx I.loc hm fun a _ e _ _ _=>⟨a,e⟩) S.kind (fun p hp hl=>by rw [S.uni p hp,hl]) ?_
 refine wpAny_mono (hI c g s i h1 I) (fun X s₁ h₁=>wpAny_mono h₁ (fun itv s2 p=>?_) fun _ _ h=>h) fun _ _ h=>h
 refine p (fun itv=>c.wp (newList []) (fun acc s3=>c.wp (newFunctionEnv sc c.env.globals (Dc c.env sc.names []) [] c.env.qual none .none (some c.env)) (fun cenv s4=>codeAny (model c.T.prog c.T.w) c.A (.compStart (.ListComp x [⟨t,i,cs,0⟩] sc pos) 0 itv acc { cenv with scope:=relabel sc c.env }) (compPost (model c.T.prog c.T.w) c.A (fun _ _=>False) use Q acc cenv.locals) s4) s3) s2) fun its a g2 le2 H2 new i2 self=>?_
 refine wpAny_newList ?_ (Nat.zero_le _)
 refine wpAny_newFunctionEnv S.noc (fun y hy=>nomatch hy) (fun h₁ hns hsb=>?_) S.kind
 have hC:s2.heap.objs.size≠(s2.heap.push (Cy #[] 0)).objs.size:=fun q=>by rw [Heap.size_push] at q; exact Nat.succ_ne_self _ q.symm
 have hC0:s2.heap.get? (s2.heap.push (Cy #[] 0)).objs.size=none:=Heap.get?_none_of_le (by rw [Heap.size_push]; exact Nat.le_succ _)
 have hD0:s2.heap.get? s2.heap.objs.size=none:=AW _
 have hD1:h₁.get? s2.heap.objs.size=some (Cy #[] 0):=(hsb.2 _ hC).trans (Heap.get?_push_of_some _ (Heap.get?_push_size _ rfl))
 have old:∀ b o,s2.heap.get? b=some o->h₁.get? b=some o:=fun b o e=>(hsb.2 b fun q=>by rw [q] at e; exact Am hC0 e).trans (Heap.get?_push_of_some _ (Heap.get?_push_of_some _ e))
 have ne:∀ {b},b∈its->∀ {d},s2.heap.get? d=none->b≠d:=fun {b} hb {d} hd q=>by
  cases e:g2.hid b with
  | none=>exact i2.at b hb e
  | some o=>obtain ⟨_,e',_⟩:=H2.hd b o e; exact Am (q▸hd) e'
 generalize (s2.heap.push (Cy #[] 0)).objs.size=C at *
 generalize s2.heap.objs.size=D at *
 obtain ⟨oC,es,ep,hCo,hCn⟩:=hns
 have FC:=H2.free hC0
 have FD:=H2.free hD0
 have nD:∀ {b},b∈its->b≠D:=fun hb=>ne hb hD0
 have nC:∀ {b},b∈its->b≠C:=fun hb=>ne hb hC0
 have hD:D∉its:=fun q=>nD q rfl
 have hgC:g.hid C=none:=(le2.hid C fun q=>nC q rfl).symm.trans FC.hid
 have hgD:g.hid D=none:=(le2.hid D hD).symm.trans FD.hid
 have H3:=FC.hide (H2.keep (s':={ s2 with heap:=h₁,toks:=s2.toks+([]:List (Str×Value)).length }) old) hCo
 have H4:=H3.hide (a:=D) FD.fz FD.mu FD.tab (fun _ _ _ e=>e) hD1
 have x0:=sub_loc (o:=oC) S I.cx I.loc hgC ⟨oC,es,ep,G.hide_self,hCn⟩
 have hn:∀ b,b∈D::its->(g.hide C oC).hid b=none:=all_cons ((G.hide_ne hC).trans hgD) fun b hb=>(G.hide_ne (nC hb)).trans (new b hb)
 have l0:G.le (D::its) (g.hide C oC) ((g2.hide C oC).hide D (Cy #[] 0)):=⟨⟨le2.fz,le2.mu⟩,fun b hb=>(G.hide_ne (nhd hb)).trans (congrArg (fun z=>if b=C then some oC else z) (le2.hid b (ntl hb)))⟩
 have lg:G.le ((D::its)++[C]) g ((g2.hide C oC).hide D (Cy #[] 0)):=⟨⟨le2.fz,le2.mu⟩,fun b hb=>(G.hide_ne fun (q:b=D)=>hb (List.mem_append_left _ (q▸.head _))).trans ((G.hide_ne fun (q:b=C)=>hb (List.mem_append_right _ (q▸.head _))).trans (le2.hid b fun q=>hb (List.mem_append_left _ (.tail _ q))))⟩
 have f0:By (g.hide C oC) c.fe:=I.frs.hideN hgC
 have I4:Inv n (subC c ts sc C) (AA ρ ts) _ σ₁ _:=⟨I.toAt.stepF lg.toup (f0.far hn f0 l0) H4,sub_cx S I.cx I.loc,x0.far hn x0 l0⟩
 have hd:∀ b,b∈its->((g2.hide C oC).hide D (Cy #[] 0)).hid b=g2.hid b:=fun b hb=>(G.hide_ne (nD hb)).trans (G.hide_ne (nC hb))
 have loop:codeAny (model c.T.prog c.T.w) c.A (.compLoop (.ListComp x [⟨t,i,cs,0⟩] sc pos) 0 (.ref a) (.ref D) (subC c ts sc C).env) (compPost (model c.T.prog c.T.w) c.A (fun _ _=>False) use Q (.ref D) C) { s2 with heap:=h₁,toks:=s2.toks+([]:List (Str×Value)).length }:=by
  refine comp_turns (c:=subC c ts sc C) f0 x0 hn hD h4 h5 h6 (is_tup (c:=subC c ts sc C) h4 hz) hl (fun g' s' xs m h' le I5 i5 d5 r5 hk=>?_) hr I4 (ItS.mono (g:=g2) ⟨fun _ _ e=>e,fun _ _ e=>e⟩ hd i2) G.hide_self
  have aw:=I5.has.away (all_cons (Ay d5) i5.at)
  obtain ⟨hd',H',le',e'⟩:=I5.has.back (its:=D::its) (own:=[C]) (s':={ s' with heap:=h' }) (lg.trans le) (all_cons hgD new) (fun b o hb e=>hk b o (ntl hb) e) aw
  have F:Dv c.T ⟨g'.fz,hd',g'.mu⟩ D:=⟨(aw D (.head _)).1,(le'.hid D fun q=>hC (List.mem_singleton.mp q)).trans hgD,(aw D (.head _)).2.1,(aw D (.head _)).2.2⟩
  exact I5.loc.ns _ fun m' h1 _=>fin ⟨g'.fz,hd',g'.mu⟩ _ D C m' le' hgC (h1.to fun o e=>(e' C fun q=>(List.mem_cons.mp q).elim (fun q=>hC q.symm) fun q=>nC q rfl).trans e) fun R_ kk=>kk _ D xs m (.refl _ _) H' F (hk D _ hD ((I5.has.hd _ _ d5).ex (AB rfl (by decide)))) (Aj.eta r5) hl
 exact codeAny_compStart_list loop (wpAny_mono (self c.toAr _ _ _ H4 hd _ loop) (fun _ _ h=>h) fun _ _ h=>h.elim)
theorem SL.comp (hI:SI n it ρ σ vs kps σ₁) (hr:Ds n elt ts ifs kps ρ σ' vs σ₁ ws) (hl:ws.length<=line):SL n (.comp elt ts it ifs) ρ σ ws σ':=fun c g s ex hc I=>hc (fun ex=>c.wp (eval ex c.env) (Be c.toAr g σ' ws) s) fun x t i cs sc p h1 h2 h4 h5 h6=>AL (eval_ListComp ..)
 (comp_run hI hr hl h1 h2.1 h2.2 h4 h5 h6 I fun g2 s2 D C m le hC hns hN=>hN (fun X=>compPost (model c.T.prog c.T.w) c.A (fun _ _=>False) none (Be c.toAr g σ' ws) X C (.ok .next) s2) fun g3 a xs m' le3 H3 F ho hr hl=>by
  have hn:=hns.to (f':=g3.hid) fun o e=>(le3.hid C List.not_mem_nil).trans e
  refine ⟨m,hn.heap H3,fun h' hs R_ k=>?_⟩
  obtain ⟨o,_,_,e,_⟩:=hn
  obtain ⟨hd,H',le',e'⟩:=H3.back (its:=[C]) (own:=[]) (s':={ s2 with heap:=h' }) (le.trans le3.toO) (Av hC) (fun b o hb e=>(hs.2 b (nhd hb)).trans e) (H3.away (Av (Ay e)))
  have ne:a≠C:=fun q=>Am F.hid (q▸e)
  exact k _ a xs m' le' H' ⟨F.fz,(e' a fun q=>ne (List.mem_singleton.mp q)).trans F.hid,F.mu,F.tab⟩ ((hs.2 a ne).trans ho) (Aj.eta hr) hl)
theorem comp_swaps {nm:Str} {p vp:Pos} {x t i:Expr} {cs:List Expr} {sc:Scope} {l:Nat} (X:CxOk n c) (h:(decide (c.K.names.lookup nm=some .local)&&(decide (p.line=vp.line) && !(sc.names.any fun q=>q.1 == nm&&(q.2 == .local||q.2 == .cell))))=true):swapsWith (.ListComp x [⟨t,i,cs,0⟩] sc vp) (some (.Name nm p)) l c.env=pure true:=by
 have h1:=Bool.and_eq_true_iff.mp h
 have h2:=Bool.and_eq_true_iff.mp h1.2
 show (pure (c.env.blockKind == .function&&c.env.kindOf nm == some .local&&p.line == vp.line && !(sc.names.any fun q=>q.1 == nm&&(q.2 == .local||q.2 == .cell))):Sem Bool)=_
 rw [show (c.env.blockKind == .function)=true by unfold Env.blockKind; rw [X.kind]; rfl,A7 X.names,of_decide_eq_true h1.1,of_decide_eq_true h2.1,h2.2,beq_self_eq_true,beq_self_eq_true]; rfl
theorem comp_cell {nm:Str} {p vp:Pos} {x t i:Expr} {cs:List Expr} {sc:Scope} {l:Nat} (X:CxOk n c) (h:c.K.names.lookup nm=some .cell):swapsWith (.ListComp x [⟨t,i,cs,0⟩] sc vp) (some (.Name nm p)) l c.env=pure false:=by
 show (pure (c.env.blockKind == .function&&c.env.kindOf nm == some .local&&p.line == vp.line && !(sc.names.any fun q=>q.1 == nm&&(q.2 == .local||q.2 == .cell))):Sem Bool)=_
 rw [A7 X.names,h,show (some NameKind.cell == some NameKind.local)=false from rfl,Bool.and_false]; rfl
theorem comp_arm {nm:Str} {p vp p':Pos} {x t i:Expr} {cs:List Expr} {sc:Scope} {env:Env} (h:∀ l,swapsWith (.ListComp x [⟨t,i,cs,0⟩] sc vp) (some (.Name nm p)) l env=pure true):exec (.Assign [.Name nm p] (.ListComp x [⟨t,i,cs,0⟩] sc vp) p') env =
 (standAt p'>>=fun _=>(comprehension (.ListComp x [⟨t,i,cs,0⟩] sc vp) sc env (firstIterPos [⟨t,i,cs,0⟩] vp) (newList []) false (eval i env) (some fun v=>assign (.Name nm p) env v)>>=fun _=>pure ())>>=fun _=>pure Flow.next):=by
 rw [arm_exec_Assign]
 show (standAt p'>>=fun _=>swapsWith (.ListComp x [⟨t,i,cs,0⟩] sc vp) (some (.Name nm p)) p'.line env>>=_)=_
 rw [h]
 have hall:∀ v,assignAll v [assign (.Name nm p) env]=assign (.Name nm p) env v:=fun v=>by first | rfl | (unfold assignAll; rfl)
 rw [<-funext hall]
 rfl
theorem SS.asgC (hI:SI n it ρ σ vs kps σ₁) (hr:Ds n elt ts ifs kps ρ σ' vs σ₁ ws) (hl:ws.length<=line) (hv:∀ {r:Ar} {g X s},Be r g σ' ws X s->Ans r g v σ₂ X s) (hq:Q (.next (ρ.set k (some v))) σ₂):SS n (.asg k (.comp elt ts it ifs)) ρ σ Q:=fun c g s st hc I=>hc (fun st=>c.wp (exec st c.env) (AO n c g Q) s) fun nm p ex p' h1 h2 h3=>by
 refine h2 (fun ex=>swapC c.K nm p ex=true->c.wp (exec (.Assign [.Name nm p] ex p') c.env) (AO n c g Q) s) (fun x t i cs sc vp k1 k2 k4 k5 k6 h3=>?_) h3
 rcases Bool.or_eq_true_iff.mp (show (_||_)=true from h3) with h3 | h3
 rotate_left
 ·rw [arm_exec_Assign]
  refine wpAny_bind (wpAny_standAt ?_)
  show c.wp (swapsWith (.ListComp x [⟨t,i,cs,0⟩] sc vp) (some (.Name nm p)) p'.line c.env>>=_) _ _
  rw [comp_cell I.cx (of_decide_eq_true h3),pure_bind,if_neg Bool.false_ne_true]
  have hc2:IsE (.comp elt ts it ifs) c.K (.ListComp x [⟨t,i,cs,0⟩] sc vp):=fun R_ kk=>kk x t i cs sc vp k1 k2 k4 k5 k6
  have hE:SE n (.comp elt ts it ifs) ρ σ v σ₂:=fun c g s ex hc I=>wpAny_mono (SL.comp hI hr hl c g s ex hc I) (fun _ _ p=>hv p) fun _ _ h=>h
  refine Bz hE hc2 I fun X g₁ s₁ le I1 r1=>?_
  rw [show swappedStores [.Name nm p] (.ListComp x [⟨t,i,cs,0⟩] sc vp) c.env=pure none by unfold swappedStores; rfl,pure_bind]
  unfold assignStores
  show c.wp (assignAll X [assign (.Name nm p) c.env]>>=fun _=>pure Flow.next) _ _
  rw [show assignAll X [assign (.Name nm p) c.env]=assign (.Name nm p) c.env X by first | rfl | (unfold assignAll; rfl)]
  exact wpAny_bind (I1.asgn h1 r1 fun g2 s2 le2 _ I2=>wpAny_pure fun R_ k1 _=>k1 _ σ₂ g2 hq (le.toO.trans le2) I2)
 refine AL (comp_arm fun l=>comp_swaps I.cx h3) (wpAny_bind (wpAny_standAt (wpAny_bind (wpAny_bind (comp_run (Q:=fun _ s'=>wpAny _ _ (pure ()) (fun _ s'=>wpAny _ _ (pure Flow.next) (AO n c g Q) (fun _ _=>False) s') (fun _ _=>False) s') hI hr hl k1 k2.1 k2.2 k4 k5 k6 I fun g2 s2 D C m le hC hns hN=>?_)))))
 refine hv hN _ fun g3 le3 H3 r3=>?_
 have l3:=le.trans le3.toO
 have ni:C∉c.own:=fun q=>I.loc.ow C q hC
 refine (I.far I.frs I.loc (Av hC) l3 H3).asgn h1 r3 fun g4 s4 le4 _ I4=>?_
 have hn:=hns.to (f':=g4.hid) fun o e=>(le4.hid C ni).trans ((le3.hid C List.not_mem_nil).trans e)
 refine ⟨m,hn.heap I4.has,fun h' hs=>wpAny_pure (wpAny_pure fun R_ k1 _=>?_)⟩
 obtain ⟨o,_,_,e,_⟩:=hn
 obtain ⟨hd,H',le',e'⟩:=I4.has.back (its:=[C]) (own:=c.own) (s':={ s4 with heap:=h' }) ⟨l3.toup.trans le4.toup,fun b hb=>(le4.hid b fun q=>hb (.tail _ q)).trans (l3.hid b fun q=>hb (List.mem_singleton.mp q▸.head _))⟩ (Av hC) (fun b o hb e=>(hs.2 b (nhd hb)).trans e) (I4.has.away (Av (Ay e)))
 exact k1 _ σ₂ _ hq le' (I4.far I.frs I.loc (Av hC) ⟨⟨fun _ _ e=>e,fun _ _ e=>e⟩,e'⟩ H')
end
end Mine
namespace Mine
open PySem PySem.Calls
theorem CR {n:Str}:∀ {names:List (Str×NameKind)} {k:Nat} {acc:List (Str×Addr)},(∃ c,(n,c)∈acc)->∃ c,(n,c)∈cellsFrom k names acc
 | [],_,_,h=>h
 | (m,kd)::r,k,acc,h=>by
  show ∃ c,(n,c)∈(if (kd == .cell)=true then cellsFrom (k+1) r ((m,k)::acc) else cellsFrom k r acc)
  by_cases q:(kd == .cell)=true
  ·rw [if_pos q]; exact CR (names:=r) (h.imp fun c h=>.tail _ h)
  ·rw [if_neg q]; exact CR (names:=r) h
theorem BH {n:Str}:∀ {names:List (Str×NameKind)} {k:Nat} {acc:List (Str×Addr)},(n,NameKind.cell)∈names->∃ c,(n,c)∈cellsFrom k names acc
 | [],_,_,h=>nomatch h
 | (m,kd)::r,k,acc,h=>by
  show ∃ c,(n,c)∈(if (kd == .cell)=true then cellsFrom (k+1) r ((m,k)::acc) else cellsFrom k r acc)
  rcases List.mem_cons.mp h with h | h
  ·rw [<-(Prod.mk.inj h).1,<-(Prod.mk.inj h).2]; exact CR (names:=r) ⟨k,.head _⟩
  ·by_cases q:(kd == .cell)=true
   ·rw [if_pos q]; exact BH (names:=r) h
   ·rw [if_neg q]; exact BH (names:=r) h
section
variable {kf:Str->Option NameKind} {n:Str} {v:Value}
theorem bind_out:∀ {bs:List (Str×Value)} {m:Str->Option Value},(∀ p,p∈bs->p.1≠n)->bindL kf bs m n=m n/\bindC kf bs m n=m n
 | [],m,_=>⟨rfl,rfl⟩
 | (k,v)::r,m,h=>by
  have ne:n≠k:=fun q=>h (k,v) (.head _) q.symm
  have ih:=fun m=>bind_out (bs:=r) (m:=m) fun p hp=>h p (.tail _ hp)
  show bindL kf r (if kf k=some .local then fun y=>if y=k then some v else m y else m) n=m n/\bindC kf r (if kf k=some .local then m else fun y=>if y=k then some v else m y) n=m n
  rw [(ih _).1,(ih _).2]
  by_cases q:kf k=some .local
  ·rw [if_pos q,if_pos q]; exact ⟨if_neg ne,rfl⟩
  ·rw [if_neg q,if_neg q]; exact ⟨rfl,if_neg ne⟩
theorem bind_get:∀ {ns:List Str} {vs:List Value} {m:Str->Option Value} {i:Nat},ns.Nodup->ns[i]? = some n->vs[i]? = some v ->
 (kf n=some .local->bindL kf (ns.zip vs) m n=some v)/\(kf n≠some .local->bindC kf (ns.zip vs) m n=some v)
 | [],_,_,_,_,h1,_=>Ab h1
 | _::_,[],_,_,_,_,h2=>Ab h2
 | k::ns,w::vs,m,0,hn,h1,h2=>by
  obtain rfl:=Option.some.inj h1; obtain rfl:=Option.some.inj h2
  have out:∀ m,_:=fun m=>bind_out (kf:=kf) (n:=k) (m:=m) (bs:=ns.zip vs) fun p hp q=>(List.nodup_cons.mp hn).1 (q▸(List.of_mem_zip (a:=p.1) (b:=p.2) hp).1)
  refine ⟨fun hk=>(out _).1.trans ?_,fun hk=>(out _).2.trans ?_⟩
  ·rw [if_pos hk]; exact if_pos rfl
  ·rw [if_neg hk]; exact if_pos rfl
 | k::ns,w::vs,m,i+1,hn,h1,h2=>⟨(bind_get (ns:=ns) (vs:=vs) (i:=i) (List.nodup_cons.mp hn).2 h1 h2).1,(bind_get (ns:=ns) (vs:=vs) (i:=i) (List.nodup_cons.mp hn).2 h1 h2).2⟩
end
def RetIs (v:V) (σ':Aa) (fl:Fl) (σ:Aa):Prop:=(match fl with | .next _=>v=.d .none | .ret u=>v=u)/\σ'=σ
noncomputable def AV (fn:Fn) (xs:List V):Af:=xs.map some++List.replicate (fn.nv-fn.np) none
theorem begin_get {fn:Fn} {xs:List V} {i:Nat} {v:V} (h:(AV fn xs)[i]? = some (some v)):xs[i]? = some v:=by
 unfold AV at h
 by_cases hi:i < xs.length
 ·rw [List.getElem?_append_left (by rw [List.length_map]; exact hi),List.getElem?_map,List.getElem?_eq_getElem hi] at h
  rw [List.getElem?_eq_getElem hi]; exact Option.some.inj h
 ·rw [List.getElem?_append_right (by rw [List.length_map]; exact Nat.le_of_not_lt hi),List.getElem?_replicate] at h
  exact Ab (AJ h).2
section
variable {n f:Nat} {fn:Fn} {xs:List V} {σ σ':Aa} {v:V} {r:Ar} {g:G} {s s₁:Shared} {a:Addr} {Xs:List Value} {fd:FuncData} {body:List Stmt} {o:Obj} {vars:List Str} {lam:Option (Addr×Str)}
noncomputable abbrev Cp (env:Env):List Addr:=env.locals::env.scope.names.filterMap fun p=>env.cells.lookup p.1
noncomputable abbrev callC (r:Ar) (env:Env) (vars:List Str) (lam:Option (Addr×Str)):Cx:=⟨⟨r.T,env::r.fe,r.A.deeper env⟩,⟨vars,env.scope.names,vars,glP,lam⟩,env,Cp env⟩
theorem call_inv {env:Env} (F:FnIs r.T glP fn a fd body o vars lam) (hn:1<=n) (hl:xs.length=fn.np) (aok:ProgOk r.T) (afr:r.A.frames=some r.fe) (adp:r.A.depth+(n+1)<=600) (aun:r.A.units+100 * (n+1)<=9000) (ahh:HOk n g r.A) (afs:By g r.fe) (H:Has r.T g σ s) (R:Aj r.T g xs Xs) (hE:env=callEnvC fd s.heap.objs.size a)
 (ic:InCallC s env.locals (bindL env.kindOf ((vars.take fn.np).zip Xs) fun _=>none) env.cells (bindC env.kindOf ((vars.take fn.np).zip Xs) fun _=>none) s₁):∃ g₁,Inv n (callC r env vars lam) (AV fn xs) g₁ σ s₁/\G.le (Cp env) g g₁/\∀ c,c∈Cp env->g.hid c=none:=by
 have esc:env.scope=fd.scope:=by rw [hE]; rfl
 have eloc:env.locals=s.heap.objs.size:=by rw [hE]; rfl
 have new:∀ c,c∈Cp env->s.heap.get? c=none:=all_cons (eloc▸AW _) fun c hc=>by
  obtain ⟨p,_,hp⟩:=List.mem_filterMap.mp hc
  exact Heap.get?_none_of_le (Nat.le_of_lt (eloc▸ic.above p.1 c (AF hp)))
 obtain ⟨h₁,tk,hs⟩:=ic.toInCall.same
 have H1:=H.newL (s':=s₁) new ic.toInCall.keep (by rw [hs]) (by rw [hs])
 obtain ⟨oL,esL,epL,hL,hLd⟩:=id ic.toInCall.ns
 have H2:=H1.rehideH (a:=env.locals) (o:=frO oL) (s':=s₁) ((if_pos (.head _)).trans hL) (fun _ _ _ e=>e) (.fr hL)
 have le:G.le (Cp env) g (G.hide ⟨g.fz,fun c=>if c∈Cp env then s₁.heap.get? c else g.hid c,g.mu⟩ env.locals (frO oL)):=⟨⟨fun _ _ e=>e,fun _ _ e=>e⟩,fun c hc=>(G.hide_ne fun (q:c=env.locals)=>hc (q▸.head _)).trans (if_neg hc)⟩
 have hd:∀ {c},c∈Cp env->c≠env.locals->∀ o,s₁.heap.get? c=some o->(G.hide ⟨g.fz,fun c=>if c∈Cp env then s₁.heap.get? c else g.hid c,g.mu⟩ env.locals (frO oL)).hid c=some o:=fun hc hn o e=>(G.hide_ne hn).trans ((if_pos hc).trans e)
 have cl:∀ {x c},env.cells.lookup x=some c->c≠env.locals:=fun {x c} e=>Nat.ne_of_gt (ic.above x c (AF e))
 have tf:TopFr env:=⟨(by rw [esc,F.kind]; exact fun q=>nomatch q),esc▸F.gen,esc▸F.cor,by rw [hE]; exact F.blt,by rw [hE]; exact F.glob⟩
 have frs:By (G.hide ⟨g.fz,fun c=>if c∈Cp env then s₁.heap.get? c else g.hid c,g.mu⟩ env.locals (frO oL)) (env::r.fe):=fun e he=>by
  rcases List.mem_cons.mp he with q | q
  ·rw [q]; exact ⟨tf,env.locals,frO oL,esL,epL,(by rw [hE]; rfl),G.hide_self,rfl,hLd.1⟩
  ·obtain ⟨h0,L,o',es,ep,h1,h2,h3⟩:=afs e q
   exact ⟨h0,L,o',es,ep,h1,(le.hid L fun q=>by obtain ⟨_,e',_⟩:=H.hd L o' h2; exact Am (new L q) e').trans h2,h3⟩
 have kd:∀ x,env.kindOf x=fd.scope.names.lookup x:=fun x=>by unfold Env.kindOf; rw [esc]
 have mem:∀ {x c k},fd.scope.names.lookup x=some k->env.cells.lookup x=some c->c∈Cp env:=fun {x c k} h e=>.tail _ (List.mem_filterMap.mpr ⟨(x,k),esc▸AF h,e⟩)
 have hnd:=List.Nodup.sublist (List.take_sublist fn.np vars) F.nd
 have par:∀ {i x v},vars[i]? = some x->(AV fn xs)[i]? = some (some v)->∃ X,((env.kindOf x=some .local->bindL env.kindOf ((vars.take fn.np).zip Xs) (fun _=>none) x=some X)/\(env.kindOf x≠some .local->bindC env.kindOf ((vars.take fn.np).zip Xs) (fun _=>none) x=some X))/\An r.T g v X:=fun {i x v} e1 e2=>by
  have e3:=begin_get e2
  obtain ⟨X,e4,rX⟩:=R.get e3
  have hi:i < fn.np:=hl▸(List.getElem?_eq_some_iff.mp e3).1
  exact ⟨X,bind_get hnd (by rw [List.getElem?_take_of_lt hi]; exact e1) e4,rX⟩
 refine ⟨_,⟨⟨aok,?_,⟨env,r.fe,rfl,tf⟩,?_,?_,by exact ahh.mono ⟨fun _ _ e=>e,fun _ _ e=>e⟩,frs,H2⟩,⟨aok.toReady,rfl,esc▸F.kind,by rw [hE]; exact F.glob,by rw [hE]; exact F.blt,⟨env,r.fe,rfl,rfl⟩,fun m m' c h h'=>name_of_addr ic.apart (AF h) (AF h'),F.nd,.head _,fun m _ c hk hc=>mem ((kd m).symm.trans hk) hc,fun t q h=>?_⟩,⟨fun R_ k=>k (bindL env.kindOf ((vars.take fn.np).zip Xs) fun _=>none) ?_ fun i nm u e1 e2 e3=>?_,fun nm hk R_ k=>?_,fun c hc=>?_⟩⟩,le,fun c hc=>(H.free (new c hc)).hid⟩
 ·show r.A.frames.map _=_
  rw [afr]; rfl
 ·show r.A.depth+1+n<=600
  rw [Nat.add_assoc,Nat.add_comm 1 n]; exact adp
 ·show r.A.units+3+100 * n<=9000
  have:=aun
  rw [Nat.mul_add] at this
  exact Nat.le_trans (by rw [Nat.add_assoc,Nat.add_comm 3]; exact Nat.add_le_add_left (Nat.add_le_add_left (by decide) _) _) this
 ·obtain ⟨h1,h2,h3⟩:=F.lam t q h
  exact ⟨hn,h1,by rw [hE]; exact h2,by rw [hE]; exact h3⟩
 ·exact ⟨frO oL,esL,epL,G.hide_self,hLd⟩
 ·obtain ⟨X,h,rX⟩:=par e1 e2
  exact ⟨X,h.1 e3,An.mono le.toup _ _ rX⟩
 ·have hc:fd.scope.names.lookup nm=some .cell:=by
   rw [kd] at hk
   exact hk.elim id fun q=>absurd rfl (F.nof _ (AF q))
  obtain ⟨c,h⟩:=BH (k:=s.heap.objs.size+1) (acc:=[]) (AF hc)
  obtain ⟨c,h⟩:=EK h
  have h:env.cells.lookup nm=some c:=by rw [hE]; exact h
  refine k c _ h (Em.to (f:=s₁.heap.get?) (ic.cell nm c h) (hd (mem hc h) (cl h))) fun i u e1 e2=>?_
  obtain ⟨X,q,rX⟩:=par e1 e2
  exact ⟨X,q.2 (by rw [kd,hc]; exact fun q=>nomatch q),An.mono le.toup _ _ rX⟩
 ·rw [show (callC r env vars lam).own=Cp env from rfl] at hc
  refine DU ?_
  show (if c∈Cp env then s₁.heap.get? c else g.hid c)≠none
  rw [if_pos hc]
  rcases List.mem_cons.mp hc with q | q
  ·obtain ⟨o,_,_,e,_⟩:=ic.toInCall.ns
   rw [q,e]; exact fun q=>nomatch q
  ·obtain ⟨p,_,hp⟩:=List.mem_filterMap.mp q
   obtain ⟨o,e,_⟩:=ic.cell p.1 c hp
   rw [e]; exact fun q=>nomatch q
theorem FA.run (hP:Pg f=some fn) (hl:xs.length=fn.np) (hb:SSs n fn.body (AV fn xs) σ (RetIs v σ')) (hn:1<=n) (hf:r.T.fn f=some a) (aok:ProgOk r.T) (afr:r.A.frames=some r.fe) (adp:r.A.depth+(n+1)<=600) (aun:r.A.units+100 * (n+1)<=9000) (ahh:HOk n g r.A) (afs:By g r.fe) (H:Has r.T g σ s) (R:Aj r.T g xs Xs):r.wp (call (.ref a) Xs) (Ans r g v σ') s:=aok.fns f fn a hP hf _ fun fd body o vars lam F=>by
 have hz:=fun b o e=>H.fz b o (H.base b o e)
 refine wpAny_call (codeAny_call_cells (Nat.lt_of_le_of_lt (Nat.le_trans (Nat.le_add_right _ _) adp) (by decide)) (hz _ _ F.ob) F.data (aok.ok.nolimit.keeps hz) (F.code.keeps hz) F.bd (F.bind Xs (R.length.symm.trans hl)) F.clo (fun p hp=>?_) (fun s₁ ic=>?_) F.cor F.gen F.kind)
 ·refine (F.par p.1 (List.of_mem_zip (a:=p.1) (b:=p.2) hp).1).imp id fun h=>⟨h,?_⟩
  obtain ⟨c,q⟩:=BH (k:=s.heap.objs.size+1) (acc:=[]) (AF h)
  obtain ⟨c,q⟩:=EK q
  rw [q]; rfl
 ·obtain ⟨g₁,I,le,new⟩:=call_inv F hn hl aok afr adp aun ahh afs H R rfl ic
  have done:∀ {g2 s2 x},G.le (Cp (callEnvC fd s.heap.objs.size a)) g₁ g2->Has r.T g2 σ' s2->(∀ c,c∈Cp (callEnvC fd s.heap.objs.size a)->g2.hid c≠none)->An r.T g2 v x->Ans r g v σ' x s2:=fun {g2 s2 x} l H2 w rx=>by
   obtain ⟨hd,H',le',_⟩:=H2.back (its:=Cp (callEnvC fd s.heap.objs.size a)) (own:=[]) (s':=s2) (List.append_nil _▸le.trans l) new (fun _ _ _ e=>e) (H2.away w)
   exact .mk _ le' H' (An.eta rx)
  have is:IsSs fn.body (callC r (callEnvC fd s.heap.objs.size a) vars lam).K body:=F.is
  refine wpAny_mono (hb _ g₁ s₁ body is I) (fun fl s2 p=>p.elim (fun ρ σ₂ g2 e q l I2=>?_) fun u x σ₂ g2 e q l H w rx=>?_) fun _ _ h=>h.elim
  ·obtain ⟨q1,rfl⟩:=q
   subst e
   exact done l I2.has I2.loc.ow (q1▸rfl)
  ·obtain ⟨q1,rfl⟩:=q
   subst e
   exact done l H w (q1▸rx)
theorem FA.of (hP:Pg f=some fn) (hl:xs.length=fn.np) (hb:SSs n fn.body (AV fn xs) σ (RetIs v σ')) (hn:1<=n):FA (n+1) f xs σ v σ':=fun r g s a Xs hf A R=>FA.run hP hl hb hn hf A.ok A.frames A.depth A.units (A.hh.less (Nat.le_succ _)) A.frs A.has R
end
end Mine
namespace Mine
open PySem PySem.Calls
noncomputable def low (m:Nat):V->Prop
 | .ref k=>k < m
 | .tup ws=>∀ k,.inr k∈ws->k < m
 | .obj ks=>∀ k,k∈ks->k < m
 | .pr x y=>low m x/\low m y
 | _=>True
noncomputable def lowO (m:Nat):O->Prop
 | .list vs=>∀ v,v∈vs->low m v
 | .dictS kvs=>∀ p,p∈kvs->low m p.2
 | _=>True
noncomputable def G.seal (g:G) (m:Nat) (h:Heap):G:=⟨fun a=>if a∈g.mu.drop m then h.get? a else g.fz a,g.hid,g.mu.take m⟩
def SnR (σ:Aa) (m k:Nat) (d:PyData):Prop:=∃ ds,d=.list ds/\m<=k/\σ[k]? = some (.list (ds.map .d))
noncomputable def SnW (σ:Aa) (m:Nat):PyData ⊕ Nat->PyData->Prop
 | .inl x,d=>d=x
 | .inr k,d=>SnR σ m k d
noncomputable def Sn (σ:Aa) (m:Nat):V->PyData->Prop
 | .d x,d=>d=x
 | .ref k,d=>SnR σ m k d
 | .tup ws,d=>∃ ds,d=.tuple ds/\Aq (SnW σ m) ws ds
 | _,_=>False
section
variable {T:Top} {g g':G} {σ τ σ':Aa} {s s':Shared} {v:V} {X:Value} {m n f:Nat} {h:Heap} {d:PyData} {xs:List V} {r:Ar}
theorem Aq.mem {α β:Type} {R:α->β->Prop} {as:List α} {bs:List β} {a:α} (h:Aq R as bs) (ha:a∈as):∃ b,R a b:=by
 obtain ⟨k,hk⟩:=List.mem_iff_getElem?.mp ha
 obtain ⟨b,_,r⟩:=h.get hk
 exact ⟨b,r⟩
theorem mu_lt {k:Nat} {a:Addr} (e:g.mu[k]? = some a):k < g.mu.length:=(List.getElem?_eq_some_iff.mp e).1
theorem rep_low:∀ {v:V} {X:Value},An T g v X->low g.mu.length v:=by
 intro v
 induction v with
 | ref k=>intro X rx; obtain ⟨a,e,_⟩:=rx; exact mu_lt e
 | tup ws=>intro X rx; exact rx (fun _=>_) fun a o vs n h1 h2 h3 h4 h5 k hk=>by obtain ⟨b,a,e,_⟩:=h4.mem hk; exact mu_lt e
 | obj ks=>intro X rx; exact rx (fun _=>_) fun a d o mA _ _ _ _ _ _ _ h k hk=>by obtain ⟨b,a,e,_⟩:=h.mem hk; exact mu_lt e
 | pr x y ix iy=>intro X rx; exact rx (fun _=>_) fun a o vs n _ _ _ h4 _=>by obtain ⟨a',b',_,r1,r2⟩:=h4; exact ⟨ix r1,iy r2⟩
 | _=>intro X rx; trivial
theorem rep_lowO {o:O} {x:Obj} (rx:Dp T g o x):lowO g.mu.length o:=by
 cases o with
 | list vs=>exact rx (fun _=>_) fun xs m hr _ v hv=>by obtain ⟨b,e⟩:=hr.mem hv; exact rep_low e
 | dictS kvs=>exact rx _ fun _ _ _ _ _ _ _ _ hr _ p hp=>by obtain ⟨b,e⟩:=hr.mem hp; exact rep_low e.2
 | dictP _=>trivial
theorem CG (H:Has T g σ s):FzLe g.fz (g.seal m h).fz:=fun a o e=>(if_neg fun (q:a∈g.mu.drop m)=>Am (H.ap a (List.mem_of_mem_drop q)) e).trans e
theorem seal_mu {k:Nat} {a:Addr} (hk:k < m) (e:g.mu[k]? = some a):(g.seal m h).mu[k]? = some a:=(List.getElem?_take_of_lt hk).trans e
theorem Aq.imp {α β:Type} {R S:α->β->Prop}:∀ {as:List α} {bs:List β},(∀ a b,a∈as->R a b->S a b)->Aq R as bs->Aq S as bs
 | [],[],_,_=>trivial
 | _::_,_::_,h,x=>⟨h _ _ (.head _) x.1,Aq.imp (fun a b ha=>h a b (.tail _ ha)) x.2⟩
 | [],_::_,_,x=>x.elim
 | _::_,[],_,x=>x.elim
structure G.upTo (m:Nat) (g g':G):Prop where
 fz:FzLe g.fz g'.fz
 mu:∀ (k:Nat) (a:Addr),k < m->g.mu[k]? = some a->g'.mu[k]? = some a
theorem rep_to (up:G.upTo m g g') (hl:low m v) (rx:An T g v X):An T g' v X:=by
 induction v generalizing X with
 | d y=>exact Au.mono up.fz _ _ rx
 | ref k=>obtain ⟨a,e,q⟩:=rx; exact ⟨a,up.mu k a hl e,q⟩
 | tup ws=>exact BO.mono up.fz (fun vs=>Aq.imp fun w v hw r=>by
  cases w with
  | inl y=>exact Au.mono up.fz _ _ r
  | inr k=>obtain ⟨a,e,q⟩:=r; exact ⟨a,up.mu k a (hl k hw) e,q⟩) rx
 | ty t=>exact rx
 | obj ks=>exact fun R_ k=>rx R_ fun a d o mA h1 h2 h3 h4 h5 h6 h7 h8=>k a d o mA (up.fz _ _ h1) h2 h3 h4 h5 (h6.to up.fz) h7 (Aq.imp (fun k _ hk=>fun ⟨a,e,q⟩=>⟨a,up.mu k a (hl k hk) e,q⟩) h8)
 | pr x y ix iy=>exact BO.mono up.fz (fun vs=>fun ⟨a,b,e,h1,h2⟩=>⟨a,b,e,ix hl.1 h1,iy hl.2 h2⟩) rx
 | exc k=>exact fun R_ kk=>rx R_ fun e D o vs h1 h2 h3 h4 h5=>kk e D o vs (up.fz _ _ h1) h2 h3 h4 h5
 | ecl k=>exact rx
theorem rep_toO {o:O} {x:Obj} (up:G.upTo m g g') (hl:lowO m o) (rx:Dp T g o x):Dp T g' o x:=by
 cases o with
 | list vs=>exact fun R_ k=>rx R_ fun xs m hr hz=>k xs m (Aq.imp (fun v x hv r=>rep_to up (hl v hv) r) hr) hz
 | dictS kvs=>exact fun R_ k=>rx R_ fun es ep ws ho hd hk hp hn hr hz=>k es ep ws ho hd hk hp hn (Aq.imp (fun d v hd r=>⟨r.1,rep_to up (hl d hd) r.2⟩) hr) hz
 | dictP kvs=>exact fun R_ k=>rx R_ fun es ep ws ho hd he hn hr hl=>k es ep ws ho hd he hn (Aq.mono (fun d v r=>⟨r.1,Au.mono up.fz _ _ r.2.1,Au.mono up.fz _ _ r.2.2⟩) hr) hl
theorem seal_up (H:Has T g σ s):G.upTo m g (g.seal m h):=⟨CG H,fun _ _ hk e=>seal_mu hk e⟩
theorem rep_sealO {o:O} {x:Obj} (H:Has T g σ s) (hl:lowO m o) (rx:Dp T g o x):Dp T (g.seal m h) o x:=rep_toO (seal_up H) hl rx
theorem E2 {a:Addr} (hn:g.mu.Nodup) (h1:a∈g.mu.take m) (h2:a∈g.mu.drop m):False:=by
 have h:=List.nodup_append.mp ((List.take_append_drop m g.mu).symm▸hn)
 exact h.2.2 a h1 a h2 rfl
theorem Has.seal (H:Has T g (σ++τ) s) (hl:∀ (k:Nat) o,σ[k]? = some o->lowO σ.length o):Has T (g.seal σ.length s.heap) σ s:=by
 have out:∀ {a},a∉g.mu->(g.seal σ.length s.heap).fz a=g.fz a:=fun h=>if_neg fun q=>h (List.mem_of_mem_drop q)
 refine ⟨fun a o e=>?_,H.hd,?_,List.Nodup.sublist (List.take_sublist _ _) H.nd,fun a ha=>(if_neg fun q=>E2 H.nd ha q).trans (H.ap a (List.mem_of_mem_take ha)),fun a o e=>⟨(out (H.ah a o e).2).trans (H.ah a o e).1,fun q=>(H.ah a o e).2 (List.mem_of_mem_take q)⟩,fun k a o e1 e2 R_ kk=>?_,fun a o e=>CG H a o (H.base a o e),fun t q ht R_ kk=>H.tb t q ht R_ fun ps h1 h2 h3 h4 h5 h6=>kk ps ((out h3).trans h1) h2 (fun q=>h3 (List.mem_of_mem_take q)) h4 h5 fun pos cv e=>?_,H.gens,H.os⟩
 ·have e:(if a∈g.mu.drop σ.length then s.heap.get? a else g.fz a)=some o:=e
  by_cases q:a∈g.mu.drop σ.length
  ·rw [if_pos q] at e; exact e
  ·rw [if_neg q] at e; exact H.fz a o e
 ·show (g.mu.take σ.length).length=_
  rw [List.length_take,H.len,List.length_append]; exact Nat.min_eq_left (Nat.le_add_right _ _)
 ·have hk:k < σ.length:=(List.getElem?_eq_some_iff.mp e2).1
  have e1:(g.mu.take σ.length)[k]? = some a:=e1
  rw [List.getElem?_take_of_lt hk] at e1
  exact H.ob k a o e1 ((List.getElem?_append_left hk).trans e2) R_ fun x h1 h2=>kk x h1 (rep_sealO H (hl k o e2) h2)
 ·obtain ⟨c,o,vs,u,q1,q2,q3⟩:=h6 pos cv e
  exact ⟨c,o,vs,u,q1,CG H _ _ q2,q3⟩
theorem snR_rep {k:Nat} (H:Has T g σ s) (h:SnR σ m k d) (rx:∃ a,g.mu[k]? = some a/\X=.ref a):Au (g.seal m s.heap).fz d X:=by
 obtain ⟨a,e,rfl⟩:=rx
 obtain ⟨ds,rfl,hm,hs⟩:=h
 have ha:a∈g.mu.drop m:=List.mem_of_getElem? (i:=k-m) (by rw [List.getElem?_drop,Nat.add_sub_cancel' hm]; exact e)
 exact H.lst e hs fun xs n ho hr hn hz=>fun R_ kk=>kk a _ xs n ((if_pos ha).trans ho) rfl rfl (RepDs.mono (CG H) _ _ (Aj.toD hr)) (by rw [<-List.length_map (f:=V.d)]; exact hz)
theorem sn_rep (H:Has T g σ s) (h:Sn σ m v d) (rx:An T g v X):Au (g.seal m s.heap).fz d X:=by
 cases v with
 | d y=>obtain rfl:d=y:=h; exact Au.mono (CG H) _ _ rx
 | ref k=>exact snR_rep H h rx
 | tup ws =>
  obtain ⟨ds,rfl,h⟩:=h
  have key:∀ {ws:List (PyData ⊕ Nat)} {ds:List PyData} {vs:List Value},Aq (F2 g) ws vs->Aq (SnW σ m) ws ds->Aq (Au (g.seal m s.heap).fz) ds vs:=by
   intro ws
   induction ws with
   | nil=>intro ds vs h1 h2; rw [h1.nil,h2.nil]; exact trivial
   | cons w ws ih =>
    intro ds vs h1 h2
    obtain ⟨v,vs,rfl,r1,r2⟩:=h1.cons
    obtain ⟨d,ds,rfl,q1,q2⟩:=h2.cons
    refine ⟨?_,ih r2 q2⟩
    cases w with
    | inl y=>obtain rfl:d=y:=q1; exact Au.mono (CG H) _ _ r1
    | inr k=>exact snR_rep H q1 r1
  exact rx _ fun a o vs n h1 h2 h3 h4 h5 R_ kk=>kk a o vs n (CG H _ _ h1) h2 h3 (.of (key h4 h)) (by rw [(key h4 h).length,<-h4.length]; exact h5)
 | ty _=>exact h.elim
 | obj _=>exact h.elim
 | pr _ _=>exact h.elim
 | exc _=>exact h.elim
 | ecl _=>exact h.elim
theorem FA.seal' (hf:FA n f xs σ v (σ'++τ)) (hl:σ'.length=σ.length) (hw:∀ (k:Nat) o,σ'[k]? = some o->lowO σ'.length o) (hd:Sn (σ'++τ) σ'.length v d):FA n f xs σ (.d d) σ':=fun r g s a Xs h A R=>wpAny_mono (hf r g s a Xs h A R) (fun X s' p=>p _ fun g' le H rX =>
 .mk (g'.seal σ'.length s'.heap) ⟨⟨fun a o e=>CG H a o (le.fz a o e),fun k a e=>seal_mu (hl▸A.has.len▸mu_lt e) (le.mu k a e)⟩,le.hid⟩ (H.seal hw) (sn_rep H hd rX)) fun _ _ h=>h
theorem has_low (H:Has T g σ s) (k:Nat) (o:O) (e:σ[k]? = some o):lowO σ.length o:=H.len▸H.ob k (g.mu[k]'(H.len▸(List.getElem?_eq_some_iff.mp e).1)) o (List.getElem?_eq_getElem _) e _ fun x _ hx=>rep_lowO hx
theorem FA.seal (hf:FA n f xs σ v (σ++τ)) (hd:Sn (σ++τ) σ.length v d):FA n f xs σ (.d d) σ:=fun r g s a Xs h A R=>FA.seal' hf rfl (has_low A.has) hd r g s a Xs h A R
end
end Mine
namespace Mine
open PySem PySem.Calls
end Mine
namespace Mine
open PySem PySem.Calls
noncomputable def Dq (z:Int) (is:List Int):Int:=match is with | []=>z | b::r=>r.foldl (fun a b=>if a < b then b else a) b
noncomputable def maxTo (b:Int) (is:List Int):Int:=is.foldl (fun a b=>if a < b then b else a) b
theorem maxArgs (a v:Value):argsOk "max" ⟨[a],[(Str.ofString "default",v)]⟩:=by unfold argsOk; kernel_rfl
section
variable {prog:Program} {w:World} {A:Around} {R:Result->Shared->Prop} {l I S:Addr} {xs:Array Value} {is:List Int} {d:Value}
structure FL (l I S:Addr) (xs:Array Value) (i:Nat) (bs:Array Value) (h:Heap):Prop where
 it:h.IsListIter I l i
 ls:h.IsList l xs
 bo:∃ c,h.get? S=some { cls:=.type "list",dict:=none,data:=.seq bs c,slots:=#[] }
theorem FL.turned {i:Nat} {bs:Array Value} {h h':Heap} (x:FL l I S xs i bs h) (hlI:l≠I) (hSI:S≠I) (it:h'.IsListIter I l (i+1)) (hs:Heap.SameBut I h h'):FL l I S xs (i+1) bs h':=by
 obtain ⟨o,ho,r⟩:=x.ls
 obtain ⟨c,hc⟩:=x.bo
 exact ⟨it,⟨o,(hs.2 l hlI).trans ho,r⟩,c,(hs.2 S hSI).trans hc⟩
theorem FL.put {i:Nat} {bs bs':Array Value} {h:Heap} (x:FL l I S xs i bs h) (hlS:l≠S) (hSI:S≠I):FL l I S xs i bs' (h.update S (Obj.mapSeq fun _=>bs')):=by
 obtain ⟨o,ho,r⟩:=x.ls
 obtain ⟨c,hc⟩:=x.bo
 refine ⟨x.it.at fun o e=>(Heap.get?_update_other _ _ hSI).trans e,⟨o,(Heap.get?_update_other _ _ (Ne.symm hlS)).trans ho,r⟩,_,Heap.get?_update_self _ hc rfl⟩
theorem max_rest (hh:A.handled=none) (hlI:l≠I) (hSI:S≠I) (hlS:l≠S):∀ (k i:Nat) (s:Shared) (b:Int) (t:Tok),xs.size-i=k->FL l I S xs i #[.int b t,.int b t] s.heap->(∀ (j:Nat) (x:Value),xs[j]? = some x->∃ t,x=Value.int (is.getD j 0) t)->xs.size=is.length ->
 (∀ h' tk t',(∀ a o,a≠I->a≠S->s.heap.get? a=some o->h'.get? a=some o)->R (.ok (.ret (.int (maxTo b (is.drop i)) t'))) { s with heap:=h',toks:=tk }) ->
 codeAny (model prog w) A (.builtin "max.loop" ⟨[.ref I,.none,.ref S],[(Str.ofString "default",d)]⟩) R s:=by
 have hname:(toString "max" ++ toString ".loop" : String) = "max.loop" := by decide
 intro k
 induction k with
 | zero =>
  intro i s b t hk x hx hl hR
  obtain ⟨c,hc⟩:=x.bo
  refine codeAny_builtin F.entry_max_loop ?_
  rw [Around.under_plainId F.plain_max_loop _]
  show wpAny _ A.in1 (seqItems? (.ref S)>>=_) _ _ s
  refine wpAny_bind (wpAny_seqItems hc rfl ?_)
  show wpAny _ A.in1 (tryCatch (pyNext (.ref I)) _>>=_) _ _ s
  refine wpAny_bind (wpAny_tryCatch (wpAny_pyNext_list_end (A:=A.in1) hh x.it x.ls (by rw [Array.getElem?_eq_none_iff]; omega) fun h' hx'=>?_))
  show wpAny _ A.in1 (updateSeq S (fun _=>#[])>>=_) _ _ _
  refine wpAny_bind ?_
  refine wpAny_updateSeq (hx' S _ hSI hc) rfl (wpAny_bind (wpAny_letGo (wpAny_pure ?_)))
  have e:is.drop i=[]:=List.drop_eq_nil_of_le (by omega)
  rw [e] at hR
  exact hR _ _ t fun a o h1 h2 ho=>(Heap.get?_update_other _ _ (Ne.symm h2)).trans (hx' a o h1 ho)
 | succ k ih =>
  intro i s b t hk x hx hl hR
  have hi:i < xs.size:=by omega
  obtain ⟨u,hu⟩:=hx i xs[i] (Array.getElem?_eq_getElem hi)
  obtain ⟨c,hc⟩:=x.bo
  have ed:is.drop i=is.getD i 0::is.drop (i+1):=by
   rw [List.drop_eq_getElem_cons (by omega)]
   simp [List.getElem?_eq_getElem (show i < is.length by omega)]
  refine codeAny_builtin F.entry_max_loop ?_
  rw [Around.under_plainId F.plain_max_loop _]
  show wpAny _ A.in1 (seqItems? (.ref S)>>=_) _ _ s
  refine wpAny_bind (wpAny_seqItems hc rfl ?_)
  show wpAny _ A.in1 (tryCatch (pyNext (.ref I)) _>>=_) _ _ s
  refine wpAny_bind (wpAny_tryCatch (wpAny_pyNext_list_item (A:=A.in1) x.it x.ls (Array.getElem?_eq_getElem hi) fun h' it' hs=>?_))
  have x':=x.turned hlI hSI it' hs
  obtain ⟨c',hc'⟩:=x'.bo
  rw [hu]
  show wpAny _ A.in1 (tryCatch (holding [.int (is.getD i 0) u,.int (is.getD i 0) u] (richCompare .Gt (.int (is.getD i 0) u) (.int b t)>>=_)) _>>=_) _ _ _
  refine wpAny_bind (wpAny_tryCatch (wpAny_holding (wpAny_bind (P.gt_int ?_))))
  refine wpAny_bind (wpAny_holding (wpAny_truthy_bool ?_))
  refine wpAny_bind (wpAny_letGo (wpAny_pure ?_))
  by_cases hb:is.getD i 0 > b
  ·rw [decide_eq_true hb]
   dsimp only; rw [if_pos rfl]
   refine wpAny_bind ?_
   refine wpAny_updateSeq hc' rfl (wpAny_bind (wpAny_letGo ?_))
   rw [hname]
   refine wpAny_pure ⟨plainId_quiet F.plain_max_loop _,ih (i+1) _ (is.getD i 0) u (by omega) (x'.put hlS hSI) hx hl fun h'' tk t' hk'=>?_⟩
   have e2:maxTo b (is.drop i)=maxTo (is.getD i 0) (is.drop (i+1)):=by
    rw [ed]; show (is.drop (i+1)).foldl _ (if b < is.getD i 0 then is.getD i 0 else b)=_; rw [if_pos hb]; rfl
   rw [<-e2]
   exact hR h'' tk t' fun a o h1 h2 ho=>hk' a o h1 h2 ((Heap.get?_update_other _ _ (Ne.symm h2)).trans ((hs.2 a h1).trans ho))
  ·rw [decide_eq_false hb]
   dsimp only; rw [if_neg Bool.false_ne_true]
   refine wpAny_bind (wpAny_letGo ?_)
   rw [hname]
   refine wpAny_pure ⟨plainId_quiet F.plain_max_loop _,ih (i+1) _ b t (by omega) x' hx hl fun h'' tk t' hk'=>?_⟩
   have e2:maxTo b (is.drop i)=maxTo b (is.drop (i+1)):=by
    rw [ed]; show (is.drop (i+1)).foldl _ (if b < is.getD i 0 then is.getD i 0 else b)=_; rw [if_neg (by omega)]; rfl
   rw [<-e2]
   exact hR h'' tk t' fun a o h1 h2 ho=>hk' a o h1 h2 ((hs.2 a h1).trans ho)
theorem max_first {z:Int} {tz:Tok} (hh:A.handled=none) (hlI:l≠I) (hSI:S≠I) (hlS:l≠S) {s:Shared} (x:FL l I S xs 0 #[] s.heap) (hx:∀ (j:Nat) (x:Value),xs[j]? = some x->∃ t,x=Value.int (is.getD j 0) t) (hl:xs.size=is.length)
 (hR:∀ h' tk t',(∀ a o,a≠I->a≠S->s.heap.get? a=some o->h'.get? a=some o)->R (.ok (.ret (.int (Dq z is) t'))) { s with heap:=h',toks:=tk }) :
 codeAny (model prog w) A (.builtin "max.loop" ⟨[.ref I,.none,.ref S],[(Str.ofString "default",.int z tz)]⟩) R s:=by
 have hname:(toString "max" ++ toString ".loop" : String) = "max.loop" := by decide
 obtain ⟨c,hc⟩:=x.bo
 refine codeAny_builtin F.entry_max_loop ?_
 rw [Around.under_plainId F.plain_max_loop _]
 show wpAny _ A.in1 (seqItems? (.ref S)>>=_) _ _ s
 refine wpAny_bind (wpAny_seqItems hc rfl ?_)
 show wpAny _ A.in1 (tryCatch (pyNext (.ref I)) _>>=_) _ _ s
 cases is with
 | nil =>
  refine wpAny_bind (wpAny_tryCatch (wpAny_pyNext_list_end (A:=A.in1) hh x.it x.ls (by rw [Array.getElem?_eq_none_iff,hl]; exact Nat.le_refl _) fun h' hx'=>?_))
  refine wpAny_bind (wpAny_rule (wpAny_pure ?_))
  exact hR _ _ tz fun a o h1 _ ho=>hx' a o h1 ho
 | cons b is =>
  have hi:0 < xs.size:=by rw [hl]; exact Nat.succ_pos _
  obtain ⟨u,hu⟩:=hx 0 xs[0] (Array.getElem?_eq_getElem hi)
  refine wpAny_bind (wpAny_tryCatch (wpAny_pyNext_list_item (A:=A.in1) x.it x.ls (Array.getElem?_eq_getElem hi) fun h' it' hs=>?_))
  have x':=x.turned hlI hSI it' hs
  obtain ⟨c',hc'⟩:=x'.bo
  rw [hu]
  show wpAny _ A.in1 (updateSeq S (fun _=>#[.int b u,.int b u])>>=_) _ _ _
  refine wpAny_bind ?_
  refine wpAny_updateSeq hc' rfl ?_
  rw [hname]
  refine wpAny_pure ⟨plainId_quiet F.plain_max_loop _,max_rest (is:=b::is) hh hlI hSI hlS _ 1 _ b u rfl (x'.put hlS hSI) hx hl fun h'' tk t' hk'=>?_⟩
  exact hR h'' tk t' fun a o h1 h2 ho=>hk' a o h1 h2 ((Heap.get?_update_other _ _ (Ne.symm h2)).trans ((hs.2 a h1).trans ho))
end
section
variable {n:Nat} {T:Top} {r:Ar} {c:Cx} {ρ:Af} {g g' g₁:G} {σ σ' σ₁ σ₂:Aa} {s s':Shared} {e a b:E} {x y v:V} {X:Value} {k:Int} {is:List Int}
theorem p_inT {u w:Str}:Pr2 (compareOp .In) (.d (.str u)) (.d (.str w)) σ (vb (Txt.contains w u)) σ/\Pr2 (compareOp .NotIn) (.d (.str u)) (.d (.str w)) σ (vb !(Txt.contains w u)) σ :=
 ⟨Ef fun r g s X Y A hx hy Q q=>by
  obtain ⟨t,rfl,_⟩:=hx
  obtain ⟨t',rfl,_⟩:=hy
  exact SB.contains q,
  Ef fun r g s X Y A hx hy Q q=>by
   obtain ⟨t,rfl,_⟩:=hx
   obtain ⟨t',rfl,_⟩:=hy
   exact SB.notContains q⟩
theorem vis_rep:∀ {is:List Int} {xs:List Value},Aj T g (is.map vi) xs->xs.length=is.length/\∀ (j:Nat) (x:Value),xs[j]? = some x->∃ t,x=Value.int (is.getD j 0) t
 | [],xs,h=>by rw [h.nil]; exact ⟨rfl,fun j x h=>Ab h⟩
 | i::is,xs,h=>by
  obtain ⟨x,xs,rfl,⟨t,h1⟩,h2⟩:=h.cons
  have ih:=vis_rep (is:=is) h2
  refine ⟨congrArg (· + 1) ih.1,fun j y hy=>?_⟩
  cases j with
  | zero=>exact ⟨t,(Option.some.inj hy).symm.trans h1⟩
  | succ j=>exact ih.2 j y hy
theorem max_wp {Z:Value} (A:At 3 r g σ s) (h:Ag σ x=some (is.map vi)) (hx:An r.T g x X) (hz:An r.T g (vi k) Z):r.wp (call (.builtin "max") [X] [(Str.ofString "default",Z)]) (Ans r g (vi (Dq k is)) σ) s:=by
 obtain ⟨tz,rfl⟩:=hz
 refine A3 A.has hx h (R_:=fun X=>r.wp (call (.builtin "max") [X] [(Str.ofString "default",.int k tz)]) (Ans r g (vi (Dq k is)) σ) s) fun a ys hL hr hn _=>?_
 obtain ⟨h1,h2⟩:=vis_rep hr
 refine PyProof.Rows.kmk_tree F.kind_max F.plain_max F.entry_max (maxArgs _ _) ?_
 show wpAny _ r.A.in1 (Builtin.Builtins.bindParams "max" ["key","default"] 0 ⟨[],[(Str.ofString "default",.int k tz)]⟩>>=_) _ _ s
 refine wpAny_bind (wpAny_of_eq (show Builtin.Builtins.bindParams "max" ["key","default"] 0 ⟨[],[(Str.ofString "default",.int k tz)]⟩=pure [none,some (.int k tz)] from rfl) ?_)
 refine wpAny_bind (wpAny_pure (wpAny_bind (wpAny_pyIter_list hL (wpAny_bind (wpAny_newObj_type ?_)))))
 obtain ⟨o,ho,hc,m,hd⟩:=id hL
 have hlt:=Heap.lt_size ho
 have hname:(toString "max" ++ toString ".loop" : String) = "max.loop" := by decide
 rw [hname]
 have e3:(s.heap.push { cls:=.type "list_iterator",data:=.fields #[.ref a,.int 0 0] }).objs.size=s.heap.objs.size+1:=Heap.size_push ..
 have eS:(s.heap.push { cls:=.type "list_iterator",data:=.fields #[.ref a,.int 0 0] }).objs.size≠s.heap.objs.size:=by rw [e3]; exact Nat.succ_ne_self _
 have eL:a≠(s.heap.push { cls:=.type "list_iterator",data:=.fields #[.ref a,.int 0 0] }).objs.size:=by rw [e3]; exact Nat.ne_of_lt (Nat.lt_succ_of_lt hlt)
 refine wpAny_pure ⟨plainId_quiet F.plain_max_loop _,max_first (A:=r.A) (l:=a) (I:=s.heap.objs.size) (S:=(s.heap.push { cls:=.type "list_iterator",data:=.fields #[.ref a,.int 0 0] }).objs.size) (xs:=ys) (is:=is) (z:=k) (tz:=tz) (A.hh.none (Nat.le_refl _)) (Nat.ne_of_lt hlt) eS eL ?_ (fun j x hj=>h2 j x (by rw [Array.getElem?_toList]; exact hj)) h1 fun h' tk t' hk=>?_⟩
 ·exact ⟨⟨_,Heap.get?_push_of_some _ (Heap.get?_push_size _ rfl),rfl,rfl⟩,⟨o,Heap.get?_push_of_some _ (Heap.get?_push_of_some _ ho),hc,m,hd⟩,0,Heap.get?_push_size _ rfl⟩
 ·exact .refl (A.has.keep (s':={ s with heap:=h',toks:=tk }) fun b o e=>hk b o (fun q=>by rw [q,AW] at e; exact Ab e) (fun q=>by rw [q,e3,Heap.get?_none_of_le (Nat.le_succ _)] at e; exact Ab e) (Heap.get?_push_of_some _ (Heap.get?_push_of_some _ e))) ⟨t',rfl⟩
theorem SE.maxd (hn:3<=n) (ha:SE n a ρ σ x σ₁) (hz:SE n b ρ σ₁ (vi k) σ₂) (h:Ag σ₂ x=some (is.map vi)):SE n (.maxd a b) ρ σ (vi (Dq k is)) σ₂:=fun c g s ex hc I=>hc (fun ex=>c.wp (eval ex c.env) (Ans c.toAr g (vi (Dq k is)) σ₂) s) fun nm np z y kp p h1 h2 h3=>by
 refine wpAny_bind (Bp I h1 fun f hf=>?_)
 obtain rfl:f=.builtin "max" := hf
 have st:=(Bj a h2).star c.env []
 refine PyProof.Rows.callWith_kw (e:=z) (rest:=[]) ?_ (by rw [st]; rfl) (by rw [st]; rfl)
 rw [st]
 refine spliced_cons (wpAny_mono (ha c g s z h2 I) (fun X s₁ p1=>p1 _ fun g₁ le1 a₁ r1=>spliced_nil ?_) fun _ _ h=>h)
 have I1:=I.step le1 a₁
 refine PyProof.Rows.kws_cons (wpAny_mono (hz c g₁ s₁ y h3 I1) (fun Z s2 p2=>p2 _ fun g2 le2 a2 r2=>PyProof.Rows.kws_nil ?_) fun _ _ h=>h)
 exact Bs (r:=c.toAr) (le1.trans le2) (max_wp ((I1.step le2 a2).toAt.less hn) h (An.mono le2.toup _ _ r1) r2)
end
end Mine
namespace Mine
set_option maxRecDepth 100000
open PySem PySem.Calls
section
variable {prog:Program} {w:World} {A:Around} {E:Value->Shared->Prop} {s:Shared} {d S:Addr} {kvs:List (Str×Value)} {ep:Nat}
noncomputable abbrev KeyAt (prog:Program) (w:World) (kvs:List (Str×Value)) (i:Nat) (v:Value):Prop:=∃ k x,kvs[i]? = some (k,x)/\(strKind prog w).is k v=true
theorem extend_dict {R:Result->Shared->Prop} (hh:A.handled=none) (hm:s.heap.DictAt (strKind prog w) d kvs ep) (hd:(d == sysModules)=false) (res:Value) (c0:Nat) (hS:s.heap.get? S=some { cls:=.type "list",data:=.seq #[] c0 }) (hdS:d≠S)
 (hR:∀ h' tk acc' c',(∀ b o,b≠S->s.heap.get? b=some o->h'.get? b=some o)->h'.get? S=some { cls:=.type "list",dict:=none,data:=.seq acc' c',slots:=#[] } ->
  ItemsOf (KeyAt prog w kvs) acc' kvs.length->R (.ok (.ret res)) { s with heap:=h',toks:=tk }) (hn:kvs.length<=sizeLine) :
 wpAny (model prog w) A.in1 (Builtin.List.listExtendWith (.ref S) (.ref d) res)
  (fun fin s'=>match fin with | .done f=>R (.ok f) s' | .again c'=>c'.quiet=true/\codeAny (model prog w) A c' R s') (fun e s'=>R (.error e) s') s:=by
 have hSI:S≠s.heap.objs.size:=Nat.ne_of_lt (Heap.lt_size hS)
 have hT:s.TypeIs (.ref d) "dict" := hm.dictOf.typeIs
 obtain ⟨od,hod,hcd⟩:=id hT
 have hdI:d≠s.heap.objs.size:=Nat.ne_of_lt (Heap.lt_size hod)
 have W:=(Walks.dictKeys (prog:=prog) (w:=w) (A:=A.in1) (knd:=strKind prog w) hh s.heap.objs.size d hdI kvs ep).toS
 have hSf:S∉[s.heap.objs.size,d]:=fun q=>(List.mem_cons.mp q).elim hSI fun q=>hdS (List.mem_singleton.mp q).symm
 unfold Builtin.List.listExtendWith
 refine wpAny_bind (wpAny_typeOf (T := "dict") hT ?_)
 have h1:Builtin.List.listSameRef (.ref S) (.ref d)=false:=by simp [Builtin.List.listSameRef,Ne.symm hdS]
 have h2:(Value.type "dict" == Value.type "list")=false:=by decide
 have h3:(Value.type "dict" == Value.type "tuple")=false:=by decide
 simp only [h1,h2,h3,Bool.or_false,Bool.false_eq_true,↓reduceIte]
 refine wpAny_bind (wpAny_pyIter_dict hd hm ?_)
 refine wpAny_bind (wpAny_holding ?_)
 have hT':({ s with heap:=s.heap.push { cls:=.type "dict_keyiterator",data:=.fields #[.ref d,.int 0 0,.int kvs.length 0,.int ep 0] } }:Shared).TypeIs (.ref d) "dict" := ⟨od,Heap.get?_push_of_some _ hod,hcd⟩
 unfold Builtin.List.listLengthHint
 refine wpAny_bind (wpAny_specialOf (T := "dict") hT' F.slot_dict_len.lookup ?_)
 wp_delta
 refine wpAny_bind (wpAny_isInstance (T := "dict") (b:=true) hT' (by rw [isSubtype_type]; kernel_rfl) ?_)
 show wpAny _ _ (typeOf (Value.ref d)>>=_) _ _ _
 refine wpAny_bind (wpAny_typeOf (T := "dict") hT' (wpAny_pure ?_))
 rw [if_pos (by decide)]
 have hS1:=Heap.get?_push_of_some { cls:=.type "dict_keyiterator",data:=.fields #[.ref d,.int 0 0,.int kvs.length 0,.int ep 0] } hS
 refine wpAny_bind (wpAny_rule (wpAny_bind ?_))
 show wpAny _ _ (updateSeq S (·.push .none)>>=fun _=>updateSeq S (·.pop)) _ _ _
 refine wpAny_bind (wpAny_updateSeq hS1 rfl ?_)
 have hS2:=Heap.get?_update_self (Obj.mapSeq (·.push Value.none)) hS1 rfl
 refine wpAny_updateSeq (hz:=by seq_fits) hS2 rfl ?_
 have hS3:=Heap.get?_update_self (Obj.mapSeq (·.pop)) hS2 rfl
 have oth:∀ b o,b≠S->(s.heap.push { cls:=.type "dict_keyiterator",data:=.fields #[.ref d,.int 0 0,.int kvs.length 0,.int ep 0] }).get? b=some o->(((s.heap.push { cls:=.type "dict_keyiterator",data:=.fields #[.ref d,.int 0 0,.int kvs.length 0,.int ep 0] }).update S (Obj.mapSeq (·.push Value.none))).update S (Obj.mapSeq (·.pop))).get? b=some o:=fun b o hb e=>(Heap.get?_update_other _ _ (Ne.symm hb)).trans ((Heap.get?_update_other _ _ (Ne.symm hb)).trans e)
 refine wpAny_pure ⟨plainId_quiet F.plain_extend_loop _,codeAny_extend_loopS W hn _ hSf _ kvs.length 0 _ _ _ rfl (Nat.zero_le _) ?_ hS3 (ItemsOf.nil _) fun s' acc' c' hm hS' hacc=>?_⟩
 ·obtain ⟨o,es,ho,hr⟩:=hm
  exact ⟨⟨_,oth _ _ (Ne.symm hSI) (Heap.get?_push_size _ rfl),rfl,rfl⟩,o,es,oth _ _ hdS (Heap.get?_push_of_some _ ho),hr⟩
 rw [Moved.eq_with hm]
 refine hR s'.heap s'.toks acc' c' (fun b ob hb e=>hm.heap b ob (fun hmem=>?_) (oth b ob hb (Heap.get?_push_of_some _ e))) hS' hacc
 exact (List.mem_cons.mp hmem).elim hb fun hmem=>absurd (Heap.lt_size e) (by rw [List.mem_singleton.mp hmem]; exact Nat.lt_irrefl _)
theorem init_dict {R:Result->Shared->Prop} (hh:A.handled=none) (hm:s.heap.DictAt (strKind prog w) d kvs ep) (hd:(d == sysModules)=false) (hS:s.heap.get? S=some { cls:=.type "list",data:=.seq #[] }) (hdS:d≠S)
 (hR:∀ h' tk acc' c',(∀ b o,b≠S->s.heap.get? b=some o->h'.get? b=some o)->h'.get? S=some { cls:=.type "list",dict:=none,data:=.seq acc' c',slots:=#[] } ->
  ItemsOf (KeyAt prog w kvs) acc' kvs.length->R (.ok (.ret .none)) { s with heap:=h',toks:=tk }) (hn:kvs.length<=sizeLine) :
 wpAny (model prog w) A.in1 (Builtin.«list.__init__» ⟨[.ref S,.ref d],[]⟩)
  (fun fin s'=>match fin with | .done f=>R (.ok f) s' | .again c'=>c'.quiet=true/\codeAny (model prog w) A c' R s') (fun e s'=>R (.error e) s') s:=by
 show wpAny _ _ (do let old <-Builtin.List.listItems (.ref S); Builtin.List.listUpdate (.ref S) (fun _=>#[]); letGo old.toList.reverse; Builtin.List.listExtendWith (.ref S) (.ref d) .none) _ _ s
 refine wpAny_bind ?_
 unfold Builtin.List.listItems
 refine wpAny_bind (wpAny_seqItems hS rfl (wpAny_pure ?_))
 show wpAny _ _ (updateSeq S (fun _=>#[])>>=fun _=>letGo (#[]:Array Value).toList.reverse>>=fun _=>Builtin.List.listExtendWith (.ref S) (.ref d) .none) _ _ s
 refine wpAny_bind (wpAny_updateSeq hS rfl ?_)
 have hS2:=Heap.get?_update_self (Obj.mapSeq (fun _=>(#[]:Array Value))) hS rfl
 have oth:∀ b o,b≠S->s.heap.get? b=some o->(s.heap.update S (Obj.mapSeq (fun _=>(#[]:Array Value)))).get? b=some o :=
  fun b o hb e=>(Heap.get?_update_other _ _ (Ne.symm hb)).trans e
 refine wpAny_bind (wpAny_letGo ?_)
 obtain ⟨o,es,ho,hr⟩:=hm
 exact extend_dict hh ⟨o,es,oth d o hdS ho,hr⟩ hd .none _ hS2 hdS (fun h' tk acc' c' hk hS' hacc=>hR h' tk acc' c' (fun b o hb e=>hk b o hb (oth b o hb e)) hS' hacc) hn
theorem call_list_dict {Q:Value->Shared->Prop} (hh:A.handled=none) (hm:s.heap.DictAt (strKind prog w) d kvs ep) (hd:(d == sysModules)=false) (hn:kvs.length<=sizeLine)
 (hQ:∀ h' tk acc' c',(∀ b o,s.heap.get? b=some o->h'.get? b=some o) ->
  h'.get? s.heap.objs.size=some { cls:=.type "list",dict:=none,data:=.seq acc' c',slots:=#[] } -> ItemsOf (KeyAt prog w kvs) acc' kvs.length->Q (.ref s.heap.objs.size) { s with heap:=h',toks:=tk }) :
 wpAny (model prog w) A (call (.type "list") [.ref d]) Q E s:=by
 refine callType_codes (Q₁:=fun obj s₁=>obj=.ref s.heap.objs.size/\s₁ = { s with heap:=s.heap.push { cls:=.type "list",data:=.seq #[] } }) F.called_list (F.typeCall_list_1 _) F.entry_list_init
  (code_list_new _ ⟨rfl,rfl⟩) fun obj s₁ h₁=>?_
 obtain ⟨rfl,rfl⟩:=h₁
 have hS:(s.heap.push { cls:=.type "list",data:=.seq #[] }).get? s.heap.objs.size=some { cls:=.type "list",data:=.seq #[] }:=Heap.get?_push_size _ rfl
 obtain ⟨o,es,ho,hr⟩:=hm
 refine ⟨⟨_,hS,rfl⟩,F.args_list_init_2 _ _,init_dict (A:=A.in1) hh ⟨o,es,Heap.get?_push_of_some _ ho,hr⟩ hd hS (Nat.ne_of_lt (Heap.lt_size ho)) (fun h' tk acc' c' hk hS' hacc=>?_) hn⟩
 exact ⟨rfl,hQ h' tk acc' c' (fun b o e=>hk b o (Nat.ne_of_lt (Heap.lt_size e)) (Heap.get?_push_of_some _ e)) hS' hacc⟩
end
theorem Aq.ofGet {α β:Type} {R:α->β->Prop}:∀ {as:List α} {bs:List β},as.length=bs.length->(∀ (i:Nat) a b,as[i]? = some a->bs[i]? = some b->R a b)->Aq R as bs
 | [],[],_,_=>trivial
 | a::as,b::bs,h,k=>⟨k 0 a b rfl rfl,Aq.ofGet (Nat.succ.inj h) fun i a b e1 e2=>k (i+1) a b e1 e2⟩
 | [],_::_,h,_=>Cc h.symm rfl
 | _::_,[],h,_=>Cc h rfl
section
variable {σ:Aa} {k:Nat} {kvs:List (Str×V)}
theorem f_listD (h:σ[k]? = some (.dictS kvs)) (hl:∀ p,p∈kvs->p.1.length<=line):PrN1 (fun X=>call (A6 .list) [X]) (.ref k) σ (vss (kvs.map (·.1))) 3:=fun r g s X A hx=>by
 obtain ⟨a,hk,rfl⟩:=hx
 refine A.has.ob k a _ hk h _ fun x hx' rx=>rx _ fun es ep ws ho hd hk' hp hn hr hz=>?_
 have e:ws.length=kvs.length:=hr.length.symm
 refine call_list_dict (d:=a) (kvs:=ws) (A.hh.none (Nat.le_refl _)) ⟨x,es,hx',ho,hd,hk',hp,hn⟩ ((A.less (Nat.zero_le _)).notMods hk) (by rw [<-AH,e]; exact hz) fun h' tk acc c' hkp ha hI=>?_
 refine .made (s':={ s with heap:=h',toks:=tk }) A.has hkp (AW _) ha (Aq.ofGet ?_ fun i v y e1 e2=>?_) ?_
 ·rw [List.length_map,List.length_map,Array.length_toList (xs:=acc),hI.1,e]
 ·obtain ⟨key,z,q1,q2⟩:=hI.2 i y (Array.getElem?_toList.symm.trans e2)
  rw [List.getElem?_map,List.getElem?_map] at e1
  cases e3:kvs[i]? with
  | none=>rw [e3] at e1; exact Ab e1
  | some p =>
   rw [e3] at e1
   obtain ⟨b,e4,e5⟩:=hr.get e3
   have e6:=As q1 e4
   have hp1:p.1=key:=e5.1.trans (congrArg Prod.fst e6).symm
   obtain ⟨t,rfl⟩:=Value.isStrOf_shape q2
   rw [<-Option.some.inj e1]
   exact ⟨t,by show Value.str key t=Value.str p.1 t; rw [hp1],hl p (List.mem_of_getElem? e3)⟩
 ·rw [List.length_map,List.length_map]; exact hz
end
end Mine
namespace Mine
open PySem PySem.Calls
theorem look_zip:∀ {ns:List Str} {vals:List Value},vals.length=ns.length->∀ {n:Str},n∈ns->((ns.zip vals).lookup n).isNone=false
 | [],_,_,_,h=>nomatch h
 | _::_,[],h,_,_=>Cc h.symm rfl
 | a::ns,v::vals,h,n,hn=>by
  rw [List.zip_cons_cons,List.lookup_cons]
  cases e:n == a with
  | true=>rfl
  | false=>exact look_zip (ns:=ns) (Nat.succ.inj h) ((List.mem_cons.mp hn).resolve_left fun q=>by rw [q,beq_self_eq_true] at e; exact tt_ e)
theorem zip_back:∀ {ns:List Str} {vals:List Value},vals.length=ns.length->ns.Nodup->ns.filterMap (fun n=>((ns.zip vals).lookup n).map (n,·))=ns.zip vals
 | [],[],_,_=>rfl
 | [],_::_,h,_=>Cc h rfl
 | _::_,[],h,_=>Cc h.symm rfl
 | a::ns,v::vals,h,hn=>by
  have hn:=List.nodup_cons.mp hn
  have h0:(((a::ns).zip (v::vals)).lookup a).map (a,·)=some (a,v):=by rw [List.zip_cons_cons,List.lookup_cons,beq_self_eq_true]; rfl
  refine (List.filterMap_cons_some (f:=fun n=>(((a::ns).zip (v::vals)).lookup n).map (n,·)) h0).trans ?_
  show (a,v)::_=(a,v)::ns.zip vals
  refine congrArg _ (Eq.trans ?_ (zip_back (ns:=ns) (vals:=vals) (Nat.succ.inj h) hn.2))
  have e:∀ l:List Str,(∀ x,x∈l->x∈ns)->l.filterMap (fun n=>(List.lookup n ((a,v)::ns.zip vals)).map (n,·))=l.filterMap (fun n=>(List.lookup n (ns.zip vals)).map (n,·)):=by
   intro l hl
   induction l with
   | nil=>rfl
   | cons b l ih =>
    have q:List.lookup b ((a,v)::ns.zip vals)=List.lookup b (ns.zip vals):=by
     rw [List.lookup_cons,beq_false_of_ne fun (q:b=a)=>hn.1 (q▸hl b (.head _))]
    rw [List.filterMap_cons,List.filterMap_cons,q,ih fun x hx=>hl x (.tail _ hx)]
  exact e ns fun _ h=>h
theorem bind_plain {fd:FuncData} {as:List Arg} {kd:List (Option Expr)} {df:List Expr} {vals:List Value} (hp:fd.params=⟨[],as,none,[],kd,none,df⟩) (hd:fd.defaults=.none) (hk:fd.kwdefaults=.none) (h:vals.length=as.length) (hn:(as.map (·.arg)).Nodup) :
 bindArgs fd ⟨vals,[]⟩=pure ((as.map (·.arg)).zip vals):=by
 have hl:vals.length=(as.map (·.arg)).length:=by rw [List.length_map]; exact h
 have h1:(List.filter (fun n=>(List.lookup n ((as.map (·.arg)).zip vals)).isNone) (as.map (·.arg)))=[]:=List.filter_eq_nil_iff.mpr fun n hn=>by rw [look_zip hl hn]; exact Bool.false_ne_true
 have h2:=zip_back hl hn
 have h4:decide (vals.length > (as.map (·.arg)).length)=false:=decide_eq_false (by rw [hl]; exact Nat.lt_irrefl _)
 have h5:notAStandIn .none=pure ():=rfl
 cases fd
 dsimp only at hp hd hk
 subst hp hd hk
 unfold bindArgs seqItems?
 dsimp only [List.map_nil,List.nil_append,List.forIn_nil,List.append_nil,Option.isNone_none,List.length_nil,Option.getD_none]
 simp only [↓List.forIn_nil,↓pure_bind,Bool.and_true,h4,h5,Option.getD_none,Bool.false_eq_true,↓reduceIte,List.length_nil,List.drop_nil,List.zip_nil_right,Nat.sub_zero,List.take_length,h1,List.isEmpty_nil,Bool.not_true,h2,List.append_nil,List.map_nil,List.nil_append]
end Mine
namespace Mine
open PySem PySem.Calls
structure DX (K:Kx) (i:Nat) (nm:Str) (sc:Scope):Prop where
 at_:K.isAt i nm=true
 kind:sc.kind=.function
 gen:sc.isGenerator=false
 co:sc.isCoroutine=false
 nms:∀ p,p∈sc.names->lnameOk K nm p=true
 uni:∀ p,p∈sc.names->sc.names.lookup p.1=some p.2
 par:sc.names.lookup nm=some .local
theorem GG {b:Bool} (h:(!b)=true):b=false:=by cases b with | true=>exact ff_ h | false=>rfl
theorem lamOk_ok {K:Kx} {i:Nat} {nm:Str} {sc:Scope} (h:lamOk K i nm sc=true):K.lam.isSome=true/\DX K i nm sc:=by
 have h1:=Bool.and_eq_true_iff.mp h
 have h2:=Bool.and_eq_true_iff.mp h1.2
 have h3:=Bool.and_eq_true_iff.mp h2.2
 have h4:=Bool.and_eq_true_iff.mp h3.2
 have h5:=Bool.and_eq_true_iff.mp h4.2
 have h6:=Bool.and_eq_true_iff.mp h5.2
 have h7:=Bool.and_eq_true_iff.mp h6.2
 exact ⟨h1.1,h2.1,of_decide_eq_true h3.1,GG h4.1,GG h5.1,List.all_eq_true.mp h6.1,fun p hp=>of_decide_eq_true (List.all_eq_true.mp h7.1 p hp),of_decide_eq_true h7.2⟩
section
variable {T:Top} {g g':G} {σ:Aa} {s s':Shared} {t c':Addr} {q:Str} {oc:Obj} {ps:Array Value}
theorem among_snoc {pos:Pos} {a b:Int} {c cv:Value} (l:List Value) (h:TriplesOk l) (e:codeAmong pos (l++[rawInt a,rawInt b,c])=some cv):codeAmong pos l=some cv\/cv=c:=by
 fun_induction TriplesOk l with
 | case1 =>
  have e:(if (a == (pos.line:Int)&&b == (pos.col:Int))=true then some c else codeAmong pos [])=some cv:=e
  split at e
  ·exact .inr (Option.some.inj e).symm
  ·exact Ab e
 | case2 a' t b' u x rest ih =>
  have e:(if (a' == (pos.line:Int)&&b' == (pos.col:Int))=true then some x else codeAmong pos (rest++[rawInt a,rawInt b,c]))=some cv:=e
  show (if (a' == (pos.line:Int)&&b' == (pos.col:Int))=true then some x else codeAmong pos rest)=some cv\/_
  split at e
  ·rename_i q; rw [if_pos q]; exact .inl e
  ·rename_i q; rw [if_neg q]; exact ih h e
 | case3=>exact h.elim
theorem Has.code (H:Has T g σ s) (tf:∀ t q q',(t,q)∈T.tabs->(t,q')∈T.tabs->q=q') (hm:(t,q)∈T.tabs) (hx:Heap.ExtBut t s.heap s'.heap) (hn:s.heap.get? c'=none) (hc:s'.heap.get? c'=some oc) (ht:s'.heap.get? t=some { cls:=.none,data:=.fields ps }) (tri:TriplesOk ps.toList)
 (hcc:∀ pos cv,codeAmong pos ps.toList=some cv->∃ c o vs u,cv=.ref c/\(g.put c' oc).fz c=some o/\o.data=.fields vs/\vs[1]? = some (.str q u)) (hg:s'.gens=s.gens) (hos:s'.os=s.os):Has T (g.put c' oc) σ s':=by
 refine H.tb t q hm _ fun ps0 t1 t2 t3 t4 _ _=>?_
 have F:=H.free hn
 have le:G.le [] g (g.put c' oc):=.put F.fz
 have ne:∀ {b:Addr},b≠c'->(g.put c' oc).fz b=g.fz b:=fun q=>if_neg q
 have tc:t≠c':=fun e=>Am hn (e▸t4)
 refine ⟨fun b x e=>?_,fun b x e=>(H.hd b x e).keep fun y=>hx b y fun e'=>Am t2 (e'▸e),H.len,H.nd,fun b hb=>(ne fun e=>F.mu (e▸hb)).trans (H.ap b hb),fun b x e=>⟨(ne fun e'=>Am F.hid (e'▸e)).trans (H.ah b x e).1,(H.ah b x e).2⟩,fun k b x e1 e2 R_ r=>H.ob k b x e1 e2 R_ fun y h1 h2=>r y (hx b y (fun e=>t3 (e▸List.mem_of_getElem? e1)) h1) (Dp.mono le.toup _ _ h2),fun b x e=>le.fz b x (H.base b x e),fun t' q' m R_ r=>?_,hg.trans H.gens,hos.trans H.os⟩
 ·by_cases e':b=c'
  ·rw [e'] at e ⊢; rw [<-Option.some.inj (G.put_self.symm.trans e)]; exact hc
  ·rw [ne e'] at e; exact hx b x (fun e''=>Am t1 (e''▸e)) (H.fz b x e)
 ·by_cases e':t'=t
  ·subst e'
   rw [tf t' q' q m hm] at r
   exact r ps ((ne tc).trans t1) t2 t3 ht tri hcc
  ·refine H.tb t' q' m R_ fun ps h1 h2 h3 h4 h5 h6=>r ps ((ne fun e=>F.tab q' (e▸m)).trans h1) h2 h3 (hx t' _ e' h4) h5 fun pos cv e=>?_
   obtain ⟨c,o,vs,u,q1,q2,q3⟩:=h6 pos cv e
   exact ⟨c,o,vs,u,q1,le.fz _ _ q2,q3⟩
end
end Mine
namespace Mine
open PySem PySem.Calls
def LamAt (g:G) (env:Env) (q nm:Str) (ap:Pos) (b:Expr) (sc:Scope) (f:Addr):Prop:=∀ R_:Prop,(∀ (pm ctv:Value) (c':Addr) (o fo:Obj) (vs:Array Value) (t:Tok),g.fz f=some fo->fo.data=.func (W.kla_fn "<lambda>" q (DR nm ap) b sc (Dc env sc.names []) pm (.ref c') ctv)->g.fz c'=some o->o.data=.fields vs->vs[1]? = some (.str q t)->R_)->R_
section
variable {n i:Nat} {c:Cx} {ρ:Af} {g g':G} {σ:Aa} {s s':Shared} {t:Addr} {q nm m:Str} {ap lp:Pos} {b:Expr} {sc:Scope} {f:Addr}
theorem LamAt.mono {env:Env} (up:G.up g g') (h:LamAt g env q nm ap b sc f):LamAt g' env q nm ap b sc f:=fun R_ k=>h R_ fun pm ctv c' o fo vs t h1 h2 h3 h4 h5=>k pm ctv c' o fo vs t (up.fz _ _ h1) h2 (up.fz _ _ h3) h4 h5
theorem DX.fre {K:Kx} (L:DX K i nm sc) (h:(m,NameKind.free)∈sc.names):K.names.lookup m=some .cell\/K.names.lookup m=some .free:=by
 rcases Bool.or_eq_true_iff.mp (L.nms _ h) with h | h
 ·exact AY (of_decide_eq_true (Bool.and_eq_true_iff.mp h).1) rfl
 ·rcases Bool.or_eq_true_iff.mp h with h | h
  ·exact (Bool.or_eq_true_iff.mp (Bool.and_eq_true_iff.mp h).2).imp Kx.kd_eq Kx.kd_eq
  ·exact AY (of_decide_eq_true h) rfl
theorem lam_clos (L:DX c.K i nm sc) (I:Inv n c ρ g σ s):closureFor sc c.env=pure (Dc c.env sc.names []) :=
 Ej sc fun m hm=>I.loc.ce m (by rw [A7 I.cx.names]; exact L.fre hm) _ fun a _ e _ _=>⟨a,e⟩
theorem lam_make (L:DX c.K i nm sc) (hl:c.K.lam=some (t,q)) (I:Inv n c ρ g σ s):c.wp (eval (.Lambda (DR nm ap) b sc lp) c.env) (fun X s'=>BI c.T [] g σ (fun g'=>∃ f,X=.ref f/\LamAt g' c.env q nm ap b sc f) s') s:=by
 obtain ⟨_,ht,hq,a,hcode,hd⟩:=I.cx.lamc t q hl
 obtain ⟨mg,mb,hg,hb,_,bm,ob,b1,b2,b3,b4,b5,b6⟩:=I.cx.rd.ns
 refine I.has.tb t q ht _ fun ps t1 t2 t3 hP tri hcc=>?_
 have kp:=fun b o e=>I.has.fz b o (I.has.base b o e)
 have hg':s.heap.Ns mainGlobals mg:=hg.keeps kp
 have hC:W.CodeHd s.heap a t:=hd.keeps kp
 have hgP:mainGlobals≠t:=fun e=>by
  obtain ⟨o,es,ep,e',hd,_⟩:=hg'
  rw [e,hP] at e'; rw [<-Option.some.inj e'] at hd; exact nomatch hd
 have hbP:bm≠t:=fun e=>Am t1 (e▸I.has.base _ _ b3)
 have hbG:bm≠mainGlobals:=fun e=>by
  obtain ⟨o,es,ep,e',hd,_⟩:=hg
  rw [e,e'] at b3; rw [<-Option.some.inj b3,hd] at b6; exact nomatch b6
 have hB:s.heap.BuiltinsAt mg t:=⟨bm,ob,b1,b2,hbG,hbP,kp _ _ b3,b4,b5,b6⟩
 refine W.kla_eval rfl ?_
 rw [hq]
 cases hit:codeAmong lp ps.toList with
 | none =>
  refine W.kla_makeFunction (lam_clos L I) I.cx.glob hg' hcode hC hP tri hit hgP hB fun c' ctv h' tk hx hge hlt hrec htb=>?_
  obtain ⟨c2,oc,vs,u,e2,hoc,hdc,hv⟩:=hrec
  obtain rfl:=Value.ref.inj e2
  have hn:s.heap.get? c'=none:=Heap.get?_none_of_le hge
  have le1:G.le [] g (g.put c' oc):=.put (I.has.free hn).fz
  have H1:=I.has.code (s':={ s with heap:=h',toks:=tk }) I.ok.ok.tf ht hx hn hoc htb (by rw [Array.toList_append]; exact TriplesOk_snoc _ _ _ _ tri) (fun pos cv e=>by
   rw [Array.toList_append] at e
   rcases among_snoc _ tri e with e | e
   ·obtain ⟨c3,o3,vs3,t3,q1,q2,q3⟩:=hcc pos cv e
    exact ⟨c3,o3,vs3,t3,q1,le1.fz _ _ q2,q3⟩
   ·exact ⟨c',oc,vs,u,e,G.put_self,hdc,hv⟩) rfl rfl
  have F:=H1.free (AW _)
  exact .mk _ (le1.trans (.put F.fz)) (F.put (H1.keep fun b o e=>Heap.get?_push_of_some _ e) (Heap.get?_push_size _ rfl)) ⟨_,rfl,fun R_ k=>k _ ctv c' oc _ vs u G.put_self rfl ((G.le.put (own:=[]) F.fz).fz _ _ G.put_self) hdc hv⟩
 | some cv =>
  obtain ⟨c',o3,vs3,u,q1,q2,q3,q4⟩:=hcc lp cv hit
  subst q1
  refine W.kla_makeFunctionHit (lam_clos L I) I.cx.glob hg' hcode hC hP tri hit hB fun ctv h' tk hk hsz=>?_
  have H1:=I.has.keep (s':={ s with heap:=h',toks:=tk }) hk
  have F:=H1.free (AW _)
  exact .mk _ (.put F.fz) (F.put (H1.keep fun b o e=>Heap.get?_push_of_some _ e) (Heap.get?_push_size _ rfl)) ⟨_,rfl,fun R_ k=>k _ ctv c' o3 _ vs3 u G.put_self rfl ((G.le.put (own:=[]) F.fz).fz _ _ q2) q3 q4⟩
end
end Mine
namespace Mine
open PySem PySem.Calls
noncomputable abbrev lamC (c:Cx) (nm q:Str) (sc:Scope) (C f:Addr) (cd:Value):Cx:=⟨⟨c.T,W.envX q sc C f cd (Dc c.env sc.names [])::c.fe,c.A.in1.in1.deeper (W.envX q sc C f cd (Dc c.env sc.names []))⟩,c.K.lsub nm sc,W.envX q sc C f cd (Dc c.env sc.names []),[C]⟩
section
variable {n i:Nat} {c:Cx} {ρ:Af} {g g':G} {σ σ':Aa} {s s':Shared} {t:Addr} {q nm m:Str} {ap lp:Pos} {b:Expr} {sc:Scope} {f C:Addr} {cd X:Value} {v w:V} {key:E} {o:Obj}
theorem DX.noc {K:Kx} (L:DX K i nm sc):∀ p,p∈sc.names->p.2≠.cell:=fun p hp e=>by
 rcases Bool.or_eq_true_iff.mp (L.nms _ hp) with h | h
 ·exact AY (e.symm.trans (of_decide_eq_true (Bool.and_eq_true_iff.mp h).1)) rfl
 ·rcases Bool.or_eq_true_iff.mp h with h | h
  ·exact AY (e.symm.trans (of_decide_eq_true (Bool.and_eq_true_iff.mp h).1)) rfl
  ·exact AY (e.symm.trans (of_decide_eq_true h)) rfl
theorem DX.loc {K:Kx} (L:DX K i nm sc) (h:(m,NameKind.local)∈sc.names):m=nm:=by
 rcases Bool.or_eq_true_iff.mp (L.nms _ h) with h | h
 ·exact eq_of_beq (Bool.and_eq_true_iff.mp h).2
 ·rcases Bool.or_eq_true_iff.mp h with h | h
  ·exact AY (of_decide_eq_true (Bool.and_eq_true_iff.mp h).1) rfl
  ·exact AY (of_decide_eq_true h) rfl
theorem DX.at {K:Kx} (L:DX K i nm sc):K.vars[i]? = some nm:=by
 have h:(match K.vars[i]? with | some m=>m == nm | none=>false)=true:=L.at_
 cases e:K.vars[i]? with
 | none=>rw [e] at h; exact ff_ h
 | some m=>rw [e] at h; rw [eq_of_beq h]
theorem lam_look (L:DX c.K i nm sc) (I:Inv n c ρ g σ s) {a:Addr} (h:(Dc c.env sc.names []).lookup m=some a):c.env.cells.lookup m=some a:=by
 rcases EW (AF h) with e | e
 ·exact nomatch e
 ·exact I.loc.ce m (by rw [A7 I.cx.names]; exact L.fre e.1) _ fun a' _ h1 _ _=>by rw [h1,e.2,h1]; rfl
theorem lam_inv (L:DX c.K i nm sc) (I:Inv (n+1) c ρ g σ s) (r:An c.T g v X) (H:Has c.T (g.hide C o) σ s') (hC:g.hid C=none) (ho:o.cls=frC) (hn:NsF (g.hide C o).hid C fun y=>[(nm,X)].reverse.lookup y):Inv n (lamC c nm q sc C f cd) (ρ.set i (some v)) (g.hide C o) σ s':=by
 have up:G.up g (g.hide C o):=⟨fun _ _ e=>e,fun _ _ e=>e⟩
 have tf:TopFr (W.envX q sc C f cd (Dc c.env sc.names [])):=⟨(by show sc.kind≠_; rw [L.kind]; exact fun q=>nomatch q),L.gen,L.co,rfl,rfl⟩
 have frs:By (g.hide C o) (W.envX q sc C f cd (Dc c.env sc.names [])::c.fe):=fun e he=>by
  rcases List.mem_cons.mp he with q | q
  ·obtain ⟨o',es,ep,e1,e2,_⟩:=hn
   rw [q]; exact ⟨tf,C,o',es,ep,rfl,e1,As G.hide_self e1▸ho,e2⟩
  ·exact I.frs.hideN hC e q
 refine ⟨⟨I.ok,?_,⟨_,c.fe,rfl,tf⟩,?_,?_,by exact (I.hh.less (Nat.le_succ _)).mono up,frs,H⟩,⟨I.cx.rd,rfl,L.kind,rfl,rfl,⟨_,c.fe,rfl,rfl⟩,fun m m' a h h'=>I.cx.cinj m m' a (lam_look L I h) (lam_look L I h'),I.cx.nd,.head _,fun m _ a hk _=>absurd rfl (L.noc _ (AF (show sc.names.lookup m=some .cell from hk))),fun t q h=>Ab h⟩,fun R_ k=>k _ hn fun j y u e1 e2 e3=>?_,fun y hk R_ k=>?_,Av (Ay G.hide_self)⟩
 ·show c.A.frames.map _=_
  rw [I.frames]; rfl
 ·show c.A.depth+1+n<=600
  rw [Nat.add_assoc,Nat.add_comm 1 n]; exact I.depth
 ·show c.A.units+1+1+3+100 * n<=9000
  have h:c.A.units+100 * (n+1)<=9000:=I.units
  omega
 ·have hy:y=nm:=L.loc (AF (show sc.names.lookup y=some .local from e3))
  rcases Gu e2 with ⟨h1,h2⟩ | ⟨h1,h2⟩
  ·rw [hy,<-h2]
   exact ⟨X,by show List.lookup nm [(nm,X)]=some X; rw [List.lookup_cons,beq_self_eq_true],An.mono up _ _ r⟩
  ·exact absurd (Fm I.cx.nd (hy▸e1) L.at) h1
 ·have hf:(y,NameKind.free)∈sc.names:=hk.elim (fun h=>absurd rfl (L.noc _ (AF (show sc.names.lookup y=some .cell from h)))) fun h=>AF (show sc.names.lookup y=some .free from h)
  refine I.loc.ce y (by rw [A7 I.cx.names]; exact L.fre hf) R_ fun a u h1 h2 h3=>k a u (cl_look hf h1) (h2.to fun o' e=>(G.hide_ne fun q=>Am hC (q▸e)).trans e) fun j u' e1 e2=>?_
  rcases Gu e2 with ⟨p1,p2⟩ | ⟨p1,p2⟩
  ·have e3:y=nm:=As (p1▸e1) L.at
   exact AY (As (L.uni _ hf) (e3▸L.par)) rfl
  ·exact BD up (h3 j u' e1 p2)
theorem lam_bind {cl:List (Str×Addr)} {pm cd ct x:Value}:bindArgs (W.kla_fn "<lambda>" q (DR nm ap) b sc cl pm cd ct) ⟨[x],[]⟩=pure [(nm,x)] :=
 bind_plain (fd:=W.kla_fn "<lambda>" q (DR nm ap) b sc cl pm cd ct) (as:=[⟨nm,none,ap⟩]) rfl rfl rfl rfl (List.nodup_cons.mpr ⟨List.not_mem_nil,List.nodup_nil⟩)
theorem lam_call (hs:SE n key (ρ.set i (some v)) σ w σ') (L:DX c.K i nm sc) (hb:IsE key (c.K.lsub nm sc) b) (I:Inv (n+1) c ρ g σ s) (lm:LamAt g c.env q nm ap b sc f) (r:An c.T g v X):wpAny (model c.T.prog c.T.w) c.A.in1.in1 (call (.ref f) [X]) (Ans c.toAr g w σ') (fun _ _=>False) s:=lm _ fun pm ctv c' o fo vs t h1 h2 h3 h4 h5=>by
 refine wpAny_call (W.kla_callFunE (Nat.lt_of_le_of_lt (Nat.le_trans (Nat.le_add_right _ _) I.depth) (by decide)) (I.has.fz _ _ h1) h2 L.co L.gen rfl ⟨c',o,vs,t,rfl,I.has.fz _ _ h3,h4,h5⟩ ?_)
 rw [lam_bind]
 refine wpAny_pure (wpAny_newFunctionEnv L.noc (fun y hy=>by rw [List.mem_singleton.mp hy]; exact L.par) (fun h₁ hns hsb=>?_) L.kind)
 have hk:∀ b o,s.heap.get? b=some o->h₁.get? b=some o:=fun b o e=>hsb.extBut b o (Nat.ne_of_lt (Heap.lt_size e)) (Heap.get?_push_of_some _ e)
 refine ⟨I.nolimit.keeps hk,?_⟩
 obtain ⟨oL,es,ep,hoL,hL⟩:=hns
 have F:=I.has.free (AW _)
 have H:=(I.has.keep (s':={ s with heap:=h₁,toks:=s.toks + [(nm,X)].length }) hk).hideH (s':={ s with heap:=h₁,toks:=s.toks + [(nm,X)].length }) F.fz F.mu F.tab (fun _ _ _ e=>e) (.fr hoL)
 have I':=lam_inv (q:=q) (f:=f) (cd:=.ref c') L I r H F.hid rfl ⟨frO oL,es,ep,G.hide_self,hL⟩
 show codeAny _ _ (.expr b (W.envX q sc s.heap.objs.size f (.ref c') (Dc c.env sc.names []))) _ _
 refine W.kla_codeExpr (wpAny_mono (hs _ _ _ b hb I') (fun y s' p=>p _ fun g2 le H2 rv=>?_) fun _ _ h=>h.elim)
 have e2:=(le.hid s.heap.objs.size List.not_mem_nil).trans G.hide_self
 obtain ⟨hd,H',le',_⟩:=H2.back (its:=[s.heap.objs.size]) (own:=[]) (s':=s') (G.le.trans (g':=g.hide s.heap.objs.size (frO oL)) (.hide (.head _)) le.toO) (Av F.hid) (fun _ _ _ e=>e) (H2.away (Av (Ay e2)))
 exact .mk _ le' H' (An.eta rv)
end
end Mine
namespace Mine
set_option tactic.hygienic true
set_option backward.match.sparseCases true
set_option genInjectivity true
open PySem PyProof.Rows
noncomputable def RR (ρ:Keyed->Nat) (xs:Array Keyed) (i:Nat):Nat:=match xs[i]? with | some p=>ρ p | none=>0
theorem BY {ρ:Keyed->Nat} {xs ys:Array Keyed} {i j:Nat} (h:xs[i]? = ys[j]?):RR ρ xs i=RR ρ ys j:=by unfold RR; rw [h]
def Bef (κ:KeyKind) (ρ:Keyed->Nat) (xs:Array Keyed) (i j:Nat):Prop:=κ.klt (KK κ xs i) (KK κ xs j)\/(KK κ xs i=KK κ xs j/\RR ρ xs i < RR ρ xs j)
def AQ (κ:KeyKind) (ρ:Keyed->Nat) (xs:Array Keyed) (n:Nat):Prop:=∀ i j,i < j->j < n->Bef κ ρ xs i j
section
variable {κ:KeyKind} {ρ:Keyed->Nat} {xs ys:Array Keyed} {i j i' j' n:Nat}
theorem Bef.congr (h:Bef κ ρ ys i' j') (hi:xs[i]? = ys[i']?) (hj:xs[j]? = ys[j']?):Bef κ ρ xs i j:=by
 unfold Bef; rw [KK_congr (κ:=κ) hi,KK_congr (κ:=κ) hj,BY (ρ:=ρ) hi,BY (ρ:=ρ) hj]; exact h
theorem Bef.kle (h:Bef κ ρ xs i j):κ.kle (KK κ xs i) (KK κ xs j):=h.elim (fun h=>KeyOrd.kle_of_klt h) fun h=>by rw [h.1]; exact KeyOrd.kle_refl _
theorem bef_of (h:κ.kle (KK κ xs i) (KK κ xs j)) (hr:RR ρ xs i < RR ρ xs j):Bef κ ρ xs i j:=by
 cases hb:κ.blt (KK κ xs i) (KK κ xs j) with
 | true=>exact .inl hb
 | false=>exact .inr ⟨(κ.total _ _ (show κ.blt (KK κ xs j) (KK κ xs i)=false from h) hb).symm,hr⟩
theorem AQ.sorted (h:AQ κ ρ xs n):SortedToK κ xs n:=fun i j hij hj=>by
 by_cases e:i=j
 ·subst e; exact KeyOrd.kle_refl _
 ·exact (h i j (by lia) hj).kle
end
structure SOk (κ:KeyKind) (ρ:Keyed->Nat) (a₀:Array Keyed) (st:SortSt) (n:Nat):Prop where
 base:SBase a₀ st
 rest:∀ i,n<=i->i < a₀.size->RR ρ (arrOf st) i=i
 low:∀ i,i < n->RR ρ (arrOf st) i < n
section
variable {prog:Program} {w:World} {A:Around} {E:Value->Shared->Prop} {s:Shared} {a₀:Array Keyed} {κ:KeyKind} {ρ:Keyed->Nat}
theorem SOk.more {st:SortSt} {n:Nat} (h:SOk κ ρ a₀ st n) (hn:n < a₀.size):SOk κ ρ a₀ st (n+1) :=
 ⟨h.base,fun i h1 h2=>h.rest i (by (exact Nat.le_of_lt ‹_›)) h2,fun i hi=>by
  by_cases e:i=n
  ·subst e; rw [h.rest i (Nat.le_refl _) hn]; (with_reducible assumption)
  ·have:=h.low i (by lia); (exact Nat.le_succ_of_le ‹_›)⟩
theorem Ci {xs:Array Keyed} {k l:Nat} (hk:k < xs.size) (hl:l<=k) (x:Nat) :
 (x=l/\(bubble xs k (k-l))[x]? = xs[k]?)\/(l < x/\x<=k/\(bubble xs k (k-l))[x]? = xs[x-1]?)\/((x < l\/k < x)/\(bubble xs k (k-l))[x]? = xs[x]?):=by
 have e:=getElem?_bubble hk (k-l) (by (exact Nat.sub_le _ _)) x
 rw [show k-(k-l)=l by lia] at e
 by_cases h1:x=l
 ·rw [if_pos h1] at e; exact .inl ⟨h1,e⟩
 ·rw [if_neg h1] at e
  by_cases h2:l < x/\x<=k
  ·rw [if_pos h2] at e; exact .inr (.inl ⟨h2.1,h2.2,e⟩)
  ·rw [if_neg h2] at e; exact .inr (.inr ⟨by lia,e⟩)
theorem stab_bubble {xs:Array Keyed} {k l:Nat} (hk:k < xs.size) (hl:l<=k) (hs:AQ κ ρ xs k) (hlo:∀ i,i < l->Bef κ ρ xs i k) (hhi:∀ i,l<=i->i < k->κ.klt (KK κ xs k) (KK κ xs i)) :
 AQ κ ρ (bubble xs k (k-l)) (k+1):=by
 intro i j hij hj
 rcases Ci hk hl i with ⟨h1,e1⟩ | ⟨h1,h2,e1⟩ | ⟨h1,e1⟩
 ·rcases Ci hk hl j with ⟨g1,e2⟩ | ⟨g1,g2,e2⟩ | ⟨g1,e2⟩
  ·omega
  ·exact Bef.congr (.inl (hhi (j-1) (by omega) (by omega))) e1 e2
  ·omega
 ·rcases Ci hk hl j with ⟨g1,e2⟩ | ⟨g1,g2,e2⟩ | ⟨g1,e2⟩
  ·omega
  ·exact Bef.congr (hs (i-1) (j-1) (by omega) (by omega)) e1 e2
  ·omega
 ·rcases Ci hk hl j with ⟨g1,e2⟩ | ⟨g1,g2,e2⟩ | ⟨g1,e2⟩
  ·exact Bef.congr (hlo i (by omega)) e1 e2
  ·exact Bef.congr (hs i (j-1) (by omega) (by omega)) e1 e2
  ·exact Bef.congr (hs i j hij (by omega)) e1 e2
theorem SOk.bubble {st:SortSt} {k l:Nat} (h:SOk κ ρ a₀ st k) (hk:k < a₀.size) (hl:l<=k):SOk κ ρ a₀ (setArr st (bubble (arrOf st) k (k-l))) (k+1):=by
 have hks:k < (arrOf st).size:=by rw [h.base.size]; exact hk
 refine ⟨h.base.setArr (bubble_perm _ _ _),fun i h1 h2=>?_,fun i hi=>?_⟩
 ·show RR ρ (PyProof.Rows.bubble (arrOf st) k (k-l)) i=i
  rcases Ci hks hl i with ⟨g1,e⟩ | ⟨g1,g2,e⟩ | ⟨g1,e⟩
  ·lia
  ·lia
  ·rw [BY e]; exact h.rest i (by (exact Nat.le_of_lt ‹_›)) h2
 ·show RR ρ (PyProof.Rows.bubble (arrOf st) k (k-l)) i < k+1
  rcases Ci hks hl i with ⟨g1,e⟩ | ⟨g1,g2,e⟩ | ⟨g1,e⟩
  ·rw [BY e,h.rest k (Nat.le_refl _) hk]; (exact Nat.lt_add_one _)
  ·rw [BY e]; have:=h.low (i-1) (by omega); (exact Nat.le_succ_of_le ‹_›)
  ·rw [BY e]; have:=h.low i (by lia); (exact Nat.le_succ_of_le ‹_›)
theorem FO {st:SortSt} {n ok:Nat} {Q:Bool->SortSt->Prop} (hO:κ.OneLt) (h0:KeysOf κ a₀) (hn:n<=a₀.size) (hok:ok<=n) (ho1:1<=ok) (hB:SOk κ ρ a₀ st ok) (hs:AQ κ ρ (arrOf st) ok)
 (h:∀ st',SOk κ ρ a₀ st' n->AQ κ ρ (arrOf st') n->Q true st'):wpS (model prog w) A E s (binarySort' 0 n ok) Q st:=by
 rw [binarySort'_eq]
 simp only [Nat.zero_add]
 refine wpS_bind (wpS_mono (wpS_forRange (I:=fun k c st'=>c=(none,())/\SOk κ ρ a₀ st' (min k n)/\AQ κ ρ (arrOf st') (min k n))
  (Q:=fun c st'=>c=(none,())/\SOk κ ρ a₀ st' n/\AQ κ ρ (arrOf st') n) ?step ?fin ?init) ?post)
 case post =>
  rintro c st' ⟨rfl,hB',hs'⟩
  exact wpS_pure (h st' hB' hs')
 case init =>
  rw [show min (max ok 1) n=ok by lia]
  exact ⟨rfl,hB,hs⟩
 case fin =>
  rintro c st' ⟨hc,hB',hs'⟩
  rw [show min (max (max ok 1) n) n=n by lia] at hB' hs'
  exact ⟨hc,hB',hs'⟩
 case step =>
  rintro k c st' hak hkn ⟨rfl,hB',hs'⟩
  rw [show min k n=k by lia] at hB' hs'
  have hk:k < a₀.size:=by (exact Nat.le_trans ‹_› ‹_›)
  have hss:=hs'.sorted
  refine wpS_bind (wpS_mono (wpS_forRange (I:=fun x c st''=>st''=st'/\∃ l r,c=(none,l,r)/\l<=r/\r<=k/\r-l<=k-x ∧
   (∀ i,i < l->κ.kle (KK κ (arrOf st') i) (KK κ (arrOf st') k))/\(∀ i,r<=i->i < k->κ.klt (KK κ (arrOf st') k) (KK κ (arrOf st') i)))
   (Q:=fun c st''=>st''=st'/\∃ l r,c=(none,l,r)/\l<=k ∧
    (∀ i,i < l->κ.kle (KK κ (arrOf st') i) (KK κ (arrOf st') k))/\(∀ i,l<=i->i < k->κ.klt (KK κ (arrOf st') k) (KK κ (arrOf st') i))) ?istep ?ifin ?iinit) ?ipost)
  case iinit=>exact ⟨rfl,0,k,rfl,by (exact Nat.zero_le _),by lia,by (exact Nat.sub_le _ _),fun i hi=>by lia,fun i h1 h2=>by lia⟩
  case ifin =>
   rintro c st'' ⟨rfl,l,r,rfl,hlr,hrk,hm,hlo,hhi⟩
   have:l=r:=by lia
   subst this
   exact ⟨rfl,l,l,rfl,hrk,hlo,hhi⟩
  case istep =>
   rintro x c st'' _ hxk ⟨rfl,l,r,rfl,hlr,hrk,hm,hlo,hhi⟩
   dsimp only
   by_cases hge:l ≥ r
   ·rw [if_pos hge]
    have:l=r:=by lia
    subst this
    exact wpS_pure ⟨rfl,l,l,rfl,hrk,hlo,hhi⟩
   ·rw [if_neg hge]
    refine wpS_bind (wpS_ltKK hO hB'.base h0 hk (by lia) ?_)
    cases hless:κ.blt (KK κ (arrOf st'') k) (KK κ (arrOf st'') ((l+r) / 2))
    case true =>
     dsimp only; rw [if_pos rfl]
     refine wpS_pure ⟨rfl,l,(l+r) / 2,rfl,by lia,by lia,by lia,hlo,fun i h1 h2=>?_⟩
     exact KeyOrd.klt_of_klt_of_kle hless (hss _ _ h1 h2)
    case false =>
     dsimp only; rw [if_neg Bool.false_ne_true]
     refine wpS_pure ⟨rfl,(l+r) / 2+1,r,rfl,by lia,by (with_reducible assumption),by lia,fun i h1=>?_,hhi⟩
     exact KeyOrd.kle_trans (hss i ((l+r) / 2) (by (exact Nat.le_of_lt_succ ‹_›)) (by lia)) (show κ.kle _ _ from hless)
  case ipost =>
   rintro c st'' ⟨rfl,l,r,rfl,hlk,hlo,hhi⟩
   show wpS _ _ _ _ (do moveDown' k l; pure (ForInStep.yield (none,()))) _ _
   rw [moveDown'_eq]
   refine wpS_bind (wpS_modify (wpS_pure ⟨rfl,?_,?_⟩))
   ·rw [show min (k+1) n=k+1 by lia]; exact hB'.bubble hk hlk
   ·rw [show min (k+1) n=k+1 by lia]
    exact stab_bubble (by rw [hB'.base.size]; exact hk) hlk hs' (fun i hi=>bef_of (hlo i hi) (by rw [hB'.rest k (Nat.le_refl _) hk]; exact hB'.low i (by (exact Nat.le_trans ‹_› ‹_›)))) hhi
theorem E1 {st:SortSt} {a nrem:Nat} {Q:AscSt->SortSt->Prop} (hO:κ.OneLt) (h0:KeysOf κ a₀) (hn:nrem<=a₀.size) (ha:1<=a) (han:a<=nrem) (hB:SOk κ ρ a₀ st a)
 (hs:AQ κ ρ (arrOf st) a)
 (h:∀ n,a<=n->n<=nrem->SOk κ ρ a₀ st n->AQ κ ρ (arrOf st) n->(n=nrem\/κ.klt (KK κ (arrOf st) n) (KK κ (arrOf st) (n-1)))->Q (none,n) st) :
 wpS (model prog w) A E s (ascLoop a nrem) Q st:=by
 unfold ascLoop
 refine wpS_forRange (I:=fun x c st'=>st'=st/\c=(none,x)/\SOk κ ρ a₀ st x/\AQ κ ρ (arrOf st) x) ?step ?fin ⟨rfl,rfl,hB,hs⟩
 case fin =>
  rintro c st' ⟨rfl,rfl,hB',hs'⟩
  rw [show max a nrem=nrem by lia] at hB' hs' ⊢
  exact h nrem han (Nat.le_refl _) hB' hs' (.inl rfl)
 case step =>
  rintro x c st' hax hxn ⟨rfl,rfl,hB',hs'⟩
  dsimp only
  refine wpS_bind (wpS_ltKK hO hB'.base h0 (by (exact Nat.le_trans ‹_› ‹_›)) (by lia) ?_)
  cases hless:κ.blt (KK κ (arrOf st') x) (KK κ (arrOf st') (x-1))
  case true =>
   dsimp only; rw [if_pos rfl]
   exact wpS_pure (h x hax (by (exact Nat.le_of_lt ‹_›)) hB' hs' (.inr hless))
  case false =>
   dsimp only; rw [if_neg Bool.false_ne_true]
   refine wpS_pure ⟨rfl,rfl,hB'.more (by (exact Nat.le_trans ‹_› ‹_›)),fun i j hij hj=>?_⟩
   by_cases hjx:j < x
   ·exact hs' i j hij hjx
   ·have hj':j=x:=by lia
    subst hj'
    refine bef_of (KeyOrd.kle_trans (hs'.sorted i (j-1) (by lia) (by lia)) hless) ?_
    rw [hB'.rest j (Nat.le_refl _) (by lia)]; exact hB'.low i hij
end
end Mine
namespace Mine
set_option tactic.hygienic true
set_option backward.match.sparseCases true
set_option genInjectivity true
open PySem PyProof.Rows
section
variable {prog:Program} {w:World} {A:Around} {E:Value->Shared->Prop} {s:Shared} {a₀:Array Keyed} {κ:KeyKind} {ρ:Keyed->Nat}
theorem Bo {xs:Array Keyed} {b m:Nat} (hm:m<=xs.size) (x:Nat) :
 (b<=x/\x < m/\(mirror xs b m ((m-b) / 2))[x]? = xs[b+m-1-x]?)\/((x < b\/m<=x)/\(mirror xs b m ((m-b) / 2))[x]? = xs[x]?):=by
 have e:=getElem?_mirror_all (i:=b) hm x
 by_cases h1:b<=x/\x < m
 ·rw [if_pos h1] at e; exact .inl ⟨h1.1,h1.2,e⟩
 ·rw [if_neg h1] at e; exact .inr ⟨by lia,e⟩
theorem SOk.mirror {st:SortSt} {b m:Nat} (h:SOk κ ρ a₀ st m) (hm:m<=a₀.size):SOk κ ρ a₀ (setArr st (mirror (arrOf st) b m ((m-b) / 2))) m:=by
 have hms:m<=(arrOf st).size:=by rw [h.base.size]; exact hm
 refine ⟨h.base.setArr (mirror_perm _ _ _ _),fun i h1 h2=>?_,fun i hi=>?_⟩
 ·show RR ρ (PyProof.Rows.mirror (arrOf st) b m ((m-b) / 2)) i=i
  rcases Bo (b:=b) hms i with ⟨g1,g2,e⟩ | ⟨g1,e⟩
  ·lia
  ·rw [BY e]; exact h.rest i h1 h2
 ·show RR ρ (PyProof.Rows.mirror (arrOf st) b m ((m-b) / 2)) i < m
  rcases Bo (b:=b) hms i with ⟨g1,g2,e⟩ | ⟨g1,e⟩
  ·rw [BY e]; exact h.low _ (by omega)
  ·rw [BY e]; exact h.low _ hi
def RevTo (κ:KeyKind) (ρ:Keyed->Nat) (xs:Array Keyed) (n:Nat):Prop:=∀ i j,i < j->j < n->Bef κ ρ xs j i
theorem rev_stab {xs:Array Keyed} {m:Nat} (hm:m<=xs.size) (h:RevTo κ ρ xs m):AQ κ ρ (mirror xs 0 m ((m-0) / 2)) m:=by
 intro i j hij hj
 rcases Bo (b:=0) hm i with ⟨g1,g2,e1⟩ | ⟨g1,e1⟩
 ·rcases Bo (b:=0) hm j with ⟨k1,k2,e2⟩ | ⟨k1,e2⟩
  ·exact Bef.congr (h (0+m-1-j) (0+m-1-i) (by omega) (by omega)) e1 e2
  ·omega
 ·omega
structure Dsc (κ:KeyKind) (ρ:Keyed->Nat) (a₀:Array Keyed) (st:SortSt) (x neq:Nat):Prop where
 ok:SOk κ ρ a₀ st x
 le:neq+1<=x
 rev:∀ i j,i < j->j < x->i < x-(neq+1)->Bef κ ρ (arrOf st) j i
 eq:∀ i,x-(neq+1)<=i->i < x->KK κ (arrOf st) i=KK κ (arrOf st) (x-1)/\RR ρ (arrOf st) i=i
theorem Dsc.kle {st:SortSt} {x neq:Nat} (h:Dsc κ ρ a₀ st x neq) {i:Nat} (hi:i < x):κ.kle (KK κ (arrOf st) (x-1)) (KK κ (arrOf st) i):=by
 by_cases h1:i < x-(neq+1)
 ·exact (h.rev i (x-1) (by omega) (by omega) h1).kle
 ·rw [(h.eq i (by (exact Nat.le_of_not_lt ‹_›)) hi).1]; exact KeyOrd.kle_refl _
theorem Dsc.turn {st:SortSt} {x neq:Nat} (h:Dsc κ ρ a₀ st x neq) (hx:x<=a₀.size) :
 SOk κ ρ a₀ (setArr st (mirror (arrOf st) (x-(neq+1)) x ((x-(x-(neq+1))) / 2))) x/\RevTo κ ρ (mirror (arrOf st) (x-(neq+1)) x ((x-(x-(neq+1))) / 2)) x ∧
 ∀ k,KK κ (mirror (arrOf st) (x-(neq+1)) x ((x-(x-(neq+1))) / 2)) k=KK κ (arrOf st) k:=by
 have hxs:x<=(arrOf st).size:=by rw [h.ok.base.size]; exact hx
 have hle:=h.le
 refine ⟨h.ok.mirror hx,fun i j hij hj=>?_,KK_mirror_equal hxs fun k h1 h2=>(h.eq k h1 h2).1⟩
 rcases Bo (b:=x-(neq+1)) hxs i with ⟨g1,g2,e1⟩ | ⟨g1,e1⟩
 ·rcases Bo (b:=x-(neq+1)) hxs j with ⟨k1,k2,e2⟩ | ⟨k1,e2⟩
  ·refine Bef.congr (.inr ⟨?_,?_⟩) e2 e1
   ·rw [(h.eq _ (by omega) (by omega)).1]; exact (h.eq _ (by omega) (by omega)).1.symm
   ·rw [(h.eq _ (by omega) (by omega)).2,(h.eq _ (by omega) (by omega)).2]; omega
  ·omega
 ·rcases Bo (b:=x-(neq+1)) hxs j with ⟨k1,k2,e2⟩ | ⟨k1,e2⟩
  ·exact Bef.congr (h.rev i _ (by omega) (by omega) (by omega)) e2 e1
  ·exact Bef.congr (h.rev i j hij hj (by omega)) e2 e1
theorem Dsc.whole {st:SortSt} {x:Nat} (h:Dsc κ ρ a₀ st x 0):RevTo κ ρ (arrOf st) x:=fun i j hij hj=>h.rev i j hij hj (by omega)
theorem EU {st:SortSt} {x:Nat} (ok:SOk κ ρ a₀ st x) (hx:x < a₀.size) (h1:1<=x) (rv:RevTo κ ρ (arrOf st) x) (hl:κ.klt (KK κ (arrOf st) x) (KK κ (arrOf st) (x-1)))
 (hk:∀ i,i < x->κ.kle (KK κ (arrOf st) (x-1)) (KK κ (arrOf st) i)):Dsc κ ρ a₀ st (x+1) 0:=by
 refine ⟨ok.more hx,by (exact Nat.succ_pos _),fun i j hij hj hi=>?_,fun i h2 h3=>?_⟩
 ·by_cases e:j=x
  ·subst e; exact .inl (KeyOrd.klt_of_klt_of_kle hl (hk i (by (with_reducible assumption))))
  ·exact rv i j hij (by lia)
 ·have:i=x:=by lia
  subst this
  exact ⟨rfl,ok.rest i (Nat.le_refl _) hx⟩
theorem Dsc.more {st:SortSt} {x neq:Nat} (h:Dsc κ ρ a₀ st x neq) (hx:x < a₀.size) (he:KK κ (arrOf st) x=KK κ (arrOf st) (x-1)):Dsc κ ρ a₀ st (x+1) (neq+1):=by
 have hle:=h.le
 refine ⟨h.ok.more hx,by (exact Nat.lt_succ_of_le ‹_›),fun i j hij hj hi=>?_,fun i h2 h3=>?_⟩
 ·by_cases e:j=x
  ·subst e
   rcases h.rev i (j-1) (by lia) (by lia) (by lia) with q | ⟨_,q⟩
   ·exact .inl (by rw [he]; exact q)
   ·rw [(h.eq (j-1) (by lia) (by lia)).2] at q
    have:=h.ok.low i (by (with_reducible assumption))
    lia
  ·exact h.rev i j hij (by lia) (by lia)
 ·show KK κ (arrOf st) i=KK κ (arrOf st) x/\_
  by_cases e:i=x
  ·subst e; exact ⟨rfl,h.ok.rest i (Nat.le_refl _) hx⟩
  ·rw [he]; exact h.eq i (by lia) (by lia)
end
end Mine
namespace Mine
set_option tactic.hygienic true
set_option backward.match.sparseCases true
set_option genInjectivity true
open PySem PyProof.Rows
section
variable {prog:Program} {w:World} {A:Around} {E:Value->Shared->Prop} {s:Shared} {a₀:Array Keyed} {κ:KeyKind} {ρ:Keyed->Nat}
theorem Gs {st:SortSt} {n nrem:Nat} {Q:Option Nat->SortSt->Prop} (hO:κ.OneLt) (h0:KeysOf κ a₀) (hn:nrem<=a₀.size) (h1:1<=n) (hnn:n<=nrem) (hB:SOk κ ρ a₀ st n)
 (hs:RevTo κ ρ (arrOf st) n) (h:∀ m st',SOk κ ρ a₀ st' m->1<=m->m<=nrem->AQ κ ρ (arrOf st') m->Q (some m) st') :
 wpS (model prog w) A E s (tail3 n nrem) Q st:=by
 unfold tail3
 have hsz:n<=(arrOf st).size:=by rw [hB.base.size]; (exact Nat.le_trans ‹_› ‹_›)
 refine wpS_bind (wpS_reverse ?_)
 have hB':SOk κ ρ a₀ (setArr st (mirror (arrOf st) 0 n ((n-0) / 2))) n:=hB.mirror (by lia)
 exact wpS_bind (E1 hO h0 hn h1 hnn hB' (rev_stab hsz hs) fun m hm1 hm2 hBm hsm _=>wpS_pure (h m _ hBm (by (exact Nat.le_trans ‹_› ‹_›)) hm2 hsm))
theorem wpS_descLoopS {st:SortSt} {n nrem:Nat} {Q:DescSt->SortSt->Prop} (hO:κ.OneLt) (h0:KeysOf κ a₀) (hn:nrem<=a₀.size) (h1:1<=n) (hnn:n<=nrem) (hD:Dsc κ ρ a₀ st n 0)
 (h:∀ m neq st',n<=m->m<=nrem->Dsc κ ρ a₀ st' m neq->Q (none,m,neq) st') :
 wpS (model prog w) A E s (descLoop n nrem) Q st:=by
 unfold descLoop
 refine wpS_forRange (I:=fun x c st'=>∃ neq,c=(none,x,neq)/\Dsc κ ρ a₀ st' x neq) ?step ?fin ⟨0,rfl,hD⟩
 case fin =>
  rintro c st' ⟨neq,rfl,hD'⟩
  rw [show max n nrem=nrem by lia] at hD' ⊢
  exact h nrem neq st' hnn (Nat.le_refl _) hD'
 case step =>
  rintro x c st' hax hxn ⟨neq,rfl,hD'⟩
  dsimp only
  refine wpS_bind (wpS_ltKK hO hD'.ok.base h0 (by (exact Nat.le_trans ‹_› ‹_›)) (by lia) ?_)
  cases hless:κ.blt (KK κ (arrOf st') x) (KK κ (arrOf st') (x-1))
  case true =>
   dsimp only; rw [if_pos rfl]
   by_cases hneq:neq > 0
   ·rw [if_pos hneq]
    obtain ⟨t1,t2,t3⟩:=hD'.turn (by lia)
    refine wpS_bind (wpS_reverse (wpS_pure ⟨0,rfl,EU t1 (by (exact Nat.le_trans ‹_› ‹_›)) (by lia) t2 ?_ ?_⟩))
    ·show κ.klt (KK κ (mirror (arrOf st') _ _ _) x) (KK κ (mirror (arrOf st') _ _ _) (x-1))
     rw [t3,t3]; exact hless
    ·intro i hi
     show κ.kle (KK κ (mirror (arrOf st') _ _ _) (x-1)) (KK κ (mirror (arrOf st') _ _ _) i)
     rw [t3,t3]; exact hD'.kle hi
   ·rw [if_neg hneq]
    have:neq=0:=by lia
    subst this
    exact wpS_pure ⟨0,rfl,EU hD'.ok (by (exact Nat.le_trans ‹_› ‹_›)) (by (exact Nat.le_trans ‹_› ‹_›)) hD'.whole hless fun i hi=>hD'.kle hi⟩
  case false =>
   dsimp only; rw [if_neg Bool.false_ne_true]
   refine wpS_bind (wpS_ltKK hO hD'.ok.base h0 (by lia) (by (exact Nat.le_trans ‹_› ‹_›)) ?_)
   cases hlarger:κ.blt (KK κ (arrOf st') (x-1)) (KK κ (arrOf st') x)
   case true =>
    dsimp only; rw [if_pos rfl]
    exact wpS_pure (h x neq st' hax (by (exact Nat.le_of_lt ‹_›)) hD')
   case false =>
    dsimp only; rw [if_neg Bool.false_ne_true]
    exact wpS_pure ⟨neq+1,rfl,hD'.more (by (exact Nat.le_trans ‹_› ‹_›)) (KeyOrd.kle_antisymm hlarger hless)⟩
theorem Ea {st:SortSt} {n nrem:Nat} {Q:Option Nat->SortSt->Prop} (hO:κ.OneLt) (h0:KeysOf κ a₀) (hn:nrem<=a₀.size) (hnn:n+1<=nrem) (hD:Dsc κ ρ a₀ st (n+1) 0)
 (h:∀ m st',SOk κ ρ a₀ st' m->1<=m->m<=nrem->AQ κ ρ (arrOf st') m->Q (some m) st') :
 wpS (model prog w) A E s (descPart n nrem) Q st:=by
 unfold descPart
 refine wpS_bind (wpS_lift (wpAny_rule ⟨rfl,?_⟩))
 refine wpS_bind (wpS_descLoopS hO h0 hn (by (exact Nat.succ_pos _)) hnn hD fun m neq st' hm1 hm2 hD'=>?_)
 dsimp only
 by_cases hneq:neq > 0
 ·rw [if_pos hneq]
  obtain ⟨t1,t2,_⟩:=hD'.turn (by (exact Nat.le_trans ‹_› ‹_›))
  exact wpS_bind (wpS_reverse (Gs hO h0 hn (by lia) hm2 t1 t2 h))
 ·rw [if_neg hneq]
  have:neq=0:=by lia
  subst this
  exact Gs hO h0 hn (by lia) hm2 hD'.ok hD'.whole h
theorem wpS_countRunS {st:SortSt} {nrem:Nat} {Q:Option Nat->SortSt->Prop} (hO:κ.OneLt) (h0:KeysOf κ a₀) (hn:nrem<=a₀.size) (h1:1<=nrem) (hB:SBase a₀ st)
 (hr:∀ i,i < a₀.size->RR ρ (arrOf st) i=i)
 (h:∀ m st',SOk κ ρ a₀ st' m->1<=m->m<=nrem->AQ κ ρ (arrOf st') m->Q (some m) st') :
 wpS (model prog w) A E s (countRun' 0 nrem) Q st:=by
 have ok:∀ n,n<=a₀.size->SOk κ ρ a₀ st n:=fun n hn=>⟨hB,fun i _ h2=>hr i h2,fun i hi=>by rw [hr i (by (exact Nat.le_trans ‹_› ‹_›))]; exact hi⟩
 rw [countRun0_eq]
 refine wpS_bind (E1 hO h0 hn (Nat.le_refl 1) h1 (ok 1 (by (exact Nat.le_trans ‹_› ‹_›))) (fun i j hij hj=>by lia) fun n hn1 hn2 _ hsn hor=>?_)
 dsimp only
 by_cases hnn:n=nrem
 ·rw [if_pos (by simpa using hnn)]
  exact wpS_pure (h n st (ok n (by (exact Nat.le_trans ‹_› ‹_›))) hn1 hn2 hsn)
 ·rw [if_neg (by simpa using hnn)]
  have hlt:κ.klt (KK κ (arrOf st) n) (KK κ (arrOf st) (n-1)):=hor.resolve_left hnn
  by_cases hgt:n > 1
  ·rw [if_pos hgt]
   refine wpS_bind (wpS_ltKK hO hB h0 (by lia) (by lia) ?_)
   cases hrose:κ.blt (KK κ (arrOf st) 0) (KK κ (arrOf st) (n-1))
   case true =>
    dsimp only; rw [if_pos rfl]
    exact wpS_pure (h n st (ok n (by (exact Nat.le_trans ‹_› ‹_›))) hn1 hn2 hsn)
   case false =>
    dsimp only; rw [if_neg Bool.false_ne_true]
    have hsz:n<=(arrOf st).size:=by rw [hB.size]; (exact Nat.le_trans ‹_› ‹_›)
    have hss:=hsn.sorted
    have hall:∀ k,0<=k->k < n->KK κ (arrOf st) k=KK κ (arrOf st) (n-1):=by
     intro k _ hk
     have a1:=hss 0 k (by (with_reducible assumption)) hk
     have a2:=hss k (n-1) (by lia) (by lia)
     exact KeyOrd.kle_antisymm a2 (KeyOrd.kle_trans hrose a1)
    have keq:=KK_mirror_equal (κ:=κ) hsz hall
    refine wpS_bind (wpS_reverse (Ea hO h0 hn (by lia) (EU ((ok n (by lia)).mirror (by lia)) (by lia) hn1 ?_ ?_ ?_) h))
    ·intro i j hij hj
     rcases Bo (b:=0) hsz i with ⟨g1,g2,e1⟩ | ⟨g1,e1⟩
     ·rcases Bo (b:=0) hsz j with ⟨k1,k2,e2⟩ | ⟨k1,e2⟩
      ·refine Bef.congr (.inr ⟨?_,?_⟩) e2 e1
       ·rw [hall _ (by (exact Nat.zero_le _)) (by lia)]; exact (hall _ (by (exact Nat.zero_le _)) (by lia)).symm
       ·rw [hr _ (by lia),hr _ (by lia)]; lia
      ·lia
     ·lia
    ·show κ.klt (KK κ (mirror (arrOf st) _ _ _) n) (KK κ (mirror (arrOf st) _ _ _) (n-1))
     rw [keq,keq]; exact hlt
    ·intro i hi
     show κ.kle (KK κ (mirror (arrOf st) _ _ _) (n-1)) (KK κ (mirror (arrOf st) _ _ _) i)
     rw [keq,keq,hall i (by (exact Nat.zero_le _)) hi]; exact KeyOrd.kle_refl _
  ·rw [if_neg hgt]
   have hn1':n=1:=by lia
   subst hn1'
   refine Ea hO h0 hn (by lia) (EU (ok 1 (by (exact Nat.le_trans ‹_› ‹_›))) (by lia) (Nat.le_refl 1) (fun i j hij hj=>by lia) hlt fun i hi=>?_) h
   have:i=0:=by lia
   subst this; exact KeyOrd.kle_refl _
theorem wpS_sortRunsS {st:SortSt} {Q:Unit->SortSt->Prop} (hO:κ.OneLt) (h0:KeysOf κ a₀) (hB:SBase a₀ st) (hr:∀ i,i < a₀.size->RR ρ (arrOf st) i=i) (h2:2<=a₀.size) (h64:a₀.size < 64)
 (h:∀ st',(arrOf st').Perm a₀->failedOf st'=none->AQ κ ρ (arrOf st') a₀.size->Q () st'):wpS (model prog w) A E s sortRuns' Q st:=by
 rw [sortRuns'_eq]
 refine wpS_bind (wpS_get ?_)
 dsimp only
 have hmr:minRun' a₀.size a₀.size 0=a₀.size:=by
  obtain ⟨f,hf⟩:∃ f,a₀.size=f+1:=⟨a₀.size-1,by lia⟩
  have:minRun' (f+1) a₀.size 0=a₀.size:=by rw [minRun'_succ,if_pos h64]; rfl
  rwa [<-hf] at this
 rw [hB.size,hmr]
 have fin:∀ {st':SortSt},SOk κ ρ a₀ st' a₀.size->AQ κ ρ (arrOf st') a₀.size->(arrOf (setPending st' ((pendingOf st').push (0,a₀.size,0)))).Perm a₀/\failedOf (setPending st' ((pendingOf st').push (0,a₀.size,0)))=none ∧
  pendingOf (setPending st' ((pendingOf st').push (0,a₀.size,0)))=#[(0,a₀.size,0)]/\AQ κ ρ (arrOf (setPending st' ((pendingOf st').push (0,a₀.size,0)))) a₀.size :=
  fun ok hs=>⟨ok.base.perm,ok.base.failed,by show (pendingOf _).push _=_; rw [ok.base.pend]; rfl,hs⟩
 refine wpS_bind (wpS_mono (wpS_forRange
  (I:=fun x c st'=>(x=0/\c=(none,0)/\st'=st)\/(1<=x/\c=(none,a₀.size)/\(arrOf st').Perm a₀/\failedOf st'=none/\pendingOf st'=#[(0,a₀.size,0)]/\AQ κ ρ (arrOf st') a₀.size))
  (Q:=fun c st'=>c=(none,a₀.size)/\(arrOf st').Perm a₀/\failedOf st'=none/\pendingOf st'=#[(0,a₀.size,0)]/\AQ κ ρ (arrOf st') a₀.size) ?step ?fin (.inl ⟨rfl,rfl,rfl⟩)) ?post)
 case fin =>
  rintro c st' (⟨hx,_,_⟩ | ⟨_,hc,hD⟩)
  ·lia
  ·exact ⟨hc,hD⟩
 case step =>
  rintro x c st' _ hx (⟨rfl,rfl,rfl⟩ | ⟨hx1,rfl,hD⟩)
  ·dsimp only
   rw [if_neg (by (exact Nat.not_le_of_lt ‹_›))]
   rw [Nat.sub_zero,Nat.min_self]
   refine wpS_bind (wpS_countRunS hO h0 (Nat.le_refl _) (by (exact Nat.le_of_lt ‹_›)) hB hr fun m st2 hB2 hm1 hm2 hs2=>?_)
   dsimp only
   by_cases hlt:m < a₀.size
   ·rw [if_pos hlt]
    refine wpS_bind (wpS_lift (wpAny_rule ⟨rfl,?_⟩))
    refine wpS_bind (FO hO h0 (Nat.le_refl _) hm2 hm1 hB2 hs2 fun st3 hB3 hs3=>?_)
    rw [if_neg (show ¬(!true)=true from Bool.false_ne_true)]
    refine wpS_bind (wpS_get ?_)
    have hb:(pendingOf st3).back? = none:=by rw [hB3.base.pend]; rfl
    rw [hb]
    dsimp only
    exact wpS_bind (wpS_modify (wpS_pure (.inr ⟨by (exact Nat.succ_pos _),by rw [Nat.zero_add],fin hB3 hs3⟩)))
   ·rw [if_neg hlt]
    have hm:m=a₀.size:=by lia
    subst hm
    refine wpS_bind (wpS_get ?_)
    have hb:(pendingOf st2).back? = none:=by rw [hB2.base.pend]; rfl
    rw [hb]
    dsimp only
    exact wpS_bind (wpS_modify (wpS_pure (.inr ⟨by (exact Nat.succ_pos _),by rw [Nat.zero_add],fin hB2 hs2⟩)))
  ·dsimp only
   rw [if_pos (Nat.le_refl _)]
   exact wpS_pure ⟨rfl,hD⟩
 case post =>
  rintro c st' ⟨rfl,hD⟩
  dsimp only
  refine wpS_bind (wpS_mono (wpS_forRange (I:=fun _ c st''=>st''=st'/\c=(none,())) (Q:=fun c st''=>st''=st'/\c=(none,())) ?_ (fun _ _ hh=>hh) ⟨rfl,rfl⟩) ?_)
  ·rintro x c st'' _ _ ⟨rfl,rfl⟩
   refine wpS_bind (wpS_get ?_)
   rw [if_pos (by rw [hD.2.2.1]; exact Nat.le_refl 1)]
   exact wpS_pure ⟨rfl,rfl⟩
  ·rintro c st'' ⟨rfl,rfl⟩
   exact wpS_pure (h _ hD.1 hD.2.1 hD.2.2.2)
end
end Mine
namespace Mine
set_option tactic.hygienic true
set_option backward.match.sparseCases true
set_option genInjectivity true
noncomputable def Ca {κ α:Type} (lt:κ->κ->Bool) (p:κ×α):List (κ×α)->List (κ×α)
 | []=>[p]
 | q::r=>if lt q.1 p.1 then q::Ca lt p r else p::q::r
noncomputable def A4 {κ α:Type} (lt:κ->κ->Bool):List (κ×α)->List (κ×α)
 | []=>[]
 | p::r=>Ca lt p (A4 lt r)
noncomputable def CF {κ α:Type} (rev:Bool) (lt:κ->κ->Bool) (l:List (κ×α)):List α :=
 match rev with
 | true=>(A4 lt l.reverse).reverse.map (·.2)
 | false=>(A4 lt l).map (·.2)
structure LinB {κ:Type} (lt:κ->κ->Bool):Prop where
 irr:∀ a,lt a a=false
 trans:∀ a b c,lt a b=true->lt b c=true->lt a c=true
 total:∀ a b,lt a b=false->lt b a=false->a=b
section
variable {κ α:Type} {lt:κ->κ->Bool} {R:κ×α->κ×α->Prop}
def Ahead (lt:κ->κ->Bool) (R:κ×α->κ×α->Prop) (a b:κ×α):Prop:=lt a.1 b.1=true\/(a.1=b.1/\R a b)
theorem insBy_perm (p:κ×α) (l:List (κ×α)):(Ca lt p l).Perm (p::l):=by
 induction l with
 | nil=>exact .refl _
 | cons q r ih =>
  unfold Ca
  split
  ·exact (ih.cons q).trans (.swap ..)
  ·exact .refl _
theorem AX (l:List (κ×α)):(A4 lt l).Perm l:=by
 induction l with
 | nil=>exact .refl _
 | cons p r ih=>exact (insBy_perm p _).trans (ih.cons p)
theorem insBy_stab (H:LinB lt) (p:κ×α) (l:List (κ×α)) (hl:l.Pairwise (Ahead lt R)) (hp:∀ q∈l,R p q):(Ca lt p l).Pairwise (Ahead lt R):=by
 induction l with
 | nil=>exact List.pairwise_singleton ..
 | cons q r ih =>
  have h1:=List.pairwise_cons.mp hl
  unfold Ca
  split
  ·rename_i hq
   refine List.pairwise_cons.mpr ⟨fun x hx=>?_,ih h1.2 fun y hy=>hp y (.tail _ hy)⟩
   rcases List.mem_cons.mp ((insBy_perm p r).mem_iff.mp hx) with rfl | hx
   ·exact .inl hq
   ·exact h1.1 x hx
  ·rename_i hq
   have hq:lt q.1 p.1=false:=by simpa using hq
   have first:Ahead lt R p q:=by
    cases h3:lt p.1 q.1 with
    | true=>exact .inl h3
    | false=>exact .inr ⟨H.total _ _ h3 hq,hp q (.head _)⟩
   refine List.pairwise_cons.mpr ⟨fun x hx=>?_,hl⟩
   rcases List.mem_cons.mp hx with rfl | hx'
   ·exact first
   ·rcases h1.1 x hx' with h4 | h4
    ·rcases first with h5 | h5
     ·exact .inl (H.trans _ _ _ h5 h4)
     ·exact .inl (by rw [h5.1]; exact h4)
    ·rcases first with h5 | h5
     ·exact .inl (by rw [<-h4.1]; exact h5)
     ·exact .inr ⟨h5.1.trans h4.1,hp x hx⟩
theorem F4 (H:LinB lt) (l:List (κ×α)) (hl:l.Pairwise R):(A4 lt l).Pairwise (Ahead lt R):=by
 induction l with
 | nil=>exact .nil
 | cons p r ih =>
  have h1:=List.pairwise_cons.mp hl
  exact insBy_stab H p _ (ih h1.2) fun q hq=>h1.1 q ((AX r).mem_iff.mp hq)
end
theorem F8 {α:Type} {P:α->α->Prop} (asym:∀ a b,P a b->P b a->False):∀ {l l':List α},l.Pairwise P->l'.Pairwise P->l.Perm l'->l=l'
 | [],l',_,_,hp=>(List.nil_perm.mp hp).symm
 | a::l,l',h1,h2,hp=>by
  cases l' with
  | nil=>exact absurd hp.length_eq (by simp)
  | cons b l' =>
   have c1:=List.pairwise_cons.mp h1
   have c2:=List.pairwise_cons.mp h2
   have ab:a=b:=by
    rcases List.mem_cons.mp (hp.mem_iff.mp (.head _)) with e | e
    ·exact e
    ·rcases List.mem_cons.mp (hp.mem_iff.mpr (.head l')) with e' | e'
     ·exact e'.symm
     ·exact (asym _ _ (c1.1 b e') (c2.1 a e)).elim
   subst ab
   rw [F8 asym c1.2 c2.2 (List.Perm.cons_inv hp)]
end Mine
namespace Mine
set_option tactic.hygienic true
open PySem PyProof.Rows
theorem En {κ κ' α α':Type} {lt:κ->κ->Bool} {lt':κ'->κ'->Bool} (f:κ×α->κ'×α') (h:∀ p q,lt' (f p).1 (f q).1=lt p.1 q.1) (l:List (κ×α)):A4 lt' (l.map f)=(A4 lt l).map f:=by
 have ins:∀ (p:κ×α) (l:List (κ×α)),Ca lt' (f p) (l.map f)=(Ca lt p l).map f:=by
  intro p l
  induction l with
  | nil=>rfl
  | cons q r ih =>
   show (if lt' (f q).1 (f p).1 then f q::Ca lt' (f p) (r.map f) else f p::f q::r.map f)=(if lt q.1 p.1 then q::Ca lt p r else p::q::r).map f
   rw [h,ih]
   split <;> rfl
 induction l with
 | nil=>rfl
 | cons p r ih =>
  show Ca lt' (f p) (A4 lt' (r.map f))=(Ca lt p (A4 lt r)).map f
  rw [ih,ins]
theorem lin_of (κ:KeyKind):LinB κ.blt:=⟨κ.irrefl,κ.trans,κ.total⟩
noncomputable abbrev intKey:KeyKind where
 α:=Int
 blt a b:=decide (a < b)
 irrefl a:=decide_eq_false (Int.lt_irrefl a)
 trans a b c h1 h2:=decide_eq_true (Int.lt_trans (of_decide_eq_true h1) (of_decide_eq_true h2))
 negTrans a b c h:=by
  have:=of_decide_eq_true h
  by_cases hab:a < b
  ·exact .inl (decide_eq_true hab)
  ·exact .inr (decide_eq_true (by omega))
 total a b h1 h2:=by have:=of_decide_eq_false h1; have:=of_decide_eq_false h2; omega
 keyOf v:=match v with | .int x _=>some x | _=>none
 dflt:=0
theorem intKey_oneLt:intKey.OneLt:=by
 intro prog w A E s x y a b Q ha hb h
 cases x <;> simp only [intKey,reduceCtorEq,Option.some.injEq] at ha
 cases y <;> simp only [intKey,reduceCtorEq,Option.some.injEq] at hb
 cases ha; cases hb
 exact oneLt_int h
section
variable {κ:KeyKind} {γ:Type}
structure SortZ (κ:KeyKind) (Z:List (κ.α×(Keyed×γ))):Prop where
 key:∀ z∈Z,κ.keyOf z.2.1.1=some z.1
 nd:(Z.map (·.2.1.2)).Nodup
noncomputable def AG (Z:List (κ.α×(Keyed×γ))) (p:Keyed):Nat:=(Z.map (·.2.1.2)).findIdx (· == p.2)
theorem G8 {Z:List (κ.α×(Keyed×γ))} (h:SortZ κ Z) {i:Nat} {z:κ.α×(Keyed×γ)} (e:Z[i]? = some z):AG Z z.2.1=i:=by
 unfold AG
 obtain ⟨hi,he⟩:=List.getElem?_eq_some_iff.mp e
 have hl:i < (Z.map (·.2.1.2)).length:=by rw [List.length_map]; exact hi
 refine (List.findIdx_eq hl).mpr ⟨by rw [List.getElem_map,he]; exact beq_self_eq_true _,fun j hj=>?_⟩
 refine beq_eq_false_iff_ne.mpr fun q=>?_
 have:j=i:=(List.getElem_inj (h₀:=Nat.lt_trans hj hl) (h₁:=hl) h.nd).mp (by rw [q,List.getElem_map,he])
 omega
theorem rr_at {Z:List (κ.α×(Keyed×γ))} (h:SortZ κ Z) (i:Nat) (hi:i < Z.length):RR (AG Z) (Z.map (·.2.1)).toArray i=i:=by
 unfold RR
 rw [List.getElem?_toArray,List.getElem?_map,List.getElem?_eq_getElem hi]
 exact G8 h (List.getElem?_eq_getElem hi)
theorem kk_of {xs:Array Keyed} {i:Nat} (hi:i < xs.size) {a:κ.α} (e:κ.keyOf xs[i].1=some a):KK κ xs i=a:=by
 unfold KK; rw [Array.getElem?_eq_getElem hi]; show (κ.keyOf xs[i].1).getD κ.dflt=a; rw [e]; rfl
theorem sort_is {Z:List (κ.α×(Keyed×γ))} (h:SortZ κ Z) {xs:Array Keyed} (hp:xs.Perm (Z.map (·.2.1)).toArray) (hs:AQ κ (AG Z) xs xs.size):xs.toList=(A4 κ.blt Z).map (·.2.1):=by
 have hl:xs.toList.Perm (Z.map (·.2.1)):=by have:=Array.perm_iff_toList_perm.mp hp; simpa using this
 let f:Keyed->κ.α×Keyed:=fun p=>((κ.keyOf p.1).getD κ.dflt,p)
 have key:∀ p∈xs.toList,κ.keyOf p.1=some (f p).1:=fun p hp'=>by
  obtain ⟨z,hz,rfl⟩:=List.mem_map.mp (hl.mem_iff.mp hp')
  show _=some ((κ.keyOf z.2.1.1).getD κ.dflt)
  rw [h.key z hz]; rfl
 have e1:(Z.map fun z=>(z.1,z.2.1))=(Z.map (·.2.1)).map f:=by
  rw [List.map_map]
  refine List.map_congr_left fun z hz=>?_
  show (z.1,z.2.1)=((κ.keyOf z.2.1.1).getD κ.dflt,z.2.1)
  rw [h.key z hz]; rfl
 let R:κ.α×Keyed->κ.α×Keyed->Prop:=fun a b=>AG Z a.2 < AG Z b.2
 have hR:(Z.map fun z=>(z.1,z.2.1)).Pairwise R:=by
  rw [List.pairwise_map,List.pairwise_iff_getElem]
  intro i j hi hj hij
  show AG Z Z[i].2.1 < AG Z Z[j].2.1
  rw [G8 h (List.getElem?_eq_getElem hi),G8 h (List.getElem?_eq_getElem hj)]
  exact hij
 have h1:=F4 (lin_of κ) _ hR
 have h2:(xs.toList.map f).Pairwise (Ahead κ.blt R):=by
  rw [List.pairwise_map,List.pairwise_iff_getElem]
  intro i j hi hj hij
  have hi':i < xs.size:=by simpa using hi
  have hj':j < xs.size:=by simpa using hj
  have b:=hs i j hij hj'
  unfold Bef at b
  rw [kk_of hi' (a:=(f xs[i]).1) (key _ (by simp)),kk_of hj' (a:=(f xs[j]).1) (key _ (by simp))] at b
  have r1:RR (AG Z) xs i=AG Z xs[i]:=by unfold RR; rw [Array.getElem?_eq_getElem hi']
  have r2:RR (AG Z) xs j=AG Z xs[j]:=by unfold RR; rw [Array.getElem?_eq_getElem hj']
  rw [r1,r2] at b
  rw [Array.getElem_toList,Array.getElem_toList]
  exact b
 have h3:(xs.toList.map f).Perm (A4 κ.blt (Z.map fun z=>(z.1,z.2.1))):=by
  refine (hl.map f).trans ?_
  rw [<-e1]
  exact (AX _).symm
 have asym:∀ a b,Ahead κ.blt R a b->Ahead κ.blt R b a->False:=fun a b q q'=>by
  rcases q with q | q <;> rcases q' with q' | q'
  ·have:=κ.trans _ _ _ q q'; rw [κ.irrefl] at this; cases this
  ·rw [q'.1,κ.irrefl] at q; cases q
  ·rw [q.1,κ.irrefl] at q'; cases q'
  ·have x1:AG Z a.2 < AG Z b.2:=q.2
   have x2:AG Z b.2 < AG Z a.2:=q'.2
   omega
 have h4:=F8 asym h2 h1 h3
 have h5:=En (lt:=κ.blt) (lt':=κ.blt) (fun z:κ.α×(Keyed×γ)=>(z.1,z.2.1)) (fun _ _=>rfl) Z
 rw [h5] at h4
 have h6:=congrArg (List.map Prod.snd) h4
 rw [List.map_map,List.map_map] at h6
 have:(Prod.snd∘f)=id:=rfl
 rw [this,List.map_id] at h6
 exact h6
end
end Mine
namespace Mine
set_option tactic.hygienic true
set_option maxRecDepth 100000
set_option maxHeartbeats 4000000
open PySem PyProof.Rows
section
variable {prog:Program} {w:World} {A:Around} {E:Value->Shared->Prop} {s:Shared} {a kS:Addr} {b:Bool} {vs:List Value} {keys:Array Value} {e e1:Nat} {P:PySem.Fin->Shared->Prop}
theorem upd_list {h:Heap} {a:Addr} {xs:Array Value} {n:Nat} (ho:h.get? a=some (seqObj "list" xs n)) (out:Array Value):∃ c,(h.update a (Obj.mapSeq fun _=>out)).get? a=some (seqObj "list" out c):=⟨_,get?_update_seq ho fun _=>out⟩
theorem push_list {h:Heap} {a:Addr} {xs:Array Value} {n:Nat} (ho:h.get? a=some (seqObj "list" xs n)) (v:Value):∃ c,(h.update a (Obj.mapSeq (·.push v))).get? a=some (seqObj "list" (xs.push v) c):=⟨_,get?_update_seq ho (·.push v)⟩
def But2 (a b:Addr) (h h':Heap):Prop:=∀ x o,x≠a->x≠b->h.get? x=some o->h'.get? x=some o
theorem sort_tail {st:SortSt} (hS:s.heap.get? kS=some (seqObj "list" keys e)) (hA:s.heap.get? a=some (seqObj "list" #[] e1)) (hka:kS≠a) (hsz:keys.size<=sizeLine) (hout:(arrOf st).size<=sizeLine) (hfl:failedOf st=none)
 (h:∀ h' c,But2 a kS s.heap h'->h'.get? a=some (seqObj "list" (if b=true then ((arrOf st).map (·.2)).reverse else (arrOf st).map (·.2)) c)->P (.done (.ret .none)) { s with heap:=h' }) :
 wpAny (model prog w) A (ksk_tail a b e1 (.ref kS) st) P E s:=by
 have s1:=Heap.SameBut.update s.heap kS (Obj.mapSeq fun _=>(#[]:Array Value))
 have na1:(s.heap.update kS (Obj.mapSeq fun _=>(#[]:Array Value))).get? a=some (seqObj "list" #[] e1):=(s1.2 a hka.symm).trans hA
 have s2:=Heap.SameBut.update (s.heap.update kS (Obj.mapSeq fun _=>(#[]:Array Value))) a (Obj.mapSeq fun _=>if b=true then ((arrOf st).map (·.2)).reverse else (arrOf st).map (·.2))
 obtain ⟨c2,hc2⟩:=upd_list na1 (if b=true then ((arrOf st).map (·.2)).reverse else (arrOf st).map (·.2))
 have ho:(if b=true then ((arrOf st).map (·.2)).reverse else (arrOf st).map (·.2)).size<=sizeLine:=by
  cases b with
  | false=>rw [if_neg Bool.false_ne_true,Array.size_map]; exact hout
  | true=>rw [if_pos rfl,Array.size_reverse,Array.size_map]; exact hout
 unfold ksk_tail
 dsimp only
 refine wpAny_bind (listUpdate_at hS rfl ?_ hsz (Nat.zero_le _))
 refine wpAny_bind (wpAny_letGo ?_)
 refine wpAny_bind (seqEpoch_at na1 rfl ?_)
 refine wpAny_bind (listUpdate_at na1 rfl ?_ (Nat.zero_le _) (Nat.le_succ_of_le ho))
 rw [hfl]
 simp only [bne_self_eq_false,Bool.false_eq_true,if_false]
 exact wpAny_pure (h _ c2 (fun x o h1 h2 ho=>(s2.2 x h1).trans ((s1.2 x h2).trans ho)) hc2)
noncomputable def outOf {κ:KeyKind} {γ:Type} (b:Bool) (Z:List (κ.α×(Keyed×γ))):List (κ.α×(Keyed×γ)):=match b with | true=>(A4 κ.blt Z.reverse).reverse | false=>A4 κ.blt Z
theorem out_perm {κ:KeyKind} {γ:Type} (b:Bool) (Z:List (κ.α×(Keyed×γ))):(outOf b Z).Perm Z:=by
 cases b with
 | true=>exact (List.reverse_perm _).trans ((AX _).trans (List.reverse_perm _))
 | false=>exact AX _
theorem sort_end {κ:KeyKind} {γ:Type} (hO:κ.OneLt) {Z:List (κ.α×(Keyed×γ))} (hz:SortZ κ Z) (hk:keys.zip vs.toArray=(Z.map (·.2.1)).toArray) (hlen:keys.size=vs.length) (hkk:2<=keys.size->keyKind' keys=pure oneType') (h64:vs.length < 64)
 (hS:s.heap.get? kS=some (seqObj "list" keys e)) (hA:s.heap.get? a=some (seqObj "list" #[] e1)) (hka:kS≠a)
 (h:∀ h' c,But2 a kS s.heap h'->h'.get? a=some (seqObj "list" ((outOf b Z).map (·.2.1.2)).toArray c)->P (.done (.ret .none)) { s with heap:=h' }) :
 wpAny (model prog w) A (ksk_end a b vs.toArray e1 (.ref kS) keys) P E s:=by
 have hzl:(keys.zip vs.toArray).size=vs.length:=by rw [Array.size_zip,hlen,List.size_toArray,Nat.min_self]
 have hZ:Z.length=vs.length:=by rw [<-hzl,hk,List.size_toArray,List.length_map]
 have step:∀ t:Sem PySem.Fin,wpAny (model prog w) A t P E s->wpAny (model prog w) A (if b=true then (do let _ <-rule "list.sort.reverse"; t) else t) P E s:=by
  intro t ht
  split
  ·exact wpAny_bind (wpAny_rule ht)
  ·exact ht
 obtain ⟨Y,hY⟩:∃ Y,Y=(if b=true then Z.reverse else Z):=⟨_,rfl⟩
 have hYl:Y.length=vs.length:=by rw [hY]; split <;> simp [hZ]
 have hYz:SortZ κ Y:=by
  rw [hY]
  split
  ·exact ⟨fun z hz'=>hz.key z (List.mem_reverse.mp hz'),by rw [List.map_reverse]; exact (List.reverse_perm _).nodup_iff.mpr hz.nd⟩
  ·exact hz
 have hstart:(if b=true then (keys.zip vs.toArray).reverse else keys.zip vs.toArray)=(Y.map (·.2.1)).toArray:=by
  rw [hk,hY]
  cases b with
  | false=>rfl
  | true=>rw [if_pos rfl,if_pos rfl,List.map_reverse]; simp
 have fin:∀ st:SortSt,(arrOf st).Perm (Y.map (·.2.1)).toArray->AQ κ (AG Y) (arrOf st) (arrOf st).size->failedOf st=none->wpAny (model prog w) A (ksk_tail a b e1 (.ref kS) st) P E s:=by
  intro st hp hs hf
  have hsz:(arrOf st).size=vs.length:=by rw [hp.size_eq,List.size_toArray,List.length_map,hYl]
  refine sort_tail hS hA hka (by rw [hlen,sizeLine_eq]; omega) (by rw [hsz,sizeLine_eq]; omega) hf fun h' c hb ha=>h h' c hb ?_
  rw [ha]
  have e3:=sort_is hYz hp hs
  congr 2
  apply Array.toList_inj.mp
  rw [hY] at e3
  cases b with
  | false =>
   rw [if_neg Bool.false_ne_true,Array.toList_map,e3,if_neg Bool.false_ne_true,List.map_map]; rfl
  | true =>
   rw [if_pos rfl,Array.toList_reverse,Array.toList_map,e3,if_pos rfl,List.map_map]
   show _=((A4 κ.blt Z.reverse).reverse.map _)
   rw [List.map_reverse]; rfl
 unfold ksk_end
 dsimp only
 refine step _ ?_
 rw [hstart]
 by_cases h2:vs.toArray.size < 2
 ·rw [if_pos h2,if_pos h2]
  refine wpAny_bind (wpAny_pure ?_)
  rw [StateT.run_pure]
  refine wpAny_bind (wpAny_pure ?_)
  dsimp only
  refine fin (SortSt.mk' general' (Y.map (·.2.1)).toArray #[] 7 none) (Array.Perm.refl _) (fun i j hij hj=>?_) rfl
  have hj2:j < (Y.map (·.2.1)).toArray.size:=hj
  rw [List.size_toArray,List.length_map,hYl] at hj2
  rw [List.size_toArray] at h2
  omega
 ·rw [if_neg h2,if_neg h2]
  rw [List.size_toArray] at h2
  have hY2:(Y.map (·.2.1)).toArray.size=vs.length:=by rw [List.size_toArray,List.length_map,hYl]
  rw [hkk (by omega)]
  refine wpAny_bind (wpAny_pure ?_)
  have hkeys:PyProof.Rows.KeysOf κ (Y.map (·.2.1)).toArray:=fun p hp=>by
   obtain ⟨z,hz',rfl⟩:=List.mem_map.mp (show p∈Y.map (·.2.1) from by simpa using hp)
   exact ⟨z.1,hYz.key z hz'⟩
  have hrr:∀ i,i < (Y.map (·.2.1)).toArray.size->RR (AG Y) (Y.map (·.2.1)).toArray i=i:=fun i hi=>rr_at hYz i (by rw [hY2,<-hYl] at hi; exact hi)
  generalize (Y.map (·.2.1)).toArray=a₀ at hkeys hrr hY2 fin ⊢
  have run:wpS (model prog w) A E s sortRuns' (fun _ st'=>(arrOf st').Perm a₀/\failedOf st'=none/\AQ κ (AG Y) (arrOf st') a₀.size) (SortSt.mk' oneType' a₀ #[] 7 none) :=
   wpS_sortRunsS (κ:=κ) (ρ:=AG Y) hO hkeys ⟨Array.Perm.refl _,rfl,rfl,rfl⟩ hrr (by rw [hY2]; omega) (by rw [hY2]; exact h64) fun st' a1 a2 a3=>⟨a1,a2,a3⟩
  refine wpAny_bind (wpAny_mono run ?_ fun _ _ e=>e)
  rintro ⟨⟨⟩,st'⟩ s' ⟨rfl,hp,hf,hs⟩
  dsimp only
  exact fin st' hp (by rw [hp.size_eq]; exact hs) hf
end
end Mine
namespace Mine
set_option tactic.hygienic true
set_option maxRecDepth 100000
open PySem PyProof.Rows
theorem RepDs.length {fz:Addr->Option Obj} {ds:List PyData} {vs:List Value} (r:RepDs fz ds vs):ds.length=vs.length:=r.all.length
theorem rep_all {δ:Type} {fz:Addr->Option Obj} {d:δ->PyData} {v:δ->Value}:∀ {l:List δ},(∀ z∈l,Au fz (d z) (v z))->RepDs fz (l.map d) (l.map v)
 | [],_=>trivial
 | z::l,h=>⟨h z (.head _),rep_all fun y hy=>h y (.tail _ hy)⟩
theorem RepDs.at_ {fz:Addr->Option Obj}:∀ {ds:List PyData} {vs:List Value} {j:Nat} {d:PyData} {v:Value},RepDs fz ds vs->ds[j]? = some d->vs[j]? = some v->Au fz d v
 | _::_,_::_,0,_,_,r,e1,e2=>by obtain rfl:=Option.some.inj e1; obtain rfl:=Option.some.inj e2; exact r.1
 | _::_,_::_,j+1,_,_,r,e1,e2=>RepDs.at_ (j:=j) r.2 e1 e2
 | [],_,_,_,_,_,e1,_=>by simp at e1
 | _::_,[],_,_,_,r,_,_=>r.elim
theorem vals_nodup {fz:Addr->Option Obj} {ds:List PyData} {vs:List Value} (r:RepDs fz ds vs) (h:ds.Nodup):vs.Nodup:=by
 rw [List.Nodup,List.pairwise_iff_getElem]
 intro i j hi hj hij q
 have hl:=r.length
 have h1:=r.at_ (List.getElem?_eq_getElem (show i < ds.length by omega)) (List.getElem?_eq_getElem hi)
 have h2:=r.at_ (List.getElem?_eq_getElem (show j < ds.length by omega)) (List.getElem?_eq_getElem hj)
 rw [q] at h1
 have e:=Au.inj _ _ _ ((Dy h2).symm.trans (Dy h1)) h1 h2
 have:=(List.getElem_inj (h₀:=by omega) (h₁:=by omega) h).mp e
 omega
theorem sort_ready {κ:KeyKind} {β:Type} {fz:Addr->Option Obj} (emb:β->κ.α) (lt:β->β->Bool) (hlt:∀ x y,κ.blt (emb x) (emb y)=lt x y) {bs:List β} {kA:Array Value} {vs:List Value} {xs:List PyData} (hkey:∀ (j:Nat) (x:Value) (y:β),kA.toList[j]? = some x->bs[j]? = some y->κ.keyOf x=some (emb y)) (hk:kA.size=bs.length) (hb:bs.length=vs.length)
 (r:RepDs fz xs vs) (nd:xs.Nodup):∃ Z:List (κ.α×(Keyed×PyData)),SortZ κ Z/\kA.zip vs.toArray=(Z.map (·.2.1)).toArray/\∀ rev,RepDs fz (CF rev lt (bs.zip xs)) ((outOf rev Z).map (·.2.1.2)):=by
 have hx:=r.length
 have hkl:kA.toList.length=bs.length:=by simpa using hk
 obtain ⟨Y,hY⟩:∃ Y:List (β×(Keyed×PyData)),Y=bs.zip ((kA.toList.zip vs).zip xs):=⟨_,rfl⟩
 have mem:∀ y∈Y,∃ j:Nat,bs[j]? = some y.1/\kA.toList[j]? = some y.2.1.1/\vs[j]? = some y.2.1.2/\xs[j]? = some y.2.2:=fun y hy=>by
  obtain ⟨j,hj⟩:=List.mem_iff_getElem?.mp hy
  rw [hY] at hj
  obtain ⟨h1,h2⟩:=List.getElem?_zip_eq_some.mp hj
  obtain ⟨h3,h4⟩:=List.getElem?_zip_eq_some.mp h2
  obtain ⟨h5,h6⟩:=List.getElem?_zip_eq_some.mp h3
  exact ⟨j,h1,h5,h6,h4⟩
 have e1:Y.map (fun y=>y.2.1)=kA.toList.zip vs:=by
  have:Y.map (fun y=>y.2.1)=(Y.map (·.2)).map (·.1):=by rw [List.map_map]; rfl
  rw [this,hY,List.map_snd_zip (by simp; omega),List.map_fst_zip (by simp; omega)]
 have e2:Y.map (fun y=>(y.1,y.2.2))=bs.zip xs:=by
  refine List.ext_getElem? fun j=>?_
  rw [List.getElem?_map,hY]
  by_cases hj:j < bs.length
  ·have a1:bs[j]? = some bs[j]:=List.getElem?_eq_getElem hj
   have a2:kA.toList[j]? = some (kA.toList[j]'(by omega)):=List.getElem?_eq_getElem _
   have a3:vs[j]? = some (vs[j]'(by omega)):=List.getElem?_eq_getElem _
   have a4:xs[j]? = some (xs[j]'(by omega)):=List.getElem?_eq_getElem _
   have b1:(bs.zip ((kA.toList.zip vs).zip xs))[j]? = some (bs[j],((kA.toList[j]'(by omega),vs[j]'(by omega)),xs[j]'(by omega))) :=
    List.getElem?_zip_eq_some.mpr ⟨a1,List.getElem?_zip_eq_some.mpr ⟨List.getElem?_zip_eq_some.mpr ⟨a2,a3⟩,a4⟩⟩
   have b2:(bs.zip xs)[j]? = some (bs[j],xs[j]'(by omega)):=List.getElem?_zip_eq_some.mpr ⟨a1,a4⟩
   rw [b1,b2]; rfl
  ·rw [List.getElem?_eq_none (by simp; omega),List.getElem?_eq_none (by simp; omega)]; rfl
 refine ⟨Y.map fun y=>(emb y.1,y.2),⟨fun z hz=>?_,?_⟩,?_,fun rev=>?_⟩
 ·obtain ⟨y,hy,rfl⟩:=List.mem_map.mp hz
  obtain ⟨j,h1,h2,_⟩:=mem y hy
  exact hkey j _ _ h2 h1
 ·rw [List.map_map]
  have:Y.map ((fun z:κ.α×(Keyed×PyData)=>z.2.1.2)∘fun y=>(emb y.1,y.2))=(Y.map fun y=>y.2.1).map (·.2):=by rw [List.map_map]; rfl
  rw [this,e1,List.map_snd_zip (by omega)]
  exact vals_nodup r nd
 ·rw [List.map_map]
  show _=(Y.map fun y=>y.2.1).toArray
  rw [e1]
  apply Array.toList_inj.mp
  simp
 ·have m1:∀ L:List (β×(Keyed×PyData)),A4 κ.blt (L.map fun y=>(emb y.1,y.2))=(A4 lt L).map fun y=>(emb y.1,y.2):=fun L=>En _ (fun p q=>hlt _ _) L
  have m2:∀ L:List (β×(Keyed×PyData)),A4 lt (L.map fun y=>(y.1,y.2.2))=(A4 lt L).map fun y=>(y.1,y.2.2):=fun L=>En (lt:=lt) (lt':=lt) (fun y:β×(Keyed×PyData)=>(y.1,y.2.2)) (fun p q=>rfl) L
  have good:∀ L:List (β×(Keyed×PyData)),(∀ y∈L,y∈Y)->RepDs fz (L.map fun y=>y.2.2) (L.map fun y=>y.2.1.2):=fun L hL=>rep_all fun y hy=>by
   obtain ⟨j,_,_,h3,h4⟩:=mem y (hL y hy)
   exact r.at_ h4 h3
  cases rev with
  | false =>
   show RepDs fz ((A4 lt (bs.zip xs)).map (·.2)) ((A4 κ.blt (Y.map fun y=>(emb y.1,y.2))).map (·.2.1.2))
   rw [<-e2,m1,m2,List.map_map,List.map_map]
   exact good _ fun y hy=>(AX _).mem_iff.mp hy
  | true =>
   show RepDs fz ((A4 lt (bs.zip xs).reverse).reverse.map (·.2)) ((A4 κ.blt (Y.map fun y=>(emb y.1,y.2)).reverse).reverse.map (·.2.1.2))
   rw [<-e2,<-List.map_reverse,<-List.map_reverse,m1,m2,<-List.map_reverse,<-List.map_reverse,List.map_map,List.map_map]
   exact good _ fun y hy=>List.mem_reverse.mp ((AX _).mem_iff.mp (List.mem_reverse.mp hy))
end Mine
namespace Mine
open PySem PySem.Calls PyProof.Rows
structure KeyK where
 β:Type
 κ:KeyKind
 one:κ.OneLt
 emb:β->κ.α
 lt:β->β->Bool
 hlt:∀ x y,κ.blt (emb x) (emb y)=lt x y
 kv:β->V
 key:∀ {T:Top} {g:G} {y:β} {X:Value},An T g (kv y) X->κ.keyOf X=some (emb y)
 kind:∀ {T:Top} {g:G} {bs:List β} {kA:Array Value},Aj T g (bs.map kv) kA.toList->2<=kA.size->keyKind' kA=pure oneType'
section
variable {n i:Nat} {c:Cx} {ρ:Af} {g g₀ g':G} {σ σ₁:Aa} {s s':Shared} {q nm:Str} {ap lp:Pos} {b:Expr} {sc:Scope} {f D kS:Addr} {key a:E} {K:KeyK} {bs:List K.β} {xs:List PyData} {vs:List Value} {e1:Nat} {rev:Bool} {P:PySem.Fin->Shared->Prop} {Er:Value->Shared->Prop}
theorem sort_made {h':Heap} {m:Nat} {ys:List Value} {ws:List V} (hn:∀ b,b∈[D,kS]->g₀.hid b=none) (le:G.le [D,kS] g₀ g) (H:Has c.T g σ s) (hD:g.hid D≠none) (hK:g.hid kS≠none) (hb:But2 D kS s.heap h') (ho:h'.get? D=some (seqObj "list" ys.toArray m)) (hr:Aj c.T g ws ys) (hl:ws.length<=line):Be c.toAr g₀ σ ws (.ref D) { s with heap:=h' }:=by
 have hi:∀ c,c∈[D,kS]->g.hid c≠none:=all_cons hD (Av hK)
 obtain ⟨hd,H',le',_⟩:=H.back (its:=[D,kS]) (own:=[]) (s':={ s with heap:=h' }) (List.append_nil _▸le) hn (fun b o hb' e=>hb b o (fun q=>hb' (q▸.head _)) (fun q=>hb' (q▸.tail _ (.head _))) e) (H.away hi)
 have F:=H.away hi D (.head _)
 exact fun R_ k=>k _ D ys.toArray m le' H' ⟨F.1,(le'.hid D List.not_mem_nil).trans (hn D (.head _)),F.2.1,F.2.2⟩ ho (by rw [List.toList_toArray]; exact Aj.eta hr) hl
theorem sort_keys (hk:Aq (fun w b=>SE n key (ρ.set i (some w)) σ (K.kv b) σ) (xs.map .d) bs) (nd:xs.Nodup) (h64:xs.length < 64) (L:DX c.K i nm sc) (hb:IsE key (c.K.lsub nm sc) b) (f0:By g₀ c.fe) (x0:Loc c ρ g₀) (hn:∀ b,b∈[D,kS]->g₀.hid b=none) (le:G.le [D,kS] g₀ g) (I:Inv (n+1) c ρ g σ s) (lm:LamAt g c.env q nm ap b sc f) (r:Aj c.T g (xs.map .d) vs) (hD:g.hid D=some (seqObj "list" #[] e1)) (hS:g.hid kS=some (seqObj "list" #[] 0)) (hDk:kS≠D)
 (h:∀ s',Be c.toAr g₀ σ ((CF rev K.lt (bs.zip xs)).map .d) (.ref D) s'->P (.done (.ret .none)) s') :
 wpAny (model c.T.prog c.T.w) c.A.in1.in1 (ksk_rest D (.ref f) rev vs.toArray e1 (.ref kS)) P Er s:=by
 have hlb:xs.length=bs.length:=(List.length_map _).symm.trans hk.length
 have hlv:xs.length=vs.length:=(List.length_map _).symm.trans r.length
 have mD:D∈[D,kS]:=.head _
 have mK:kS∈[D,kS]:=.tail _ (.head _)
 unfold ksk_rest
 refine wpAny_bind (wpAny_rule ?_)
 rw [List.forIn_toArray]
 refine wpAny_bind (ksk_fold (fun j s'=>∀ R_:Prop,(∀ g' kA e,G.le [D,kS] g g'->Inv (n+1) c ρ g' σ s'->g'.hid D=some (seqObj "list" #[] e1)->g'.hid kS=some (seqObj "list" kA e)->Aj c.T g' ((bs.take j).map K.kv) kA.toList->R_)->R_) vs 0 s (fun R_ k=>k g #[] 0 (.refl _ _) I hD hS trivial) ?step ?done)
 case step =>
  intro j x s' hx hz
  rw [Nat.zero_add] at hz ⊢
  refine hz _ fun g' kA e le' I' hD' hS' rk=>?_
  have hj:j < bs.length:=hlb▸hlv▸(List.getElem?_eq_some_iff.mp hx).1
  have hw:(xs.map V.d)[j]? = some (.d (xs[j]'(hlb▸hj))):=by rw [List.getElem?_map,List.getElem?_eq_getElem]; rfl
  obtain ⟨y,hy,hse⟩:=hk.get hw
  obtain ⟨x',hx',rx⟩:=r.get hw
  obtain rfl:=As hx hx'
  have t:=lam_call hse L hb I' (lm.mono le'.toup) (An.mono le'.toup _ _ rx)
  refine wpAny_bind (wpAny_attempt (wpAny_mono t (fun k s'' p=>p _ fun g'' le'' H'' rk'=>?_) fun _ _ hf=>hf.elim))
  dsimp only
  have hS'':=(le''.hid kS List.not_mem_nil).trans hS'
  have nk:=(H''.hd _ _ hS'').ex (AB rfl (by decide))
  obtain ⟨c2,hc2⟩:=push_list nk k
  have hsz:kA.size=j:=by rw [<-Array.length_toList,<-rk.length,List.length_map,List.length_take]; exact Nat.min_eq_left (Nat.le_of_lt hj)
  have hjl:j+1<=sizeLine:=by rw [<-AH]; exact Nat.le_trans (Nat.le_of_lt (Nat.lt_of_le_of_lt hj (hlb▸h64))) (by decide)
  refine wpAny_bind (listUpdate_at nk rfl ?_ (by rw [hsz]; exact Nat.le_of_succ_le hjl) (Nat.le_trans (Nat.le_of_eq (Array.size_push ..)) (by rw [hsz]; exact Nat.le_succ_of_le hjl)))
  have sb:=Heap.SameBut.update s''.heap kS (Obj.mapSeq (·.push k))
  have le3:G.le [D,kS] g'' (g''.hide kS (seqObj "list" (kA.push k) c2)):=.hide mK
  have I3:=(I'.step le'' H'').far f0 x0 hn le3 (H''.rehide (s':={ s'' with heap:=s''.heap.update kS (Obj.mapSeq (·.push k)) }) hS'' (fun b x q e=>(sb.2 b q).trans e) hc2)
  refine wpAny_pure ⟨rfl,fun R_ kk=>kk _ (kA.push k) c2 (le'.trans (le''.toO.trans le3)) I3 ((G.hide_ne hDk.symm).trans ((le''.hid D List.not_mem_nil).trans hD')) G.hide_self ?_⟩
  rw [Array.toList_push,List.take_add_one,hy,List.map_append]
  exact (Aj.mono (le''.toup.trans le3.toup) rk).append ⟨An.mono le3.toup _ _ rk',trivial⟩
 case done =>
  intro s' hz
  rw [Nat.zero_add,<-hlv,hlb,List.take_length] at hz
  refine hz _ fun g' kA e le' I' hD' hS' rk=>?_
  have hsz:kA.size=bs.length:=by rw [<-Array.length_toList,<-rk.length,List.length_map]
  have rx:RepDs g'.fz xs vs:=Aj.toD (Aj.mono le'.toup r)
  obtain ⟨Z,hz,hzk,hout⟩:=sort_ready K.emb K.lt K.hlt (bs:=bs) (kA:=kA) (fun j x y hx hy=>by
   obtain ⟨x',hx',rx⟩:=rk.get (k:=j) (a:=K.kv y) (by rw [List.getElem?_map,hy]; rfl)
   obtain rfl:=As hx hx'
   exact K.key rx) hsz (hlb.symm.trans hlv) rx nd
  refine wpAny_bind (listItems_at ((I'.has.hd _ _ hS').ex (AB rfl (by decide))) rfl ?_)
  refine sort_end K.one hz hzk (hsz.trans (hlb.symm.trans hlv)) (K.kind rk) (hlv▸h64) ((I'.has.hd _ _ hS').ex (AB rfl (by decide))) ((I'.has.hd _ _ hD').ex (AB rfl (by decide))) hDk fun h' m hb2 ho2=>h _ ?_
  refine sort_made hn (le.trans le') I'.has (Ay hD') (Ay hS') hb2 ho2 (Aj.ofD (hout rev)) ?_
  have hp:=(hout rev).length
  rw [List.length_map,hp,List.length_map,(out_perm rev Z).length_eq,<-List.length_map (f:=(·.2.1)),<-List.size_toArray,<-hzk,Array.size_zip,hsz,List.size_toArray,<-hlv,hlb,Nat.min_self]
  exact Nat.le_trans (Nat.le_of_lt (hlb▸h64)) (by decide)
end
end Mine
namespace Mine
open PySem PySem.Calls PyProof.Rows
section
variable {n i:Nat} {c:Cx} {ρ:Af} {g g₀ g':G} {σ σ₁:Aa} {s s':Shared} {q nm:Str} {ap lp:Pos} {b:Expr} {sc:Scope} {f D kS:Addr} {key a:E} {K:KeyK} {bs:List K.β} {xs:List PyData} {vs:List Value} {e1:Nat} {rev:Bool} {x:V} {X:Value} {kw:List (Str×Value)}
theorem sort_call (hk:Aq (fun w b=>SE n key (ρ.set i (some w)) σ (K.kv b) σ) (xs.map .d) bs) (nd:xs.Nodup) (h64:xs.length < 64) (L:DX c.K i nm sc) (hb:IsE key (c.K.lsub nm sc) b) (I:Inv (n+1) c ρ g σ s) (lm:LamAt g c.env q nm ap b sc f) (hx:Ag σ x=some (xs.map .d)) (r:An c.T g x X)
 (ha1:∀ l,argsOk "sorted" ⟨[.ref l],kw⟩) (ha2:∀ x,argsOk "list.sort" ⟨[.ref x],kw⟩) (ht:∀ x,Builtin.«list.sort» ⟨[.ref x],kw⟩=ksk_tree x (.ref f) rev):c.wp (call (.builtin "sorted") [X] kw) (Be c.toAr g σ ((CF rev K.lt (bs.zip xs)).map .d)) s:=by
 refine A3 I.has r hx (R_:=fun X=>c.wp (call (.builtin "sorted") [X] kw) (Be c.toAr g σ ((CF rev K.lt (bs.zip xs)).map .d)) s) fun l ys hL rws _ hyl=>?_
 have hL':s.heap.IsList l ys.toList.toArray:=by rw [Array.toArray_toList]; exact hL
 have hvl:ys.toList.length<=sizeLine:=by rw [Array.length_toList,<-AH]; exact hyl
 generalize ys.toList=vs at rws hL' hvl
 refine call_function_entry_kw kind_sorted plain_sorted entry_sorted (ha1 _) ?_
 unfold Builtin.«sorted»
 refine wpAny_bind (m:=checkCount "sorted" 1 1 _) (wpAny_pure ?_)
 refine wpAny_bind (collect_list hL' ?_ hvl)
 refine wpAny_bind (wpAny_newList ?_ hvl)
 obtain ⟨h1,hh1⟩:∃ h1,h1=(s.heap.push (seqObj "list" #[] 0)).update s.heap.objs.size (Obj.mapSeq (· ++ vs.toArray)):=⟨_,rfl⟩
 have z1:h1.objs.size=s.heap.objs.size+1:=by rw [hh1,Heap.size_update]; exact Heap.size_push ..
 have k1:∀ b o,s.heap.get? b=some o->h1.get? b=some o:=fun b o e=>by
  rw [hh1,Heap.get?_update_ne _ _ _ _ (Nat.ne_of_lt (Heap.lt_size e))]
  exact Heap.get?_push_of_some _ e
 show wpAny _ _ _ _ _ { s with heap:=((s.heap.push (seqObj "list" #[] 0)).update s.heap.objs.size (Obj.mapSeq (· ++ vs.toArray))).push (seqObj "list" vs.toArray 0) }
 rw [<-hh1]
 have hoD:(h1.push (seqObj "list" vs.toArray 0)).get? h1.objs.size=some (seqObj "list" vs.toArray 0):=Heap.get?_push_size _ rfl
 have z2:(h1.push (seqObj "list" vs.toArray 0)).objs.size=s.heap.objs.size+2:=by rw [Heap.size_push,z1]
 refine wpAny_bind (wpAny_holding (wpAny_call_entry_kw (s:={ s with heap:=h1.push (seqObj "list" vs.toArray 0) }) slot_list_sort ⟨_,hoD,rfl⟩ entry_list_sort ?body (ha2 _)))
 show wpAny (model c.T.prog c.T.w) c.A.in1.in1 (Builtin.«list.sort» ⟨[.ref h1.objs.size],kw⟩) _ _ _
 rw [ht h1.objs.size]
 generalize hDe:h1.objs.size=D at hoD z1 ⊢
 generalize hh2:h1.push (seqObj "list" vs.toArray 0)=h2 at hoD z2 ⊢
 have k2:∀ b o,s.heap.get? b=some o->h2.get? b=some o:=fun b o e=>by rw [<-hh2]; exact Heap.get?_push_of_some _ (k1 b o e)
 have hD0:s.heap.get? D=none:=Heap.get?_none_of_le (by rw [z1]; exact Nat.le_succ _)
 have s3:=Heap.SameBut.update h2 D (Obj.mapSeq fun _=>(#[]:Array Value))
 obtain ⟨e1,ho3⟩:=upd_list hoD #[]
 unfold ksk_tree
 refine wpAny_bind (listItems_at hoD rfl ?_)
 refine wpAny_bind (listUpdate_at hoD rfl ?_ (by rw [List.size_toArray]; exact hvl) (Nat.zero_le _))
 refine wpAny_bind (seqEpoch_at ho3 rfl ?_)
 refine wpAny_bind (wpAny_newTuple ?_ hvl)
 refine wpAny_bind (wpAny_newList ?_ (Nat.zero_le _))
 refine wpAny_holding ?_
 obtain ⟨h3,hh3⟩:∃ h3,h3=h2.update D (Obj.mapSeq fun _=>(#[]:Array Value)):=⟨_,rfl⟩
 have z3:h3.objs.size=s.heap.objs.size+2:=by rw [hh3,Heap.size_update,z2]
 rw [<-hh3] at ho3 s3
 have k3:∀ b o,s.heap.get? b=some o->h3.get? b=some o:=fun b o e=>(s3.2 b fun q=>Am hD0 (q▸e)).trans (k2 b o e)
 show wpAny _ _ (ksk_rest D (.ref f) rev vs.toArray e1 (.ref ((h2.update D (Obj.mapSeq fun _=>(#[]:Array Value))).push (seqObj "tuple" vs.toArray 0)).objs.size)) _ _ { s with heap:=((h2.update D (Obj.mapSeq fun _=>(#[]:Array Value))).push (seqObj "tuple" vs.toArray 0)).push (seqObj "list" #[] 0) }
 rw [<-hh3]
 have z4:(h3.push (seqObj "tuple" vs.toArray 0)).objs.size=s.heap.objs.size+3:=by rw [Heap.size_push,z3]
 generalize hh4:h3.push (seqObj "tuple" vs.toArray 0)=h4 at z4 ⊢
 have k4:∀ b o,h3.get? b=some o->(h4.push (seqObj "list" #[] 0)).get? b=some o:=fun b o e=>by rw [<-hh4]; exact Heap.get?_push_of_some _ (Heap.get?_push_of_some _ e)
 have hk0:s.heap.get? h4.objs.size=none:=Heap.get?_none_of_le (by rw [z4]; exact Nat.le_add_right _ _)
 have hDk:h4.objs.size≠D:=by rw [z4,z1]; exact Nat.ne_of_gt (Nat.add_lt_add_left (by decide) _)
 have hoS:(h4.push (seqObj "list" #[] 0)).get? h4.objs.size=some (seqObj "list" #[] 0):=Heap.get?_push_size _ rfl
 generalize h4.objs.size=kS at hk0 hDk hoS ⊢
 have hoD4:=k4 D _ ho3
 have FD:=I.has.free hD0
 have FK:=I.has.free hk0
 have H0:=I.has.keep (s':={ s with heap:=h4.push (seqObj "list" #[] 0) }) fun b o e=>k4 b o (k3 b o e)
 have H1:=FD.hide H0 hoD4
 have H2:=Dv.hide (g:=g.hide D (seqObj "list" #[] e1)) ⟨FK.fz,(G.hide_ne hDk).trans FK.hid,FK.mu,FK.tab⟩ H1 hoS
 have hn:∀ b,b∈[D,kS]->g.hid b=none:=all_cons FD.hid (Av FK.hid)
 have le:G.le [D,kS] g ((g.hide D (seqObj "list" #[] e1)).hide kS (seqObj "list" #[] 0)):=G.le.trans (g':=g.hide D (seqObj "list" #[] e1)) (.hide (.head _)) (.hide (.tail _ (.head _)))
 exact sort_keys hk nd h64 L hb I.frs I.loc hn le (I.far I.frs I.loc hn le H2) (lm.mono le.toup) (Aj.mono le.toup rws) ((G.hide_ne hDk.symm).trans G.hide_self) G.hide_self hDk fun s' h=>⟨_,rfl,wpAny_pure ⟨_,rfl,h⟩⟩
theorem lam_some {t:Option (Addr×Str)} (h:t.isSome=true):∃ a q,t=some (a,q):=by
 cases t with
 | none=>exact ff_ h
 | some p=>exact ⟨p.1,p.2,rfl⟩
theorem SL.sortk (ha:SE (n+1) a ρ σ x σ₁) (hx:Ag σ₁ x=some (xs.map .d)) (nd:xs.Nodup) (h64:xs.length < 64) (hk:Aq (fun w b=>SE n key (ρ.set i (some w)) σ₁ (K.kv b) σ₁) (xs.map .d) bs):SL (n+1) (.sortk rev a i key) ρ σ ((CF rev K.lt (bs.zip xs)).map .d) σ₁:=fun c g s ex hc I =>
 hc (fun ex=>c.wp (eval ex c.env) (Be c.toAr g σ₁ ((CF rev K.lt (bs.zip xs)).map .d)) s) fun nm np z pm ap b sc lp kp k cp kp' p h1 h2 h3=>by
 refine wpAny_bind (Bp I h1 fun f hf=>?_)
 obtain rfl:f=.builtin "sorted" := hf
 have st:=(Bj a h2).star c.env []
 have L:=(lamOk_ok h3.1).2
 obtain ⟨t,q,hl⟩:=lam_some (lamOk_ok h3.1).1
 cases rev with
 | false =>
  refine PyProof.Rows.callWith_kw (e:=z) (rest:=[]) ?_ (by rw [st]; rfl) (by rw [st]; rfl)
  rw [st]
  refine spliced_cons (wpAny_mono (ha c g s z h2 I) (fun X s₁ p1=>p1 _ fun g₁ le1 a₁ r1=>spliced_nil ?_) fun _ _ h=>h)
  have I1:=I.step le1 a₁
  refine PyProof.Rows.kws_cons (wpAny_mono (lam_make L hl I1) (fun Z s2 p2=>p2 _ fun g2 le2 a2 r2=>?_) fun _ _ h=>h)
  obtain ⟨f,rfl,lm⟩:=r2
  refine PyProof.Rows.kws_nil (wpAny_mono (sort_call hk nd h64 L h3.2 (I1.step le2 a2) lm hx (An.mono le2.toup _ _ r1) (fun l=>ksk_s1 _ _) (fun x=>ksk_l1 _ _) (fun x=>ksk_t1 _ _)) (fun _ _ p=>p.after (le1.trans le2)) fun _ _ h=>h)
 | true =>
  refine PyProof.Rows.callWith_kw (e:=z) (rest:=[]) ?_ (by rw [st]; rfl) (by rw [st]; rfl)
  rw [st]
  refine spliced_cons (wpAny_mono (ha c g s z h2 I) (fun X s₁ p1=>p1 _ fun g₁ le1 a₁ r1=>spliced_nil ?_) fun _ _ h=>h)
  have I1:=I.step le1 a₁
  refine PyProof.Rows.kws_cons (wpAny_mono (lam_make L hl I1) (fun Z s2 p2=>p2 _ fun g2 le2 a2 r2=>?_) fun _ _ h=>h)
  obtain ⟨f,rfl,lm⟩:=r2
  refine PyProof.Rows.kws_cons (wpAny_Constant_bool (PyProof.Rows.kws_nil (wpAny_mono (sort_call hk nd h64 L h3.2 (I1.step le2 a2) lm hx (An.mono le2.toup _ _ r1) (fun l=>ksk_s2 _ _ _) (fun x=>ksk_l2 _ _ _) (fun x=>ksk_t2 _ _ _)) (fun _ _ p=>p.after (le1.trans le2)) fun _ _ h=>h)))
noncomputable def intK:KeyK:=⟨Int,intKey,intKey_oneLt,id,fun a b=>decide (a < b),fun _ _=>rfl,vi,fun {T g y X} r=>by obtain ⟨t,rfl⟩:=r; rfl,fun {T g bs kA} r h2=>ksk_kind (kz:=bs) (by
 generalize kA.toList=l at r
 induction bs generalizing l with
 | nil=>rw [r.nil]; exact .nil
 | cons b bs ih=>obtain ⟨X,l,rfl,⟨t,rfl⟩,r'⟩:=Aq.cons r; exact .cons b t (ih l r')) h2⟩
theorem strs_are {T:Top} {g:G}:∀ {bs:List Str} {l:List Value},Aj T g (vss bs) l->StrsAre l bs
 | [],l,r=>by rw [r.nil]; exact .nil
 | b::bs,l,r=>by obtain ⟨X,l,rfl,⟨t,rfl,_⟩,r'⟩:=Aq.cons r; exact .cons b t (strs_are r')
noncomputable def strK:KeyK:=⟨Str,PyProof.Rows.strKind,strKind_oneLt,fun x=>x.cps.toList,AN,fun _ _=>rfl,fun x=>.d (.str x),fun {T g y X} r=>by obtain ⟨t,rfl,_⟩:=r; rfl,fun {T g bs kA} r h2=>by
 have q1:=strs_are r
 obtain ⟨v₁,v₂,rest,ev⟩:∃ v₁ v₂ rest,kA.toList=v₁::v₂::rest:=by
  rw [<-Array.length_toList] at h2
  generalize kA.toList=l at h2
  rcases l with _ | ⟨v₁,_ | ⟨v₂,rest⟩⟩
  ·exact absurd h2 (by decide)
  ·exact absurd h2 (Nat.not_succ_le_self 1)
  ·exact ⟨v₁,v₂,rest,rfl⟩
 have ek:kA=(v₁::v₂::rest).toArray:=by rw [<-ev,Array.toArray_toList]
 rw [ev] at q1
 rw [ek]
 exact keyKind_strs q1⟩
end
end Mine
namespace Mine
open PySem PySem.Calls PyProof.Rows
theorem strs_reverse {vs:List Value} {ss:List Str} (hS:StrsAre vs ss):StrsAre vs.reverse ss.reverse:=by
 have h1:=strsAre_map vs.reverse (fun v hv=>hS.all v (List.mem_reverse.mp hv))
 rwa [List.map_reverse,hS.strs] at h1
section
variable {prog:Program} {w:World} {A:Around} {E:Value->Shared->Prop} {s:Shared}
theorem two_of {vs:List Value} (h:¬vs.toArray.size < 2):∃ v₁ v₂ rest,vs=v₁::v₂::rest:=by
 rcases vs with _ | ⟨v₁,_ | ⟨v₂,rest⟩⟩
 ·exact absurd (Nat.zero_lt_succ _) h
 ·exact absurd (Nat.lt_succ_self _) h
 ·exact ⟨v₁,v₂,rest,rfl⟩
theorem GN {a:Addr} {vs:List Value} {ss:List Str} {n:Nat} {P:PySem.Fin->Shared->Prop} (ho:s.heap.get? a=some (seqObj "list" vs.toArray n)) (hS:StrsAre vs ss) (h64:vs.length < 64)
 (h:∀ (out:Array Value) (ss':List Str),StrsAre out.toList ss'->ss'.Perm ss->sortedS ss'.reverse=true->P (.done (.ret .none)) { s with heap:=sortedHeap s.heap a vs out }) :
 wpAny (model prog w) A (Builtin.«list.sort» ⟨[.ref a],[(Str.ofString "reverse",.bool true)]⟩) P E s:=by
 rw [list_sort_rev]
 have ha:a < s.heap.objs.size:=Heap.lt_size ho
 refine wpAny_bind (listItems_at ho rfl ?_)
 refine wpAny_bind (listUpdate_at ho rfl ?_)
 obtain ⟨e1,ho1⟩:∃ e1,(s.heap.update a (Obj.mapSeq fun _=>#[])).get? a=some (seqObj "list" #[] e1):=⟨_,get?_update_seq ho (fun _=>#[])⟩
 refine wpAny_bind (seqEpoch_at ho1 rfl ?_)
 refine wpAny_bind (wpAny_newTuple ?_)
 refine wpAny_bind (wpAny_newList ?_)
 refine wpAny_holding ?_
 have ho6:(((s.heap.update a (Obj.mapSeq fun _=>#[])).push (seqObj "tuple" vs.toArray 0)).push (seqObj "list" #[] 0)).get? a=some (seqObj "list" #[] e1):=by
  rw [Heap.get?_push_ne _ _ _ (by rw [size_push',Heap.size_update]; exact Nat.ne_of_lt (Nat.lt_succ_of_lt ha)),Heap.get?_push_ne _ _ _ (by rw [Heap.size_update]; exact Nat.ne_of_lt ha)]
  exact ho1
 show wpAny (model prog w) A _ P E { s with heap:=((s.heap.update a (Obj.mapSeq fun _=>#[])).push (seqObj "tuple" vs.toArray 0)).push (seqObj "list" #[] 0) }
 have hsz:vs.toArray.size=vs.length:=List.size_toArray ..
 have fin:∀ st':SortSt,(arrOf st').Perm (pairsOf vs)->SortedToK PyProof.Rows.strKind (arrOf st') (pairsOf vs).size->P (.done (.ret .none)) { s with heap:=sortedHeap s.heap a vs ((arrOf st').map (·.2)).reverse }:=by
  intro st' hp hs
  obtain ⟨ss',h1,h2,h3⟩:=sorted_out_str hS hp hs
  exact h _ ss'.reverse (by rw [Array.toList_reverse]; exact strs_reverse h1) ((List.reverse_perm _).trans h2) (by rw [List.reverse_reverse]; exact h3)
 have hstart:(vs.toArray.zip vs.toArray).reverse.Perm (pairsOf vs):=Array.perm_iff_toList_perm.mpr (by rw [Array.toList_reverse]; exact List.reverse_perm _)
 dsimp only
 rw [if_pos rfl]
 refine wpAny_bind (wpAny_rule ?_)
 rw [if_pos rfl]
 by_cases h2:vs.toArray.size < 2
 ·rw [if_pos h2,if_pos h2]
  refine wpAny_bind (wpAny_pure ?_)
  rw [StateT.run_pure]
  refine wpAny_bind (wpAny_pure ?_)
  dsimp only
  refine wpAny_bind (seqEpoch_at ho6 rfl ?_)
  rw [if_pos rfl]
  refine wpAny_bind (listUpdate_at ho6 rfl ?_ (hsz2:=by
   rw [Array.size_reverse,Array.size_map]; show (vs.toArray.zip vs.toArray).reverse.size<=_; rw [Array.size_reverse,Array.size_zip,sizeLine_eq]; omega))
  simp only [bne_self_eq_false,Bool.false_eq_true,↓reduceIte]
  refine wpAny_pure (fin (SortSt.mk' general' (vs.toArray.zip vs.toArray).reverse #[] 7 none) hstart ?_)
  intro i j hij hj
  have:i=j:=by rw [pairsOf_size] at hj; omega
  subst this; exact KeyOrd.kle_refl _
 ·rw [if_neg h2,if_neg h2]
  obtain ⟨v₁,v₂,rest,rfl⟩:=two_of h2
  rw [keyKind_strs hS]
  refine wpAny_bind (wpAny_pure ?_)
  refine wpAny_bind (wpAny_mono (wpS_sortRunsK (κ:=PyProof.Rows.strKind) strKind_oneLt (a₀:=pairsOf (v₁::v₂::rest))
   (st:=SortSt.mk' oneType' ((v₁::v₂::rest).toArray.zip (v₁::v₂::rest).toArray).reverse #[] 7 none)
   (Q:=fun _ st'=>(arrOf st').Perm (pairsOf (v₁::v₂::rest))/\failedOf st'=none/\SortedToK PyProof.Rows.strKind (arrOf st') (pairsOf (v₁::v₂::rest)).size)
   hS.keysOf ⟨hstart,rfl,rfl,rfl⟩ (by rw [pairsOf_size]; exact Nat.le_add_left _ _) (by rw [pairsOf_size]; exact h64) fun st' a1 a2 a3=>⟨a1,a2,a3⟩) ?_ fun _ _ e=>e)
  rintro ⟨⟨⟩,st'⟩ s' ⟨rfl,hp,hf,hs⟩
  dsimp only
  refine wpAny_bind (seqEpoch_at ho6 rfl ?_)
  rw [if_pos rfl]
  refine wpAny_bind (listUpdate_at ho6 rfl ?_ (hsz2:=by
   rw [Array.size_reverse]
   refine Nat.le_trans (Nat.le_of_eq ((Array.size_map ..).trans (hp.size_eq.trans (pairsOf_size _)))) ?_; rw [sizeLine_eq]; omega))
  rw [hf]
  simp only [bne_self_eq_false,Bool.false_eq_true,↓reduceIte]
  exact wpAny_pure (fin st' hp hs)
theorem FP {l:Addr} {vs:List Value} {ss:List Str} {Q:Value->Shared->Prop} (hl:s.heap.IsList l vs.toArray) (hS:StrsAre vs ss) (h64:vs.length < 64)
 (h:∀ (out:Array Value) (ss':List Str),StrsAre out.toList ss'->ss'.Perm ss->sortedS ss'.reverse=true->Q (.ref (s.heap.objs.size+1)) { s with heap:=sortedAll s.heap vs out }) :
 wpAny (model prog w) A (call (.builtin "sorted") [.ref l] [(Str.ofString "reverse",.bool true)]) Q E s:=by
 refine call_function_entry_kw kind_sorted plain_sorted entry_sorted (args_sorted_rev _ _) ?_
 unfold Builtin.«sorted»
 refine wpAny_bind (m:=checkCount "sorted" 1 1 _) (wpAny_pure ?_)
 refine wpAny_bind (collect_list hl ?_)
 refine wpAny_bind (wpAny_newList ?_)
 have hsz:((s.heap.push (seqObj "list" #[] 0)).update s.heap.objs.size (Obj.mapSeq (· ++ vs.toArray))).objs.size=s.heap.objs.size+1:=by
  rw [Heap.size_update,size_push']
 have hoL:(((s.heap.push (seqObj "list" #[] 0)).update s.heap.objs.size (Obj.mapSeq (· ++ vs.toArray))).push (seqObj "list" vs.toArray 0)).get? (s.heap.objs.size+1)=some (seqObj "list" vs.toArray 0):=by
  rw [<-hsz]; exact Heap.get?_push_size _ rfl
 show wpAny _ _ _ _ _ { s with heap:=((s.heap.push (seqObj "list" #[] 0)).update s.heap.objs.size (Obj.mapSeq (· ++ vs.toArray))).push (seqObj "list" vs.toArray 0) }
 rw [hsz]
 refine wpAny_bind (wpAny_holding (wpAny_call_entry_kw slot_list_sort ⟨_,hoL,rfl⟩ entry_list_sort (GN hoL hS h64 fun out ss' a1 a2 a3=>⟨_,rfl,?_⟩) (args_list_sort_rev _ _)))
 exact wpAny_pure ⟨_,rfl,h out ss' a1 a2 a3⟩
end
section
variable {n:Nat} {ρ:Af} {σ σ₁:Aa} {a:E} {x:V} {ss ss':List Str}
theorem SL.sortr (ha:SE n a ρ σ x σ₁) (h:Ag σ₁ x=some (vss ss)) (hl:ss.length < 64) (hp:ss'.Perm ss) (hs:CD ss'.reverse):SL n (.sortr a) ρ σ (vss ss') σ₁:=fun c g s ex hc I =>
 hc (fun ex=>c.wp (eval ex c.env) (Be c.toAr g σ₁ (vss ss')) s) fun nm np z k cp kp p h1 h2=>by
 refine wpAny_bind (Bp I h1 fun f hf=>?_)
 obtain rfl:f=.builtin "sorted" := hf
 have st:=(Bj a h2).star c.env []
 refine PyProof.Rows.callWith_kw (e:=z) (rest:=[]) ?_ (by rw [st]; rfl) (by rw [st]; rfl)
 rw [st]
 refine spliced_cons (wpAny_mono (ha c g s z h2 I) (fun X s₁ p1=>p1 _ fun g₁ le1 a₁ r1=>spliced_nil ?_) fun _ _ h=>h)
 refine PyProof.Rows.kws_cons (wpAny_Constant_bool (PyProof.Rows.kws_nil ?_))
 refine A3 a₁ r1 h (R_:=fun X=>c.wp (call (.builtin "sorted") [X] [(Str.ofString "reverse",.bool true)]) (Be c.toAr g σ₁ (vss ss')) s₁) fun a ys hL hr hn _=>?_
 obtain ⟨h1,h2⟩:=E4 hr
 have hlen:ys.toList.length < 64:=by rw [<-hr.length,List.length_map]; exact hl
 refine FP (vs:=ys.toList) hL h1 hlen fun out out' a1 a2 a3=>?_
 have e:out'.reverse=ss'.reverse:=CM (BQ a3) hs ((List.reverse_perm _).trans (a2.trans (hp.symm.trans (List.reverse_perm _).symm)))
 obtain rfl:out'=ss':=by rw [<-List.reverse_reverse out',e,List.reverse_reverse]
 obtain ⟨k,hk⟩:=PyProof.Rows.sortedAll_at s₁.heap ys.toList out
 exact Be.after le1 (.made a₁ (fun b o e=>PyProof.Rows.sortedAll_old e) (Heap.get?_none_of_le (Nat.le_succ _)) hk (G6 a1 fun z hz=>h2 z (a2.mem_iff.mp hz)) (by rw [List.length_map,hp.length_eq]; exact Nat.le_trans (Nat.le_of_lt hl) (by decide)))
end
end Mine
namespace Mine
open PySem
noncomputable def noE:Expr:=.Name ("" : Str) ⟨0,0,0,0⟩
noncomputable def noS:Stmt:=.Pass ⟨0,0,0,0⟩
noncomputable def kids (x:Expr):List Expr :=
 match x with
 | .BinOp l _ r _=>[l,r]
 | .UnaryOp _ y _=>[y]
 | .BoolOp _ vs _=>vs
 | .Compare l _ rs _=>l::rs
 | .Tuple vs _ _=>vs
 | .List vs _=>vs
 | .Subscript v y _=>[v,y]
 | .Call f vs _ _=>f::vs
 | .Attribute y _ _=>[y]
 | .ListComp y gs _ _=>(match gs with | [g]=>y::g.target::g.iter::g.ifs | _=>[])
 | _=>[]
noncomputable def kE (x:Expr) (i:Nat):Expr:=(kids x)[i]?.getD noE
noncomputable def nmE (x:Expr):Str:=match x with | .Name n _=>n | _=>("" : Str)
noncomputable def FR (x:Expr):Nat:=match x with | .Constant _ k _=>k | .Tuple _ k _=>k | _=>0
noncomputable def sliE (x:Expr):Option Expr×Option Expr:=match x with | .Slice l u _ _=>(l,u) | _=>(none,none)
noncomputable def kwE (x:Expr) (i:Nat):Keyword:=match x with | .Call _ _ ks _=>ks[i]?.getD ⟨none,noE,noE.pos⟩ | _=>⟨none,noE,noE.pos⟩
noncomputable def lamE (x:Expr):Arguments×Expr×Scope:=match x with | .Lambda as b sc _=>(as,b,sc) | _=>(⟨[],[],none,[],[],none,[]⟩,noE,default)
noncomputable def argE (as:Arguments):Arg:=as.args[0]?.getD ⟨("" : Str),none,noE.pos⟩
noncomputable def scE (x:Expr):Scope:=match x with | .ListComp _ _ sc _=>sc | _=>default
noncomputable def BZ (x:Expr):Expr:=.Name (nmE x) x.pos
noncomputable def kwA (x:Expr):Arg:=argE (lamE (kwE x 0).value).1
noncomputable def kwB (x:Expr):Expr:=(lamE (kwE x 0).value).2.1
noncomputable def kwS (x:Expr):Scope:=(lamE (kwE x 0).value).2.2
noncomputable def emNs (x:Expr):List Nat->Nat->List Expr
 | [],_=>[]
 | _::r,k=>BZ (kE x k)::emNs x r (k+1)
noncomputable def emT (ts:List Nat) (x:Expr):Expr :=
 match ts with
 | [_]=>BZ x
 | ts=>.Tuple (emNs x ts 0) (FR x) x.pos
noncomputable def em:E->(Expr->Expr)×(Expr->Nat->List Expr)
 | .cst d=>(fun x=>.Constant (toC d) (FR x) x.pos,fun _ _=>[])
 | .var _=>(BZ,fun _ _=>[])
 | .ty _=>(BZ,fun _ _=>[])
 | .glb _=>(BZ,fun _ _=>[])
 | .bin op a b=>(fun x=>.BinOp ((em a).1 (kE x 0)) op ((em b).1 (kE x 1)) x.pos,fun _ _=>[])
 | .neg a=>(fun x=>.UnaryOp .USub ((em a).1 (kE x 0)) x.pos,fun _ _=>[])
 | .not a=>(fun x=>.UnaryOp .Not ((em a).1 (kE x 0)) x.pos,fun _ _=>[])
 | .bop op es=>(fun x=>.BoolOp op ((em es).2 x 0) x.pos,fun _ _=>[])
 | .cmp op a b=>(fun x=>.Compare ((em a).1 (kE x 0)) [op] [(em b).1 (kE x 1)] x.pos,fun _ _=>[])
 | .nil=>(id,fun _ _=>[])
 | .cons a r=>(id,fun x k=>(em a).1 (kE x k)::(em r).2 x (k+1))
 | .tup es=>(fun x=>.Tuple ((em es).2 x 0) (FR x) x.pos,fun _ _=>[])
 | .lst es=>(fun x=>.List ((em es).2 x 0) x.pos,fun _ _=>[])
 | .dct=>(fun x=>.Dict [] [] x.pos,fun _ _=>[])
 | .sub a i=>(fun x=>.Subscript ((em a).1 (kE x 0)) ((em i).1 (kE x 1)) x.pos,fun _ _=>[])
 | .slc a lo hi=>(fun x=>.Subscript ((em a).1 (kE x 0)) (.Slice (if Bq lo then none else some ((em lo).1 ((sliE (kE x 1)).1.getD noE))) (if Bq hi then none else some ((em hi).1 ((sliE (kE x 1)).2.getD noE))) none (kE x 1).pos) x.pos,fun _ _=>[])
 | .bi _ es=>(fun x=>.Call (BZ (kE x 0)) ((em es).2 x 1) [] x.pos,fun _ _=>[])
 | .maxd a z=>(fun x=>.Call (BZ (kE x 0)) [(em a).1 (kE x 1)] [⟨some (Str.ofString "default"),(em z).1 (kwE x 0).value,(kwE x 0).pos⟩] x.pos,fun _ _=>[])
 | .sortr a=>(fun x=>.Call (BZ (kE x 0)) [(em a).1 (kE x 1)] [⟨some (Str.ofString "reverse"),.Constant (.bool true) (FR (kwE x 0).value) (kwE x 0).value.pos,(kwE x 0).pos⟩] x.pos,fun _ _=>[])
 | .sortk rev a _ key=>(fun x=>.Call (BZ (kE x 0)) [(em a).1 (kE x 1)] (⟨some (Str.ofString "key"),.Lambda (DR (kwA x).arg (kwA x).pos) ((em key).1 (kwB x)) (kwS x) (kwE x 0).value.pos,(kwE x 0).pos⟩ ::
  bif rev then [⟨some (Str.ofString "reverse"),.Constant (.bool true) (FR (kwE x 1).value) (kwE x 1).value.pos,(kwE x 1).pos⟩] else []) x.pos,fun _ _=>[])
 | .fcall _ es=>(fun x=>.Call (BZ (kE x 0)) ((em es).2 x 1) [] x.pos,fun _ _=>[])
 | .meth m o es=>(fun x=>.Call (.Attribute ((em o).1 (kE (kE x 0) 0)) (Str.ofString (D5 m)) (kE x 0).pos) ((em es).2 x 1) [] x.pos,fun _ _=>[])
 | .attr nm o=>(fun x=>.Attribute ((em o).1 (kE x 0)) nm x.pos,fun _ _=>[])
 | .mcall nm o es=>(fun x=>.Call (.Attribute ((em o).1 (kE (kE x 0) 0)) nm (kE x 0).pos) ((em es).2 x 1) [] x.pos,fun _ _=>[])
 | .new=>(fun x=>.Call (BZ (kE x 0)) [] [] x.pos,fun _ _=>[])
 | .comp elt ts it ifs=>(fun x=>.ListComp ((em elt).1 (kE x 0)) [⟨emT ts (kE x 1),(em it).1 (kE x 2),(em ifs).2 x 3,0⟩] (scE x) x.pos,fun _ _=>[])
 | .range es=>(fun x=>.Call (BZ (kE x 0)) ((em es).2 x 1) [] x.pos,fun _ _=>[])
 | .zip a b=>(fun x=>.Call (BZ (kE x 0)) [(em a).1 (kE x 1),(em b).1 (kE x 2)] [] x.pos,fun _ _=>[])
 | .enum a=>(fun x=>.Call (BZ (kE x 0)) [(em a).1 (kE x 1)] [] x.pos,fun _ _=>[])
 | .sset _ a=>(fun x=>.Call (BZ (kE x 0)) [.Call (BZ (kE (kE x 1) 0)) [(em a).1 (kE (kE x 1) 1)] [] (kE x 1).pos] [] x.pos,fun _ _=>[])
 | .glx _=>(BZ,fun _ _=>[])
noncomputable def okNs (K:Kx) (x:Expr):List Nat->Nat->Bool
 | [],_=>true
 | i::r,k=>K.canWr i (nmE (kE x k))&&okNs K x r (k+1)
noncomputable def okT (K:Kx) (ts:List Nat) (x:Expr):Bool :=
 match ts with
 | [i]=>K.canWr i (nmE x)
 | ts=>okNs K x ts 0
noncomputable def no1 (_:Expr):Bool:=false
noncomputable def no2 (_:Expr) (_:Nat):Bool:=false
noncomputable def okAt (apos pos:Pos) (n:Nat):Bool:=apos.endLine == pos.line&&Nat.blt n 20
noncomputable def ok:E->Kx->(Expr->Bool)×(Expr->Nat->Bool)
 | .cst d,_=>(fun _=>cOk d,no2)
 | .var i,K=>(fun x=>K.isVar (nmE x)&&K.isAt i (nmE x),no2)
 | .ty t,K=>(fun x=>Du K (.ty t) (nmE x),no2)
 | .glb d,K=>(fun x=>Du K (.cst d) (nmE x),no2)
 | .bin _ a b,K=>(fun x=>(ok a K).1 (kE x 0)&&(ok b K).1 (kE x 1),no2)
 | .neg a,K=>(fun x=>(ok a K).1 (kE x 0),no2)
 | .not a,K=>(fun x=>(ok a K).1 (kE x 0),no2)
 | .bop _ es,K=>(fun x=>(ok es K).2 x 0,no2)
 | .cmp _ a b,K=>(fun x=>(ok a K).1 (kE x 0)&&(ok b K).1 (kE x 1),no2)
 | .nil,_=>(no1,fun _ _=>true)
 | .cons a r,K=>(no1,fun x k=>(ok a K).1 (kE x k)&&(ok r K).2 x (k+1))
 | .tup es,K=>(fun x=>(ok es K).2 x 0,no2)
 | .lst es,K=>(fun x=>(ok es K).2 x 0,no2)
 | .dct,_=>(fun _=>true,no2)
 | .sub a i,K=>(fun x=>(ok a K).1 (kE x 0)&&(ok i K).1 (kE x 1),no2)
 | .slc a lo hi,K=>(fun x=>(ok a K).1 (kE x 0)&&((Bq lo||(ok lo K).1 ((sliE (kE x 1)).1.getD noE))&&(Bq hi||(ok hi K).1 ((sliE (kE x 1)).2.getD noE))),no2)
 | .bi b es,K=>(fun x=>Du K (biGV b) (nmE (kE x 0))&&(ok es K).2 x 1,no2)
 | .maxd a z,K=>(fun x=>Du K (.bi .max) (nmE (kE x 0))&&((ok a K).1 (kE x 1)&&(ok z K).1 (kwE x 0).value),no2)
 | .sortr a,K=>(fun x=>Du K (.bi .sorted) (nmE (kE x 0))&&(ok a K).1 (kE x 1),no2)
 | .sortk _ a i key,K=>(fun x=>Du K (.bi .sorted) (nmE (kE x 0))&&((ok a K).1 (kE x 1)&&(lamOk K i (kwA x).arg (kwS x)&&(ok key (K.lsub (kwA x).arg (kwS x))).1 (kwB x))),no2)
 | .fcall f es,K=>(fun x=>Du K (.fn f) (nmE (kE x 0))&&(ok es K).2 x 1,no2)
 | .meth _ o es,K=>(fun x=>(ok o K).1 (kE (kE x 0) 0)&&((ok es K).2 x 1&&okAt (kE x 0).pos x.pos ((em es).2 x 1).length),no2)
 | .attr _ o,K=>(fun x=>(ok o K).1 (kE x 0),no2)
 | .mcall _ o es,K=>(fun x=>(ok o K).1 (kE (kE x 0) 0)&&((ok es K).2 x 1&&okAt (kE x 0).pos x.pos ((em es).2 x 1).length),no2)
 | .new,K=>(fun x=>Du K .cls (nmE (kE x 0)),no2)
 | .comp elt ts it ifs,K=>(fun x=>(ok it K).1 (kE x 2)&&((Gb K ts (scE x)&&F3 ts it)&&(okT (K.sub ts (scE x)) ts (kE x 1)&&((ok elt (K.sub ts (scE x))).1 (kE x 0)&&(ok ifs (K.sub ts (scE x))).2 x 3))),no2)
 | .range es,K=>(fun x=>Du K (.ty "range") (nmE (kE x 0))&&(ok es K).2 x 1,no2)
 | .zip a b,K=>(fun x=>Du K (.ty "zip") (nmE (kE x 0))&&((ok a K).1 (kE x 1)&&(ok b K).1 (kE x 2)),no2)
 | .enum a,K=>(fun x=>Du K (.ty "enumerate") (nmE (kE x 0))&&(ok a K).1 (kE x 1),no2)
 | .sset b a,K=>(fun x=>Du K (.bi b) (nmE (kE x 0))&&(Du K (.ty "set") (nmE (kE (kE x 1) 0))&&(ok a K).1 (kE (kE x 1) 1)),no2)
 | .glx k,K=>(fun x=>Du K (.exc k) (nmE x),no2)
section
variable {K:Kx} {x:Expr} {k:Nat}
theorem Ao {a b:Bool} (h:(a&&b)=true):a=true:=(Bool.and_eq_true_iff.mp h).1
theorem Ae {a b:Bool} (h:(a&&b)=true):b=true:=(Bool.and_eq_true_iff.mp h).2
theorem dataIs_eq {a b:PyData} (h:Fz a b=true):a=b:=by
 cases a with
 | int i=>cases b with
  | int j=>rw [eq_of_beq (show (i == j)=true from h)]
  | _=>exact ff_ h
 | str i=>cases b with
  | str j=>rw [eq_of_beq (show (i == j)=true from h)]
  | _=>exact ff_ h
 | _=>exact ff_ h
theorem gvIs_eq {v w:GV} (h:gvIs v w=true):v=w:=by
 cases v with
 | fn f=>cases w with
  | fn g=>rw [eq_of_beq (show (f == g)=true from h)]
  | _=>exact ff_ h
 | bi f=>cases w with
  | bi g=>cases f <;> cases g <;> first | rfl | exact ff_ h
  | _=>exact ff_ h
 | ty f=>cases w with
  | ty g=>rw [eq_of_beq (show (f == g)=true from h)]
  | _=>exact ff_ h
 | cst f=>cases w with
  | cst g=>rw [dataIs_eq (show Fz f g=true from h)]
  | _=>exact ff_ h
 | cls=>cases w with
  | cls=>rfl
  | _=>exact ff_ h
 | exc f=>cases w with
  | exc g=>rw [eq_of_beq (show (f == g)=true from h)]
  | _=>exact ff_ h
theorem Bb {v:GV} {n:Str} (h:Du K v n=true):K.to v n:=by
 refine ⟨Ao h,?_⟩
 have h:=Ae h
 cases e:K.gl n with
 | none=>rw [e] at h; exact ff_ h
 | some w=>rw [e] at h; rw [gvIs_eq (show gvIs w v=true from h)]
theorem isAt_of {i:Nat} {n:Str} (h:K.isAt i n=true):K.vars[i]? = some n:=by
 have h:(match K.vars[i]? with | some m=>m == n | none=>false)=true:=h
 cases e:K.vars[i]? with
 | none=>rw [e] at h; exact ff_ h
 | some m=>rw [e] at h; rw [eq_of_beq (show (m == n)=true from h)]
theorem EP:∀ {ts:List Nat} {k:Nat},okNs K x ts k=true->IsNs K ts (emNs x ts k)
 | [],_,_=>rfl
 | _::_,_,h=>fun R_ f=>f _ _ _ (Ao h) (EP (Ae h))
theorem isT_of {ts:List Nat} (h:okT K ts x=true):IsT K ts (emT ts x):=fun R_ h1 h2=>by
 match ts,h with
 | [],h=>exact h2 _ _ _ (fun q=>nomatch q) (EP h)
 | [i],h=>exact h1 i _ _ h
 | i::j::l,h=>exact h2 _ _ _ (fun q=>nomatch q) (EP h)
theorem at_of {a p:Pos} {n:Nat} (h:okAt a p n=true):a.endLine=p.line/\n < 20:=⟨eq_of_beq (Ao h),Nat.blt_eq.mp (Ae h)⟩
theorem opt_of {A:Expr->Prop} {e:E} {t:Expr} {b:Bool} (h:(Bq e||b)=true) (hb:b=true->A t):(if Bq e then IsNone else IsSome A) (if Bq e then none else some t):=by
 by_cases q:Bq e=true
 ·rw [if_pos q,if_pos q]; rfl
 ·rw [if_neg q,if_neg q]
  rw [Bool.not_eq_true] at q
  rw [q] at h
  exact fun R_ k=>k _ (hb h)
end
theorem Aw:∀ e:E,(∀ K x,(ok e K).1 x=true->(Is e K).1 ((em e).1 x))/\(∀ K x k,(ok e K).2 x k=true->(Is e K).2 ((em e).2 x k))
 | .cst d=>⟨fun K x h R_ k=>k _ _ h,fun _ _ _ h=>ff_ h⟩
 | .var i=>⟨fun K x h R_ k=>k _ _ ⟨Ao h,isAt_of (Ae h)⟩,fun _ _ _ h=>ff_ h⟩
 | .ty t=>⟨fun K x h R_ k=>k _ _ (Bb h),fun _ _ _ h=>ff_ h⟩
 | .glb d=>⟨fun K x h R_ k=>k _ _ (Bb h),fun _ _ _ h=>ff_ h⟩
 | .bin op a b=>⟨fun K x h R_ k=>k _ _ _ ((Aw a).1 K _ (Ao h)) ((Aw b).1 K _ (Ae h)),fun _ _ _ h=>ff_ h⟩
 | .neg a=>⟨fun K x h R_ k=>k _ _ ((Aw a).1 K _ h),fun _ _ _ h=>ff_ h⟩
 | .not a=>⟨fun K x h R_ k=>k _ _ ((Aw a).1 K _ h),fun _ _ _ h=>ff_ h⟩
 | .bop op es=>⟨fun K x h R_ k=>k _ _ ((Aw es).2 K _ _ h),fun _ _ _ h=>ff_ h⟩
 | .cmp op a b=>⟨fun K x h R_ k=>k _ _ _ ((Aw a).1 K _ (Ao h)) ((Aw b).1 K _ (Ae h)),fun _ _ _ h=>ff_ h⟩
 | .nil=>⟨fun _ _ h=>ff_ h,fun _ _ _ _=>rfl⟩
 | .cons a r=>⟨fun _ _ h=>ff_ h,fun K x _ h R_ k=>k _ _ ((Aw a).1 K _ (Ao h)) ((Aw r).2 K _ _ (Ae h))⟩
 | .tup es=>⟨fun K x h R_ k=>k _ _ _ ((Aw es).2 K _ _ h),fun _ _ _ h=>ff_ h⟩
 | .lst es=>⟨fun K x h R_ k=>k _ _ ((Aw es).2 K _ _ h),fun _ _ _ h=>ff_ h⟩
 | .dct=>⟨fun K x h R_ k=>k _,fun _ _ _ h=>ff_ h⟩
 | .sub a i=>⟨fun K x h R_ k=>k _ _ _ ((Aw a).1 K _ (Ao h)) ((Aw i).1 K _ (Ae h)),fun _ _ _ h=>ff_ h⟩
 | .slc a lo hi=>⟨fun K x h R_ k=>k _ _ _ _ _ ((Aw a).1 K _ (Ao h)) (opt_of (Ao (Ae h)) ((Aw lo).1 K _)) (opt_of (Ae (Ae h)) ((Aw hi).1 K _)),fun _ _ _ h=>ff_ h⟩
 | .bi b es=>⟨fun K x h R_ k=>k _ _ _ _ (Bb (Ao h)) ((Aw es).2 K _ _ (Ae h)),fun _ _ _ h=>ff_ h⟩
 | .maxd a z=>⟨fun K x h R_ k=>k _ _ _ _ _ _ (Bb (Ao h)) ((Aw a).1 K _ (Ao (Ae h))) ((Aw z).1 K _ (Ae (Ae h))),fun _ _ _ h=>ff_ h⟩
 | .sortr a=>⟨fun K x h R_ k=>k _ _ _ _ _ _ _ (Bb (Ao h)) ((Aw a).1 K _ (Ae h)),fun _ _ _ h=>ff_ h⟩
 | .sortk rev a i key=>⟨fun K x h R_ k=>k _ _ _ _ _ _ _ _ _ _ _ _ _ (Bb (Ao h)) ((Aw a).1 K _ (Ao (Ae h))) ⟨Ao (Ae (Ae h)),(Aw key).1 _ _ (Ae (Ae (Ae h)))⟩,fun _ _ _ h=>ff_ h⟩
 | .fcall f es=>⟨fun K x h R_ k=>k _ _ _ _ (Bb (Ao h)) ((Aw es).2 K _ _ (Ae h)),fun _ _ _ h=>ff_ h⟩
 | .meth m o es=>⟨fun K x h R_ k=>k _ _ _ _ ((Aw o).1 K _ (Ao h)) ((Aw es).2 K _ _ (Ao (Ae h))) (at_of (Ae (Ae h))).1 (at_of (Ae (Ae h))).2,fun _ _ _ h=>ff_ h⟩
 | .attr nm o=>⟨fun K x h R_ k=>k _ _ ((Aw o).1 K _ h),fun _ _ _ h=>ff_ h⟩
 | .mcall nm o es=>⟨fun K x h R_ k=>k _ _ _ _ ((Aw o).1 K _ (Ao h)) ((Aw es).2 K _ _ (Ao (Ae h))) (at_of (Ae (Ae h))).1 (at_of (Ae (Ae h))).2,fun _ _ _ h=>ff_ h⟩
 | .new=>⟨fun K x h R_ k=>k _ _ _ _ (Bb h) rfl,fun _ _ _ h=>ff_ h⟩
 | .comp elt ts it ifs=>⟨fun K x h R_ k=>k _ _ _ _ _ _ ((Aw it).1 K _ (Ao h)) ⟨Ao (Ao (Ae h)),Ae (Ao (Ae h))⟩ (isT_of (Ao (Ae (Ae h)))) ((Aw elt).1 _ _ (Ao (Ae (Ae (Ae h))))) ((Aw ifs).2 _ _ _ (Ae (Ae (Ae (Ae h))))),fun _ _ _ h=>ff_ h⟩
 | .range es=>⟨fun K x h R_ k=>k _ _ _ _ (Bb (Ao h)) ((Aw es).2 K _ _ (Ae h)),fun _ _ _ h=>ff_ h⟩
 | .zip a b=>⟨fun K x h R_ k=>k _ _ _ _ (Bb (Ao h)) fun R_ k=>k _ _ ((Aw a).1 K _ (Ao (Ae h))) fun R_ k=>k _ _ ((Aw b).1 K _ (Ae (Ae h))) rfl,fun _ _ _ h=>ff_ h⟩
 | .enum a=>⟨fun K x h R_ k=>k _ _ _ _ (Bb (Ao h)) fun R_ k=>k _ _ ((Aw a).1 K _ (Ae h)) rfl,fun _ _ _ h=>ff_ h⟩
 | .sset b a=>⟨fun K x h R_ k=>k _ _ _ _ _ _ _ (Bb (Ao h)) (Bb (Ao (Ae h))) ((Aw a).1 K _ (Ae (Ae h))),fun _ _ _ h=>ff_ h⟩
 | .glx j=>⟨fun K x h R_ k=>k _ _ (Bb h),fun _ _ _ h=>ff_ h⟩
end Mine
namespace Mine
open PySem
noncomputable def stE (st:Stmt):List Expr :=
 match st with
 | .Assign ts v _=>v::ts
 | .Expr v _=>[v]
 | .If t _ _ _=>[t]
 | .While t _ _ _=>[t]
 | .For t i _ _ _=>[t,i]
 | .Return v _=>(match v with | some v=>[v] | none=>[])
 | .Raise v _ _=>(match v with | some v=>[v] | none=>[])
 | .Try _ hs _ _ _=>(match hs with | h::_=>(match h with | .ExceptHandler t _ _ _=>(match t with | some t=>[t] | none=>[])) | []=>[])
 | _=>[]
noncomputable def hPos (st:Stmt):Pos:=match st with | .Try _ hs _ _ _=>(match hs with | h::_=>(match h with | .ExceptHandler _ _ _ p=>p) | []=>st.pos) | _=>st.pos
noncomputable def stB (st:Stmt):List Stmt×List Stmt :=
 match st with
 | .If _ x y _=>(x,y)
 | .For _ _ b _ _=>(b,[])
 | .While _ b _ _=>(b,[])
 | .Try b hs _ _ _=>(b,match hs with | h::_=>(match h with | .ExceptHandler _ _ b _=>b) | []=>[])
 | _=>([],[])
noncomputable def sE (st:Stmt) (i:Nat):Expr:=(stE st)[i]?.getD noE
noncomputable def hsS (st:Stmt):List ExceptHandler:=match st with | .Try _ hs _ _ _=>hs | _=>[]
noncomputable def noH:ExceptHandler:=.ExceptHandler none none [] noS.pos
noncomputable def hdT (h:ExceptHandler):Expr:=match h with | .ExceptHandler t _ _ _=>t.getD noE
noncomputable def hdN (h:ExceptHandler):Str:=match h with | .ExceptHandler _ n _ _=>n.getD ("" : Str)
noncomputable def hdB (h:ExceptHandler):Stmt:=match h with | .ExceptHandler _ _ b _=>b.headD noS
noncomputable def hdP (h:ExceptHandler):Pos:=match h with | .ExceptHandler _ _ _ p=>p
noncomputable def emH:List (Nat×Nat×E)->List ExceptHandler->List ExceptHandler
 | [],_=>[]
 | (_,_,e)::r,l=>.ExceptHandler (some (BZ (hdT (l.headD noH)))) (some (hdN (l.headD noH))) [.Return (some ((em e).1 (sE (hdB (l.headD noH)) 0))) (hdB (l.headD noH)).pos] (hdP (l.headD noH))::emH r l.tail
noncomputable def okH (K:Kx):List (Nat×Nat×E)->List ExceptHandler->Bool
 | [],_=>true
 | (k,i,e)::r,l=>(Du K (.exc k) (nmE (hdT (l.headD noH)))&&((K.canWr i (hdN (l.headD noH))&&K.kd (hdN (l.headD noH)) .local)&&(ok e K).1 (sE (hdB (l.headD noH)) 0)))&&okH K r l.tail
theorem isH_of {K:Kx}:∀ {hs:List (Nat×Nat×E)} {l:List ExceptHandler},okH K hs l=true->IsHs K hs (emH hs l)
 | [],_,_=>rfl
 | (_,_,e)::_,_,h=>fun R_ f=>f _ _ _ _ _ _ _ (Bb (Ao (Ao h))) ⟨Ao (Ao (Ae (Ao h))),Ae (Ao (Ae (Ao h)))⟩ ((Aw e).1 K _ (Ae (Ae (Ao h)))) (isH_of (Ae h))
noncomputable def emS:S->(Stmt->Stmt)×(List Stmt->List Stmt)
 | .any=>(id,id)
 | .nil=>(id,fun _=>[])
 | .cons s r=>(id,fun l=>(emS s).1 (l.headD noS)::(emS r).2 l.tail)
 | .asg _ e=>(fun st=>.Assign [BZ (sE st 1)] ((em e).1 (sE st 0)) st.pos,id)
 | .unp xs e=>(fun st=>.Assign [.Tuple (emNs (sE st 1) xs 0) (FR (sE st 1)) (sE st 1).pos] ((em e).1 (sE st 0)) st.pos,id)
 | .swp xs es=>(fun st=>.Assign [.Tuple (emNs (sE st 1) xs 0) (FR (sE st 1)) (sE st 1).pos] (.Tuple ((em es).2 (sE st 0) 0) (FR (sE st 0)) (sE st 0).pos) st.pos,id)
 | .set o i v=>(fun st=>.Assign [.Subscript ((em o).1 (kE (sE st 1) 0)) ((em i).1 (kE (sE st 1) 1)) (sE st 1).pos] ((em v).1 (sE st 0)) st.pos,id)
 | .exp e=>(fun st=>.Expr ((em e).1 (sE st 0)) st.pos,id)
 | .ite c a b=>(fun st=>.If ((em c).1 (sE st 0)) ((emS a).2 (stB st).1) ((emS b).2 (stB st).2) st.pos,id)
 | .for_ ts it body=>(fun st=>.For (emT ts (sE st 0)) ((em it).1 (sE st 1)) ((emS body).2 (stB st).1) [] st.pos,id)
 | .while_ c body=>(fun st=>.While ((em c).1 (sE st 0)) ((emS body).2 (stB st).1) [] st.pos,id)
 | .ret e=>(fun st=>.Return (some ((em e).1 (sE st 0))) st.pos,id)
 | .rse _ es=>(fun st=>.Raise (some (.Call (BZ (kE (sE st 0) 0)) ((em es).2 (sE st 0) 1) [] (sE st 0).pos)) none st.pos,id)
 | .try_ b _ h=>(fun st=>.Try ((emS b).2 (stB st).1) [.ExceptHandler (some (BZ (sE st 0))) none ((emS h).2 (stB st).2) (hPos st)] [] [] st.pos,id)
 | .tryAs b hs=>(fun st=>.Try ((emS b).2 (stB st).1) (emH hs (hsS st)) [] [] st.pos,id)
 | .sw2 _ _ es=>(fun st=>.Assign [.Tuple [BZ (kE (sE st 1) 0),BZ (kE (sE st 1) 1)] (FR (sE st 1)) (sE st 1).pos] (.Tuple ((em es).2 (sE st 0) 0) (FR (sE st 0)) (sE st 0).pos) st.pos,id)
 | .setd _ nm=>(fun st=>.Assign [.Attribute (BZ (kE (sE st 1) 0)) nm (sE st 1).pos] (.Dict [] [] (sE st 0).pos) st.pos,id)
 | .swl _ _ _ es=>(fun st=>.Assign [.Tuple [BZ (kE (sE st 1) 0),BZ (kE (sE st 1) 1),BZ (kE (sE st 1) 2)] (FR (sE st 1)) (sE st 1).pos] (.Tuple ((em es).2 (sE st 0) 0) (FR (sE st 0)) (sE st 0).pos) st.pos,id)
noncomputable def noL (_:List Stmt):Bool:=false
noncomputable def okS:S->Kx->(Stmt->Bool)×(List Stmt->Bool)
 | .any,_=>(fun _=>true,fun _=>true)
 | .nil,_=>(fun _=>false,fun _=>true)
 | .cons s r,K=>(fun _=>false,fun l=>(okS s K).1 (l.headD noS)&&(okS r K).2 l.tail)
 | .asg x e,K=>(fun st=>K.canWr x (nmE (sE st 1))&&((ok e K).1 (sE st 0)&&(bif Br e then swapC K (nmE (sE st 1)) (sE st 1).pos ((em e).1 (sE st 0)) else true)),noL)
 | .unp xs e,K=>(fun st=>okNs K (sE st 1) xs 0&&(ok e K).1 (sE st 0),noL)
 | .swp xs es,K=>(fun st=>okNs K (sE st 1) xs 0&&((cellAmong K (emNs (sE st 1) xs 0)&&Nat.beq xs.length 3)&&(ok es K).2 (sE st 0) 0),noL)
 | .set o i v,K=>(fun st=>(ok v K).1 (sE st 0)&&((ok o K).1 (kE (sE st 1) 0)&&(ok i K).1 (kE (sE st 1) 1)),noL)
 | .exp e,K=>(fun st=>(ok e K).1 (sE st 0),noL)
 | .ite c a b,K=>(fun st=>(ok c K).1 (sE st 0)&&((okS a K).2 (stB st).1&&(okS b K).2 (stB st).2),noL)
 | .for_ ts it body,K=>(fun st=>(okT K ts (sE st 0)&&F3 ts it)&&((ok it K).1 (sE st 1)&&(okS body K).2 (stB st).1),noL)
 | .while_ c body,K=>(fun st=>(ok c K).1 (sE st 0)&&(okS body K).2 (stB st).1,noL)
 | .ret e,K=>(fun st=>(ok e K).1 (sE st 0),noL)
 | .rse k es,K=>(fun st=>Du K (.exc k) (nmE (kE (sE st 0) 0))&&((ok es K).2 (sE st 0) 1&&Nat.blt ((em es).2 (sE st 0) 1).length 20),noL)
 | .try_ b k h,K=>(fun st=>Du K (.exc k) (nmE (sE st 0))&&((okS b K).2 (stB st).1&&((okS h K).2 (stB st).2 && !((emS h).2 (stB st).2).isEmpty)),noL)
 | .tryAs b hs,K=>(fun st=>(okS b K).2 (stB st).1&&(okH K hs (hsS st) && !hs.isEmpty),noL)
 | .sw2 i j es,K=>(fun st=>(K.canWr i (nmE (kE (sE st 1) 0))&&K.canWr j (nmE (kE (sE st 1) 1)))&&(sw2Ok K (nmE (kE (sE st 1) 0)) (nmE (kE (sE st 1) 1)) (kE (sE st 1) 0).pos (kE (sE st 1) 1).pos ((em es).2 (sE st 0) 0)&&(ok es K).2 (sE st 0) 0),noL)
 | .setd x _,K=>(fun st=>K.kd (nmE (kE (sE st 1) 0)) .local&&(K.isAt x (nmE (kE (sE st 1) 0)) && !(nmE (kE (sE st 1) 0) == ("__debug__" : Str))),noL)
 | .swl i j l es,K=>(fun st=>(K.canWr i (nmE (kE (sE st 1) 0))&&(K.canWr j (nmE (kE (sE st 1) 1))&&K.canWr l (nmE (kE (sE st 1) 2))))&&(swlOk K (nmE (kE (sE st 1) 0)) (nmE (kE (sE st 1) 1)) (nmE (kE (sE st 1) 2)) (kE (sE st 1) 0).pos (kE (sE st 1) 1).pos (kE (sE st 1) 2).pos ((em es).2 (sE st 0) 0)&&(ok es K).2 (sE st 0) 0),noL)
theorem CP:∀ (e:S),(∀ K x,(okS e K).1 x=true->(Iss e K).1 ((emS e).1 x))/\(∀ K x,(okS e K).2 x=true->(Iss e K).2 ((emS e).2 x))
 | .any=>⟨fun _ _ _=>trivial,fun _ _ _=>trivial⟩
 | .nil=>⟨fun _ _ h=>ff_ h,fun _ _ _=>rfl⟩
 | .cons s r=>⟨fun _ _ h=>ff_ h,fun K l h R_ k=>k _ _ ((CP s).1 K _ (Ao h)) ((CP r).2 K _ (Ae h))⟩
 | .asg x e=>⟨fun K st h R_ k=>k _ _ _ _ (Ao h) ((Aw e).1 K _ (Ao (Ae h))) (Ae (Ae h)),fun _ _ h=>ff_ h⟩
 | .unp xs e=>⟨fun K st h R_ k=>k _ _ _ _ _ (EP (Ao h)) ((Aw e).1 K _ (Ae h)),fun _ _ h=>ff_ h⟩
 | .swp xs es=>⟨fun K st h R_ k=>k _ _ _ _ _ _ _ ⟨EP (Ao h),Ao (Ao (Ae h)),Nat.eq_of_beq_eq_true (Ae (Ao (Ae h)))⟩ ((Aw es).2 K _ _ (Ae (Ae h))),fun _ _ h=>ff_ h⟩
 | .set o i v=>⟨fun K st h R_ k=>k _ _ _ _ _ ((Aw v).1 K _ (Ao h)) ((Aw o).1 K _ (Ao (Ae h))) ((Aw i).1 K _ (Ae (Ae h))),fun _ _ h=>ff_ h⟩
 | .exp e=>⟨fun K st h R_ k=>k _ _ ((Aw e).1 K _ h),fun _ _ h=>ff_ h⟩
 | .ite c a b=>⟨fun K st h R_ k=>k _ _ _ _ ((Aw c).1 K _ (Ao h)) ((CP a).2 K _ (Ao (Ae h))) ((CP b).2 K _ (Ae (Ae h))),fun _ _ h=>ff_ h⟩
 | .for_ ts it body=>⟨fun K st h R_ k=>k _ _ _ _ ⟨isT_of (Ao (Ao h)),Ae (Ao h)⟩ ((Aw it).1 K _ (Ao (Ae h))) ((CP body).2 K _ (Ae (Ae h))),fun _ _ h=>ff_ h⟩
 | .while_ c body=>⟨fun K st h R_ k=>k _ _ _ ((Aw c).1 K _ (Ao h)) ((CP body).2 K _ (Ae h)),fun _ _ h=>ff_ h⟩
 | .ret e=>⟨fun K st h R_ k=>k _ _ ((Aw e).1 K _ h),fun _ _ h=>ff_ h⟩
 | .rse k es=>⟨fun K st h R_ f=>f _ _ _ _ _ (Bb (Ao h)) ((Aw es).2 K _ _ (Ao (Ae h))) (Nat.blt_eq.mp (Ae (Ae h))),fun _ _ h=>ff_ h⟩
 | .try_ b k hd=>⟨fun K st h R_ f=>by
  have h1:=(CP hd).2 K _ (Ao (Ae (Ae h)))
  have h2:=Ae (Ae (Ae h))
  have h0:=(CP b).2 K _ (Ao (Ae h))
  show R_ (.Try _ [.ExceptHandler (some (BZ (sE st 0))) none ((emS hd).2 (stB st).2) (hPos st)] [] [] st.pos)
  revert h1 h2
  cases (emS hd).2 (stB st).2 with
  | nil=>exact fun _ h2=>ff_ h2
  | cons y ys=>exact fun h1 _=>f _ _ _ y ys _ _ h0 (Bb (Ao h)) h1,fun _ _ h=>ff_ h⟩
 | .tryAs b hs=>⟨fun K st h R_ f=>by
  have h1:=(CP b).2 K _ (Ao h)
  have h2:=isH_of (Ao (Ae h))
  have h3:=Ae (Ae h)
  match hs,h2,h3 with
  | [],_,h3=>exact ff_ h3
  | (k,i,e)::r,h2,_=>exact f _ _ _ _ h1 h2,fun _ _ h=>ff_ h⟩
 | .sw2 i j es=>⟨fun K st h R_ k=>k _ _ _ _ _ _ _ _ _ _ ⟨⟨Ao (Ao h),Ae (Ao h)⟩,Ao (Ae h)⟩ ((Aw es).2 K _ _ (Ae (Ae h))),fun _ _ h=>ff_ h⟩
 | .setd x nm=>⟨fun K st h R_ k=>k _ _ _ _ _ ⟨Ao h,isAt_of (Ao (Ae h)),GG (Ae (Ae h))⟩,fun _ _ h=>ff_ h⟩
 | .swl i j l es=>⟨fun K st h R_ k=>k _ _ _ _ _ _ _ _ _ _ _ _ ⟨⟨Ao (Ao h),Ao (Ae (Ao h)),Ae (Ae (Ao h))⟩,Ao (Ae h)⟩ ((Aw es).2 K _ _ (Ae (Ae h))),fun _ _ h=>ff_ h⟩
noncomputable def parOk (o:Option NameKind):Bool:=match o with | some k=>k == .local||k == .cell | none=>false
structure Rc where
 params:Arguments
 body:List Stmt
 scope:Scope
noncomputable def okRc (lam:Option (Addr×Str)) (fn:Fn) (vars:List Str) (r:Rc):Bool :=
 (decide (r.scope.kind=.function)&&(!r.scope.isGenerator&&(!r.scope.isCoroutine&&(decide vars.Nodup&&((vars.take fn.np).all (fun n=>parOk (r.scope.names.lookup n))&&r.scope.names.all (fun q=>!(q.2 == .free))))))) &&
 ((r.params.posonlyargs.isEmpty&&(r.params.vararg.isNone&&(r.params.kwonlyargs.isEmpty&&(r.params.kwarg.isNone&&(decide (r.params.args.map (·.arg)=vars.take fn.np)&&Nat.ble fn.np vars.length)))))&&(okS fn.body ⟨vars,r.scope.names,vars,glP,lam⟩).2 r.body)
theorem parOk_of {o:Option NameKind} (h:parOk o=true):o=some .local\/o=some .cell:=by
 cases o with
 | none=>exact ff_ h
 | some k=>exact (Bool.or_eq_true_iff.mp (show (k == .local||k == .cell)=true from h)).imp (fun h=>by rw [eq_of_beq h]) fun h=>by rw [eq_of_beq h]
theorem nil_of {α:Type} {l:List α} (h:l.isEmpty=true):l=[]:=by cases l with | nil=>rfl | cons _ _=>exact ff_ h
theorem none_of' {α:Type} {l:Option α} (h:l.isNone=true):l=none:=by cases l with | none=>rfl | some _=>exact ff_ h
theorem fnIs_of {T:Top} {lam:Option (Addr×Str)} {fn:Fn} {vars:List Str} {r:Rc} {a:Addr} {o:Obj} {fd:FuncData} (h:okRc lam fn vars r=true) (hem:(emS fn.body).2 r.body=r.body)
 (ho:T.h0.get? a=some o) (hd:o.data=.func fd) (hc:T.h0.CodeRec fd.code fd.qualname) (hp:fd.params=r.params) (hb:fd.body=.stmts r.body) (hs:fd.scope=r.scope) (hcl:fd.closure=[]) (hg:fd.globals=mainGlobals) (hbl:fd.builtins=builtinsNs) (hdf:fd.defaults=.none) (hkd:fd.kwdefaults=.none)
 (hl:∀ t q,lam=some (t,q)->(t,q)∈T.tabs/\(fd.qualname++(".<locals>." : Str))++("<lambda>" : Str)=q/\∃ c,fd.code=.ref c/\W.CodeHd T.h0 c t):FnIs T glP fn a fd r.body o vars lam:=by
 have h1:=Ao h
 have h2:=Ao (Ae h)
 have h3:=(CP fn.body).2 _ _ (Ae (Ae h))
 rw [hem] at h3
 have k4:=of_decide_eq_true (Ao (Ae (Ae (Ae h1))))
 have p5:=of_decide_eq_true (Ao (Ae (Ae (Ae (Ae h2)))))
 have p6:=Nat.le_of_ble_eq_true (Ae (Ae (Ae (Ae (Ae h2)))))
 refine ⟨ho,hd,hc,hb,hcl,hg,hbl,by rw [hs]; exact of_decide_eq_true (Ao h1),by rw [hs]; exact GG (Ao (Ae h1)),by rw [hs]; exact GG (Ao (Ae (Ae h1))),k4,fun vals hv=>?_,fun n hn=>?_,fun p hp' e=>?_,by rw [hs]; exact h3,hl⟩
 ·have e1:=nil_of (Ao h2)
  have e2:=none_of' (Ao (Ae h2))
  have e3:=nil_of (Ao (Ae (Ae h2)))
  have e4:=none_of' (Ao (Ae (Ae (Ae h2))))
  rcases hP:r.params with ⟨po,as,va,ko,kd,kw,df⟩
  rw [hP] at e1 e2 e3 e4 p5 hp
  have e1:po=[]:=e1
  have e2:va=none:=e2
  have e3:ko=[]:=e3
  have e4:kw=none:=e4
  have p5:as.map (·.arg)=vars.take fn.np:=p5
  subst e1 e2 e3 e4
  rw [<-p5]
  refine bind_plain hp hdf hkd ?_ ?_
  ·have e5:as.length=(as.map (·.arg)).length:=(List.length_map _).symm
   rw [hv,show as.length=fn.np by rw [e5,p5,List.length_take,Nat.min_eq_left p6]]
  ·rw [p5]; exact List.Nodup.sublist (List.take_sublist _ _) k4
 ·rw [hs]; exact parOk_of (List.all_eq_true.mp (Ao (Ae (Ae (Ae (Ae h1))))) n hn)
 ·rw [hs] at hp'
  have q:=List.all_eq_true.mp (Ae (Ae (Ae (Ae (Ae h1))))) p hp'
  rw [e] at q
  exact ff_ q
end Mine
namespace Mine
open PySem PySem.Calls
theorem HOk.fzm {n:Nat} {g g':G} {A:Around} (h:HOk n g A) (k:∀ a o,g.fz a=some o->g'.fz a=some o):HOk n g' A:=⟨h.1.imp id fun q=>⟨q.1,by obtain ⟨b,o,vs,h1,h2,h3⟩:=q.2; exact ⟨b,o,vs,h1,k _ _ h2,h3⟩⟩,h.2⟩
section
variable {T:Top} {g g':G} {σ τ σ':Aa} {s s':Shared} {v:V} {X:Value} {m n f:Nat} {d:PyData} {xs:List V} {r:Ar}
noncomputable def G.tuck (g:G) (m:Nat) (h:Heap):G:=⟨g.fz,fun a=>if a∈g.mu.drop m then h.get? a else g.hid a,g.mu.take m⟩
theorem repO_ne {o:O} {x:Obj} (h:Dp T g o x):x.cls≠frC:=by
 cases o with
 | list vs=>exact h (fun x=>x.cls≠frC) fun xs m _ _=>AB rfl (by decide)
 | dictS kvs=>exact h _ fun _ _ _ ho _ _ _ _ _ _=>AB ho.1 (by decide)
 | dictP kvs=>exact h _ fun _ _ _ ho _ _ _ _ _=>AB ho.1 (by decide)
theorem By.sub {fe:List Env} (x:By g fe) (h:∀ a o,g.hid a=some o->g'.hid a=some o):By g' fe:=fun e he=>⟨(x e he).1,let ⟨L,o,es,ep,h1,h2,h3⟩:=(x e he).2; ⟨L,o,es,ep,h1,h _ _ h2,h3⟩⟩
theorem tuck_up {h:Heap}:G.upTo m g (g.tuck m h):=⟨fun _ _ e=>e,fun _ _ hk e=>(List.getElem?_take_of_lt hk).trans e⟩
theorem Gv {h:Heap} {a:Addr} (q:a∉g.mu):(g.tuck m h).hid a=g.hid a:=if_neg fun p=>q (List.mem_of_mem_drop p)
theorem Has.tuck (H:Has T g (σ++τ) s) (hl:∀ (k:Nat) o,σ[k]? = some o->lowO σ.length o):Has T (g.tuck σ.length s.heap) σ s:=by
 refine ⟨H.fz,fun a o e=>?_,?_,List.Nodup.sublist (List.take_sublist _ _) H.nd,fun a ha=>H.ap a (List.mem_of_mem_take ha),fun a o e=>?_,fun k a o e1 e2 R_ kk=>?_,H.base,fun t q ht R_ kk=>H.tb t q ht R_ fun ps h1 h2 h3 h4 h5 h6=>kk ps h1 ((Gv h3).trans h2) (fun q=>h3 (List.mem_of_mem_take q)) h4 h5 h6,H.gens,H.os⟩
 ·have e:(if a∈g.mu.drop σ.length then s.heap.get? a else g.hid a)=some o:=e
  by_cases q:a∈g.mu.drop σ.length
  ·rw [if_pos q] at e; exact .of e
  ·rw [if_neg q] at e; exact H.hd a o e
 ·show (g.mu.take σ.length).length=_
  rw [List.length_take,H.len,List.length_append]; exact Nat.min_eq_left (Nat.le_add_right _ _)
 ·have e:(if a∈g.mu.drop σ.length then s.heap.get? a else g.hid a)=some o:=e
  by_cases q:a∈g.mu.drop σ.length
  ·exact ⟨H.ap a (List.mem_of_mem_drop q),fun p=>E2 H.nd p q⟩
  ·rw [if_neg q] at e; exact ⟨(H.ah a o e).1,fun p=>(H.ah a o e).2 (List.mem_of_mem_take p)⟩
 ·have hk:k < σ.length:=(List.getElem?_eq_some_iff.mp e2).1
  have e1:(g.mu.take σ.length)[k]? = some a:=e1
  rw [List.getElem?_take_of_lt hk] at e1
  exact H.ob k a o e1 ((List.getElem?_append_left hk).trans e2) R_ fun x h1 h2=>kk x h1 (rep_toO tuck_up (hl k o e2) h2)
theorem Has.untuck (H:Has T g (σ++τ) s) (hl:σ'.length=σ.length) (le:G.le [] (g.tuck σ.length s.heap) g') (H':Has T g' σ' s'):Has T ⟨g'.fz,g.hid,g.mu⟩ (σ'++τ) s':=by
 have hm:g.mu.length=σ.length+τ.length:=H.len.trans List.length_append
 have up:G.up g ⟨g'.fz,g.hid,g.mu⟩:=⟨le.fz,fun _ _ e=>e⟩
 have hid:∀ a,g'.hid a=(g.tuck σ.length s.heap).hid a:=fun a=>le.hid a List.not_mem_nil
 have hd1:∀ {a o},g.hid a=some o->g'.hid a=some o:=fun {a o} e=>(hid a).trans ((Gv (H.ah a o e).2).trans e)
 have hd2:∀ {a o},a∈g.mu.drop σ.length->s.heap.get? a=some o->g'.hid a=some o:=fun {a o} q e=>(hid a).trans ((if_pos q).trans e)
 have mu1:∀ {k:Nat} {a},k < σ.length->g.mu[k]? = some a->g'.mu[k]? = some a:=fun {k a} hk e=>le.mu k a ((List.getElem?_take_of_lt hk).trans e)
 have up':G.up g' ⟨g'.fz,g.hid,g.mu⟩:=⟨fun _ _ e=>e,fun k a e=>by
  have hk:k < σ.length:=hl▸H'.len▸mu_lt e
  have e2:g.mu[k]? = some (g.mu[k]'(by rw [hm]; exact Nat.lt_add_right _ hk)):=List.getElem?_eq_getElem _
  rw [e2,As (mu1 hk e2) e]⟩
 refine ⟨H'.fz,fun a o e=>H'.hd a o (hd1 e),hm.trans (by rw [List.length_append,hl]),H.nd,fun a ha=>?_,fun a o e=>⟨(H'.ah a o (hd1 e)).1,(H.ah a o e).2⟩,fun k a o e1 e2 R_ kk=>?_,H'.base,fun t q ht R_ kk=>H.tb t q ht R_ fun _ _ h2 h3 _ _ _=>H'.tb t q ht R_ fun ps h1 _ _ h4 h5 h6=>kk ps h1 h2 h3 h4 h5 h6,H'.gens,H'.os⟩
 ·obtain ⟨k,hk,e⟩:=List.mem_iff_getElem.mp ha
  have e:g.mu[k]? = some a:=by rw [List.getElem?_eq_getElem hk,e]
  by_cases q:k < σ.length
  ·exact H'.ap a (List.mem_of_getElem? (mu1 q e))
  ·obtain ⟨o,ho⟩:=H.muAlive ha
   exact (H'.ah a o (hd2 (List.mem_of_getElem? (i:=k-σ.length) (by rw [List.getElem?_drop,Nat.add_sub_cancel' (Nat.le_of_not_lt q)]; exact e)) ho)).1
 ·by_cases q:k < σ.length
  ·rw [List.getElem?_append_left (hl▸q)] at e2
   exact H'.ob k a o (mu1 q e1) e2 R_ fun x h1 h2=>kk x h1 (Dp.mono up' _ _ h2)
  ·have q:=Nat.le_of_not_lt q
   rw [List.getElem?_append_right (hl▸q),hl] at e2
   refine H.ob k a o e1 ((List.getElem?_append_right q).trans e2) R_ fun x h1 h2=>kk x ((H'.hd a x (hd2 ?_ h1)).ex (repO_ne h2)) (Dp.mono up _ _ h2)
   exact List.mem_of_getElem? (i:=k-σ.length) (by rw [List.getElem?_drop,Nat.add_sub_cancel' q]; exact e1)
theorem FA.tail (hf:FA n f xs σ (.d d) σ') (hl:σ'.length=σ.length) (hx:∀ x,x∈xs->low σ.length x) (hw:∀ (k:Nat) o,σ[k]? = some o->lowO σ.length o):FA n f xs (σ++τ) (.d d) (σ'++τ):=fun r g s a Xs h A R =>
 wpAny_mono (hf r (g.tuck σ.length s.heap) s a Xs h ⟨A.ok,A.frames,A.top,A.depth,A.units,A.hh.fzm fun _ _ e=>e,A.frs.sub fun a o e=>(Gv (A.has.ah a o e).2).trans e,A.has.tuck hw⟩ (Aq.imp (fun v X hv rx=>rep_to tuck_up (hx v hv) rx) R)) (fun X s' p=>p _ fun g' le H' rX =>
  .mk ⟨g'.fz,g.hid,g.mu⟩ ⟨⟨le.fz,fun _ _ e=>e⟩,fun _ _=>rfl⟩ (A.has.untuck hl le H') rX) fun _ _ h=>h
theorem FA.any (hf:FA n f xs [] (.d d) []) (hx:∀ x,x∈xs->low 0 x):FA n f xs σ (.d d) σ:=FA.tail (σ:=[]) (σ':=[]) hf rfl hx fun k o e=>Ab e
theorem FA.more {k:Nat} (hf:FA n f xs σ v σ') (h:n<=k):FA k f xs σ v σ':=fun r g s a Xs hf' A R=>hf r g s a Xs hf' (A.less h) R
theorem FN.more {k:Nat} (hf:FN n f xs σ v σ') (h:n<=k):FN k f xs σ v σ':=FA.more hf (Nat.add_le_add_right h 3)
end
end Mine
namespace Mine
open PySem PySem.Calls
section
variable {α β:Type} {l l':List α} {m m':List β} {k:Nat} {a:α} {o:β}
theorem Bh (h:l[k]? = some a):(l++l')[k]? = some a:=(List.getElem?_append_left (List.getElem?_eq_some_iff.mp h).1).trans h
end
end Mine
namespace Mine
open PySem
noncomputable def BP (v:V):Option Int:=match v with | .d x=>(match x with | .int i=>some i | _=>none) | _=>none
noncomputable def BA (v:V):Option Str:=match v with | .d x=>(match x with | .str s=>some s | _=>none) | _=>none
noncomputable def EX (v:V):Option Bool:=match v with | .d x=>(match x with | .bool s=>some s | _=>none) | _=>none
noncomputable def pairD (xs:List PyData):Option (Str×Int) :=
 match xs with
 | x::y::r=>(match x with | .str a=>(match y with | .int b=>(match r with | []=>some (a,b) | _=>none) | _=>none) | _=>none)
 | _=>none
noncomputable def pairV (v:V):Option (Str×Int):=match v with | .d x=>(match x with | .tuple xs=>pairD xs | _=>none) | _=>none
noncomputable def C3 {α:Type} (f:V->Option α):List V->Option (List α)
 | []=>some []
 | v::r=>(f v).bind fun x=>(C3 f r).bind fun xs=>some (x::xs)
noncomputable def mkL (ws:List V):Option V:=if ws.length<=line then (CS ws).bind fun xs=>some (.d (.list xs)) else none
noncomputable def Eb (σ:Aa) (v:V):Option Bool :=
 match v with
 | .d x=>(match x with | .none=>some false | .bool b=>some b | .int i=>some (i != 0) | .str s=>some (s.cps.size != 0) | .list xs=>some (!xs.isEmpty) | .tuple xs=>some (!xs.isEmpty) | _=>none)
 | .ref k=>(BF σ[k]?).bind fun ws=>some (!ws.isEmpty)
 | _=>none
noncomputable def catL (op:Operator) (x y:V) (σ:Aa):Option (List V) :=
 match op with
 | .Add=>(Ag σ x).bind fun ws=>(Ag σ y).bind fun us=>if ws.length+us.length<=line then some (ws++us) else none
 | _=>none
noncomputable def addV (x y:V) (σ:Aa):Option V :=
 match BP x with
 | some i=>(BP y).bind fun j=>some (vi (i+j))
 | none=>(match BA x with
  | some a=>(BA y).bind fun b=>if a.length+b.length<=line then some (.d (.str (a++b))) else none
  | none=>(catL .Add x y σ).bind mkL)
noncomputable def arith (f:Int->Int->Option Int) (x y:V):Option V:=(BP x).bind fun i=>(BP y).bind fun j=>(f i j).bind fun k=>some (vi k)
noncomputable def EY (op:Operator) (x y:V) (σ:Aa):Option V :=
 match op with
 | .Add=>addV x y σ
 | .Sub=>arith (fun i j=>some (i-j)) x y
 | .Mult=>arith (fun i j=>if (small i||small j)=true then some (i * j) else none) x y
 | .FloorDiv=>arith (fun i j=>if j=0 then none else some (i.fdiv j)) x y
 | .Mod=>arith (fun i j=>if j=0 then none else some (i.fmod j)) x y
 | _=>none
noncomputable def Dt (o:Option Bool):Option Bool:=o.bind fun b=>some (!b)
noncomputable def eqV (σ:Aa) (x y:V):Option Bool:=(snap σ x).bind fun d=>(snap σ y).bind fun d'=>eqN AK d d'
noncomputable def isNo (x:V):Option Bool:=match x with | .d u=>(match u with | .none=>some true | _=>none) | _=>none
noncomputable def isV (x y:V):Option Bool:=match y with | .d z=>(match z with | .none=>bif EF x then some false else isNo x | _=>none) | _=>none
noncomputable def inSeq (σ:Aa) (x y:V):Option Bool:=(snap σ x).bind fun d=>(snap σ y).bind fun e=>(match e with | .list ds=>inD d ds | .tuple ds=>inD d ds | _=>none)
noncomputable def inO (σ:Aa) (x:V) (k:Nat) (o:Option O):Option Bool :=
 match o with
 | some o=>(match o with
  | .list _=>inSeq σ x (.ref k)
  | .dictS kvs=>(BA x).bind fun z=>some (Al kvs z).isSome
  | .dictP kvs=>(pairV x).bind fun q=>some (Al kvs q).isSome)
 | none=>none
noncomputable def inV (σ:Aa) (x y:V):Option Bool :=
 match y with
 | .ref k=>inO σ x k σ[k]?
 | y=>(match BA y with | some w=>(BA x).bind fun u=>some (Txt.contains w u) | none=>inSeq σ x y)
noncomputable def cmpI (f:Int->Int->Bool) (x y:V):Option Bool:=(BP x).bind fun i=>(BP y).bind fun j=>some (f i j)
noncomputable def geV (x y:V):Option Bool:=match BA x with | some a=>(BA y).bind fun b=>some (!AN a b) | none=>cmpI (fun i j=>decide (i ≥ j)) x y
noncomputable def Ct (op:CmpOp) (x y:V) (σ:Aa):Option Bool :=
 match op with
 | .Eq=>eqV σ x y
 | .NotEq=>Dt (eqV σ x y)
 | .Lt=>cmpI (fun i j=>decide (i < j)) x y
 | .LtE=>cmpI (fun i j=>decide (i<=j)) x y
 | .Gt=>cmpI (fun i j=>decide (i > j)) x y
 | .GtE=>geV x y
 | .Is=>isV x y
 | .IsNot=>Dt (isV x y)
 | .In=>inV σ x y
 | .NotIn=>Dt (inV σ x y)
noncomputable def nth (ws:List V) (k:Int):Option V:=if small k=true then (seqIndex? k ws.length).bind fun j=>ws[j]? else none
noncomputable def subO (σ:Aa) (y:V) (o:Option O):Option V :=
 match o with
 | some o=>(match o with
  | .list ws=>(BP y).bind (nth ws)
  | .dictS kvs=>(BA y).bind fun z=>Al kvs z
  | .dictP kvs=>(pairV y).bind fun q=>(Al kvs q).bind fun d=>some (.d d))
 | none=>none
noncomputable def AI (x y:V) (σ:Aa):Option V :=
 match x with
 | .ref k=>subO σ y σ[k]?
 | x=>(match BA x with
  | some z=>(BP y).bind fun k=>if small k=true then (Txt.charAt z k).bind fun c=>some (.d (.str (chr1 c))) else none
  | none=>(match Cm x with
   | some ws=>(BP y).bind (nth ws)
   | none=>(Ag σ x).bind fun ws=>(BP y).bind (nth ws)))
noncomputable def cutL (σ:Aa) (x:V) (lo hi:Option Int):Option (List V):=(Ag σ x).bind fun ws=>some (BG lo hi ws)
noncomputable def slice (σ:Aa) (x:V) (lo hi:Option Int):Option V :=
 match BA x with
 | some z=>some (.d (.str (cutS lo hi z)))
 | none=>(cutL σ x lo hi).bind mkL
noncomputable def Dm (x:Str):List Str->List Str
 | []=>[x]
 | y::r=>if AN x y then x::y::r else y::Dm x r
noncomputable def Dh:List Str->List Str
 | []=>[]
 | x::r=>Dm x (Dh r)
noncomputable def keysO (o:Option O):Option (List V) :=
 match o with
 | some o=>(match o with
  | .list ws=>some ws
  | .dictS kvs=>if kvs.all (fun p=>decide (p.1.length<=line))=true then some (vss (kvs.map (·.1))) else none
  | .dictP _=>none)
 | none=>none
noncomputable def toList (σ:Aa) (x:V):Option (List V):=match x with | .ref k=>keysO σ[k]? | x=>Ag σ x
noncomputable def bmake1 (b:Bi) (σ:Aa) (x:V):Option (List V) :=
 match b with
 | .list=>toList σ x
 | .sorted=>(Ag σ x).bind fun ws=>(C3 BA ws).bind fun ss=>if ss.length < 64 then some (vss (Dh ss)) else none
 | _=>none
noncomputable def bmake (b:Bi) (σ:Aa) (xs:List V):Option (List V):=match xs with | x::r=>(match r with | []=>bmake1 b σ x | _=>none) | []=>none
noncomputable def lenV (σ:Aa) (x:V):Option V :=
 match BA x with
 | some z=>some (vi z.cps.size)
 | none=>(match Cm x with
  | some ws=>some (vi ws.length)
  | none=>(Ag σ x).bind fun ws=>some (vi ws.length))
noncomputable def reprV (x:V):Option V:=match x with | .d d=>bif isLT d&&shwB d then some (.d (.str d.shown)) else none | _=>none
noncomputable def bcall1 (b:Bi) (σ:Aa) (x:V):Option V :=
 match b with
 | .len=>lenV σ x
 | .str=>(BP x).bind fun i=>if i.natAbs < 1000000000000 then some (.d (.str (strOf i))) else none
 | .all=>(Ag σ x).bind fun ws=>(C3 EX ws).bind fun bs=>some (vb (bs.all id))
 | .any=>(Ag σ x).bind fun ws=>(C3 EX ws).bind fun bs=>some (vb (bs.any id))
 | .ord=>(BA x).bind fun z=>(match z.cps.toList with | c::r=>(match r with | []=>some (vi c) | _=>none) | []=>none)
 | .repr=>reprV x
 | b=>(bmake1 b σ x).bind mkL
noncomputable def isiV (σ:Aa) (x:V) (t:String):Option Bool :=
 (tyOf σ x).bind fun u=>if u=t then (if t = "tuple"\/t = "list"\/t = "str"\/t = "int" then some true else none) else if u = "int"/\t = "bool" then some false else none
noncomputable def bcall2 (b:Bi) (σ:Aa) (x y:V):Option V :=
 match b with
 | .min=>arith (fun i j=>some (if j < i then j else i)) x y
 | .isinstance=>(match y with | .ty t=>(isiV σ x t).bind fun b=>some (vb b) | _=>none)
 | _=>none
noncomputable def Bx (b:Bi) (σ:Aa) (xs:List V):Option V :=
 match xs with
 | []=>none
 | x::r=>(match r with | []=>bcall1 b σ x | y::r=>(match r with | []=>bcall2 b σ x y | _=>none))
noncomputable def wOf (v:V):Option (PyData ⊕ Nat):=match v with | .d x=>some (.inl x) | .ref k=>some (.inr k) | _=>none
noncomputable def tupV (ws:List V):Option V :=
 if ws.length<=line then (match CS ws with
  | some ds=>some (.d (.tuple ds))
  | none=>(C3 wOf ws).bind fun us=>some (.tup us)) else none
noncomputable def joinV (σ:Aa) (x:V) (ys:List V):Option V :=
 match ys with
 | y::r=>(match r with
  | []=>(BA x).bind fun z=>(Ag σ y).bind fun ws=>(C3 BA ws).bind fun ss=>if JoinOk z ss=true then some (.d (.str (Txt.join z ss))) else none
  | _=>none)
 | []=>none
noncomputable def indexV (σ:Aa) (x:V) (ys:List V):Option V :=
 match ys with
 | y::r=>(match r with
  | []=>(match x with | .ref k=>(BF σ[k]?).bind fun ws=>(CS ws).bind fun ds=>(isDV y).bind fun d=>(inD d ds).bind fun _=>(idxD d ds).bind fun j=>some (vi j) | _=>none)
  | _=>none)
 | []=>none
noncomputable def dgetO (o:Option O) (y z:V):Option V:=match o with | some o=>(match o with | .dictP kvs=>(pairV y).bind fun q=>some (dfl (Al kvs q) z) | _=>none) | none=>none
noncomputable def dgetV (σ:Aa) (x:V) (ys:List V):Option V:=match ys with | y::r=>(match r with | z::r=>(match r with | []=>(match x with | .ref k=>dgetO σ[k]? y z | _=>none) | _=>none) | []=>none) | []=>none
noncomputable def methV (m:Meth) (σ:Aa) (x:V) (ys:List V):Option V:=match m with | .join=>joinV σ x ys | .index=>indexV σ x ys | .get=>dgetV σ x ys | _=>none
noncomputable def CK (f:V->Option (Option V)):List V->Option (List V)
 | []=>some []
 | v::r=>(f v).bind fun x=>(CK f r).bind fun xs=>some (match x with | some y=>y::xs | none=>xs)
noncomputable def bindB (ts:List Nat) (v:V):Bool:=Nat.beq ts.length 1||(match Cm v with | some vs=>Nat.beq vs.length ts.length | none=>false)
noncomputable abbrev Its:=List V×List (Nat×List V)
noncomputable def CN (σ:Aa) (v:V):Option Its:=match BA v with | some z=>if z.cps.all (· < 128)=true then some (signsV z.cps.toList,[]) else none | none=>(Ag σ v).bind fun ws=>some (ws,C4 v ws)
noncomputable def range1 (xs:List V):Option Its:=match xs with | x::r=>(match r with | []=>(BP x).bind fun k=>if k<=1000000/\-1000000<=k then some (upV 0 k.toNat,[]) else none | _=>none) | []=>none
noncomputable def listD (σ:Aa) (v:V):Option (List PyData):=(Ag σ v).bind CS
noncomputable def DS (e:E):Bool:=match e with | .var _=>true | .cst _=>true | .sub _ _=>true | .attr _ _=>true | _=>false
noncomputable def Eu (ρ:Af) (i:Nat):Option V:=match ρ[i]? with | some o=>o | none=>none
noncomputable abbrev Orc:=Nat->List V->Aa->Option V
structure Ev where
 v:Af->Aa->Option V
 nl:Af->Aa->Option (List V)
 row:Af->Aa->Option (List V)
 it:Af->Aa->Option Its
 t:Af->Aa->Option Bool
 bo:BoolOp->Af->Aa->Option V
 bt:BoolOp->Af->Aa->Option Bool
 ts:Af->Aa->Option Bool
noncomputable def Ev.no:Ev:=⟨fun _ _=>none,fun _ _=>none,fun _ _=>none,fun _ _=>none,fun _ _=>none,fun _ _ _=>none,fun _ _ _=>none,fun _ _=>none⟩
noncomputable def Ev.plain (f:Af->Aa->Option V):Ev:={ Ev.no with v:=f,it:=fun ρ σ=>(f ρ σ).bind (CN σ),t:=fun ρ σ=>(f ρ σ).bind (Eb σ) }
noncomputable def Ev.made (f:Af->Aa->Option V) (g:Af->Aa->Option (List V)):Ev:={ Ev.plain f with nl:=fun ρ σ=>(g ρ σ).bind fun ws=>if ws.length<=line then some ws else none }
noncomputable def optI (e:E) (f:Af->Aa->Option V) (ρ:Af) (σ:Aa):Option (Option Int):=if Bq e=true then some none else (f ρ σ).bind fun v=>(BP v).bind fun i=>some (some i)
noncomputable def ev (O:Orc):E->Ev
 | .cst x=>.plain fun _ _=>some (.d x)
 | .var i=>.plain fun ρ _=>Eu ρ i
 | .ty t=>.plain fun _ _=>some (.ty t)
 | .glb x=>.plain fun _ _=>some (.d x)
 | .bin op a b=>.made (fun ρ σ=>((ev O a).v ρ σ).bind fun x=>((ev O b).v ρ σ).bind fun y=>EY op x y σ) fun ρ σ=>((ev O a).v ρ σ).bind fun x=>((ev O b).v ρ σ).bind fun y=>catL op x y σ
 | .neg a=>.plain fun ρ σ=>((ev O a).v ρ σ).bind fun x=>(BP x).bind fun i=>some (vi (-i))
 | .not a=>{ Ev.no with v:=fun ρ σ=>((ev O a).v ρ σ).bind fun x=>(Eb σ x).bind fun t=>some (vb !t),t:=fun ρ σ=>Dt ((ev O a).t ρ σ) }
 | .bop op es=>{ Ev.no with v:=(ev O es).bo op,t:=(ev O es).bt op }
 | .cmp op a b=>{ Ev.no with v:=fun ρ σ=>((ev O a).v ρ σ).bind fun x=>((ev O b).v ρ σ).bind fun y=>(Ct op x y σ).bind fun t=>some (vb t),t:=fun ρ σ=>((ev O a).v ρ σ).bind fun x=>((ev O b).v ρ σ).bind fun y=>Ct op x y σ }
 | .nil=>{ Ev.no with row:=fun _ _=>some [],bt:=fun op _ _=>some (!Co op),ts:=fun _ _=>some true }
 | .cons a r=>{ Ev.no with
  row:=fun ρ σ=>((ev O a).v ρ σ).bind fun x=>((ev O r).row ρ σ).bind fun xs=>some (x::xs)
  bo:=fun op ρ σ=>bif Bq r then (ev O a).v ρ σ else ((ev O a).v ρ σ).bind fun x=>(Eb σ x).bind fun t=>bif t == Co op then some x else (ev O r).bo op ρ σ
  bt:=fun op ρ σ=>((ev O a).t ρ σ).bind fun t=>bif t == Co op then some t else (ev O r).bt op ρ σ
  ts:=fun ρ σ=>((ev O a).t ρ σ).bind fun t=>bif t then (ev O r).ts ρ σ else some false }
 | .tup es=>.plain fun ρ σ=>((ev O es).row ρ σ).bind tupV
 | .lst es=>.made (fun ρ σ=>((ev O es).row ρ σ).bind mkL) fun ρ σ=>(ev O es).row ρ σ
 | .sub a i=>.plain fun ρ σ=>((ev O a).v ρ σ).bind fun x=>((ev O i).v ρ σ).bind fun y=>AI x y σ
 | .slc a lo hi=>.made (fun ρ σ=>((ev O a).v ρ σ).bind fun x=>(optI lo (ev O lo).v ρ σ).bind fun l=>(optI hi (ev O hi).v ρ σ).bind fun h=>slice σ x l h) fun ρ σ=>((ev O a).v ρ σ).bind fun x=>(optI lo (ev O lo).v ρ σ).bind fun l=>(optI hi (ev O hi).v ρ σ).bind fun h=>cutL σ x l h
 | .bi b es=>.made (fun ρ σ=>((ev O es).row ρ σ).bind (Bx b σ)) fun ρ σ=>((ev O es).row ρ σ).bind (bmake b σ)
 | .maxd a z=>.plain fun ρ σ=>((ev O a).v ρ σ).bind fun x=>((ev O z).v ρ σ).bind fun y=>(BP y).bind fun k=>(Ag σ x).bind fun ws=>(C3 BP ws).bind fun is=>some (vi (Dq k is))
 | .fcall f es=>.plain fun ρ σ=>((ev O es).row ρ σ).bind fun xs=>O f xs σ
 | .meth m o es=>.plain fun ρ σ=>bif DS o then ((ev O o).v ρ σ).bind fun x=>((ev O es).row ρ σ).bind fun ys=>methV m σ x ys else none
 | .comp elt ts it ifs=>.made (fun ρ σ=>(((ev O it).it ρ σ).bind fun p=>CK (fun v=>bif bindB ts v then ((ev O ifs).ts (Bw (AA ρ ts) ts v) σ).bind fun t=>bif t then ((ev O elt).v (Bw (AA ρ ts) ts v) σ).bind (fun u=>some (some u)) else some none else none) p.1).bind mkL)
  fun ρ σ=>((ev O it).it ρ σ).bind fun p=>CK (fun v=>bif bindB ts v then ((ev O ifs).ts (Bw (AA ρ ts) ts v) σ).bind fun t=>bif t then ((ev O elt).v (Bw (AA ρ ts) ts v) σ).bind (fun u=>some (some u)) else some none else none) p.1
 | .range es=>{ Ev.no with it:=fun ρ σ=>((ev O es).row ρ σ).bind range1 }
 | .zip a b=>{ Ev.no with it:=fun ρ σ=>((ev O a).v ρ σ).bind fun x=>((ev O b).v ρ σ).bind fun y=>(Ag σ x).bind fun ds=>(Ag σ y).bind fun ds'=>some (Gr ds ds',C4 x ds++C4 y ds') }
 | .enum a=>{ Ev.no with it:=fun ρ σ=>((ev O a).v ρ σ).bind fun x=>(listD σ x).bind fun ds=>some (FJ 0 ds,C4 x (ds.map .d)) }
 | _=>Ev.no
end Mine
namespace Mine
open PySem
section
variable {σ:Aa} {v x y:V} {ws us:List V} {b:Bool} {i:Int} {z:Str} {lo hi:Option Int}
theorem AR (h:BP v=some i):v=vi i:=by
 cases v with
 | d x=>cases x with
  | int j=>rw [Option.some.inj h]
  | _=>exact Ab h
 | _=>exact Ab h
theorem Bg (h:BA v=some z):v=.d (.str z):=by
 cases v with
 | d x=>cases x with
  | str j=>rw [Option.some.inj h]
  | _=>exact Ab h
 | _=>exact Ab h
theorem boolV_eq (h:EX v=some b):v=vb b:=by
 cases v with
 | d x=>cases x with
  | bool j=>rw [Option.some.inj h]
  | _=>exact Ab h
 | _=>exact Ab h
theorem pairD_eq {xs:List PyData} {q:Str×Int} (h:pairD xs=some q):xs=[.str q.1,.int q.2]:=by
 match xs,h with
 | [],h=>exact Ab h
 | [_],h=>exact Ab h
 | x::y::r,h=>cases x with
  | str a=>cases y with
   | int b=>cases r with
    | nil=>rw [<-Option.some.inj h]
    | cons _ _=>exact Ab h
   | _=>exact Ab h
  | _=>exact Ab h
theorem GB {q:Str×Int} (h:pairV v=some q):v=vp q:=by
 cases v with
 | d x=>cases x with
  | tuple j=>rw [pairD_eq (show pairD j=some q from h)]
  | _=>exact Ab h
 | _=>exact Ab h
theorem Dk {α:Type} {f:V->Option α} {g:α->V} (hf:∀ v x,f v=some x->v=g x):∀ {ws:List V} {xs:List α},C3 f ws=some xs->ws=xs.map g
 | [],_,h=>by rw [<-Option.some.inj h]; rfl
 | v::r,xs,h=>by
  obtain ⟨x,e,h⟩:=bind_some h
  obtain ⟨ys,e',h⟩:=bind_some h
  rw [<-Option.some.inj h,hf v x e,Dk hf e']; rfl
theorem GJ (h:mkL ws=some v):∃ ds,ws=ds.map .d/\ws.length<=line/\v=.d (.list ds):=by
 unfold mkL at h
 by_cases q:ws.length<=line
 ·rw [if_pos q] at h
  obtain ⟨ds,e,h⟩:=bind_some h
  exact ⟨ds,EZ e,q,(Option.some.inj h).symm⟩
 ·rw [if_neg q] at h; exact Ab h
theorem tr_cast {b':Bool} (h:Tr σ v b) (e:b=b'):Tr σ v b':=e▸h
theorem Fp {α β:Type} {f:α->β} (l:List α):(!(l.map f).isEmpty) = !l.isEmpty:=by cases l <;> rfl
theorem Cn (h:Eb σ v=some b):Tr σ v b:=by
 cases v with
 | d x=>cases x with
  | none=>exact Option.some.inj h▸tr_none
  | bool b=>exact Option.some.inj h▸tr_bool
  | int i=>exact Option.some.inj h▸tr_int
  | str s=>exact Option.some.inj h▸tr_str
  | list xs=>exact tr_cast (tr_list (v:=.d (.list xs)) rfl) ((Fp xs).trans (Option.some.inj h))
  | tuple xs=>exact tr_cast (tr_tup (v:=.d (.tuple xs)) rfl) ((Fp xs).trans (Option.some.inj h))
  | _=>exact Ab h
 | ref k =>
  obtain ⟨ws,e,h⟩:=bind_some h
  exact tr_cast (tr_list (v:=.ref k) e) (Option.some.inj h)
 | _=>exact Ab h
theorem catL_ok {op:Operator} (h:catL op x y σ=some ws):PrN2 (binaryOp op) x y σ ws:=by
 cases op with
 | Add =>
  obtain ⟨us,e,h⟩:=bind_some h
  obtain ⟨us',e',h⟩:=bind_some h
  obtain ⟨q,h⟩:=AJ h
  exact h▸GC e e' q
 | _=>exact Ab h
theorem DG {f:Int->Int->Option Int} {m:Value->Value->Sem Value} {l:Nat} (hf:∀ i j k,f i j=some k->Pr2 m (vi i) (vi j) σ (vi k) σ l) (h:arith f x y=some v):Pr2 m x y σ v σ l:=by
 obtain ⟨i,e,h⟩:=bind_some h
 obtain ⟨j,e',h⟩:=bind_some h
 obtain ⟨k,e2,h⟩:=bind_some h
 rw [AR e,AR e',<-Option.some.inj h]
 exact hf i j k e2
theorem EQ {α:Type} {c:Prop} [Decidable c] {a b:α} (h:(if c then none else some a)=some b):¬ c/\a=b:=by
 by_cases hc:c
 ·rw [if_pos hc] at h; exact Ab h
 ·rw [if_neg hc] at h; exact ⟨hc,Option.some.inj h⟩
theorem binop_ok {op:Operator} (h:EY op x y σ=some v):Pr2 (binaryOp op) x y σ v σ\/∃ ws,catL op x y σ=some ws/\mkL ws=some v:=by
 cases op with
 | Add =>
  have h:addV x y σ=some v:=h
  unfold addV at h
  cases e:BP x with
  | some i =>
   rw [e] at h
   obtain ⟨j,e',h⟩:=bind_some h
   rw [AR e,AR e',<-Option.some.inj h]; exact .inl p_add
  | none =>
   rw [e] at h
   cases e':BA x with
   | some a =>
    rw [e'] at h
    obtain ⟨b,e2,h⟩:=bind_some h
    obtain ⟨q,h⟩:=AJ h
    rw [Bg e',Bg e2,<-h]; exact .inl (p_cat q)
   | none=>rw [e'] at h; exact .inr (bind_some h)
 | Sub=>exact .inl (DG (fun i j k e=>Option.some.inj e▸p_sub) h)
 | Mult=>exact .inl (DG (f:=fun i j=>if (small i||small j)=true then some (i * j) else none) (fun i j k e=>(AJ e).2▸p_mul (AJ e).1) h)
 | FloorDiv=>exact .inl (DG (f:=fun i j=>if j=0 then none else some (i.fdiv j)) (fun i j k e=>(EQ e).2▸p_div (EQ e).1) h)
 | Mod=>exact .inl (DG (f:=fun i j=>if j=0 then none else some (i.fmod j)) (fun i j k e=>(EQ e).2▸p_mod (EQ e).1) h)
 | _=>exact Ab h
theorem Gd {o:Option Bool} (h:Dt o=some b):∃ c,o=some c/\b = !c:=by
 obtain ⟨c,e,h⟩:=bind_some h
 exact ⟨c,e,(Option.some.inj h).symm⟩
theorem eqV_ok (h:eqV σ x y=some b):Pr2 (compareOp .Eq) x y σ (vb b) σ/\Pr2 (compareOp .NotEq) x y σ (vb !b) σ:=by
 obtain ⟨d,e,h⟩:=bind_some h
 obtain ⟨d',e',h⟩:=bind_some h
 exact ⟨p_eq e e' h,p_ne e e' h⟩
theorem isV_ok (h:isV x y=some b):Pr2 (compareOp .Is) x y σ (vb b) σ/\Pr2 (compareOp .IsNot) x y σ (vb !b) σ:=by
 cases y with
 | d z=>cases z with
  | none =>
   have h:(bif EF x then some false else isNo x)=some b:=h
   cases q:EF x with
   | true=>rw [q] at h; rw [<-Option.some.inj h]; exact p_isN q
   | false =>
    rw [q] at h
    cases x with
    | d u=>cases u with
     | none=>rw [<-Option.some.inj h]; exact p_is
     | _=>exact Ab h
    | _=>exact Ab h
  | _=>exact Ab h
 | _=>exact Ab h
theorem inSeq_ok (h:inSeq σ x y=some b):Pr2 (compareOp .In) x y σ (vb b) σ/\Pr2 (compareOp .NotIn) x y σ (vb !b) σ:=by
 obtain ⟨d,e,h⟩:=bind_some h
 obtain ⟨d',e',h⟩:=bind_some h
 cases d' with
 | list ds=>exact in_seq e (.inl e') h
 | tuple ds=>exact in_seq e (.inr e') h
 | _=>exact Ab h
theorem Es (h:(match BA y with | some w=>(BA x).bind fun u=>some (Txt.contains w u) | none=>inSeq σ x y)=some b):Pr2 (compareOp .In) x y σ (vb b) σ/\Pr2 (compareOp .NotIn) x y σ (vb !b) σ:=by
 cases e:BA y with
 | some w =>
  rw [e] at h
  obtain ⟨u,e',h⟩:=bind_some h
  rw [Bg e,Bg e',<-Option.some.inj h]; exact p_inT
 | none=>rw [e] at h; exact inSeq_ok h
theorem inV_ok (h:inV σ x y=some b):Pr2 (compareOp .In) x y σ (vb b) σ/\Pr2 (compareOp .NotIn) x y σ (vb !b) σ:=by
 cases y with
 | ref k =>
  have h:inO σ x k σ[k]? = some b:=h
  cases e:σ[k]? with
  | none=>rw [e] at h; exact Ab h
  | some o =>
   rw [e] at h
   cases o with
   | list ws=>exact inSeq_ok h
   | dictS kvs=>obtain ⟨u,e',h⟩:=bind_some h; rw [Bg e',<-Option.some.inj h]; exact p_inS e
   | dictP kvs=>obtain ⟨u,e',h⟩:=bind_some h; rw [GB e',<-Option.some.inj h]; exact p_inP e
 | d z=>exact Es h
 | tup z=>exact Es h
 | pr _ _=>exact Es h
 | ty z=>exact Es h
 | obj z=>exact Es h
 | exc z=>exact Es h
 | ecl z=>exact Es h
theorem Gl {f:Int->Int->Bool} {m:Value->Value->Sem Value} (hf:∀ i j,Pr2 m (vi i) (vi j) σ (vb (f i j)) σ) (h:cmpI f x y=some b):Pr2 m x y σ (vb b) σ:=by
 obtain ⟨i,e,h⟩:=bind_some h
 obtain ⟨j,e',h⟩:=bind_some h
 rw [AR e,AR e',<-Option.some.inj h]
 exact hf i j
theorem CC {op:CmpOp} (h:Ct op x y σ=some b):Pr2 (compareOp op) x y σ (vb b) σ:=by
 cases op with
 | Eq=>exact (eqV_ok h).1
 | NotEq=>obtain ⟨c,e,rfl⟩:=Gd h; exact (eqV_ok e).2
 | Lt=>exact Gl (fun _ _=>p_lt) h
 | LtE=>exact Gl (fun _ _=>p_le) h
 | Gt=>exact Gl (fun _ _=>p_gt) h
 | GtE =>
  have h:geV x y=some b:=h
  unfold geV at h
  cases e:BA x with
  | some a =>
   rw [e] at h
   obtain ⟨b',e2,h⟩:=bind_some h
   rw [Bg e,Bg e2,<-Option.some.inj h]; exact p_geS
  | none=>rw [e] at h; exact Gl (fun _ _=>p_ge) h
 | Is=>exact (isV_ok h).1
 | IsNot=>obtain ⟨c,e,rfl⟩:=Gd h; exact (isV_ok e).2
 | In=>exact (inV_ok h).1
 | NotIn=>obtain ⟨c,e,rfl⟩:=Gd h; exact (inV_ok e).2
theorem nth_some {k:Int} (h:nth ws k=some v):small k=true/\∃ j,seqIndex? k ws.length=some j/\ws[j]? = some v:=by
 unfold nth at h
 by_cases q:small k=true
 ·rw [if_pos q] at h; exact ⟨q,bind_some h⟩
 ·rw [if_neg q] at h; exact Ab h
theorem nthL_ok (e:Ag σ x=some ws) (h:(BP y).bind (nth ws)=some v):PrG x y σ v:=by
 obtain ⟨k,e',h⟩:=bind_some h
 obtain ⟨q,j,h1,h2⟩:=nth_some h
 rw [AR e']; exact g_list e q h1 h2
theorem Dg (h:(match BA x with
 | some z=>(BP y).bind fun k=>if small k=true then (Txt.charAt z k).bind fun c=>some (.d (.str (chr1 c))) else none
 | none=>(match Cm x with
  | some ws=>(BP y).bind (nth ws)
  | none=>(Ag σ x).bind fun ws=>(BP y).bind (nth ws)))=some v):PrG x y σ v:=by
 cases e:BA x with
 | some z =>
  rw [e] at h
  obtain ⟨k,e',h⟩:=bind_some h
  by_cases q:small k=true
  ·rw [if_pos q] at h
   obtain ⟨c,e2,h⟩:=bind_some h
   rw [Bg e,AR e',<-Option.some.inj h]; exact g_str q e2
  ·rw [if_neg q] at h; exact Ab h
 | none =>
  rw [e] at h
  cases e2:Cm x with
  | some ws =>
   rw [e2] at h
   obtain ⟨k,e',h⟩:=bind_some h
   obtain ⟨q,j,h1,h2⟩:=nth_some h
   rw [AR e']; exact g_tup e2 q h1 h2
  | none=>rw [e2] at h; obtain ⟨ws,e3,h⟩:=bind_some h; exact nthL_ok e3 h
theorem subscr_ok (h:AI x y σ=some v):PrG x y σ v:=by
 cases x with
 | ref k =>
  have h:subO σ y σ[k]? = some v:=h
  cases e:σ[k]? with
  | none=>rw [e] at h; exact Ab h
  | some o =>
   rw [e] at h
   cases o with
   | list ws=>exact nthL_ok (x:=.ref k) (by show BF σ[k]? = _; rw [e]; rfl) h
   | dictS kvs =>
    obtain ⟨u,e',h⟩:=bind_some h
    rw [Bg e']; exact g_dictS e h
   | dictP kvs =>
    obtain ⟨u,e',h⟩:=bind_some h
    obtain ⟨d,e2,h⟩:=bind_some h
    rw [GB e',<-Option.some.inj h]; exact g_dictP e e2
 | d z=>exact Dg h
 | tup z=>exact Dg h
 | pr _ _=>exact Dg h
 | ty z=>exact Dg h
 | obj z=>exact Dg h
 | exc z=>exact Dg h
 | ecl z=>exact Dg h
theorem cutL_ok (h:cutL σ x lo hi=some ws):PrC x σ lo hi fun r g=>Be r g σ ws:=by
 obtain ⟨us,e,h⟩:=bind_some h
 exact Option.some.inj h▸c_list e
theorem slice_ok (h:slice σ x lo hi=some v):(PrC x σ lo hi fun r g=>Ans r g v σ)\/∃ ws,cutL σ x lo hi=some ws/\mkL ws=some v:=by
 unfold slice at h
 cases e:BA x with
 | some z=>rw [e] at h; rw [Bg e,<-Option.some.inj h]; exact .inl c_str
 | none=>rw [e] at h; exact .inr (bind_some h)
theorem D9 (x:Str):∀ l:List Str,(Dm x l).Perm (x::l)
 | []=>.refl _
 | y::r=>by
  show (if AN x y=true then x::y::r else y::Dm x r).Perm _
  by_cases q:AN x y=true
  ·rw [if_pos q]
  ·rw [if_neg q]; exact (List.Perm.cons y (D9 x r)).trans (.swap ..)
theorem E5:∀ l:List Str,(Dh l).Perm l
 | []=>.refl _
 | x::r=>(D9 x _).trans (.cons x (E5 r))
theorem ltStr_asym {a b:Str} (h:AN a b=true):AN b a=false:=decide_eq_false fun q=>List.lt_irrefl _ (List.lt_trans (of_decide_eq_true h) q)
theorem ltStr_of {a b c:Str} (h1:AN a b=true) (h2:AN c b=false):AN c a=false:=decide_eq_false fun q=>of_decide_eq_false h2 (List.lt_trans q (of_decide_eq_true h1))
theorem Eg (x:Str):∀ l:List Str,CD l->CD (Dm x l)
 | [],_=>List.pairwise_singleton ..
 | y::r,h=>by
  have h1:=List.pairwise_cons.mp h
  show CD (if AN x y=true then x::y::r else y::Dm x r)
  by_cases q:AN x y=true
  ·rw [if_pos q]
   refine List.pairwise_cons.mpr ⟨fun w hw=>?_,h⟩
   rcases List.mem_cons.mp hw with rfl | hw
   ·exact ltStr_asym q
   ·exact ltStr_of q (h1.1 w hw)
  ·rw [if_neg q]
   refine List.pairwise_cons.mpr ⟨fun w hw=>?_,Eg x r h1.2⟩
   rcases List.mem_cons.mp ((D9 x r).mem_iff.mp hw) with rfl | hw
   ·rw [Bool.not_eq_true] at q; exact q
   ·exact h1.1 w hw
theorem C9:∀ l:List Str,CD (Dh l)
 | []=>.nil
 | x::r=>Eg x _ (C9 r)
theorem toList_ok (h:toList σ x=some ws):PrN1 (fun X=>call (A6 .list) [X]) x σ ws 3:=by
 cases x with
 | ref k =>
  have h:keysO σ[k]? = some ws:=h
  cases e:σ[k]? with
  | none=>rw [e] at h; exact Ab h
  | some o =>
   rw [e] at h
   cases o with
   | list us=>rw [<-Option.some.inj h]; exact (f_list (x:=.ref k) (by show BF σ[k]? = _; rw [e]; rfl)).up
   | dictS kvs =>
    obtain ⟨q,h⟩:=AJ (show (if kvs.all (fun p=>decide (p.1.length<=line))=true then some (vss (kvs.map (·.1))) else none)=some ws from h)
    rw [<-h]; exact f_listD e fun p hp=>of_decide_eq_true (List.all_eq_true.mp q p hp)
   | dictP kvs=>exact Ab h
 | d z=>exact (f_list (x:=.d z) h).up
 | tup z=>exact Ab h
 | pr _ _=>exact Ab h
 | ty z=>exact Ab h
 | obj z=>exact Ab h
 | exc z=>exact Ab h
 | ecl z=>exact Ab h
theorem bmake1_ok {b:Bi} (h:bmake1 b σ x=some ws):PrN1 (fun X=>call (A6 b) [X]) x σ ws 3:=by
 cases b with
 | list=>exact toList_ok h
 | sorted =>
  obtain ⟨us,e,h⟩:=bind_some h
  obtain ⟨ss,e',h⟩:=bind_some h
  obtain ⟨q,h⟩:=AJ h
  rw [<-h]
  exact (f_sorted (e.trans (congrArg some (Dk (g:=fun y=>.d (.str y)) (fun _ _=>Bg) e'))) q (E5 ss) (C9 ss)).up
 | _=>exact Ab h
theorem lenV_ok (h:lenV σ x=some v):Pr1 (fun X=>call (A6 .len) [X]) x σ v σ:=by
 unfold lenV at h
 cases e:BA x with
 | some z=>rw [e] at h; rw [Bg e,<-Option.some.inj h]; exact f_lenS
 | none =>
  rw [e] at h
  cases e2:Cm x with
  | some ws=>rw [e2] at h; rw [<-Option.some.inj h]; exact f_lenT e2
  | none=>rw [e2] at h; obtain ⟨ws,e3,h⟩:=bind_some h; rw [<-Option.some.inj h]; exact f_len e3
theorem ord_ok {z:Str} (h:(match z.cps.toList with | c::r=>(match r with | []=>some (vi c) | _=>none) | []=>none)=some v):Pr1 (fun X=>call (A6 .ord) [X]) (.d (.str z)) σ v σ:=by
 match e:z.cps.toList,h with
 | [],h=>exact Ab h
 | [c],h =>
  rw [<-Option.some.inj h,show z=chr1 c by rw [show z=⟨z.cps⟩ from rfl,<-Array.toArray_toList (xs:=z.cps),e]; rfl]
  exact f_ord
 | _::_::_,h=>exact Ab h
theorem bif_some {α:Type} {c:Bool} {o:Option α} {y:α} (h:(bif c then o else none)=some y):c=true/\o=some y:=by cases c with | true=>exact ⟨rfl,h⟩ | false=>exact Ab h
theorem reprV_ok (h:reprV x=some v):Pr1 (fun X=>call (A6 .repr) [X]) x σ v σ:=by
 cases x with
 | d y =>
  obtain ⟨q,h⟩:=bif_some (show (bif isLT y&&shwB y then some (V.d (.str y.shown)) else none)=some v from h)
  exact Option.some.inj h▸f_repr (Bool.and_eq_true_iff.mp q).1 (shw_iff.mp (Bool.and_eq_true_iff.mp q).2)
 | _=>exact Ab h
theorem bcall1_ok {b:Bi} (h:bcall1 b σ x=some v):Pr1 (fun X=>call (A6 b) [X]) x σ v σ 3\/∃ ws,bmake1 b σ x=some ws/\mkL ws=some v:=by
 cases b with
 | len=>exact .inl (lenV_ok h).up
 | str =>
  obtain ⟨i,e,h⟩:=bind_some h
  obtain ⟨q,h⟩:=AJ h
  rw [AR e,<-h]; exact .inl (f_str q).up
 | all =>
  obtain ⟨us,e,h⟩:=bind_some h
  obtain ⟨ss,e',h⟩:=bind_some h
  rw [<-Option.some.inj h]
  exact .inl (f_all (e.trans (congrArg some (Dk (g:=fun y=>.d (.bool y)) (fun _ _=>boolV_eq) e'))))
 | any =>
  obtain ⟨us,e,h⟩:=bind_some h
  obtain ⟨ss,e',h⟩:=bind_some h
  rw [<-Option.some.inj h]
  exact .inl (f_any (e.trans (congrArg some (Dk (g:=fun y=>.d (.bool y)) (fun _ _=>boolV_eq) e'))))
 | ord =>
  obtain ⟨z,e,h⟩:=bind_some h
  rw [Bg e]; exact .inl (ord_ok h).up
 | repr=>exact .inl (reprV_ok h).up
 | _=>exact .inr (bind_some h)
theorem int_of_ty (h:tyOf σ x=some "int"):∃ i,x=vi i:=by
 cases x with
 | d y=>cases y with
  | int i=>exact ⟨i,rfl⟩
  | none=>exact Ab h
  | dict _=>exact Ab h
  | _=>exact absurd (Option.some.inj h) (by decide)
 | tup _=>exact absurd (Option.some.inj h) (by decide)
 | ref k=>obtain ⟨_,_,h⟩:=bind_some h; exact absurd (Option.some.inj h) (by decide)
 | _=>exact Ab h
theorem isiV_ok {t:String} (h:isiV σ x t=some b):Pr2 (fun X Y=>call (A6 .isinstance) [X,Y]) x (.ty t) σ (vb b) σ:=by
 obtain ⟨u,e,h⟩:=bind_some h
 by_cases q:u=t
 ·rw [if_pos q] at h
  obtain ⟨q',h2⟩:=AJ h
  subst q
  rw [<-h2]
  rcases q' with q' | q' | q' | q'
  ·subst q'; exact f_isi e (by kernel_rfl) (by rw [isSubtype_type]; kernel_rfl)
  ·subst q'; exact f_isi e (by kernel_rfl) (by rw [isSubtype_type]; kernel_rfl)
  ·subst q'; exact f_isi e (by kernel_rfl) (by rw [isSubtype_type]; kernel_rfl)
  ·subst q'; exact f_isi e (by kernel_rfl) (by rw [isSubtype_type]; kernel_rfl)
 ·rw [if_neg q] at h
  obtain ⟨⟨q1,q2⟩,h2⟩:=AJ h
  subst q1 q2
  obtain ⟨i,rfl⟩:=int_of_ty e
  rw [<-h2]; exact f_isIB
theorem bcall2_ok {b:Bi} (h:bcall2 b σ x y=some v):Pr2 (fun X Y=>call (A6 b) [X,Y]) x y σ v σ 3:=by
 cases b with
 | min=>exact DG (fun i j k e=>Option.some.inj e▸f_min) h
 | isinstance =>
  cases y with
  | ty t=>obtain ⟨b,e,h⟩:=bind_some h; rw [<-Option.some.inj h]; exact (isiV_ok e).up
  | _=>exact Ab h
 | _=>exact Ab h
theorem wOf_eq {u:PyData ⊕ Nat} (h:wOf v=some u):v=wv u:=by
 cases v with
 | d x=>rw [<-Option.some.inj h]; rfl
 | ref k=>rw [<-Option.some.inj h]; rfl
 | _=>exact Ab h
theorem bindB_ok {ts:List Nat} (h:bindB ts v=true):Ex ts v:=by
 rcases Bool.or_eq_true_iff.mp h with q | q
 ·exact .inl (Nat.eq_of_beq_eq_true q)
 ·cases e:Cm v with
  | none=>rw [e] at q; exact ff_ q
  | some vs=>rw [e] at q; exact .inr ⟨vs,e,Nat.eq_of_beq_eq_true q⟩
end
end Mine
namespace Mine
open PySem
structure Cb (n:Nat) (e:E) (w:Ev):Prop where
 v:∀ {ρ σ x},w.v ρ σ=some x->SE (n+3) e ρ σ x σ
 nl:∀ {ρ σ ws},w.nl ρ σ=some ws->SL (n+3) e ρ σ ws σ
 row:∀ {ρ σ xs},w.row ρ σ=some xs->SEs (n+3) e ρ σ xs σ
 it:∀ {ρ σ p},w.it ρ σ=some p->SI (n+3) e ρ σ p.1 p.2 σ/\Bt σ p.2
 t:∀ {ρ σ b},w.t ρ σ=some b->ST (n+3) e ρ σ b σ
 bo:∀ {op ρ σ x},w.bo op ρ σ=some x->SB (n+3) op e ρ σ x σ
 bt:∀ {op ρ σ b},w.bt op ρ σ=some b->SBt (n+3) op e ρ σ b σ
 ts:∀ {ρ σ b},w.ts ρ σ=some b->SIf (n+3) e ρ σ b σ
noncomputable def isLogic (e:E):Bool:=match e with | .not _=>true | .bop _ _=>true | .cmp _ _ _=>true | _=>false
theorem Gw (e:E) {K:Kx} {ex:Expr} (hp:isLogic e=false) (h:IsE e K ex):∀ env w,isTrue ex env w=(w>>=fun v=>standAt ex.pos>>=fun _=>holding [v] (truthy v)):=by
 cases e with
 | nil=>exact h.elim
 | cons _ _=>exact h.elim
 | not _=>exact tt_ hp
 | bop _ _=>exact tt_ hp
 | cmp _ _ _=>exact tt_ hp
 | _=>exact h (fun ex=>∀ env w,isTrue ex env w=(w>>=fun v=>standAt ex.pos>>=fun _=>holding [v] (truthy v))) (by intros; rfl)
section
variable {n:Nat} {e a b r:E} {O:Orc} {f:Af->Aa->Option V} {g:Af->Aa->Option (List V)} {ρ:Af} {σ:Aa} {ws:List V} {v x:V}
theorem BT {v:V} {ws:List V} (h:Ag σ v=some ws):Bt σ (C4 v ws):=fun k us m=>by
 cases v with
 | ref j =>
  have m:(k,us)∈[(j,ws)]:=m
  obtain ⟨rfl,rfl⟩:=Prod.mk.inj (List.mem_singleton.mp m)
  exact Cd h
 | _=>exact nomatch m
theorem items_ok {p:Its} (hz:Ba e=false) (h:SE (n+3) e ρ σ v σ) (hv:CN σ v=some p):SI (n+3) e ρ σ p.1 p.2 σ/\Bt σ p.2:=by
 unfold CN at hv
 cases q:BA v with
 | some z =>
  rw [q] at hv
  obtain ⟨ha,hv⟩:=AJ hv
  rw [Bg q] at h
  exact hv▸⟨SI.str (Nat.le_add_left 3 n) h ha hz,fun _ _ m=>nomatch m⟩
 | none =>
  rw [q] at hv
  obtain ⟨ws,e1,hv⟩:=bind_some hv
  exact Option.some.inj hv▸⟨.lst h e1 hz,BT e1⟩
theorem Cb.plain (h:∀ {ρ σ x},f ρ σ=some x->SE (n+3) e ρ σ x σ) (hl:isLogic e=false:=by rfl) (hz:Ba e=false:=by rfl):Cb n e (.plain f) where
 v:=h
 nl:=fun h=>Ab h
 row:=fun h=>Ab h
 it:=fun q=>by obtain ⟨x,e1,q⟩:=bind_some q; exact items_ok hz (h e1) q
 t:=fun q=>by obtain ⟨x,e1,q⟩:=bind_some q; exact ST.plain (fun hc=>Gw e hl hc) (h e1) (Cn q)
 bo:=fun h=>Ab h
 bt:=fun h=>Ab h
 ts:=fun h=>Ab h
theorem Cb.made (h:∀ {ρ σ x},f ρ σ=some x->SE (n+3) e ρ σ x σ) (hg:∀ {ρ σ ws},g ρ σ=some ws->ws.length<=line->SL (n+3) e ρ σ ws σ) (hl:isLogic e=false:=by rfl) (hz:Ba e=false:=by rfl):Cb n e (.made f g) :=
 { Cb.plain h hl hz with nl:=fun q=>by obtain ⟨us,e1,q⟩:=bind_some q; obtain ⟨q1,q2⟩:=AJ q; exact q2▸hg e1 q1 }
theorem Fu (h:SL (n+3) e ρ σ ws σ) (hv:mkL ws=some v):SE (n+3) e ρ σ v σ:=by
 obtain ⟨ds,e,_,rfl⟩:=GJ hv
 rw [e] at h
 exact SE.frz h
theorem Cb.no:Cb n e .no:=⟨fun h=>Ab h,fun h=>Ab h,fun h=>Ab h,fun h=>Ab h,fun h=>Ab h,fun h=>Ab h,fun h=>Ab h,fun h=>Ab h⟩
theorem Fk {l:Option Int} (h:∀ {ρ σ x},f ρ σ=some x->SE (n+3) e ρ σ x σ) (q:optI e f ρ σ=some l):SO (n+3) e ρ σ l σ:=by
 unfold optI at q
 by_cases c:Bq e=true
 ·rw [if_pos c] at q
  rw [<-Option.some.inj q]
  cases e with
  | nil=>exact .none
  | _=>exact ff_ c
 ·rw [if_neg c] at q
  obtain ⟨y,e1,q⟩:=bind_some q
  obtain ⟨i,e2,q⟩:=bind_some q
  rw [<-Option.some.inj q]
  exact .some (Bool.not_eq_true _▸c) (AR e2▸h e1)
theorem Dd (h:DS e=true):Ff e:=by
 cases e with
 | var _=>exact basic_var
 | cst _=>exact basic_cst
 | sub _ _=>exact basic_sub
 | attr _ _=>exact basic_attr
 | _=>exact ff_ h
theorem Da {elt ifs:E} {ts:List Nat} {kps:List (Nat×List V)} {w1 w2:Ev} (h1:Cb n elt w1) (h2:Cb n ifs w2) (hk:Bt σ kps):∀ {vs ws:List V},CK (fun v=>bif bindB ts v then (w2.ts (Bw (AA ρ ts) ts v) σ).bind fun t=>bif t then (w1.v (Bw (AA ρ ts) ts v) σ).bind (fun u=>some (some u)) else some none else none) vs=some ws->Ds (n+3) elt ts ifs kps ρ σ vs σ ws
 | [],ws,h=>⟨hk,(Option.some.inj h).symm,rfl⟩
 | v::vs,ws,h=>by
  obtain ⟨o,e1,h⟩:=bind_some h
  obtain ⟨us,e2,h⟩:=bind_some h
  obtain ⟨hb,e1⟩:=bif_some e1
  obtain ⟨t,e3,e1⟩:=bind_some e1
  refine ⟨hk,(bindB_ok hb).at (Nat.le_add_left 3 n),t,σ,h2.ts e3,fun q=>?_,fun q=>?_⟩
  ·subst q
   rw [<-Option.some.inj (show some none=some o from e1)] at h
   rw [<-Option.some.inj (show some us=some ws from h)]
   exact Da h1 h2 hk e2
  ·subst q
   obtain ⟨u,e4,e1⟩:=bind_some (show (w1.v (Bw (AA ρ ts) ts v) σ).bind (fun u=>some (some u))=some o from e1)
   rw [<-Option.some.inj e1] at h
   exact ⟨u,us,σ,h1.v e4,(Option.some.inj (show some (u::us)=some ws from h)).symm,Da h1 h2 hk e2⟩
theorem GO {ds:List PyData} (h:listD σ v=some ds):Ag σ v=some (ds.map .d):=by
 obtain ⟨ws,e1,h⟩:=bind_some h
 rw [e1,EZ h]
end
section
variable {n:Nat} {O:Orc} (hO:∀ f xs σ v,O f xs σ=some v->FA (n+3) f xs σ v σ)
include hO
theorem ev_meth {m:Meth} {o es:E} {ρ:Af} {σ:Aa} {x v:V} {ys:List V} (hb:DS o=true) (h1:SE (n+3) o ρ σ x σ) (h2:SEs (n+3) es ρ σ ys σ) (h:methV m σ x ys=some v):SE (n+3) (.meth m o es) ρ σ v σ:=by
 cases m with
 | join =>
  have h:joinV σ x ys=some v:=h
  match ys,h with
  | [],h=>exact Ab h
  | [y],h =>
   obtain ⟨z,e1,h⟩:=bind_some h
   obtain ⟨ws,e2,h⟩:=bind_some h
   obtain ⟨ss,e3,h⟩:=bind_some h
   obtain ⟨q,h⟩:=AJ h
   rw [Bg e1] at h1
   exact h▸SE.join (Dd hb) (e2.trans (congrArg some (Dk (g:=fun y=>.d (.str y)) (fun _ _=>Bg) e3))) q h1 h2
  | _::_::_,h=>exact Ab h
 | index =>
  have h:indexV σ x ys=some v:=h
  match ys,h with
  | [],h=>exact Ab h
  | [y],h =>
   cases x with
   | ref k =>
    obtain ⟨ws,e1,h⟩:=bind_some (show (BF σ[k]?).bind (fun ws=>(CS ws).bind fun ds=>(isDV y).bind fun d=>(inD d ds).bind fun _=>(idxD d ds).bind fun j=>some (vi j))=some v from h)
    obtain ⟨ds,e2,h⟩:=bind_some h
    obtain ⟨d,e3,h⟩:=bind_some h
    obtain ⟨q,e4,h⟩:=bind_some h
    obtain ⟨j,e5,h⟩:=bind_some h
    have hy:y=.d d:=by cases y with | d z=>rw [Option.some.inj e3] | _=>exact Ab e3
    rw [hy] at h2
    rw [EZ e2] at e1
    exact Option.some.inj h▸SE.lmeth (Dd hb) F.slot_list_index F.type_list_index h1 h2 (Cd e1) (Cd e1) (m_index e4 e5)
   | _=>exact Ab h
  | _::_::_,h=>exact Ab h
 | get =>
  have h:dgetV σ x ys=some v:=h
  match ys,h with
  | [],h=>exact Ab h
  | [_],h=>exact Ab h
  | [y,z],h =>
   cases x with
   | ref k =>
    have h:dgetO σ[k]? y z=some v:=h
    cases e:σ[k]? with
    | none=>rw [e] at h; exact Ab h
    | some o =>
     rw [e] at h
     cases o with
     | dictP kvs =>
      obtain ⟨q,e1,h⟩:=bind_some (show (pairV y).bind (fun q=>some (dfl (Al kvs q) z))=some v from h)
      rw [GB e1] at h2
      exact Option.some.inj h▸SE.getP (Dd hb) h1 h2 e e
     | _=>exact Ab h
   | _=>exact Ab h
  | _::_::_::_,h=>exact Ab h
 | _=>exact Ab h
theorem Ad:∀ e:E,Cb n e (ev O e)
 | .cst x=>.plain fun h=>Option.some.inj h▸.cst x
 | .var i=>.plain fun {ρ σ x} h=>.var (by
  have h:(match ρ[i]? with | some o=>o | none=>none)=some x:=h
  cases e:ρ[i]? with
  | none=>rw [e] at h; exact Ab h
  | some o=>rw [e] at h; rw [show o=some x from h])
 | .ty t=>.plain fun h=>Option.some.inj h▸.ty
 | .glb x=>.plain fun h=>Option.some.inj h▸.glb
 | .bin op a b=>.made (fun h=>by
  obtain ⟨x,e1,h⟩:=bind_some h
  obtain ⟨y,e2,h⟩:=bind_some h
  rcases binop_ok h with q | ⟨ws,q1,q2⟩
  ·exact .bin ((Ad a).v e1) ((Ad b).v e2) q
  ·exact Fu (.bin ((Ad a).v e1) ((Ad b).v e2) (catL_ok q1)) q2) fun h hl=>by
  obtain ⟨x,e1,h⟩:=bind_some h
  obtain ⟨y,e2,h⟩:=bind_some h
  exact .bin ((Ad a).v e1) ((Ad b).v e2) (catL_ok h)
 | .neg a=>.plain fun h=>by
  obtain ⟨x,e1,h⟩:=bind_some h
  obtain ⟨i,e2,h⟩:=bind_some h
  exact Option.some.inj h▸.neg (AR e2▸(Ad a).v e1)
 | .not a=>{ Cb.no with
  v:=fun h=>by
   obtain ⟨x,e1,h⟩:=bind_some h
   obtain ⟨t,e2,h⟩:=bind_some h
   exact Option.some.inj h▸.not ((Ad a).v e1) (Cn e2)
  t:=fun h=>by obtain ⟨c,e1,e2⟩:=Gd h; exact e2▸.not ((Ad a).t e1) }
 | .bop op es=>{ Cb.no with v:=fun h=>.bop ((Ad es).bo h),t:=fun h=>.bop ((Ad es).bt h) }
 | .cmp op a b=>{ Cb.no with
  v:=fun h=>by
   obtain ⟨x,e1,h⟩:=bind_some h
   obtain ⟨y,e2,h⟩:=bind_some h
   obtain ⟨t,e3,h⟩:=bind_some h
   exact Option.some.inj h▸.cmp ((Ad a).v e1) ((Ad b).v e2) (CC e3)
  t:=fun h=>by
   obtain ⟨x,e1,h⟩:=bind_some h
   obtain ⟨y,e2,h⟩:=bind_some h
   exact .cmp ((Ad a).v e1) ((Ad b).v e2) (CC h) }
 | .nil=>{ Cb.no with row:=fun h=>Option.some.inj h▸.nil,bt:=fun h=>Option.some.inj h▸.nil,ts:=fun h=>Option.some.inj h▸.nil }
 | .cons a r=>{ Cb.no with
  row:=fun h=>by
   obtain ⟨x,e1,h⟩:=bind_some h
   obtain ⟨xs,e2,h⟩:=bind_some h
   exact Option.some.inj h▸.cons ((Ad a).v e1) ((Ad r).row e2)
  bo:=fun {op ρ σ x} h=>by
   have h:(bif Bq r then (ev O a).v ρ σ else ((ev O a).v ρ σ).bind fun x=>(Eb σ x).bind fun t=>bif t == Co op then some x else (ev O r).bo op ρ σ)=some x:=h
   cases q:Bq r with
   | true =>
    rw [q] at h
    have e:r=.nil:=by cases r with | nil=>rfl | _=>exact ff_ q
    rw [e]; exact .one ((Ad a).v h)
   | false =>
    rw [q] at h
    obtain ⟨y,e1,h⟩:=bind_some (show ((ev O a).v ρ σ).bind (fun x=>(Eb σ x).bind fun t=>bif t == Co op then some x else (ev O r).bo op ρ σ)=some x from h)
    obtain ⟨t,e2,h⟩:=bind_some h
    refine .more q ((Ad a).v e1) (Cn e2) (fun c=>?_) fun c=>?_
    ·rw [beq_iff_eq.mpr c] at h; exact ⟨(Option.some.inj h).symm,rfl⟩
    ·rw [beq_eq_false_iff_ne.mpr c] at h; exact (Ad r).bo h
  bt:=fun {op ρ σ b} h=>by
   obtain ⟨t,e1,h⟩:=bind_some h
   refine .cons ((Ad a).t e1) (fun c=>?_) fun c=>?_
   ·rw [beq_iff_eq.mpr c] at h; exact ⟨(Option.some.inj h).symm,rfl⟩
   ·rw [beq_eq_false_iff_ne.mpr c] at h; exact (Ad r).bt h
  ts:=fun {ρ σ b} h=>by
   obtain ⟨t,e1,h⟩:=bind_some h
   cases t with
   | true=>exact .cons ((Ad a).t e1) ((Ad r).ts h)
   | false=>exact Option.some.inj (show some false=some b from h)▸.no ((Ad a).t e1) }
 | .tup es=>.plain fun {ρ σ x} h=>by
  obtain ⟨ws,e1,h⟩:=bind_some h
  unfold tupV at h
  by_cases q:ws.length<=line
  ·rw [if_pos q] at h
   cases e2:CS ws with
   | some ds =>
    rw [e2] at h
    have e3:=EZ e2
    have e4:=(Ad es).row e1
    rw [e3] at e4 q
    rw [List.length_map] at q
    exact Option.some.inj (show some (V.d (.tuple ds))=some x from h)▸.tup e4 q
   | none =>
    rw [e2] at h
    obtain ⟨us,e3,h⟩:=bind_some (show (C3 wOf ws).bind (fun us=>some (V.tup us))=some x from h)
    have e4:=(Ad es).row e1
    rw [Dk (g:=wv) (fun _ _=>wOf_eq) e3] at e4 q
    rw [List.length_map] at q
    exact Option.some.inj h▸.tupR e4 q
  ·rw [if_neg q] at h; exact Ab h
 | .lst es=>.made (fun h=>by
  obtain ⟨ws,e1,h⟩:=bind_some h
  obtain ⟨_,_,q,_⟩:=GJ h
  exact Fu (.lst ((Ad es).row e1) q) h) fun h hl=>.lst ((Ad es).row h) hl
 | .sub a i=>.plain fun h=>by
  obtain ⟨x,e1,h⟩:=bind_some h
  obtain ⟨y,e2,h⟩:=bind_some h
  exact .sub ((Ad a).v e1) ((Ad i).v e2) (subscr_ok h)
 | .slc a lo hi=>.made (fun h=>by
  obtain ⟨x,e1,h⟩:=bind_some h
  obtain ⟨l,e2,h⟩:=bind_some h
  obtain ⟨u,e3,h⟩:=bind_some h
  rcases slice_ok h with q | ⟨ws,q1,q2⟩
  ·exact .slc ((Ad a).v e1) (Fk (Ad lo).v e2) (Fk (Ad hi).v e3) q
  ·exact Fu (.slc ((Ad a).v e1) (Fk (Ad lo).v e2) (Fk (Ad hi).v e3) (cutL_ok q1)) q2) fun h hl=>by
  obtain ⟨x,e1,h⟩:=bind_some h
  obtain ⟨l,e2,h⟩:=bind_some h
  obtain ⟨u,e3,h⟩:=bind_some h
  exact .slc ((Ad a).v e1) (Fk (Ad lo).v e2) (Fk (Ad hi).v e3) (cutL_ok h)
 | .bi b es=>.made (fun {ρ σ v} h=>by
  obtain ⟨ws,e1,h⟩:=bind_some h
  match ws,e1,h with
  | [],_,h=>exact Ab h
  | [x],e1,h =>
   rcases bcall1_ok h with q | ⟨ws,q1,q2⟩
   ·exact .bi1 ((Ad es).row e1) q (Nat.le_add_left 3 n)
   ·exact Fu (.bi1 ((Ad es).row e1) (bmake1_ok q1) (Nat.le_add_left 3 n)) q2
  | [x,y],e1,h=>exact .bi2 ((Ad es).row e1) (bcall2_ok h) (Nat.le_add_left 3 n)
  | _::_::_::_,_,h=>exact Ab h) fun {ρ σ us} h hl=>by
  obtain ⟨ws,e1,h⟩:=bind_some h
  match ws,e1,h with
  | [],_,h=>exact Ab h
  | [x],e1,h=>exact .bi1 ((Ad es).row e1) (bmake1_ok h) (Nat.le_add_left 3 n)
  | _::_::_,_,h=>exact Ab h
 | .maxd a z=>.plain fun h=>by
  obtain ⟨x,e1,h⟩:=bind_some h
  obtain ⟨y,e2,h⟩:=bind_some h
  obtain ⟨k,e3,h⟩:=bind_some h
  obtain ⟨ws,e4,h⟩:=bind_some h
  obtain ⟨is,e5,h⟩:=bind_some h
  exact Option.some.inj h▸.maxd (Nat.le_add_left 3 n) ((Ad a).v e1) (AR e3▸(Ad z).v e2) (e4.trans (congrArg some (Dk (g:=vi) (fun _ _=>AR) e5)))
 | .fcall f es=>.plain fun h=>by
  obtain ⟨xs,e1,h⟩:=bind_some h
  exact .fcall ((Ad es).row e1) (hO _ _ _ _ h)
 | .meth m o es=>.plain fun h=>by
  obtain ⟨q,h⟩:=bif_some h
  obtain ⟨x,e1,h⟩:=bind_some h
  obtain ⟨ys,e2,h⟩:=bind_some h
  exact ev_meth hO q ((Ad o).v e1) ((Ad es).row e2) h
 | .attr _ _=>.no
 | .mcall _ _ _=>.no
 | .comp elt ts it ifs=>.made (fun h=>by
  obtain ⟨ws,h1,h⟩:=bind_some h
  obtain ⟨p,e1,h1⟩:=bind_some h1
  obtain ⟨i1,i2⟩:=(Ad it).it e1
  obtain ⟨_,_,q,_⟩:=GJ h
  exact Fu (.comp i1 (Da (Ad elt) (Ad ifs) i2 h1) q) h) fun h hl=>by
  obtain ⟨p,e1,h1⟩:=bind_some h
  obtain ⟨i1,i2⟩:=(Ad it).it e1
  exact .comp i1 (Da (Ad elt) (Ad ifs) i2 h1) hl
 | .range es=>{ Cb.no with
  it:=fun {ρ σ p} h=>by
   obtain ⟨xs,e1,h⟩:=bind_some h
   match xs,e1,h with
   | [],_,h=>exact Ab h
   | [x],e1,h =>
    obtain ⟨k,e2,h⟩:=bind_some (show (BP x).bind (fun k=>if k<=1000000/\-1000000<=k then some (upV 0 k.toNat,[]) else none)=some p from h)
    obtain ⟨q,h⟩:=AJ h
    have e3:=(Ad es).row e1
    rw [AR e2] at e3
    exact h▸⟨.range (Nat.le_add_left 3 n) e3 q.1 q.2,fun _ _ m=>nomatch m⟩
   | _::_::_,_,h=>exact Ab h }
 | .zip a b=>{ Cb.no with
  it:=fun h=>by
   obtain ⟨x,e1,h⟩:=bind_some h
   obtain ⟨y,e2,h⟩:=bind_some h
   obtain ⟨ds,e3,h⟩:=bind_some h
   obtain ⟨ds',e4,h⟩:=bind_some h
   exact Option.some.inj h▸⟨.zip (Nat.le_add_left 3 n) ((Ad a).v e1) ((Ad b).v e2) e3 e4,fun k us m=>(List.mem_append.mp m).elim (BT e3 k us) (BT e4 k us)⟩ }
 | .enum a=>{ Cb.no with
  it:=fun h=>by
   obtain ⟨x,e1,h⟩:=bind_some h
   obtain ⟨ds,e3,h⟩:=bind_some h
   exact Option.some.inj h▸⟨.enum (Nat.le_add_left 3 n) ((Ad a).v e1) (GO e3),BT (GO e3)⟩ }
 | .dct=>.no
 | .sortr _=>.no
 | .sortk _ _ _ _=>.no
 | .new=>.no
 | .sset _ _=>.no
 | .glx _=>.no
end
end Mine
namespace Mine
open PySem PySem.Calls
structure Cfg where
 n:Nat
 O:Orc
 ok:∀ f xs σ v,O f xs σ=some v->FN n f xs σ v σ
noncomputable abbrev Cfg.v (C:Cfg) (e:E):Af->Aa->Option V:=(ev C.O e).v
noncomputable abbrev Cfg.row (C:Cfg) (e:E):Af->Aa->Option (List V):=(ev C.O e).row
noncomputable abbrev Cfg.it (C:Cfg) (e:E):Af->Aa->Option Its:=(ev C.O e).it
noncomputable abbrev Cfg.nl (C:Cfg) (e:E):Af->Aa->Option (List V):=(ev C.O e).nl
noncomputable abbrev Cfg.t (C:Cfg) (e:E):Af->Aa->Option Bool:=(ev C.O e).t
def Ai (C:Cfg) (P:Fl->Aa->Prop) (l:S) (ρ:Af) (σ:Aa):Prop:=∃ fl σ',P fl σ'/\SSs (C.n+3) l ρ σ fun f s=>f=fl/\s=σ'
def Then (C:Cfg) (P:Fl->Aa->Prop) (r:S) (fl:Fl) (σ:Aa):Prop:=match fl with | .next ρ=>Ai C P r ρ σ | .ret v=>P (.ret v) σ
section
variable {C:Cfg} {P M:Fl->Aa->Prop} {l r a b body:S} {st:S} {ρ ρ':Af} {σ σ':Aa} {e c it:E} {x:Nat} {v:V} {t:Bool} {ws:List V} {xs ts:List Nat}
theorem Ai.mono (h:Ai C M l ρ σ) (hm:∀ fl σ,M fl σ->P fl σ):Ai C P l ρ σ:=by
 obtain ⟨fl,σ',h1,h2⟩:=h
 exact ⟨fl,σ',hm _ _ h1,h2⟩
theorem Ac (h:P (.next ρ) σ):Ai C P .nil ρ σ:=⟨_,_,h,.nil ⟨rfl,rfl⟩⟩
theorem B9 {fl:Fl} (hs:∀ Q:Fl->Aa->Prop,Q fl σ'->SS (C.n+3) st ρ σ Q) (h:Then C P r fl σ'):Ai C P (.cons st r) ρ σ:=by
 cases fl with
 | next ρ' =>
  obtain ⟨fl,σ₂,h1,h2⟩:=h
  exact ⟨fl,σ₂,h1,.cons (hs _ h2)⟩
 | ret v=>exact ⟨.ret v,σ',h,.cons (hs _ ⟨rfl,rfl⟩)⟩
theorem AS (hp:Br e=false) (h:SE (C.n+3) e ρ σ v σ') (k:Ai C P r (ρ.set x (some v)) σ'):Ai C P (.cons (.asg x e) r) ρ σ:=B9 (fl:=.next (ρ.set x (some v))) (fun Q q=>.asg hp h q) k
theorem Az (h:C.v e ρ σ=some v) (k:Ai C P r (ρ.set x (some v)) σ) (hp:Br e=false:=by rfl):Ai C P (.cons (.asg x e) r) ρ σ:=AS hp ((Ad C.ok e).v h) k
theorem Ck (h:C.nl e ρ σ=some ws) (k:Ai C P r (ρ.set x (some (.ref σ.length))) (σ++[.list ws])) (hp:Br e=false:=by rfl):Ai C P (.cons (.asg x e) r) ρ σ:=AS hp (SE.trk ((Ad C.ok e).nl h)) k
theorem Gi (k:Ai C P r (ρ.set x (some (.ref σ.length))) (σ++[.dictS []])):Ai C P (.cons (.asg x .dct) r) ρ σ:=AS rfl .dctS k
theorem comp_of {elt ifs:E} (h:C.nl (.comp elt ts it ifs) ρ σ=some ws):∃ vs kps,SI (C.n+3) it ρ σ vs kps σ/\Ds (C.n+3) elt ts ifs kps ρ σ vs σ ws/\ws.length<=line:=by
 obtain ⟨us,h1,q⟩:=bind_some h
 obtain ⟨q1,q2⟩:=AJ q
 obtain ⟨p,e1,h2⟩:=bind_some h1
 obtain ⟨i1,i2⟩:=(Ad C.ok it).it e1
 exact ⟨p.1,p.2,i1,q2▸Da (Ad C.ok elt) (Ad C.ok ifs) i2 h2,q2▸q1⟩
theorem go_comp {elt ifs:E} {ds:List PyData} (h:C.nl (.comp elt ts it ifs) ρ σ=some (ds.map .d)) (k:Ai C P r (ρ.set x (some (.d (.list ds)))) σ):Ai C P (.cons (.asg x (.comp elt ts it ifs)) r) ρ σ:=by
 obtain ⟨vs,kps,h1,h2,h3⟩:=comp_of h
 exact B9 (fl:=.next (ρ.set x (some (.d (.list ds))))) (fun Q q=>.asgC h1 h2 h3 (fun n=>n.frz) q) k
theorem go_compT {elt ifs:E} (h:C.nl (.comp elt ts it ifs) ρ σ=some ws) (k:Ai C P r (ρ.set x (some (.ref σ.length))) (σ++[.list ws])):Ai C P (.cons (.asg x (.comp elt ts it ifs)) r) ρ σ:=by
 obtain ⟨vs,kps,h1,h2,h3⟩:=comp_of h
 exact B9 (fl:=.next (ρ.set x (some (.ref σ.length)))) (fun Q q=>.asgC h1 h2 h3 (fun n=>n.trk) q) k
theorem go_expS (hp:Br e=false) (h:SE (C.n+3) e ρ σ v σ') (k:Ai C P r ρ σ'):Ai C P (.cons (.exp e) r) ρ σ:=B9 (fl:=.next ρ) (fun Q q=>.exp hp h q) k
theorem CI (h:SE (C.n+3) e ρ σ v σ') (k:P (.ret v) σ'):Ai C P (.cons (.ret e) r) ρ σ:=B9 (fl:=.ret v) (fun Q q=>.ret h q) k
theorem AE (h:C.v e ρ σ=some v) (k:P (.ret v) σ):Ai C P (.cons (.ret e) r) ρ σ:=CI ((Ad C.ok e).v h) k
theorem go_lmeth {m:Meth} {id:String} {o es:E} {k:Nat} {us:List V} (slot:Slot "list" (Str.ofString (D5 m)) id) (ty:typeOf (.builtin id)=pure (.type "method_descriptor")) (ho:C.v o ρ σ=some (.ref k)) (hes:C.row es ρ σ=some us) (h0:σ[k]? = some (.list ws)) (h:PrM id k ws us σ v σ') (hb:DS o=true) (kk:Ai C P r ρ σ'):Ai C P (.cons (.exp (.meth m o es)) r) ρ σ :=
 go_expS rfl (.lmeth (Dd hb) slot ty ((Ad C.ok o).v ho) ((Ad C.ok es).row hes) h0 h0 h) kk
theorem B4 {o es:E} {k:Nat} {y:V} (ho:C.v o ρ σ=some (.ref k)) (hes:C.row es ρ σ=some [y]) (h0:σ[k]? = some (.list ws)) (hl:ws.length < line) (kk:Ai C P r ρ (σ.set k (.list (ws++[y])))) (hb:DS o=true:=by rfl):Ai C P (.cons (.exp (.meth .append o es)) r) ρ σ :=
 go_lmeth slot_list_append type_list_append ho hes h0 (GL hl) hb kk
theorem go_clear {o:E} {k:Nat} (ho:C.v o ρ σ=some (.ref k)) (h0:σ[k]? = some (.list ws)) (kk:Ai C P r ρ (σ.set k (.list []))) (hb:DS o=true:=by rfl):Ai C P (.cons (.exp (.meth .clear o .nil)) r) ρ σ :=
 go_lmeth F.slot_list_clear F.type_list_clear ho rfl h0 m_clear hb kk
theorem Gg {o i d:E} {dd:V} {k:Nat} {kvs:List (Str×V)} {w:Str} (hd:C.v d ρ σ=some dd) (ho:C.v o ρ σ=some (.ref k)) (hi:C.v i ρ σ=some (.d (.str w))) (h0:σ[k]? = some (.dictS kvs)) (hl:kvs.length < line) (kk:Ai C P r ρ (σ.set k (.dictS (Fj kvs w dd)))) (hp:Br d=false:=by rfl):Ai C P (.cons (.set o i d) r) ρ σ :=
 B9 (fl:=.next ρ) (fun Q q=>.set hp ((Ad C.ok d).v hd) ((Ad C.ok o).v ho) ((Ad C.ok i).v hi) (s_dictS h0 hl) q) kk
theorem go_setL {o i d:E} {z:V} {k:Nat} {j:Int} (hd:C.v d ρ σ=some z) (ho:C.v o ρ σ=some (.ref k)) (hi:C.v i ρ σ=some (vi j)) (h0:σ[k]? = some (.list ws)) (h1:0<=j) (h2:j < ws.length) (kk:Ai C P r ρ (σ.set k (.list (ws.set j.toNat z)))) (hp:Br d=false:=by rfl):Ai C P (.cons (.set o i d) r) ρ σ :=
 B9 (fl:=.next ρ) (fun Q q=>.set hp ((Ad C.ok d).v hd) ((Ad C.ok o).v ho) ((Ad C.ok i).v hi) (s_list h0 h1 h2) q) kk
theorem go_if (h:C.t c ρ σ=some t) (k:Ai C (Then C P r) (bif t then a else b) ρ σ):Ai C P (.cons (.ite c a b) r) ρ σ:=by
 obtain ⟨fl,σ',h1,h2⟩:=k
 refine B9 (fl:=fl) (σ':=σ') (fun Q q=>.ite ((Ad C.ok c).t h) (fun e=>?_) fun e=>?_) h1
 ·subst e; exact SSs.mono (fun f s e=>by rw [e.1,e.2]; exact q) h2
 ·subst e; exact SSs.mono (fun f s e=>by rw [e.1,e.2]; exact q) h2
theorem AC (h:C.t c ρ σ=some t) (kt:t=true->Ai C (Then C P r) a ρ σ) (kf:t=false->Ai C (Then C P r) b ρ σ):Ai C P (.cons (.ite c a b) r) ρ σ:=go_if h (by cases t with | true=>exact kt rfl | false=>exact kf rfl)
theorem Cj (h:C.t c ρ σ=some false) (k:Ai C P r ρ σ):Ai C P (.cons (.ite c a .nil) r) ρ σ:=go_if h (Ac k)
theorem go_unp {vs:List V} (h:SE (C.n+3) e ρ σ v σ') (hs:∀ {K:Kx} {ex:Expr},IsE e K ex->∀ ts k p env,swappedStores [.Tuple ts k p] ex env=pure none) (hv:Cm v=some vs) (hl:vs.length=xs.length) (k:Ai C P r (Ed ρ xs vs) σ') (hp:Br e=false:=by rfl):Ai C P (.cons (.unp xs e) r) ρ σ:=B9 (fl:=.next (Ed ρ xs vs)) (fun Q q=>.unp (Nat.le_add_left 3 _) hp hs h hv hl q) k
theorem turns {α:Type} {kps:List (Nat×List V)} (w:α->V) (J:List α->Af->Aa->Prop):∀ (q p:List α) (ρ:Af) (σ:Aa),(∀ p ρ σ,J p ρ σ->Bt σ kps)->(∀ a,a∈q->Ex ts (w a))->J p ρ σ ->
 (∀ p' a q' ρ σ,p++q=p'++a::q'->J p' ρ σ->Ai C (fun fl σ'=>∃ ρ',fl=.next ρ'/\J (p'++[a]) ρ' σ') body (Bw ρ ts (w a)) σ)->∃ ρe σe,J (p++q) ρe σe/\∀ Q:Fl->Aa->Prop,Q (.next ρe) σe->ForQ (C.n+3) ts body kps Q (q.map w) ρ σ
 | [],p,ρ,σ,hk,_,hJ,_=>⟨ρ,σ,(List.append_nil p).symm▸hJ,fun Q h=>⟨hk p ρ σ hJ,h⟩⟩
 | a::q,p,ρ,σ,hk,hb,hJ,hf=>by
  obtain ⟨fl,σ₁,⟨ρ1,rfl,h1⟩,h2⟩:=hf p a q ρ σ rfl hJ
  have e:p++[a]++q=p++a::q:=by rw [List.append_assoc]; rfl
  obtain ⟨ρe,σe,h3,h4⟩:=turns w J q (p++[a]) ρ1 σ₁ hk (fun b hb'=>hb b (.tail _ hb')) h1 fun p' b q' ρ σ he=>hf p' b q' ρ σ (e.symm.trans he)
  exact ⟨ρe,σe,e▸h3,fun Q h=>⟨hk p ρ σ hJ,(hb a (.head _)).at (Nat.le_add_left 3 _),SSs.mono (fun f s e=>by rw [e.1,e.2]; exact h4 Q h) h2⟩⟩
theorem go_for {α:Type} {l:List α} {kps:List (Nat×List V)} (w:α->V) (J:List α->Af->Aa->Prop) (hit:C.it it ρ σ=some (l.map w,kps)) (hk:∀ p ρ σ,J p ρ σ->Bt σ kps) (hb:∀ a,a∈l->Ex ts (w a)) (hJ:J [] ρ σ)
 (hf:∀ p a q ρ σ,l=p++a::q->J p ρ σ->Ai C (fun fl σ'=>∃ ρ',fl=.next ρ'/\J (p++[a]) ρ' σ') body (Bw ρ ts (w a)) σ) (k:∀ ρ' σ',J l ρ' σ'->Ai C P r ρ' σ'):Ai C P (.cons (.for_ ts it body) r) ρ σ:=by
 obtain ⟨ρe,σe,h1,h2⟩:=turns (C:=C) (body:=body) (ts:=ts) w J l [] ρ σ hk hb hJ hf
 exact B9 (fl:=.next ρe) (fun Q q=>.for_ ((Ad C.ok it).it hit).1 (h2 Q q)) (k ρe σe h1)
theorem go_for1 {α:Type} {l:List α} (w:α->V) (J:List α->Af->Aa->Prop) (hit:C.it it ρ σ=some (l.map w,[])) (hJ:J [] ρ σ)
 (hf:∀ p a q ρ σ,l=p++a::q->J p ρ σ->Ai C (fun fl σ'=>∃ ρ',fl=.next ρ'/\J (p++[a]) ρ' σ') body (ρ.set x (some (w a))) σ) (k:∀ ρ' σ',J l ρ' σ'->Ai C P r ρ' σ'):Ai C P (.cons (.for_ [x] it body) r) ρ σ :=
 go_for w J hit (fun _ _ _ _ _ _ m=>nomatch m) (fun _ _=>.inl rfl) hJ hf k
theorem whiles (J:Nat->Af->Aa->Prop) (t:Nat->Bool) (ht:∀ m ρ σ,J m ρ σ->C.t c ρ σ=some (t m)) (h0:t 0=false)
 (hf:∀ m ρ σ,J (m+1) ρ σ->t (m+1)=true->Ai C (fun fl σ'=>∃ ρ',fl=.next ρ'/\J m ρ' σ') body ρ σ):∀ (m:Nat) (ρ:Af) (σ:Aa),J m ρ σ->∃ ρe σe m',J m' ρe σe/\t m'=false/\∀ Q:Fl->Aa->Prop,Q (.next ρe) σe->WhQ (C.n+3) c body Q (m+1) ρ σ
 | 0,ρ,σ,hJ=>⟨ρ,σ,0,hJ,h0,fun Q q=>⟨false,σ,(Ad C.ok c).t (h0▸ht 0 ρ σ hJ),fun _=>q,fun h=>ff_ h⟩⟩
 | m+1,ρ,σ,hJ=>by
  have h:=ht (m+1) ρ σ hJ
  cases e:t (m+1) with
  | false=>rw [e] at h; exact ⟨ρ,σ,m+1,hJ,e,fun Q q=>⟨false,σ,(Ad C.ok c).t h,fun _=>q,fun h=>ff_ h⟩⟩
  | true =>
   rw [e] at h
   obtain ⟨fl,σ₁,⟨ρ1,rfl,h1⟩,h2⟩:=hf m ρ σ hJ e
   obtain ⟨ρe,σe,m',h3,h5,h4⟩:=whiles J t ht h0 hf m ρ1 σ₁ h1
   exact ⟨ρe,σe,m',h3,h5,fun Q q=>⟨true,σ,(Ad C.ok c).t h,fun h=>tt_ h,fun _=>SSs.mono (fun f s e=>by rw [e.1,e.2]; exact h4 Q q) h2⟩⟩
theorem go_while (J:Nat->Af->Aa->Prop) (t:Nat->Bool) (m:Nat) (hJ:J m ρ σ) (ht:∀ m ρ σ,J m ρ σ->C.t c ρ σ=some (t m)) (h0:t 0=false)
 (hf:∀ m ρ σ,J (m+1) ρ σ->t (m+1)=true->Ai C (fun fl σ'=>∃ ρ',fl=.next ρ'/\J m ρ' σ') body ρ σ) (k:∀ m' ρ' σ',J m' ρ' σ'->t m'=false->Ai C P r ρ' σ'):Ai C P (.cons (.while_ c body) r) ρ σ:=by
 obtain ⟨ρe,σe,m',h1,h2,h3⟩:=whiles (C:=C) J t ht h0 hf m ρ σ hJ
 exact B9 (fl:=.next ρe) (fun Q q=>.while_ (h3 Q q)) (k m' ρe σe h1 h2)
noncomputable def EA (fl:Fl):V:=match fl with | .next _=>.d .none | .ret v=>v
theorem FN.ends {f:Nat} {fn:Fn} {zs:List V} {R:V->Aa->Prop} (hP:Pg f=some fn) (hl:zs.length=fn.np) (hn:1<=C.n) (h:Ai C (fun fl σ'=>R (EA fl) σ') fn.body (AV fn zs) σ):∃ v σ',R v σ'/\FN (C.n+1) f zs σ v σ':=by
 obtain ⟨fl,σ',h1,h2⟩:=h
 refine ⟨_,σ',h1,?_⟩
 show FA (C.n+1+3) f zs σ _ σ'
 rw [Nat.add_right_comm]
 refine FA.of hP hl (SSs.mono (fun f s e=>?_) h2) (Nat.le_trans hn (Nat.le_add_right _ _))
 rw [e.1,e.2]
 cases fl with
 | next _=>exact ⟨rfl,rfl⟩
 | ret _=>exact ⟨rfl,rfl⟩
theorem FN.same {f:Nat} {fn:Fn} {zs:List V} {v:V} {σ':Aa} (hP:Pg f=some fn) (hl:zs.length=fn.np) (hn:1<=C.n) (h:Ai C (fun fl s=>EA fl=v/\s=σ') fn.body (AV fn zs) σ):FN (C.n+1) f zs σ v σ':=by
 obtain ⟨_,_,⟨h1,h2⟩,h⟩:=FN.ends (R:=fun w s=>w=v/\s=σ') hP hl hn h
 rw [h1,h2] at h
 exact h
end
end Mine
namespace Mine
open PySem PySem.Calls
section
variable {n m:Nat} {l r st:S} {ρ ρ':Af} {σ τ σ':Aa} {v:V} {c:Cx} {g g':G} {s:Shared} {own:List Addr} {C:Cfg} {P:V->Aa->Prop}
theorem execs_one {x:Stmt} {env:Env}:execs [x] env=exec x env:=by
 rw [execs_cons]
 refine (bind_congr fun f=>?_).trans (bind_pure _)
 cases f with
 | next=>exact arm_execs_nil _
 | _=>rfl
theorem SS.of1 {Q:Fl->Aa->Prop} (h:SSs n (.cons st .nil) ρ σ Q):SS n st ρ σ Q:=fun c g s x hc I=>by
 have h:=h c g s [x] (fun R_ k=>k x [] hc rfl) I
 rw [execs_one] at h
 exact h
end
end Mine
namespace Mine
open PySem PySem.Calls
noncomputable def frsOf (fe:List Env):List Addr:=fe.filterMap (·.frame)
def Fc (its fs:List Addr) (h h':Heap):Prop:=∀ c o,c∉its->h.get? c=some o->(∃ sl,h'.get? c=some { o with slots:=sl })/\(c∉fs->h'.get? c=some o)
section
variable {its its' fs:List Addr} {h h' h'':Heap}
theorem Fc.trans (x:Fc its fs h h') (y:Fc its fs h' h''):Fc its fs h h'':=fun c o hc e=>by
 obtain ⟨⟨sl,e1⟩,k⟩:=x c o hc e
 obtain ⟨⟨sl',e2⟩,k'⟩:=y c _ hc e1
 exact ⟨⟨sl',e2⟩,fun hf=>(y c o hc (k hf)).2 hf⟩
theorem Fc.of_same (k:∀ c o,c∉its->h.get? c=some o->h'.get? c=some o):Fc its fs h h':=fun c o hc e=>⟨⟨o.slots,k c o hc e⟩,fun _=>k c o hc e⟩
theorem Fc.wide (x:Fc its fs h h') (hs:∀ c,c∈its->c∈its'):Fc its' fs h h':=fun c o hc e=>x c o (fun q=>hc (hs c q)) e
end
noncomputable def PAny:Option Value->Prop:=fun _=>True
noncomputable def PTb:Option Value->Prop
 | none=>False
 | some _=>True
inductive TbX (T:Top) (g:G) (h:Heap) (e:Addr) (v:Option Value) (P:Option Value->Prop):Prop
 | mk (tb:Addr) (ot:Obj) (ts:Array Value) (f:Value) (k1:v=some (.ref tb)) (k2:h.get? tb=some ot) (k3:ot.data=.fields ts) (k4:tb≠e) (k5:Dv T g tb) (k6:ts[3]? = some f) (k7:P (some f)):TbX T g h e v P
inductive CE (T:Top) (g:G) (h:Heap) (k:Nat) (x:Value) (P:Option Value->Prop):Prop
 | mk (e:Addr) (oe:Obj) (vs:Array Value) (C:Addr) (q1:x=.ref e) (q2:h.get? e=some oe) (q3:T.exc k=some C) (q4:oe.cls=.ref C) (q5:oe.dict=none) (q6:oe.data=.fields vs) (q7:Dv T g e) (q8:vs[2]? = some .none)
  (q9:(vs[1]? = some .none/\P none)\/TbX T g h e vs[1]? P):CE T g h k x P
section
variable {T:Top} {fe outer:List Env} {its fs:List Addr} {env:Env} {A:Around} {g g':G} {σ σ':Aa} {s s':Shared} {Er:Value->Shared->Prop} {k:Nat} {x v:Value} {h h':Heap} {P P':Option Value->Prop}
theorem CE.le (f:CE T g h k x P) (hP:∀ o,P o->P' o):CE T g h k x P':=by
 obtain ⟨e,oe,vs,C,q1,q2,q3,q4,q5,q6,q7,q8,q9⟩:=f
 refine ⟨e,oe,vs,C,q1,q2,q3,q4,q5,q6,q7,q8,q9.imp (fun h=>⟨h.1,hP _ h.2⟩) ?_⟩
 rintro ⟨tb,ot,ts,f,k1,k2,k3,k4,k5,k6,k7⟩
 exact ⟨tb,ot,ts,f,k1,k2,k3,k4,k5,k6,hP _ k7⟩
theorem CE.any (f:CE T g h k x P):CE T g h k x PAny:=f.le fun _ _=>trivial
theorem CE.other (f:CE T g h k x P) (hg:∀ a,Dv T g a->Dv T g' a):CE T g' h k x P:=by
 obtain ⟨e,oe,vs,C,q1,q2,q3,q4,q5,q6,q7,q8,q9⟩:=f
 refine ⟨e,oe,vs,C,q1,q2,q3,q4,q5,q6,hg _ q7,q8,q9.imp id ?_⟩
 rintro ⟨tb,ot,ts,f,k1,k2,k3,k4,k5,k6,k7⟩
 exact ⟨tb,ot,ts,f,k1,k2,k3,k4,hg _ k5,k6,k7⟩
theorem fr_mem (fr:By g fe) {a:Addr} (ha:a∈frsOf fe):∃ o es ep,g.hid a=some o/\o.cls=frC/\o.data=.dict es ep:=by
 obtain ⟨e,he,hf⟩:=List.mem_filterMap.mp ha
 obtain ⟨_,L,o,es,ep,h1,h2⟩:=fr e he
 exact ⟨o,es,ep,As h1 hf▸h2⟩
theorem Has.near (H:Has T g σ s) (fr:By g fe) (hi:∀ a,a∈its->Dv T g a) (nr:Fc its (frsOf fe) s.heap h'):Has T g σ { s with heap:=h' }:=by
 have ex:∀ a o,a∉its->g.hid a=none->s.heap.get? a=some o->h'.get? a=some o:=fun a o h1 h2 e=>(nr a o h1 e).2 fun q=>by
  obtain ⟨o',_,_,h3,_⟩:=fr_mem fr q
  exact Am h2 h3
 have nofz:∀ a o,g.fz a=some o->a∉its/\g.hid a=none:=fun a o e=>⟨fun q=>Am (hi a q).fz e,DP fun o' e'=>Am (H.ah a o' e').1 e⟩
 have nomu:∀ a,a∈g.mu->a∉its/\g.hid a=none:=fun a e=>⟨fun q=>(hi a q).mu e,DP fun o' e'=>(H.ah a o' e').2 e⟩
 have:=H.re (s':={ s with heap:=h' }) g.hid (fun a o e=>⟨?_,(H.ah a o e).1,(H.ah a o e).2,H.hidTab e⟩) (fun b o e e'=>ex b o (nofz b o e).1 (nofz b o e).2 e') (fun b o e e'=>ex b o (nomu b e).1 (nomu b e).2 e') (fun t q o m e=>H.tb t q m _ fun _ _ h2 _ _ _ _=>ex t o (fun p=>(hi t p).tab q m) h2 e) rfl rfl
 ·exact this
 ·obtain ⟨o',e1,e2,e3⟩:=H.hd a o e
  obtain ⟨⟨sl,e4⟩,e5⟩:=nr a o' (fun q=>Am (hi a q).hid e) e1
  by_cases q:a∈frsOf fe
  ·obtain ⟨o2,_,_,h3,h4,_⟩:=fr_mem fr q
   exact ⟨_,e4,e2,fun n=>absurd (As h3 e▸h4) n⟩
  ·exact ⟨o',e5 q,e2,e3⟩
theorem By.funFrames (H:Has T g σ s):∀ {l:List Env},By g l->s.heap.FunFrames T.h0 l
 | [],_=>trivial
 | e::r,fr=>by
  obtain ⟨tf,L,o,es,ep,h1,h2,h3,h4⟩:=fr e (.head _)
  obtain ⟨o',e1,e2,_⟩:=H.hd L o h2
  refine ⟨tf.kind,⟨L,o',h1,DP fun o2 q=>Am (H.ah L o h2).1 (H.base L o2 q),e1,fun vs q=>?_⟩,By.funFrames H fun e he=>fr e (.tail _ he)⟩
  rw [e2,h4] at q; cases q
theorem entry_new {L e:Addr} {oe:Obj} {vs:Array Value} {head:Value} {hadNext:Bool} {Q:Unit->Shared->Prop} (hfr:A.frames=some (env::outer)) (hl:s.heap.FunFrames T.h0 (env::outer)) (hf:env.frame=some L)
 (he:s.heap.get? e=some oe) (hd:oe.data=.fields vs) (hsz:1 < vs.size)
 (h:∀ h' tb oe' ts,Fc [e] (frsOf (env::outer)) s.heap h'->s.heap.get? tb=none->h'.get? e=some oe'->(oe'.cls=oe.cls/\oe'.dict=oe.dict)->oe'.data=.fields (vs.setIfInBounds 1 (.ref tb)) ->
  h'.get? tb=some { cls:=.type "traceback",dict:=none,data:=.fields ts,slots:=#[] } -> ts[3]? = some (rawInt L)->Q () { s with heap:=h' }) :
 wpAny (model T.prog T.w) A (do let a <-frameOf env; let pl <-entryPlaceOf L hadNext; let b <-EntryCells.newEntry head a .none (rawInt L) .none pl; setField (.ref e) 1 b) Q Er s:=by
 have hene:e∉(env::outer).filterMap (·.frame):=fun hm=>by
  obtain ⟨_,o,ho,hnf⟩:=hl.mem hm
  rw [he] at ho; injection ho with ho; subst ho; exact hnf vs hd
 refine wpAny_bind (wpAny_frameOf_fun hfr hl hf fun h₁ hs1=>?_)
 refine wpAny_bind (wpAny_entryPlaceOf fun pl hpl=>?_)
 unfold EntryCells.newEntry newFields
 refine wpAny_bind (wpAny_newObj_type ?_ (hpl.sizeOk5 _ _ _ _ _))
 have he1:h₁.get? e=some oe:=(hs1.2.1 e hene).trans he
 have he2:=Heap.get?_push_of_some (h:=h₁) { cls:=.type "traceback",dict:=none,data:=.fields ([head,.ref L,.none,rawInt L,.none]++(if pl.isEmpty then List.replicate 6 Value.none else pl)).toArray } he1
 have hTe:h₁.objs.size≠e:=Nat.ne_of_gt (Heap.lt_size he1)
 have hd3:=Obj.data_mapFields hd (·.setIfInBounds 1 (Value.ref h₁.objs.size))
 have he3:=Heap.get?_update_self (Obj.mapFields (·.setIfInBounds 1 (Value.ref h₁.objs.size))) he2 (Obj.isFreed_of_fields hd3)
 have hT3:=(Heap.get?_update_other (h₁.push { cls:=.type "traceback",dict:=none,data:=.fields ([head,.ref L,.none,rawInt L,.none]++(if pl.isEmpty then List.replicate 6 Value.none else pl)).toArray })
  (Obj.mapFields (·.setIfInBounds 1 (Value.ref h₁.objs.size))) (Ne.symm hTe)).trans (Heap.get?_push_size h₁ rfl)
 refine wpAny_setField he2 hd hsz (h _ h₁.objs.size _ _ ?_ ?_ he3 ⟨Obj.cls_mapFields _ _,by unfold Obj.mapFields; split <;> rfl⟩ hd3 hT3 ?_)
 ·intro b o hb e'
  have hbe:b≠e:=fun q=>hb (by rw [q]; exact List.mem_singleton.mpr rfl)
  have up:∀ o',h₁.get? b=some o'->((h₁.push { cls:=.type "traceback",dict:=none,data:=.fields ([head,.ref L,.none,rawInt L,.none]++(if pl.isEmpty then List.replicate 6 Value.none else pl)).toArray }).update e (Obj.mapFields (·.setIfInBounds 1 (Value.ref h₁.objs.size)))).get? b=some o':=fun o' q=>by
   rw [Heap.get?_update_other _ _ (Ne.symm hbe)]
   exact Heap.get?_push_of_some _ q
  refine ⟨?_,fun hnf=>up o ((hs1.2.1 b hnf).trans e')⟩
  obtain ⟨sl,q⟩:=hs1.2.2 b o e'
  exact ⟨sl,up _ q⟩
 ·show s.heap.get? h₁.objs.size=none
  rw [hs1.1]; exact AW _
 ·first | (simp; done) | (rcases hpl with rfl | ⟨_,_,_,_,_,_,_,rfl⟩ <;> simp)
theorem GF {Q:Unit->Shared->Prop} (hfr:A.frames=some (env::outer)) (fr:By g (env::outer)) (H:Has T g σ s) (fl:CE T g s.heap k x PAny)
 (h:∀ h',Has T g σ { s with heap:=h' } -> CE T g h' k x PTb->Q () { s with heap:=h' }):wpAny (model T.prog T.w) A (noteFrame x env) Q Er s:=by
 have hl:=fr.funFrames H
 obtain ⟨_,L,_,_,_,hf,_⟩:=fr env (.head _)
 obtain ⟨e,oe,vs,C,rfl,q2,q3,q4,q5,q6,q7,q8,q9⟩:=fl
 have hsz2:2 < vs.size:=(Array.getElem?_eq_some_iff.mp q8).1
 unfold noteFrame
 simp only [hf]
 rcases q9 with ⟨h1,_⟩ | ⟨tb,ot,ts,f,k1,k2,k3,k4,k5,k6,k7⟩
 ·refine wpAny_bind (wpAny_field q2 q6 h1 ?_)
  rw [if_neg (by decide)]
  refine entry_new hfr hl hf q2 q6 (Nat.le_of_lt hsz2) fun h' tb oe' ts nr hn he' hc' hd' ht h3=>?_
  refine h h' (H.near fr (its:=[e]) (fun a ha=>by rw [List.mem_singleton.mp ha]; exact q7) nr) ⟨e,oe',_,C,rfl,he',q3,hc'.1.trans q4,hc'.2.trans q5,hd',q7,?_,.inr ⟨tb,_,ts,_,by simp [show 1 < vs.size from Nat.lt_of_succ_lt hsz2],ht,rfl,?_,H.free hn,h3,trivial⟩⟩
  ·rw [Array.getElem?_setIfInBounds_ne (by decide)]; exact q8
  ·intro q; rw [q,q2] at hn; exact Ga hn
 ·refine wpAny_bind (wpAny_field q2 q6 k1 ?_)
  rw [if_pos (show (Value.ref tb != Value.none)=true from by rfl)]
  refine wpAny_bind (wpAny_field k2 k3 k6 ?_)
  by_cases k9:(f == rawInt L)=true
  case neg =>
   rw [if_neg k9]
   have hsz3:3 < ts.size:=(Array.getElem?_eq_some_iff.mp k6).1
   refine wpAny_bind (wpAny_setField k2 k3 hsz3 ?_)
   have other:∀ b,b≠tb->(s.heap.update tb (Obj.mapFields (·.setIfInBounds 3 Value.none))).get? b=s.heap.get? b:=fun b hb=>Heap.get?_update_other _ _ (Ne.symm hb)
   have noRecord:∀ b o,s.heap.get? b=some o->(∀ vs,o.data≠.fields vs)->b≠tb:=fun b o hb hnf q=>by
    rw [q,k2] at hb; injection hb with hb; subst hb; exact hnf ts k3
   refine entry_new hfr (hl.of_keeps fun b o hb hnf=>⟨o,(other b (noRecord b o hb hnf)).trans hb,rfl⟩) hf ((other e (Ne.symm k4)).trans q2) q6 (Nat.le_of_lt hsz2) fun h' tb' oe' ts' nr hn he' hc' hd' ht h3=>?_
   have hn':s.heap.get? tb'=none:=by
    by_cases q:tb'=tb
    ·subst q
     exact Ga ((Eq.symm (Heap.get?_update_self _ k2 (Obj.isFreed_of_fields (Obj.data_mapFields k3 _)))).trans hn)
    ·rw [<-other tb' q]; exact hn
   refine h h' (H.near fr (its:=[e,tb]) (fun a ha=>?_) (Fc.trans (Fc.of_same fun b o hb eb=>(other b fun q=>hb (by exact .tail _ (q▸.head _))).trans eb) (nr.wide fun b hb=>by rw [List.mem_singleton.mp hb]; simp)))
    ⟨e,oe',_,C,rfl,he',q3,hc'.1.trans q4,hc'.2.trans q5,hd',q7,?_,.inr ⟨tb',_,ts',_,by simp [show 1 < vs.size from Nat.lt_of_succ_lt hsz2],ht,rfl,?_,H.free hn',h3,trivial⟩⟩
   ·simp only [List.mem_cons,List.not_mem_nil,or_false] at ha
    rcases ha with rfl | rfl
    ·exact q7
    ·exact k5
   ·rw [Array.getElem?_setIfInBounds_ne (by decide)]; exact q8
   ·intro q; rw [q,q2] at hn'; exact Ga hn'
  case pos =>
   rw [if_pos k9]
   exact wpAny_pure (h s.heap H ⟨e,oe,vs,C,rfl,q2,q3,q4,q5,q6,q7,q8,.inr ⟨tb,ot,ts,_,k1,k2,k3,k4,k5,k6,trivial⟩⟩)
theorem Do {L:Option Addr} {Q:Unit->Shared->Prop} (fr:By g fe) (H:Has T g σ s) (fl:CE T g s.heap k x PTb)
 (h:∀ h',Has T g σ { s with heap:=h' } -> CE T g h' k x PTb->Q () { s with heap:=h' }):wpAny (model T.prog T.w) A (setFlight x L) Q Er s:=by
 obtain ⟨e,oe,vs,C,rfl,q2,q3,q4,q5,q6,q7,q8,q9⟩:=fl
 rcases q9 with ⟨_,h1⟩ | ⟨tb,ot,ts,f,k1,k2,k3,k4,k5,k6,k7⟩
 ·exact h1.elim
 ·unfold setFlight
  refine wpAny_bind (wpAny_field q2 q6 k1 ?_)
  rw [if_pos (show (Value.ref tb != Value.none)=true from by rfl)]
  have hsz3:3 < ts.size:=(Array.getElem?_eq_some_iff.mp k6).1
  refine wpAny_setField k2 k3 hsz3 ?_
  have other:∀ b,b≠tb->(s.heap.update tb (Obj.mapFields (·.setIfInBounds 3 (L.elim Value.none fun f=>rawInt f)))).get? b=s.heap.get? b:=fun b hb=>Heap.get?_update_other _ _ (Ne.symm hb)
  exact h _ (H.near fr (its:=[tb]) (fun a ha=>by rw [List.mem_singleton.mp ha]; exact k5) (Fc.of_same fun b o hb eb=>(other b fun q=>hb (by exact q▸.head _)).trans eb))
   ⟨e,oe,vs,C,rfl,(other e (Ne.symm k4)).trans q2,q3,q4,q5,q6,q7,q8,.inr ⟨tb,_,_,L.elim Value.none fun f=>rawInt f,k1,Heap.get?_update_self _ k2 (Obj.isFreed_of_fields (Obj.data_mapFields k3 _)),Obj.data_mapFields k3 _,k4,k5,by simp [hsz3],trivial⟩⟩
theorem CE.field (fl:CE T g s.heap k x PTb) {Q:Value->Shared->Prop} (h:∀ tb,Q (.ref tb) s):wpAny (model T.prog T.w) A (field x 1) Q Er s:=by
 obtain ⟨e,oe,vs,C,rfl,q2,q3,q4,q5,q6,q7,q8,q9⟩:=fl
 rcases q9 with ⟨_,h1⟩ | ⟨tb,ot,ts,f,k1,k2,k3,k4,k5,k6,k7⟩
 ·exact h1.elim
 ·exact wpAny_field q2 q6 k1 (h tb)
end
end Mine
namespace Mine
open PySem PySem.Calls
theorem ex17 {α1 α2 α3 α4 α5 α6 α7 α8 α9 α10 α11 α12 α13 α14 α15 α16 α17:Type} {p:α1->α2->α3->α4->α5->α6->α7->α8->α9->α10->α11->α12->α13->α14->α15->α16->α17->Prop} {R:Prop} (h:∃ (x1:α1) (x2:α2) (x3:α3) (x4:α4) (x5:α5) (x6:α6) (x7:α7) (x8:α8) (x9:α9) (x10:α10) (x11:α11) (x12:α12) (x13:α13) (x14:α14) (x15:α15) (x16:α16) (x17:α17),p x1 x2 x3 x4 x5 x6 x7 x8 x9 x10 x11 x12 x13 x14 x15 x16 x17) (k:∀ (x1:α1) (x2:α2) (x3:α3) (x4:α4) (x5:α5) (x6:α6) (x7:α7) (x8:α8) (x9:α9) (x10:α10) (x11:α11) (x12:α12) (x13:α13) (x14:α14) (x15:α15) (x16:α16) (x17:α17),p x1 x2 x3 x4 x5 x6 x7 x8 x9 x10 x11 x12 x13 x14 x15 x16 x17->R):R:=by
 obtain ⟨x1,x2,x3,x4,x5,x6,x7,x8,x9,x10,x11,x12,x13,x14,x15,x16,x17,h⟩:=h
 exact k _ _ _ _ _ _ _ _ _ _ _ _ _ _ _ _ _ h
noncomputable abbrev Ar.wx {α:Type} (r:Ar) (m:Sem α) (X:Value->Shared->Prop) (s:Shared):Prop:=wpAny (model r.T.prog r.T.w) r.A m (fun _ _=>False) X s
def DH (T:Top) (g:G) (σ':Aa) (k:Nat) (x:Value) (s':Shared):Prop:=∀ R_:Prop,(∀ g',G.le [] g g'->Has T g' σ' s'->CE T g' s'.heap k x PAny->R_)->R_
def FXA (n f:Nat) (xs:List V) (σ:Aa) (k:Nat) (σ':Aa):Prop :=
 ∀ (r:Ar) (g:G) (s:Shared) (a:Addr) (Xs:List Value),r.T.fn f=some a->At n r g σ s->Aj r.T g xs Xs->r.wx (call (.ref a) Xs) (DH r.T g σ' k) s
noncomputable abbrev FX (n f:Nat) (xs:List V) (σ:Aa) (k:Nat) (σ':Aa):Prop:=FXA (n+3) f xs σ k σ'
def SEx (n:Nat) (e:E) (ρ:Af) (σ:Aa) (k:Nat) (σ':Aa):Prop :=
 ∀ (c:Cx) (g:G) (s:Shared) (ex:Expr),IsE e c.K ex->Inv n c ρ g σ s->c.wx (eval ex c.env) (DH c.T g σ' k) s
def SXP (n:Nat) (c:Cx) (g:G) (k:Nat) (X:Af->Aa->Prop) (x:Value) (s':Shared):Prop:=∀ R_:Prop,(∀ ρ' σ' g',X ρ' σ'->G.le c.own g g'->Inv n c ρ' g' σ' s'->CE c.T g' s'.heap k x PAny->R_)->R_
def SX (n:Nat) (st:S) (ρ:Af) (σ:Aa) (k:Nat) (X:Af->Aa->Prop):Prop :=
 ∀ (c:Cx) (g:G) (s:Shared) (x:Stmt),IsS st c.K x->Inv n c ρ g σ s->c.wx (exec x c.env) (SXP n c g k X) s
def SXs (n:Nat) (st:S) (ρ:Af) (σ:Aa) (k:Nat) (X:Af->Aa->Prop):Prop :=
 ∀ (c:Cx) (g:G) (s:Shared) (xs:List Stmt),IsSs st c.K xs->Inv n c ρ g σ s->c.wx (execs xs c.env) (SXP n c g k X) s
section
variable {n f k:Nat} {c:Cx} {ρ:Af} {g g' g₁:G} {σ σ' σ₁ σ₂:Aa} {s s':Shared} {x:Value} {X:Af->Aa->Prop} {e a b:E} {st r p q:S} {ws:List V} {nm:Str} {ks:List Nat}
theorem DH.after {T:Top} (le:G.le [] g g₁) (h:DH T g₁ σ' k x s'):DH T g σ' k x s':=fun R_ kk=>h R_ fun g' l a f=>kk g' (le.trans l) a f
theorem SXP.after (le:G.le c.own g g₁) (h:SXP n c g₁ k X x s'):SXP n c g k X x s':=fun R_ kk=>h R_ fun ρ' σ' g' hX l I f=>kk ρ' σ' g' hX (le.trans l) I f
theorem SXs.head (h:SX n st ρ σ k X):SXs n (.cons st r) ρ σ k X:=fun c g s xs hc I=>hc (fun xs=>c.wx (execs xs c.env) (SXP n c g k X) s) fun x l h1 h2=>by
 rw [execs_cons]
 exact wpAny_bind (wpAny_mono (h c g s x h1 I) (fun _ _ h=>h.elim) fun _ _ h=>h)
theorem SX.ite {q:S} (h:ST n e ρ σ true σ₁) (h1:SXs n p ρ σ₁ k X):SX n (.ite e p q) ρ σ k X:=fun c g s x hc I=>hc (fun x=>c.wx (exec x c.env) (SXP n c g k X) s) fun ex xs ys pos c1 c2 c3=>by
 refine wpAny_If (wpAny_mono (h c g s ex c1 I) (fun b s₁ p=>p _ fun g₁ le a₁ e₁=>?_) fun _ _ h=>h.elim)
 subst e₁
 exact wpAny_mono (h1 c g₁ s₁ xs c2 (I.step le a₁)) (fun _ _ h=>h) fun _ _ p=>p.after le.toO
theorem SX.rse (h3:3<=n) (h:SEs n a ρ σ ws σ₁) (hl:ws.length<=line) (hX:X ρ σ₁):SX n (.rse k a) ρ σ k X:=fun c g s x hc I=>hc (fun x=>c.wx (exec x c.env) (SXP n c g k X) s) fun nm np vs cp p h1 h2 _=>by
 obtain ⟨mg,mb,hg,hb,ht,_⟩:=I.cx.rd.ns
 obtain ⟨_,⟨C,hC,rfl⟩,_⟩:=ht nm _ h1.2
 obtain ⟨x,bm,newId,B,initId,mg',O,FB⟩:=I.ok.excs k C hC
 refine ex17 O.obj fun tl N nm' q bs hdct sn sub ab col dd k0 k1 k2 k3 k5 mN hh=>?_
 obtain ⟨hCo,hN,hni,Tl⟩:=hh
 refine wpAny_Raise_call_subT (C:=C) (nm:=nm') (q:=q) (N:=N) (bs:=bs) (bm:=tl) (hdct:=hdct) (sn:=sn) (sub:=sub) (ab:=ab) (col:=col) (dd:=dd) (k0:=k0) (k1:=k1) (k2:=k2) (k3:=k3) (k5:=k5) FB (mN:=mN) (Tl.hasType FB.hasBase) (I.hh.none h3) (BL _ _ h2) hni (Bp I h1 fun y hy=>?_)
 obtain ⟨C',hC',rfl⟩:=hy
 obtain rfl:=As hC hC'
 refine ⟨rfl,wpAny_mono (Cg (r:=c.toAr) (Q:=fun a s2=>a.kw=[]/\a.pos.length<=sizeLine/\s2.heap.get? C=some (excClassObj nm' q C N bs tl hdct sn sub ab col dd k0 k1 k2 k3 k5 newId)/\s2.heap.Ns N mN/\OwnTail s2.heap bm tl/\∀ h' e,Heap.MadeExcOf s2.heap h' e (.ref C) a.pos->SXP n c g k X (.ref e) { s2 with heap:=h' }) h2 (wpAny_mono (h c g s vs cp h2 I) (fun Xs s₁ p=>p _ fun g₁ le a₁ r1=>?_) fun _ _ h=>h)) (fun _ _ h=>h) fun _ _ h=>h.elim⟩
 have hz:=(I.step le a₁).base
 refine ⟨rfl,by show Xs.length<=_; rw [<-r1.length,<-AH]; exact hl,hz _ _ hCo,hN.keeps hz,Tl.keeps hz,fun h' e hm=>?_⟩
 obtain ⟨t,ht,_,_⟩:=hm.there
 have H:=a₁.keep (s':={ s₁ with heap:=h' }) hm.keeps
 exact fun R_ kk=>kk ρ σ₁ g₁ hX le.toO (I.step le H) ⟨e,_,_,C,rfl,ht,hC,rfl,rfl,rfl,a₁.free hm.new,rfl,.inl ⟨rfl,trivial⟩⟩
theorem FXA.of {fn:Fn} {xs:List V} (hP:Pg f=some fn) (hl:xs.length=fn.np) (hb:SXs n fn.body (AV fn xs) σ k fun _ σ₁=>σ₁=σ') (hn:1<=n):FXA (n+1) f xs σ k σ':=fun r g s a Xs hf A R=>A.ok.fns f fn a hP hf _ fun fd body o vars lam F=>by
 have H:=A.has
 have hz:=fun b o e=>H.fz b o (H.base b o e)
 refine wpAny_call (codeAny_call_cells (Nat.lt_of_le_of_lt (Nat.le_trans (Nat.le_add_right _ _) A.depth) (by decide)) (hz _ _ F.ob) F.data (A.ok.ok.nolimit.keeps hz) (F.code.keeps hz) F.bd (F.bind Xs (R.length.symm.trans hl)) F.clo (fun p hp=>?_) (fun s₁ ic=>?_) F.cor F.gen F.kind)
 ·refine (F.par p.1 (List.of_mem_zip (a:=p.1) (b:=p.2) hp).1).imp id fun h=>⟨h,?_⟩
  obtain ⟨c,q⟩:=BH (k:=s.heap.objs.size+1) (acc:=[]) (AF h)
  obtain ⟨c,q⟩:=EK q
  rw [q]; rfl
 ·obtain ⟨g₁,I,le,new⟩:=call_inv F hn hl A.ok A.frames A.depth A.units (A.hh.less (Nat.le_succ _)) A.frs H R rfl ic
  have is:IsSs fn.body (callC r (callEnvC fd s.heap.objs.size a) vars lam).K body:=F.is
  refine wpAny_mono (hb _ g₁ s₁ body is I) (fun _ _ h=>h.elim) fun x s2 p=>p _ fun ρ σ₂ g2 e l I2 fl=>?_
  subst e
  unfold leaving
  refine wpAny_bind (GF (outer:=r.fe) I2.frames I2.frs I2.has fl fun h3 H3 fl3=>?_)
  refine Do (s:={ s2 with heap:=h3 }) (L:=none) I2.frs H3 fl3 fun h4 H4 fl4=>?_
  obtain ⟨hd,H',le',e'⟩:=H4.back (its:=Cp (callEnvC fd s.heap.objs.size a)) (own:=[]) (s':={ s2 with heap:=h4 }) (List.append_nil _▸le.trans l) new (fun _ _ _ e=>e) (H4.away I2.loc.ow)
  refine fun R_ kk=>kk _ le' H' (fl4.other (g':=⟨g2.fz,hd,g2.mu⟩) fun c F=>⟨F.fz,?_,F.mu,F.tab⟩).any
  by_cases q:c∈Cp (callEnvC fd s.heap.objs.size a)
  ·exact (le'.hid c List.not_mem_nil).trans (new c q)
  ·exact (e' c q).trans F.hid
theorem FX.of {fn:Fn} {xs:List V} (hP:Pg f=some fn) (hl:xs.length=fn.np) (hb:SXs (n+3) fn.body (AV fn xs) σ k fun _ σ₁=>σ₁=σ') (hn:1<=n):FX (n+1) f xs σ k σ':=by
 show FXA (n+1+3) f xs σ k σ'
 rw [Nat.add_right_comm]
 exact FXA.of hP hl hb (Nat.le_trans hn (Nat.le_add_right _ _))
theorem SXs.tail (h:SS n st ρ σ fun fl σ'=>match fl with | .next ρ'=>SXs n r ρ' σ' k X | .ret _=>False):SXs n (.cons st r) ρ σ k X:=fun c g s xs hc I=>hc (fun xs=>c.wx (execs xs c.env) (SXP n c g k X) s) fun x l h1 h2=>by
 rw [execs_cons]
 refine wpAny_bind (wpAny_mono (h c g s x h1 I) (fun f s₁ p=>p.elim (fun ρ1 σ₁ g₁ e q le I1=>?_) fun v x σ₁ g₁ e q le H w r=>q.elim) fun _ _ h=>h.elim)
 subst e
 exact wpAny_mono (q c g₁ s₁ l h2 I1) (fun _ _ h=>h) fun _ _ p=>p.after le
end
end Mine
namespace Mine
open PySem PySem.Calls
theorem note_env {x:Value} {env env':Env} (h:env.frame=env'.frame):noteFrame x env=noteFrame x env':=by
 unfold noteFrame frameOf
 rw [h]
section
variable {n k:Nat} {c:Cx} {ρ:Af} {g g' g₁:G} {σ σ' σ₁:Aa} {s s':Shared} {x:Value} {b:S} {i:Nat} {j:Int} {A':Around} {Er:Value->Shared->Prop}
theorem exc_self {C e:Addr} {oe:Obj} {Q:Bool->Shared->Prop} (I:Inv n c ρ g σ s) (q3:c.T.exc k=some C) (q2:s.heap.get? e=some oe) (q4:oe.cls=.ref C) (hq:Q true s):wpAny (model c.T.prog c.T.w) A' (excMatches (.ref e) (.ref C)) Q Er s:=by
 obtain ⟨x,bm,newId,B,initId,mg',O,FB⟩:=I.ok.excs k C q3
 refine ex17 O.obj fun tl N nm' q bs hdct sn sub ab col dd k0 k1 k2 k3 k5 mN hh=>?_
 obtain ⟨hCo,hN,hni,Tl⟩:=hh
 exact wpAny_excMatches_sub_self (I.base _ _ hCo) q2 q4 (Tl.hasType FB.hasBase) hq
end
end Mine
namespace Mine
open PySem PySem.Calls
section
variable {n k i:Nat} {c:Cx} {ρ:Af} {g g' g₁:G} {σ σ' σ₁ σ₂ σ1':Aa} {s s':Shared} {x:Value} {b:S} {e es:E} {v u w:V} {Q:Fl->Aa->Prop} {hs:List (Nat×Nat×E)}
theorem SE.glx:SE n (.glx k) ρ σ (.ecl k) σ:=fun c g s ex hc I=>hc (fun ex=>c.wp (eval ex c.env) (Ans c.toAr g (.ecl k) σ) s) fun nm p hc=>Bp I hc fun x r=>.refl I.has r
theorem f_isx {j:Nat} (hj:j∈DD) (h0:Nat.beq k 0=false) (hk:k < 10):Pr2 (fun X Y=>call (A6 .isinstance) [X,Y]) (.exc j) (.ecl k) σ (vb (Bm j k)) σ:=fun r g s X Y A hx hy=>by
 obtain ⟨a,ha,rfl⟩:=hy
 exact hx (fun X=>r.wp (call (A6 .isinstance) [X,.ref a]) (Ans r g (vb (Bm j k)) σ) s) fun e D o vs h1 h2 h3 h4 h5=>A.ok.isi j k D (.ref a) hj hk h2 (by unfold XcV; rw [h0]; exact ⟨a,ha,rfl⟩) r.A _ _ s e o vs (fun b o q=>A.has.fz _ _ (A.has.base b o q)) (A.has.fz _ _ h1) h3 h4 h5 fun tk=>.refl A.has.tok rfl
theorem f_isx0 {j:Nat} (hj:j∈DD):Pr2 (fun X Y=>call (A6 .isinstance) [X,Y]) (.exc j) (.ty "ValueError") σ (vb (Bm j 0)) σ:=fun r g s X Y A hx hy=>by
 obtain rfl:Y=.type "ValueError" := hy
 exact hx (fun X=>r.wp (call (A6 .isinstance) [X,.type "ValueError"]) (Ans r g (vb (Bm j 0)) σ) s) fun e D o vs h1 h2 h3 h4 h5=>A.ok.isi j 0 D (.type "ValueError") hj (by decide) h2 rfl r.A _ _ s e o vs (fun b o q=>A.has.fz _ _ (A.has.base b o q)) (A.has.fz _ _ h1) h3 h4 h5 fun tk=>.refl A.has.tok rfl
theorem name_goes {m:Str} {pos:Pos} {A':Around} {Er:Value->Shared->Prop} {R:Unit->Shared->Prop} (I:Inv n c ρ g σ s) (hk:c.K.kd m .local=true) (h:∀ g' s',G.le c.own g g'->G.up g g'->Has c.T g' σ s'->(∀ a,a∈c.own->g'.hid a≠none)->R () s'):wpAny (model c.T.prog c.T.w) A' (do bindName c.env m .none; unbindBehindTheSuite c.env m pos) R Er s:=by
 refine I.loc.ns _ fun mm hm _=>?_
 refine wpAny_nameGoes (by rw [A7 I.cx.names]; exact Kx.kd_eq hk) (I.has.ns hm) (by rw [I.cx.kind]; rfl) fun h' m' hn hb=>?_
 obtain ⟨o0,_,_,e0,_⟩:=id hm
 obtain ⟨o,es,ep,ho,hd⟩:=hn
 exact h (g.hide c.env.locals (frO o)) _ (.hide I.cx.oloc) ⟨fun _ _ e=>e,fun _ _ e=>e⟩ (I.has.rehideH e0 (fun b x q e=>(hb.2 b q).trans e) (.fr ho)) fun a ha=>DU (I.loc.ow a ha)
noncomputable def Cx.held (c:Cx) (e:Addr):Cx:={ c with A:=c.A.mark (some (.ref e)) }
theorem CxOk.held {a:Addr} (h:CxOk n c) (h2:2<=n):CxOk 2 (c.held a):=⟨h.rd,h.names,h.kind,h.glob,h.blt,h.hfr,h.cinj,h.nd,h.oloc,h.ocell,fun t q e=>⟨by decide,(h.lamc t q e).2⟩⟩
theorem Loc.held {a:Addr} (h:Loc c ρ g):Loc (c.held a) ρ g:=⟨h.ns,h.ce,h.ow⟩
theorem Inv.held {a:Addr} {o:Obj} {vs:Array Value} (I:Inv n c ρ g σ s) (h2:2<=n) (hf:g.fz a=some o) (hd:o.data=.fields vs) (h3:vs[2]? = some .none):Inv 2 (c.held a) ρ g σ s :=
 ⟨⟨I.ok,I.frames,I.top,Nat.le_trans (Nat.add_le_add_left h2 _) I.depth,Nat.le_trans (Nat.add_le_add_left (Nat.mul_le_mul_left _ h2) _) I.units,⟨.inr ⟨by decide,⟨a,o,vs,rfl,hf,hd,h3⟩⟩,I.hh.2⟩,I.frs,I.has⟩,I.cx.held h2,I.loc.held⟩
theorem Inv.freeze {a:Addr} {o:Obj} (I:Inv n c ρ g σ s) (F:Dv c.T g a) (ho:s.heap.get? a=some o):Inv n c ρ (g.put a o) σ s:=I.step (.put F.fz) (F.put I.has ho)
theorem SS.tryOk (hb:SSs n b ρ σ Q):SS n (.tryAs b hs) ρ σ Q:=fun c g s x hc I=>hc (fun x=>c.wp (exec x c.env) (AO n c g Q) s) fun bd h0 hs' p h1 _=>by
 refine wpAny_Try_except (wpAny_mono (hb c g s bd h1 I) (fun f s₁ q=>?_) fun _ _ h=>h.elim)
 cases f with
 | next=>exact wpAny_execs_nil q
 | _=>exact q
end
end Mine
namespace Mine
set_option maxRecDepth 100000
open PySem PySem.Calls PySem.W
structure ExcK (K:Frag) (D:Addr):Prop where
 ga:findIn K (.ref D) "__getattribute__" = some (some (.builtin "BaseException.__getattribute__"))
 gh:findIn K (.ref D) "__getattr__" = some none
 fo:findObj K D none "__class__" = some (.bind (.builtin "getset_descriptor.__get__") (.builtin "object.__class__"))
 mo:mroIn K D (.type "object")=some true
 mb:mroIn K D (.type "BaseException")=some true
 is:(clsIn K D).isSome=true
theorem exc_class {prog:Program} {w:World} {A:Around} {E:Value->Shared->Prop} {s:Shared} {K:Frag} {x D:Addr} {ox:Obj} {Q:Option Value->Shared->Prop} (X:K.In s.heap) (I:PySem.W.InstAt s.heap x ox D none) (F':ExcK K D)
 (hq:Q (some (.ref D)) { s with toks:=s.toks+1 }):wpAny (model prog w) A (getAttr? (.ref x) "__class__") Q E s:=by
 obtain ⟨hga,hgh,hf,hm,hmB,_⟩:=F'
 obtain ⟨hh,g,d,t,os⟩:=s
 have L0:=I.type (M:=model prog w)
 have L1:=looks_findIn (M:=model prog w) X hga
 have L2:=looks_findIn (M:=model prog w) X hgh
 have L3:=looks_find (M:=model prog w) X I hf
 have LB:=looks_mroIn (M:=model prog w) X hmB
 have f3:=F.excAttr_ValueError.ga.bind (.ref x)
 unfold getAttr? getAttrBy? getAttrBy
 refine wpAny_bind (wpAny_mkText (wpAny_bind (wpAny_attempt (wpAny_holding (wpAny_bind (L0.at (wpAny_bind (L1.at ?_))))))))
 have hx2:(Value.builtin "BaseException.__getattribute__" == Value.builtin "object.__getattribute__")=false:=by decide +kernel
 show wpAny _ _ (if (onTheHeap (Value.ref D)&&Value.builtin "BaseException.__getattribute__" == Value.builtin "object.__getattribute__")=true then _ else _) _ _ _
 rw [hx2,Bool.and_false,if_neg Bool.false_ne_true]
 unfold getAttrByItsOwn
 show wpAny _ _ (typeLookup (.ref D) "__getattr__" >>= _) _ _ _
 refine wpAny_bind (L2.at ?_)
 refine wpAny_bind (wpAny_attempt (wpAny_holding ?_))
 show wpAny _ _ (bindSpecial (.builtin "BaseException.__getattribute__") (.ref x)>>=fun p=>call p.1 (p.2++[.str "__class__" t])) _ _ _
 refine wpAny_bind (wpAny_of_eq f3 ?_)
 show wpAny _ _ (call (.builtin "BaseException.__getattribute__") [.ref x,.str "__class__" t]) _ _ _
 refine wpAny_call (codeAny_call_builtin F.excAttr_ValueError.ga.plain F.entry_bexc_ga ?_)
 have hk:builtinKind "BaseException.__getattribute__" = some .slot:=by decide +kernel
 have hsplit:splitId "BaseException.__getattribute__" = some ("BaseException","__getattribute__"):=by decide +kernel
 have ha:=F.args_bexc_ga (.ref x) (.str "__class__" t)
 have LI:Looks (model prog w) hh (isInstance (.ref x) (.type "BaseException")) true:=L0.andThen LB
 simp only [checkBuiltinCall,hk,hsplit]
 refine wpAny_bind (LI.at ?_)
 repeat (first | assumption | wp_step)
 refine wpAny_loadPart I.at_ (wpAny_pure ?_)
 rw [I.cls]
 refine wpAny_bind (L3.at ?_)
 unfold Builtin.ObjectAttr.bindTo
 show wpAny _ _ (holding [.builtin "object.__class__"] (call (.builtin "getset_descriptor.__get__") [.builtin "object.__class__",.ref x,.ref D])>>=fun v=>ret v) _ _ _
 refine wpAny_bind (wpAny_holding (wpAny_call (class_get (s:=⟨hh,g,d,t+1,os⟩) (ox:=ox) (od:=none) X I hm ?_)))
 exact wpAny_pure (wpAny_pure (wpAny_pure hq))
set_option tactic.hygienic true in
theorem kitx_exc {K:Frag} {x D:Addr} {ox:Obj} (F':ExcK K D):KitX K (.ref x) (.ref D) (fun h=>PySem.W.InstAt h x ox D none) where
 ty:=fun _ _ _ I=>I.type
 it:=fun _ _ X _=>by
  have hcD:=F'.is
  unfold clsIn at hcD
  split at hcD
  ·rename_i c' d' cd' sl' ho
   intro A' Q' E' s' k q
   unfold isType loadHead
   exact wpAny_bind (wpAny_loadPart (k _ _ (X _ _ ho)) (wpAny_pure q))
  ·exact ff_ hcD
 ne:=fun h tp dd its n sl X htp=>by
  have hcD:=F'.is
  refine Bool.eq_false_iff.mpr fun q=>?_
  have e:D=tp:=Value.ref.inj (beq_iff_eq.mp q)
  subst e
  unfold clsIn at hcD
  split at hcD
  ·rename_i c' d' cd' sl' ho
   have z:=(X _ _ ho).symm.trans htp
   exfalso; cases z
  ·exact ff_ hcD
 ca:=fun X I k=>exc_class X I F' k
theorem inst_exc {h:Heap} {e D:Addr} {o:Obj} (he:h.get? e=some o) (hc:o.cls=.ref D) (hd:o.dict=none) (hf:∃ ws,o.data=.fields ws):PySem.W.InstAt h e o D none:=by
 obtain ⟨ws,hf⟩:=hf
 refine ⟨he,hc,?_,?_⟩
 ·obtain ⟨c,dd,dt,sl⟩:=o
  simp only at hf; subst hf; rfl
 ·rw [hd]; trivial
theorem isi_of {T:Top} {K:Frag} (X:K.In T.h0) (cls:∀ c D,c∈DD->T.exc c=some D->ExcK K D)
 (one:∀ c k D w,c∈DD->k < 10->T.exc c=some D->XcV T k w->kitOne K (.ref D) w=some (Bm c k)):IsiOk T:=by
 intro c k D w hc hk hD hw A Q E s e o vs hz he hcl hdi hd h
 exact kia_one (kitx_exc (ox:=o) (cls c D hc hD)) (fun a o e=>hz a o (X a o e)) (inst_exc he hcl hdi ⟨vs,hd⟩) (one c k D w hc hk hD hw) (by intro q; exfalso; cases q) h
theorem cat_of {T:Top} {K:Frag} (X:K.In T.h0)
 (one:∀ c k D w,c∈DD->k∈DD->T.exc c=some D->T.exc k=some w->kitCls K (.ref D) (.ref w)=some (Bm c k)/\kitCls K (.ref w) (.type "BaseException")=some true):CatOk T:=by
 intro c k D w hc hk hD hw A Q E s e o vs hz he hcl hdi hd h
 have X':K.In s.heap:=fun a o e=>hz a o (X a o e)
 obtain ⟨e1,e2⟩:=one c k D w hc hk hD hw
 obtain ⟨L1,L2,L3⟩:=kit_cls (M:=model T.prog T.w) X' e1
 obtain ⟨_,_,L4⟩:=kit_cls (M:=model T.prog T.w) X' e2
 have L0:=(inst_exc he hcl hdi ⟨vs,hd⟩).type (M:=model T.prog T.w)
 have LT:Looks (model T.prog T.w) s.heap (isInstance (.ref w) (.type "tuple")) false:=L1.andThen (Looks.of_pure (by rw [isSubtype_type]; kernel_rfl))
 unfold excMatches
 refine wpAny_bind (LT.at ?_)
 have LE:Looks (model T.prog T.w) s.heap (isExcClass (.ref w)) true:=by
  unfold isExcClass
  exact L2.andThen L4
 simp only [Bool.false_eq_true,if_false,pure_bind,List.forIn_cons,List.forIn_nil]
 refine wpAny_bind (wpAny_bind (wpAny_bind (LE.at ?_)))
 simp only [Bool.not_true,Bool.false_eq_true,if_false]
 refine wpAny_pure (wpAny_pure ?_)
 refine wpAny_bind (L0.at (wpAny_bind (wpAny_bind (wpAny_bind (L3.at ?_)))))
 generalize Bm c k=b at h ⊢
 cases b with
 | true =>
  simp only [if_true]
  exact wpAny_pure (wpAny_pure (wpAny_pure h))
 | false =>
  simp only [Bool.false_eq_true,if_false]
  exact wpAny_pure (wpAny_pure (wpAny_pure h))
end Mine
namespace Mine
open PySem PySem.Calls
noncomputable def ForX (n:Nat) (ts:List Nat) (b:S) (kps:List (Nat×List V)) (k:Nat) (X:Af->Aa->Prop):List V->Af->Aa->Prop
 | [],_,_=>False
 | v::vs,ρ,σ=>Bt σ kps/\bindN n ts v/\(SXs n b (Bw ρ ts v) σ k X\/SSs n b (Bw ρ ts v) σ fun fl σ'=>match fl with | .next ρ'=>ForX n ts b kps k X vs ρ' σ' | .ret _=>False)
section
variable {n k f:Nat} {c:Cx} {ρ:Af} {g g':G} {σ σ' σ₁ σ₂:Aa} {s s':Shared} {x:Value} {X:Af->Aa->Prop} {e a b it:E} {st r:S} {vs ws:List V} {kps:List (Nat×List V)} {ts:List Nat}
theorem SXP.came (p:SXP n c g k X x s'):notedBy (model c.T.prog c.T.w) c.A c.env (fun e s''=>cameBackBy (model c.T.prog c.T.w) c.A c.env (SXP n c g k X) e s'') x s':=p _ fun ρ' σ' g' hX le I fl=>by
 unfold notedBy
 obtain ⟨e0,l,hfe,hfr⟩:=I.cx.hfr
 have fr:=I.frs
 rw [hfe] at fr
 rw [note_env hfr]
 refine GF (outer:=l) (I.frames.trans (congrArg some hfe)) fr I.has fl fun h3 H3 fl3=>?_
 unfold cameBackBy
 refine wpAny_bind (CE.field (s:={ s' with heap:=h3 }) fl3 fun tb=>?_)
 rw [if_neg (show ¬ ((Value.ref tb == Value.none)=true) from fun h=>nomatch h)]
 exact Do (s:={ s' with heap:=h3 }) I.frs H3 fl3 fun h4 H4 fl4=>fun R_ kk=>kk ρ' σ' g' hX le (I.step (.refl _ _) H4) fl4.any
theorem SX.for_ (hi:SI n it ρ σ vs kps σ₁) (h:ForX n ts st kps k X vs ρ σ₁):SX n (.for_ ts it st) ρ σ k X:=fun c g s x hc I=>hc (fun x=>c.wx (exec x c.env) (SXP n c g k X) s) fun t i bd p h1 h2 h3=>by
 refine wpAny_For (wpAny_mono (hi c g s i h2 I) (fun Y s₁ h₁=>wpAny_mono h₁ (fun itv s2 p=>?_) fun _ _ h=>h.elim) fun _ _ h=>h.elim) ((Bj it h2).fold c.env)
 refine p (fun itv=>codeAny (model c.T.prog c.T.w) c.A (.forLoop t itv bd [] c.env) _ s2) fun its a g2 le2 H2 new it2 _=>?_
 have ni:∀ a,a∈its->a∉c.own:=fun a q q'=>I.loc.ow a q' (new a q)
 have toI:∀ {g g'},G.le its g g'->G.le (its++c.own) g g':=fun le=>⟨le.toup,fun a q=>le.hid a fun h=>q (List.mem_append_left _ h)⟩
 have toO:∀ {g g'},G.le c.own g g'->G.le (its++c.own) g g':=fun le=>⟨le.toup,fun a q=>le.hid a fun h=>q (List.mem_append_right _ h)⟩
 have mono:∀ {vs g g'},G.le c.own g g'->ItS n c.T (Ba it) kps its a vs g->ItS n c.T (Ba it) kps its a vs g':=fun le h=>h.mono le.toup fun c hc=>le.hid c (ni c hc)
 refine codeAny_forLoop_any (I:=fun m s'=>∀ R_:Prop,(∀ vs ρ σ g',m=vs.length->ForX n ts st kps k X vs ρ σ->G.le (its++c.own) g g'->Inv n c ρ g' σ s'->ItS n c.T (Ba it) kps its a vs g'->R_)->R_) (fun m s3 hz=>hz _ fun vs ρ3 σ3 g3 hk w le3 I3 it3=>?_) vs.length
  fun R_ kk=>kk vs ρ σ₁ g2 rfl h (toI le2) (I.far I.frs I.loc new le2 H2) it2
 subst hk
 cases vs with
 | nil=>exact w.elim
 | cons v vs =>
  refine wpAny_mono (it3.2 c.toAr g3 σ3 s3 rfl I3.toAt (.refl _) (fun _ _=>rfl) w.1 t (fun r s₁=>∃ X,r=some X/\∀ Q':Unit->Shared->Prop,(∀ g' s',G.le its g3 g'->Has c.T g' σ3 s'->An c.T g' v X->ItS n c.T (Ba it) kps its a vs g'->Q' () s')->c.wp (letOwnedTupleGo t (.ref a) X) Q' s₁) (is_tup h1.1 h1.2) fun X s₁ k=>⟨X,rfl,k⟩) (fun r s₁ h=>?_) fun _ _ h=>h.elim
  obtain ⟨Y,rfl,h⟩:=h
  refine wpAny_mono (h _ fun g4 s4 le4 H4 r4 it4=>?_) (fun _ _ h=>h) fun _ _ h=>h.elim
  refine (I3.far I.frs I.loc new le4 H4).bind h1.1 w.2.1 r4 fun g5 s5 le5 I5=>?_
  have le':=le3.trans ((toI le4).trans (toO le5))
  rcases w.2.2 with w | w
  ·refine wpAny_mono (w c g5 s5 bd h3 I5) (fun _ _ h=>h.elim) fun y s6 p=>SXP.came (p _ fun ρ6 σ6 g6 hX l6 I6 fl=>?_)
   obtain ⟨hd,H',le,e⟩:=I6.has.back (s':=s6) (le'.trans (toO l6)) new (fun _ _ _ e=>e) (I6.has.away (mono (le5.trans l6) it4).at)
   refine fun R_ kk=>kk ρ6 σ6 _ hX le (I6.far I.frs I.loc new ⟨⟨fun _ _ e=>e,fun _ _ e=>e⟩,e⟩ H') (fl.other fun a F=>⟨F.fz,?_,F.mu,F.tab⟩)
   by_cases q:a∈its
   ·exact (le.hid a (ni a q)).trans (new a q)
   ·exact (e a q).trans F.hid
  ·refine wpAny_mono (w c g5 s5 bd h3 I5) (fun f s6 p=>p.elim (fun ρ6 σ6 g6 e6 q l6 I6=>?_) fun v x σ6 g6 e6 q l6 H w r6=>q.elim) fun _ _ h=>h.elim
   subst e6
   exact ⟨vs.length,Nat.lt_succ_self _,fun R_ kk=>kk vs ρ6 σ6 g6 rfl q (le'.trans (toO l6)) I6 (mono (le5.trans l6) it4)⟩
theorem SEx.fcall (h:SEs n a ρ σ ws σ₁) (hf:FXA n f ws σ₁ k σ₂):SEx n (.fcall f a) ρ σ k σ₂:=fun c g s ex hc I=>hc (fun ex=>c.wx (eval ex c.env) (DH c.T g σ₂ k) s) fun nm np es p h1 h2=>by
 obtain ⟨mg,mb,hg,hb,ht,_⟩:=I.cx.rd.ns
 obtain ⟨_,⟨fa,hfa,rfl⟩,_⟩:=ht nm _ h1.2
 obtain ⟨o,fd,ho,hd⟩:=I.cx.rd.fnob f fa hfa
 refine PyProof.Rows.Call_Name rfl (Bp I h1 fun y hy=>?_)
 obtain ⟨fa',hfa',rfl⟩:=hy
 obtain rfl:=As hfa hfa'
 refine callWith_function (o:=o) (fd:=fd) (wpAny_mono (Cg (r:=c.toAr) (Q:=fun a s2=>(s2.heap.get? fa=some o/\o.data=.func fd)/\c.wx (call (.ref fa) ([]++a.pos) a.kw) (DH c.T g σ₂ k) s2) h2 (wpAny_mono (h c g s es p h2 I) (fun Ys s2 p2=>p2 _ fun g2 le2 a2 r2=>⟨⟨(I.step le2 a2).base _ _ ho,hd⟩,wpAny_mono (hf c.toAr g2 s2 fa Ys hfa (I.step le2 a2).toAt r2) (fun _ _ h=>h) fun _ _ p=>p.after le2⟩) fun _ _ h=>h)) (fun _ _ h=>h) fun _ _ h=>h.elim)
theorem SX.asg {i:Nat} (hp:Br e=false) (h:SEx n e ρ σ k σ') (hX:X ρ σ'):SX n (.asg i e) ρ σ k X:=fun c g s x hc I=>hc (fun x=>c.wx (exec x c.env) (SXP n c g k X) s) fun nm p ex p' h1 hc _=>by
 rw [arm_exec_Assign]
 refine wpAny_bind (wpAny_standAt ?_)
 show c.wx (swapsWith ex (some (.Name nm p)) p'.line c.env>>=_) _ _
 rw [Dz _ hp hc,pure_bind,if_neg Bool.false_ne_true]
 exact wpAny_bind (wpAny_mono (h c g s ex hc I) (fun _ _ h=>h.elim) fun y s' p R_ kk=>p R_ fun g' le H fl=>kk ρ σ' g' hX le.toO (I.step le H) fl)
theorem SX.ret (h:SEx n e ρ σ k σ') (hX:X ρ σ'):SX n (.ret e) ρ σ k X:=fun c g s x hc I=>hc (fun x=>c.wx (exec x c.env) (SXP n c g k X) s) fun ex p hc=>by
 rw [arm_exec_Return]
 exact wpAny_bind (wpAny_standAt (wpAny_bind (wpAny_mono (h c g s ex hc I) (fun _ _ h=>h.elim) fun y s' p R_ kk=>p R_ fun g' le H fl=>kk ρ σ' g' hX le.toO (I.step le H) fl)))
end
end Mine
namespace Mine
open PySem PySem.Calls
noncomputable def WhX (n:Nat) (e:E) (b:S) (k:Nat) (X:Af->Aa->Prop):Nat->Af->Aa->Prop
 | 0,_,_=>False
 | m+1,ρ,σ=>∃ σ₁,ST n e ρ σ true σ₁/\(SXs n b ρ σ₁ k X\/SSs n b ρ σ₁ fun fl σ'=>match fl with | .next ρ'=>WhX n e b k X m ρ' σ' | .ret _=>False)
def SEsx (n:Nat) (e:E) (ρ:Af) (σ:Aa) (k:Nat) (σ':Aa):Prop :=
 ∀ (c:Cx) (g:G) (s:Shared) (xs:List Expr) (pos:Pos),DY e c.K xs->Inv n c ρ g σ s->c.wx (spliced (backTo pos (starEach xs c.env))) (DH c.T g σ' k) s
section
variable {n k i m:Nat} {c:Cx} {ρ:Af} {g g₁:G} {σ σ' σ₁ σ1' σ₂:Aa} {s s4:Shared} {x:Value} {X:Af->Aa->Prop} {e a b:E} {r bd:S} {v:V} {Q:Fl->Aa->Prop} {hs:List (Nat×Nat×E)} {l:List ExceptHandler}
theorem SX.while_ (h:WhX n e r k X m ρ σ):SX n (.while_ e r) ρ σ k X:=fun c g s x hc I=>hc (fun x=>c.wx (exec x c.env) (SXP n c g k X) s) fun t bd p h1 h4=>by
 refine wpAny_While (codeAny_whileLoop (I:=fun m s'=>∀ R_:Prop,(∀ ρ σ g',WhX n e r k X m ρ σ->G.le c.own g g'->Inv n c ρ g' σ s'->R_)->R_) (fun m s3 hz=>hz _ fun ρ3 σ3 g3 w le3 I3=>?_) m fun R_ kk=>kk ρ σ g h (.refl _ _) I)
 cases m with
 | zero=>exact w.elim
 | succ m =>
  obtain ⟨σ4,w1,w2⟩:=w
  refine wpAny_mono (w1 c g3 s3 t h1 I3) (fun b s4 p=>p _ fun g4 le4 a4 e4=>?_) fun _ _ h=>h.elim
  subst e4
  have I4:=I3.step le4 a4
  have le:=le3.trans (le4.toO (own:=c.own))
  rcases w2 with w | w
  ·exact wpAny_mono (w c g4 s4 bd h4 I4) (fun _ _ h=>h.elim) fun y s6 p=>SXP.came (p.after le)
  ·refine wpAny_mono (w c g4 s4 bd h4 I4) (fun f s5 p=>p.elim (fun ρ5 σ5 g5 e5 q l5 I5=>?_) fun v x σ5 g5 e5 q l5 H w r5=>q.elim) fun _ _ h=>h.elim
   subst e5
   exact ⟨m,Nat.lt_succ_self m,fun R_ kk=>kk ρ5 σ5 g5 q (le.trans l5) I5⟩
theorem SEsx.here (h:SEx n a ρ σ k σ'):SEsx n (.cons a b) ρ σ k σ':=fun c g s l pos hc I=>hc (fun l=>c.wx (spliced (backTo pos (starEach l c.env))) (DH c.T g σ' k) s) fun z l c1 c3=>by
 rw [(Bj a c1).star]
 exact spliced_cons (wpAny_mono (h c g s z c1 I) (fun _ _ h=>h.elim) fun _ _ h=>h)
theorem SEsx.later (h1:SE n a ρ σ v σ₁) (h2:SEsx n b ρ σ₁ k σ'):SEsx n (.cons a b) ρ σ k σ':=fun c g s l pos hc I=>hc (fun l=>c.wx (spliced (backTo pos (starEach l c.env))) (DH c.T g σ' k) s) fun z l c1 c3=>by
 rw [(Bj a c1).star]
 refine spliced_cons (wpAny_mono (h1 c g s z c1 I) (fun Y s₁ p=>p _ fun g₁ le1 a₁ r1=>?_) fun _ _ h=>h.elim)
 exact wpAny_mono (h2 c g₁ s₁ l pos c3 (I.step le1 a₁)) (fun _ _ h=>h.elim) fun _ _ p=>p.after le1
theorem SEx.tup (h:SEsx n a ρ σ k σ'):SEx n (.tup a) ρ σ k σ':=fun c g s ex hc I=>hc (fun ex=>c.wx (eval ex c.env) (DH c.T g σ' k) s) fun vs k p hc=>by
 rw [arm_eval_Tuple]
 exact wpAny_bind (wpAny_standAt (wpAny_bind (wpAny_mono (h c g s vs p hc I) (fun _ _ h=>h.elim) fun _ _ h=>h)))
theorem Et (I4:Inv n c ρ g₁ σ₁ s4) (fl4:CE c.T g₁ s4.heap k x PTb) (h2:2<=n) (he:SE 2 e (ρ.set i (some (.exc k))) σ₁ v σ₂) (hq:Q (.ret v) σ₂) (le:G.le c.own g g₁) (hH:IsHs c.K ((k,i,e)::hs) l):c.wp (handleBy x c.env l) (AO n c g Q) s4:=by
 refine hH (fun l=>c.wp (handleBy x c.env l) (AO n c g Q) s4) fun nm np m ex rp hp t k1 k2 k3 _=>?_
 have fl4':=fl4
 obtain ⟨a,oe,vs,C,rfl,q2,q3,q4,q5,q6,q7,q8,q9⟩:=fl4'
 refine wpAny_handleBy_cons (codeAny_handlers_test (Bp I4 k1 fun y hy=>?_)) (by intro q; cases q)
 obtain ⟨C',hC',rfl⟩:=hy
 obtain rfl:=As q3 hC'
 refine exc_self I4 q3 q2 q4 ?_
 refine codeAny_handlers_suite_as (Do (L:=none) I4.frs I4.has fl4 fun h5 H5 fl5=>?_)
 obtain ⟨a',oe',vs',C',hx,p2,p3,p4,p5,p6,p7,p8,_⟩:=fl5
 obtain rfl:=Value.ref.inj hx
 have I5:=(I4.step (.refl _ _) H5).freeze p7 p2
 have rx:An c.T (g₁.put a oe') (.exc k) (.ref a):=fun R_ kk=>kk a C' oe' vs' G.put_self p3 p4 p5 p6
 refine I5.store k2.1 rx fun g6 s6 le6 up6 I6=>?_
 have I7:=I6.held h2 (up6.fz _ _ G.put_self) p6 p8
 rw [execs_one,arm_exec_Return]
 refine wpAny_bind (wpAny_standAt (wpAny_bind (wpAny_mono (he (c.held a) g6 s6 ex k3 I7) (fun X s7 q=>q _ fun g7 le7 H7 r7=>wpAny_pure ?_) fun _ _ h=>h.elim)))
 have I8:=I6.step le7 H7
 exact name_goes I8 k2.2 fun g9 s9 le9 up9 H9 ow9=>fun R_ _ kk=>kk v X σ₂ g9 hq (le.trans ((G.le.put p7.fz).trans (le6.trans (le7.toO.trans le9)))) H9 ow9 (An.mono up9 _ _ r7)
theorem DA {k' i':Nat} {e':E} (I4:Inv n c ρ g₁ σ₁ s4) (fl4:CE c.T g₁ s4.heap k x PTb) (hk:k∈DD) (hk':k'∈DD) (hn:Bm k k'=false) (hr:∀ t,IsHs c.K hs t->c.wp (handleBy x c.env t) (AO n c g Q) s4) (hH:IsHs c.K ((k',i',e')::hs) l):c.wp (handleBy x c.env l) (AO n c g Q) s4:=by
 refine hH (fun l=>c.wp (handleBy x c.env l) (AO n c g Q) s4) fun nm np m ex rp hp t k1 k2 k3 k4=>?_
 obtain ⟨a,oe,vs,C,rfl,q2,q3,q4,q5,q6,q7,q8,q9⟩:=fl4
 refine wpAny_handleBy_cons (codeAny_handlers_test (Bp I4 k1 fun y hy=>?_)) (by intro q; cases q)
 obtain ⟨C',hC',rfl⟩:=hy
 refine I4.ok.cat k k' C C' hk hk' q3 hC' _ _ _ _ a oe vs (fun b o q=>I4.has.fz _ _ (I4.has.base b o q)) q2 q4 q5 q6 ?_
 rw [hn]
 exact hr t k4
theorem SS.tryX (hb:SXs n bd ρ σ k fun ρ' σ₁=>ρ'=ρ/\σ₁=σ1') (hh:∀ (c:Cx) (g g₁:G) (s4:Shared) (x:Value) (l:List ExceptHandler),Inv n c ρ g₁ σ1' s4->CE c.T g₁ s4.heap k x PTb->G.le c.own g g₁->IsHs c.K hs l->c.wp (handleBy x c.env l) (AO n c g Q) s4):SS n (.tryAs bd hs) ρ σ Q:=fun c g s x hc I=>hc (fun x=>c.wp (exec x c.env) (AO n c g Q) s) fun bd h0 hs' p h1 hH=>by
 refine wpAny_Try_except (wpAny_mono (hb c g s bd h1 I) (fun _ _ h=>h.elim) fun x s₁ q=>q _ fun ρ' σ₁ g₁ hX le I1 fl=>?_)
 obtain ⟨rfl,rfl⟩:=hX
 obtain ⟨e0,l,hfe,hfr⟩:=I1.cx.hfr
 have fr:=I1.frs
 rw [hfe] at fr
 rw [note_env hfr]
 refine GF (outer:=l) (I1.frames.trans (congrArg some hfe)) fr I1.has fl fun h3 H3 fl3=>?_
 exact Do (s:={ s₁ with heap:=h3 }) (L:=none) I1.frs H3 fl3 fun h4 H4 fl4=>hh c g g₁ { s₁ with heap:=h4 } x (h0::hs') (I1.step (.refl _ _) H4) fl4 le hH
end
end Mine
namespace Mine
open PySem PySem.Calls
theorem layNew_led (t:SetTable) (es:Array (Int×Value)) (h:Int) (x:Value):(layNew t es h x).2.1.led=t.led/\((layNew t es h x).2.1.plain=true->t.plain=true):=by
 unfold layNew
 induction t.freeSlot h with
 | none=>exact ⟨rfl,fun h=>by cases h⟩
 | some p =>
  obtain ⟨slot,wd⟩:=p
  dsimp only
  unfold SetTable.orStandIn
  split
  ·exact ⟨rfl,fun h=>h⟩
  ·exact ⟨rfl,fun h=>by cases h⟩
theorem relayAll_led (t:SetTable) (es:Array (Int×Value)) (n:Nat):(relayAll t es n).2.1.led=t.led/\((relayAll t es n).2.1.plain=true->t.plain=true):=by
 unfold relayAll
 induction hr:t.relaid (es.map (·.1)) n with
 | none=>exact ⟨rfl,fun h=>by cases h⟩
 | some p =>
  obtain ⟨t',order⟩:=p
  have h:t'.led=t.led/\t'.plain=t.plain:=by
   unfold SetTable.relaid SetTable.laid at hr
   simp only [Option.bind_eq_bind,Option.bind_eq_some_iff] at hr
   obtain ⟨ow,_,h2⟩:=hr
   cases h2
   exact ⟨rfl,rfl⟩
  dsimp only
  split
  ·exact ⟨h.1,fun q=>by rw [<-h.2]; exact q⟩
  ·exact ⟨rfl,fun h=>by cases h⟩
section
variable {prog:Program} {w:World} {A:Around} {E:Value->Shared->Prop} {s:Shared}
noncomputable def Fh:Value->Str
 | .str x _=>x
 | _=>Str.empty
theorem is_iff {k:Str} {v:Value}:(strKind prog w).is k v=true ↔ ∃ t,v=.str k t:=by
 constructor
 ·intro h
  induction v with
  | str x t =>
   have h:(x == k)=true:=h
   exact ⟨t,by rw [eq_of_beq h]⟩
  | _=>exfalso; cases h
 ·rintro ⟨t,rfl⟩
  show (k == k)=true
  simp
def DJ (prog:Program) (w:World) (h:Heap) (a:Addr) (ks:List Str) (L:Bool):Prop :=
 ∃ o es ep t,h.get? a=some o/\o.ExactSet/\o.data=.set es ep t/\ElemsOf (strKind prog w) es.toList/\(es.toList.map fun e=>Fh e.2).Perm ks
 /\es.size < scanBound/\t.fits es.size=true/\t.led=L/\(0 < es.size->t.plain=false)
theorem ElemsOf.strs {es:List (Int×Value)} (h:ElemsOf (strKind prog w) es) {e:Int×Value} (he:e∈es):∃ t,e.2=.str (Fh e.2) t:=by
 obtain ⟨⟨k,h1,_⟩,_⟩:=h e he
 obtain ⟨t,e1⟩:=is_iff.mp h1
 exact ⟨t,by rw [e1]; rfl⟩
theorem key_mem {es:List (Int×Value)} {k:Str} (h:ElemsOf (strKind prog w) es):k∈(es.map fun e=>Fh e.2) ↔ ∃ e∈es,(strKind prog w).is k e.2=true:=by
 rw [List.mem_map]
 constructor
 ·rintro ⟨e,he,rfl⟩
  obtain ⟨t,e1⟩:=ElemsOf.strs h he
  exact ⟨e,he,is_iff.mpr ⟨t,e1⟩⟩
 ·rintro ⟨e,he,h1⟩
  obtain ⟨t,e1⟩:=is_iff.mp h1
  exact ⟨e,he,by rw [e1]; rfl⟩
theorem put_T {h:Heap} {a:Addr} {o:Obj} {es es':Array (Int×Value)} {ep:Nat} {t t':SetTable} {ks:List Str} {L:Bool} (ho:h.get? a=some o) (hex:o.ExactSet) (hd:o.data=.set es ep t)
 (hel:ElemsOf (strKind prog w) es'.toList) (hp:(es'.toList.map fun e=>Fh e.2).Perm ks) (hb:es'.size < scanBound) (hf:t'.fits es'.size=true) (hl:t'.led=L) (hpl:0 < es'.size->t'.plain=false) :
 (h.update a (Obj.putSet es' t')).get? a=some { o with data:=.set es' (ep+1) t' }/\DJ prog w (h.update a (Obj.putSet es' t')) a ks L:=by
 have hg:(h.update a (Obj.putSet es' t')).get? a=some { o with data:=.set es' (ep+1) t' }:=by
  have:=Heap.get?_update_self (Obj.putSet es' t') ho (by rw [putSet_of es' t' hd]; rfl)
  rw [putSet_of es' t' hd] at this; exact this
 exact ⟨hg,_,es',ep+1,t',hg,hex,rfl,hel,hp,hb,hf,hl,hpl⟩
theorem addTail_T {g:Bool->Sem Unit} (hg:∀ (b:Bool) (s₁:Shared) (Q':Unit->Shared->Prop),Q' () s₁->wpAny (model prog w) A (g b) Q' E s₁)
 {a:Addr} {o:Obj} {es:Array (Int×Value)} {ep:Nat} {t:SetTable} (ho:s.heap.get? a=some o) (hex:o.ExactSet) (hd:o.data=.set es ep t)
 {es1:Array (Int×Value)} {t2:SetTable} {ks:List Str} {L:Bool} (hel1:ElemsOf (strKind prog w) es1.toList) (hp1:(es1.toList.map fun e=>Fh e.2).Perm ks)
 (hb1:es1.size < scanBound) (hf2:t2.fits es1.size=true) (hl:t2.led=L) (hpl:t2.plain=false) {wasDummy:Bool} {R:Option Bool->Shared->Prop}
 (h:∀ h',Heap.SameBut a s.heap h'->DJ prog w h' a ks L->R (some true) { s with heap:=h' }) :
 wpAny (model prog w) A (do
  storeSet a es1 t2
  if (!wasDummy&&t2.tooFull)=true then do
   g (relayAll t2 es1 (SetTable.grown es1.size)).2.2
   storeSet a (relayAll t2 es1 (SetTable.grown es1.size)).1 (relayAll t2 es1 (SetTable.grown es1.size)).2.1
   pure (some true)
   else pure (some true)) R E s:=by
 refine wpAny_bind (wpAny_storeSet_of ho hd ?_ (fits_of_scanBound hb1))
 obtain ⟨ho1,hS1⟩:=put_T (prog:=prog) (w:=w) ho hex hd hel1 hp1 hb1 hf2 hl fun _=>hpl
 have hsb1:=Heap.SameBut.update s.heap a (Obj.putSet es1 t2)
 split
 ·have hp:=relayAll_perm t2 es1 (SetTable.grown es1.size)
  have hfr:=relayAll_fits t2 es1 (SetTable.grown es1.size)
  have hlr:=relayAll_led t2 es1 (SetTable.grown es1.size)
  generalize relayAll t2 es1 (SetTable.grown es1.size)=Rl at hp hfr hlr ⊢
  obtain ⟨es2,t3,gave2⟩:=Rl
  dsimp only at hp hfr hlr ⊢
  have hsz:es2.size=es1.size:=by rw [<-Array.length_toList,hp.length_eq,Array.length_toList]
  have hb2:es2.size < scanBound:=by rw [hsz]; exact hb1
  refine wpAny_bind (hg _ _ _ ?_)
  refine wpAny_bind (wpAny_storeSet_of ho1 rfl ?_ (fits_of_scanBound hb2))
  obtain ⟨_,hS2⟩:=put_T (prog:=prog) (w:=w) ho1 hex rfl (hel1.perm hp) ((hp.map _).trans hp1) hb2 hfr (hlr.1.trans hl) fun _=>by
   induction q:t3.plain with
   | false=>rfl
   | true=>rw [hpl] at hlr; exact (hlr.2 q).symm
  exact wpAny_pure (h _ (hsb1.trans (Heap.SameBut.update _ a _)) hS2)
 ·exact wpAny_pure (h _ hsb1 hS1)
theorem add_T {a:Addr} {ks:List Str} {L:Bool} {k:Str} {u:Tok} {Q:Bool->Shared->Prop} (hS:DJ prog w s.heap a ks L) (hroom:ks.length+1 < scanBound)
 (h:∀ h' b,Heap.SameBut a s.heap h'->DJ prog w h' a (if k∈ks then ks else ks++[k]) L->Q b { s with heap:=h' }) :
 wpAny (model prog w) A (setAddHashed a (.str k u) ((strKind prog w).hash k)) Q E s:=by
 obtain ⟨o,es,ep,t,ho,hex,hd,hel,hp,hb,hf,hl,hpl⟩:=hS
 have hkey:(strKind prog w).is k (.str k u)=true:=is_iff.mpr ⟨u,rfl⟩
 have hsc:(Value.str k u).scannable=true:=rfl
 have hn:es.size=ks.length:=by rw [<-Array.length_toList,<-hp.length_eq,List.length_map]
 have hmem:k∈ks ↔ ∃ e∈es.toList,(strKind prog w).is k e.2=true:=hp.mem_iff.symm.trans (key_mem hel)
 unfold setAddHashed setAddHashedIn
 refine wpAny_holding (wpAny_bind (wpAny_setState_of ho hd hf ?_))
 dsimp only
 rw [byScan_of hsc hb hel]
 simp only [↓reduceIte]
 unfold setAddByScan
 refine wpAny_bind ?_
 refine wpAny_bind (wpAny_rule ?_)
 refine wpAny_bind (wpAny_setScan_of hkey ho hd hf hel ?_)
 induction hr:List.findIdx? (fun e=>(strKind prog w).is k e.2) es.toList with
 | some j =>
  dsimp only
  obtain ⟨hj,hpj,_⟩:=List.findIdx?_eq_some_iff_getElem.mp hr
  have hk:k∈ks:=hmem.mpr ⟨es.toList[j],List.getElem_mem hj,hpj⟩
  refine wpAny_pure (wpAny_pure ?_)
  have:=h s.heap false (Heap.SameBut.refl a s.heap)
  rw [if_pos hk] at this
  exact this ⟨o,es,ep,t,ho,hex,hd,hel,hp,hb,hf,hl,hpl⟩
 | none =>
  dsimp only
  have hk:k∉ks:=fun q=>by
   obtain ⟨e,he,hp⟩:=hmem.mp q
   have:=List.findIdx?_eq_none_iff.mp hr e he
   exact absurd (hp.symm.trans this) (by decide)
  have hgw:∀ (b:Bool) {s₁:Shared} {Q':Unit->Shared->Prop},Q' () s₁->wpAny (model prog w) A (match b with | true=>rule "set.scan.the-table-gave-way" | false=>pure ()) Q' E s₁ :=
   fun b s₁ Q' hq=>by cases b <;> first | exact wpAny_pure hq | exact wpAny_rule hq
  have hperm:=layNew_perm t es ((strKind prog w).hash k) (.str k u)
  have hfits:=layNew_fits t es ((strKind prog w).hash k) (.str k u)
  have hled:=layNew_led t es ((strKind prog w).hash k) (.str k u)
  generalize layNew t es ((strKind prog w).hash k) (.str k u)=LN at hperm hfits hled ⊢
  obtain ⟨es1,t1,wasDummy,gave⟩:=LN
  dsimp only at hperm hfits hled ⊢
  rw [Array.toList_push] at hperm
  have hel1:ElemsOf (strKind prog w) es1.toList:=(hel.push hkey hsc).perm hperm
  have hsz1:es1.size=ks.length+1:=by rw [<-Array.length_toList,hperm.length_eq,List.length_append,Array.length_toList,hn]; rfl
  have hb1':es1.size < scanBound:=by rw [hsz1]; exact hroom
  have hp1:(es1.toList.map fun e=>Fh e.2).Perm (ks++[k]):=by
   refine (hperm.map _).trans ?_
   rw [List.map_append]
   exact List.Perm.append hp (List.Perm.refl _)
  refine wpAny_bind (hgw _ ?_)
  have hend:∀ h',Heap.SameBut a s.heap h'->DJ prog w h' a (ks++[k]) L->Q true { s with heap:=h' }:=by
   intro h' hsb hS'
   have:=h h' true hsb
   rw [if_neg hk] at this
   exact this hS'
  split
  ·refine wpAny_bind ?_
   rw [hashByValue_scannable 8 hsc]
   refine wpAny_pure ?_
   refine addTail_T (L:=L) ?_ ho hex hd hel1 hp1 hb1' ?_ ?_ ?_ ?_
   ·intro b s₁ Q' hq; cases b <;> first | exact wpAny_pure hq | exact wpAny_rule hq
   ·exact SetTable.fits_plain_off hfits
   ·exact hled.1.trans hl
   ·rfl
   ·intro h' hsb hS'; dsimp only; exact wpAny_pure (hend h' hsb hS')
  ·rename_i hnp
   refine wpAny_bind (wpAny_pure ?_)
   simp only [↓reduceIte]
   refine addTail_T (L:=L) ?_ ho hex hd hel1 hp1 hb1' hfits (hled.1.trans hl) (by simpa using hnp) ?_
   ·intro b s₁ Q' hq; cases b <;> first | exact wpAny_pure hq | exact wpAny_rule hq
   ·intro h' hsb hS'; dsimp only; exact wpAny_pure (hend h' hsb hS')
end
end Mine
namespace Mine
set_option maxRecDepth 100000
open PySem PySem.Calls
noncomputable def met (l:List Str):List Str:=l.foldl (fun ks x=>if x∈ks then ks else ks++[x]) []
theorem met_snoc (l:List Str) (x:Str):met (l++[x])=if x∈met l then met l else met l++[x]:=by
 unfold met; rw [List.foldl_append]; rfl
theorem Ge (l:List Str):(met l).length<=l.length:=by
 have h:∀ (l ks:List Str),(l.foldl (fun ks x=>if x∈ks then ks else ks++[x]) ks).length<=ks.length+l.length:=by
  intro l
  induction l with
  | nil=>intro ks; exact Nat.le_refl _
  | cons x r ih =>
   intro ks
   have:=ih (if x∈ks then ks else ks++[x])
   have h2:(if x∈ks then ks else ks++[x]).length<=ks.length+1:=by split <;> simp
   simp only [List.foldl_cons,List.length_cons]
   lia
 have:=h l []
 simp only [List.length_nil,Nat.zero_add] at this
 exact this
noncomputable def Bu (w:World):Bool:=w.params.followText "set-order"
section
variable {prog:Program} {w:World} {A:Around} {R:Result->Shared->Prop} {I:Addr} {fp wr:List Addr} {G:Array GenState->Array GenState->Prop} {n:Nat} {P:Nat->Value->Prop} {St:Nat->Shared->Prop} {L:Bool}
theorem update_loop_T (W:WalksS prog w A.in1 I fp wr G n P St) (S:Addr) (hSf:S∉fp) (ss:List Str) (hlen:ss.length=n) (hval:∀ i v,P i v->∃ x t,ss[i]? = some x/\v=.str x t) (hb:n+1 < scanBound) :
 ∀ (k i:Nat) (s:Shared),n-i=k->i<=n->St i s->DJ prog w s.heap S (met (ss.take i)) L ->
  (∀ s',Moved (S::wr) G s s'->DJ prog w s'.heap S (met ss) L->R (.ok (.ret .none)) s') ->
  codeAny (model prog w) A (.builtin "set.update.loop" ⟨[.ref S,.ref I],[]⟩) R s:=by
 have hSw:S∉wr:=fun h=>hSf (W.sub _ h)
 have hsub:∀ b∈wr,b∈S::wr:=fun b hb=>List.mem_cons_of_mem _ hb
 intro k
 induction k with
 | zero =>
  intro i s hk hi hst hS hR
  have hin:i=n:=by lia
  subst hin
  rw [List.take_of_length_le (by (exact Nat.le_of_eq ‹_›))] at hS
  refine codeAny_builtin PyProof.Rows.F.entry_set_update_loop ?_
  rw [Around.under_plainId PyProof.Rows.F.plain_set_update_loop _]
  show wpAny _ A.in1 (pyNext (.ref I)>>=_) _ _ s
  refine wpAny_bind (W.done s _ _ hst fun s' hm=>?_)
  show wpAny _ A.in1 (ret Value.none) _ _ s'
  exact wpAny_pure (hR s' (hm.mono hsub) (by
   obtain ⟨o,es,ep,t,ho,rest⟩:=hS
   exact ⟨o,es,ep,t,hm.heap S _ hSw ho,rest⟩))
 | succ k ih =>
  intro i s hk hi hst hS hR
  have hlt:i < n:=by lia
  refine codeAny_builtin PyProof.Rows.F.entry_set_update_loop ?_
  rw [Around.under_plainId PyProof.Rows.F.plain_set_update_loop _]
  show wpAny _ A.in1 (pyNext (.ref I)>>=_) _ _ s
  refine wpAny_bind (W.item i s _ _ hlt hst fun v s' hP hst' hm=>?_)
  obtain ⟨x,t,hx,rfl⟩:=hval i v hP
  have hS':DJ prog w s'.heap S (met (ss.take i)) L:=by
   obtain ⟨o,es,ep,tb,ho,rest⟩:=hS
   exact ⟨o,es,ep,tb,hm.heap S _ hSw ho,rest⟩
  show wpAny _ A.in1 (holding [Value.str x t] (setAdd S (.str x t))>>=_) _ _ s'
  refine wpAny_bind (wpAny_holding ?_)
  unfold setAdd
  refine wpAny_holding ?_
  refine wpAny_bind ((strKind prog w).pyHash (k:=x) (is_iff.mpr ⟨t,rfl⟩) ?_)
  have hroom:(met (ss.take i)).length+1 < scanBound:=by
   have:=Ge (ss.take i)
   have h2:(ss.take i).length<=i:=by simp; (exact Nat.min_le_left _ _)
   lia
  refine add_T (s:={ s' with toks:=s'.toks+1 }) hS' hroom fun h' b hsb hS2=>?_
  have htk:ss.take (i+1)=ss.take i++[x]:=by rw [List.take_add_one,hx]; rfl
  have hSi:DJ prog w h' S (met (ss.take (i+1))) L:=by rw [htk,met_snoc]; exact hS2
  refine wpAny_pure ⟨plainId_quiet PyProof.Rows.F.plain_set_update_loop _,ih (i+1) _ (by lia) hlt (W.frame _ s' _ _ hst' (Nat.le_succ _) fun b hb o e=>?_) hSi fun s'' hm'' hS''=>?_⟩
  ·rw [hsb.2 b (fun h:b=S=>hSf (by rw [<-h]; exact hb))]; exact e
  ·refine hR s'' (Moved.trans W.gtrans ((hm.mono hsub).then_heap (Nat.le_succ _) fun b o hb e=>?_) hm'') hS''
   rw [hsb.2 b (fun h:b=S=>hb (by rw [h]; exact List.mem_cons_self))]; exact e
end
theorem strsAre_at:∀ {vs:List Value} {ss:List Str},PyProof.Rows.StrsAre vs ss->∀ {i:Nat} {v:Value},vs[i]? = some v->∃ x t,ss[i]? = some x/\v=.str x t:=by
 intro vs ss h
 induction h with
 | nil=>intro i v hv; simp at hv
 | cons x t _ ih =>
  intro i v hv
  induction i with
  | zero=>simp at hv; exact ⟨x,t,rfl,hv.symm⟩
  | succ i=>exact ih (by exact hv)
section
variable {prog:Program} {w:World} {A:Around} {E:Value->Shared->Prop} {s:Shared}
theorem new_T (a:Value) {Q₁:Value->Shared->Prop}
 (h:Q₁ (.ref s.heap.objs.size) { s with heap:=s.heap.push { cls:=.type "set",dict:=none,data:=.set #[] 0 (.fresh 0 0 (!Bu w)) } }) :
 codeAny (model prog w) A (.call (.builtin "set.__new__") ⟨[.type "set",a],[]⟩) (wants Q₁ E) s:=by
 refine codeAny_of_tree ?_
 show wpAny _ A.in1 (do checkBuiltinCall "set.__new__" ⟨[.type "set",a],[]⟩; again (.builtin "set.__new__" ⟨[.type "set",a],[]⟩)) _ _ s
 refine wpAny_bind (wpAny_of_eq (F.newCall_set_1 a) (wpAny_pure ⟨plainId_quiet F.plain_set_new _,codeAny_builtin F.entry_set_new ?_⟩))
 rw [Around.under_plainId F.plain_set_new _]
 unfold Builtin.«set.__new__» Builtin.Frozenset.newClass
 have hsub:=sub_set_self
 obtain ⟨hp,g,d,tk,os⟩:=s
 dsimp only
 wp_walk
 refine wpAny_askSetting (wpAny_pure ?_)
 dsimp only
 simp only [newObj]
 refine wpAny_bind (wpAny_alloc (wpAny_pure ?_))
 exact wpAny_pure h
theorem fresh_T {h:Heap} {a:Addr} {L:Bool} (hg:h.get? a=some { cls:=.type "set",dict:=none,data:=.set #[] 0 (.fresh 0 0 L) }):DJ prog w h a [] L :=
 ⟨_,#[],0,_,hg,⟨rfl,rfl,rfl⟩,rfl,fun e he=>by simp at he,.nil,by decide,by rfl,rfl,fun q=>by simp at q⟩
set_option maxHeartbeats 3200000 in
theorem call_set_T {l:Addr} {items:Array Value} {ss:List Str} {Q:Value->Shared->Prop}
 (hh:A.handled=none) (hl:s.heap.IsList l items) (hi:PyProof.Rows.StrsAre items.toList ss) (hb:items.size+1 < scanBound)
 (h:∀ (h':Heap) (tk:Nat),DJ prog w h' s.heap.objs.size (met ss) (!Bu w)->(∀ b o,b < s.heap.objs.size->s.heap.get? b=some o->h'.get? b=some o)->Q (.ref s.heap.objs.size) { s with heap:=h',toks:=tk }) :
 wpAny (model prog w) A (call (.type "set") [.ref l]) Q E s:=by
 obtain ⟨c,tl,hmro⟩:=F.called_set.mro
 have hmade:=F.called_set.made
 have hsub:=F.called_set.sub
 refine wpAny_call (codeAny_of_tree ?_)
 show wpAny _ _ (callAny (.type "set") _) _ _ _
 refine wpAny_pure ⟨Code.quiet_builtin _ (by decide +kernel),codeAny_builtin F.entry_type_call ?_⟩
 rw [Around.under_plain (weight_type_call_type "set" [.ref l] []) rfl]
 have h1:=F.called_set.notType
 have h2:=F.called_set.canCreate
 have hct:=F.typeCall_set_1 (.ref l)
 repeat (any_goals (first | assumption | wp_step))
 generalize hled:(!Bu w)=led at h
 refine codeAny_mono (new_T (.ref l) (E:=E) (Q₁:=fun obj s₁=>obj=.ref s.heap.objs.size/\s₁ = { s with heap:=s.heap.push { cls:=.type "set",dict:=none,data:=.set #[] 0 (.fresh 0 0 led) } }) (by rw [hled]; exact ⟨rfl,rfl⟩)) fun r s₁ hr=>?_
 induction r with
 | error e=>exact hr
 | ok fl =>
  induction fl with
  | ret obj =>
   obtain ⟨rfl,rfl⟩:=hr
   have hS:(s.heap.push { cls:=.type "set",dict:=none,data:=.set #[] 0 (.fresh 0 0 led) }).get? s.heap.objs.size=some { cls:=.type "set",dict:=none,data:=.set #[] 0 (.fresh 0 0 led) }:=Heap.get?_push_size _ rfl
   have hT:Shared.TypeIs { s with heap:=s.heap.push { cls:=.type "set",dict:=none,data:=.set #[] 0 (.fresh 0 0 led) } } (.ref s.heap.objs.size) "set" := ⟨_,hS,rfl⟩
   have hli:=F.called_set.init.lookup
   have hbi:=F.called_set.init.bind (.ref s.heap.objs.size)
   repeat (any_goals (first | assumption | wp_step))
   refine codeAny_mono (codeAny_call_builtin (R:=wants (fun r s2=>r=.none/\∃ h' tk,s2 = { s with heap:=h',toks:=tk }/\DJ prog w h' s.heap.objs.size (met ss) led ∧
    (∀ b o,b < s.heap.objs.size->s.heap.get? b=some o->h'.get? b=some o)) E) F.called_set.init.plain F.entry_set_init (check_set_init_1 hT ?_)) fun r2 s2 hr2=>?_
   ·obtain ⟨ol,hol,hcl,nl,hdl⟩:=hl
    obtain ⟨ocls,odict,odata,oslots⟩:=ol
    simp only at hcl hdl
    subst hcl; subst hdl
    have hol':(s.heap.push { cls:=.type "set",dict:=none,data:=.set #[] 0 (.fresh 0 0 led) }).get? l=some { cls:=.type "list",dict:=odict,data:=.seq items nl,slots:=oslots }:=Heap.get?_push_of_some _ hol
    have hsls:=F.sub_list_set
    have hslf:=F.sub_list_frozenset
    have hne:(Value.type "list" == Value.type "dict")=false:=by decide
    have hl1:(s.heap.push { cls:=.type "set",dict:=none,data:=.set #[] 0 (.fresh 0 0 led) }).IsList l items:=⟨_,hol',rfl,nl,rfl⟩
    unfold Builtin.«set.__init__» noKeywords Builtin.Frozenset.updateFrom
    generalize hPI:pyIter=PI
    wp_walk
    subst hPI
    refine wpAny_pyIter_list hl1 ?_
    refine wpAny_bind (wpAny_runValue ?_)
    have hlS:l < s.heap.objs.size:=Heap.lt_size hol
    have hh3:A.in1.in1.in1.handled=none:=by exact hh
    have hneI:l≠(s.heap.push { cls:=.type "set",dict:=none,data:=.set #[] 0 (.fresh 0 0 led) }).objs.size:=by
     rw [Heap.size_push]; exact Nat.ne_of_lt (Nat.lt_succ_of_lt hlS)
    have hSf:s.heap.objs.size∉[(s.heap.push { cls:=.type "set",dict:=none,data:=.set #[] 0 (.fresh 0 0 led) }).objs.size,l]:=by
     rw [Heap.size_push]; simp only [List.mem_cons,List.mem_singleton,List.not_mem_nil,or_false,not_or]
     exact ⟨Nat.ne_of_lt (Nat.lt_succ_self _),Nat.ne_of_gt hlS⟩
    have hlen:ss.length=items.size:=by rw [<-hi.length,Array.length_toList]
    refine update_loop_T (L:=led) ((Walks.list hh3 _ l hneI items).toS) s.heap.objs.size
     hSf ss hlen (fun i v hv=>strsAre_at hi (by rw [Array.getElem?_toList]; exact hv)) hb (items.size-0) 0 _ (by lia) (Nat.zero_le _)
     ⟨⟨_,Heap.get?_push_size _ rfl,rfl,rfl⟩,(hl1.push _)⟩ ?hS0 ?hR
    case hS0 =>
     exact fresh_T (Heap.get?_push_of_some _ hS)
    case hR =>
     intro s' hm hS'
     obtain ⟨h',g',d',tk',os'⟩:=s'
     have eg:g'=s.gens:=hm.gens
     have ed:d'=s.drawn:=hm.drawn
     have eo:os'=s.os:=hm.os
     subst eg; subst ed; subst eo
     show wpAny _ _ _ _ _ _
     refine wpAny_pure ?_
     show wpAny _ _ (ret Value.none) _ _ _
     refine wpAny_pure ⟨rfl,h',tk',rfl,hS',fun b o hb e=>?_⟩
     have hb1:b≠s.heap.objs.size:=Nat.ne_of_lt hb
     have hb2:b≠(s.heap.push { cls:=.type "set",dict:=none,data:=.set #[] 0 (.fresh 0 0 led) }).objs.size:=by
      rw [Heap.size_push]; exact Nat.ne_of_lt (Nat.lt_succ_of_lt hb)
     exact hm.heap b o (by simp only [List.mem_cons,List.mem_singleton,List.not_mem_nil,or_false,not_or]; exact ⟨hb1,hb2⟩) (Heap.get?_push_of_some _ (Heap.get?_push_of_some _ e))
   ·induction r2 with
    | error e=>exact hr2
    | ok fl2 =>
     induction fl2 with
     | ret r =>
      obtain ⟨rfl,h',tk,rfl,hS',hk'⟩:=hr2
      repeat (any_goals (first | assumption | wp_step))
      exact h _ _ hS' hk'
     | _=>exact hr2.elim
  | _=>exact hr.elim
end
end Mine
namespace Mine
set_option backward.match.sparseCases true
set_option maxRecDepth 100000
open PySem PySem.Calls
theorem A1:Slot "set_iterator" "__next__" "set_iterator.__next__" :=
 .of (owner := "set_iterator") (n := "__next__") (by rw [typeLookup_type,builtinLookup_eq_fast]; kernel_rfl) (by decide +kernel) (by decide +kernel) (by decide +kernel)
  (by first | exact .inl (by decide +kernel) | exact .inr (by decide +kernel)) (by rw [isSubtype_type]; kernel_rfl)
theorem BJ:entryFor table "set_iterator.__next__" = some Builtin.«set_iterator.__next__»:=entryFor_of_fast (by kernel_rfl)
theorem BW (a:Value):argsOk "set_iterator.__next__" ⟨[a],[]⟩:=by unfold argsOk; kernel_rfl
theorem entry_set_iter:entryFor table "set.__iter__" = some Builtin.«frozenset.__iter__» :=
 entryFor_alias (id' := "frozenset.__iter__") (by kernel_rfl) rfl (by decide +kernel) (by kernel_rfl)
def B6 (h:Heap) (I:Addr) (first:Value) (i:Nat) (S:Addr) (n ep:Nat):Prop :=
 ∃ o,h.get? I=some o/\o.cls=.type "set_iterator"/\o.data=.fields #[first,rawInt i,.ref S,rawInt n,rawInt ep]
def Ek (h:Heap) (a:Addr) (es:Array (Int×Value)) (ep:Nat) (t:SetTable):Prop:=∃ o,h.get? a=some o/\o.cls=.type "set"/\o.data=.set es ep t/\t.fits es.size=true
section
variable {prog:Program} {w:World} {A:Around} {E:Value->Shared->Prop} {s:Shared}
theorem B6.typeIs {I S:Addr} {first:Value} {i n ep:Nat} (h:B6 s.heap I first i S n ep):s.TypeIs (.ref I) "set_iterator" := by
 obtain ⟨o,h1,h2,_⟩:=h
 exact ⟨o,h1,h2⟩
theorem next_drawn {I S tp:Addr} {i:Nat} {es:Array (Int×Value)} {ep:Nat} {t:SetTable} {ps:List Nat} {p:Nat} {e:Int×Value} {Q:Option Value->Shared->Prop}
 (hI:B6 s.heap I (.ref tp) i S es.size ep) (hS:Ek s.heap S es ep t) (ht:s.heap.IsTuple tp (ps.map fun k:Nat=>rawInt (k:Int)).toArray) (hp:ps[i]? = some p) (he:es[p]? = some e)
 (hQ:∀ h',B6 h' I (.ref tp) (i+1) S es.size ep->Heap.SameBut I s.heap h'->Q (some e.2) { s with heap:=h' }):wpAny (model prog w) A (pyNext (.ref I)) Q E s:=by
 have hT:=hI.typeIs
 obtain ⟨o,ho,hc,hd⟩:=hI
 obtain ⟨os,hos,_,hds,hf⟩:=hS
 obtain ⟨ot,hot,_,nt,hdt⟩:=ht
 unfold pyNext
 refine wpAny_bind (wpAny_attempt (wpAny_callSpecial?_slot (name:=Str.ofString "__next__") hT A1
  (wpAny_call_entry A1 hT BJ ?_ (BW _))))
 show wpAny _ _ (fieldsOf (.ref I)>>=_) _ _ s
 refine wpAny_bind ?_
 unfold fieldsOf
 refine wpAny_bind (wpAny_load ho ?_)
 rw [hd]
 refine wpAny_pure ?_
 show wpAny _ _ (setEntries S>>=_) _ _ s
 refine wpAny_bind (wpAny_setEntries_of hos hds hf ?_)
 show wpAny _ _ (if ((es.size:Int) != (es.size:Int))=true then _ else _) _ _ s
 rw [if_neg (by simp)]
 show wpAny _ _ (seqItems? (.ref tp)>>=_) _ _ s
 refine wpAny_bind (wpAny_seqItems hot hdt ?_)
 have hpl:(ps.map fun k:Nat=>rawInt (k:Int)).toArray[(i:Int).toNat]? = some (rawInt (p:Int)):=by
  rw [Int.toNat_natCast,List.getElem?_toArray,List.getElem?_map,hp]; rfl
 show wpAny _ _ (match (ps.map fun k:Nat=>rawInt (k:Int)).toArray[(i:Int).toNat]? with | some (.int place _)=>_ | some _=>_ | none=>_) _ _ s
 rw [hpl]
 show wpAny _ _ (setNextDrawn S (p:Int).toNat (ep:Int).toNat>>=_) _ _ s
 refine wpAny_bind ?_
 unfold setNextDrawn
 refine wpAny_bind (wpAny_setState_of hos hds hf ?_)
 show wpAny _ _ (if (ep != (ep:Int).toNat)=true then _ else _) _ _ s
 rw [if_neg (by simp)]
 rw [Int.toNat_natCast,he]
 refine wpAny_pure ?_
 refine wpAny_bind (wpAny_setField ho hd (by simp) (wpAny_pure ⟨e.2,rfl,wpAny_pure (hQ _ ?_ (Heap.SameBut.update ..))⟩))
 exact ⟨_,Heap.get?_update_self _ ho (Obj.isFreed_of_fields (Obj.data_mapFields hd _)),(Obj.cls_mapFields ..).trans hc,by
  rw [Obj.data_mapFields hd]; simp [rawInt]⟩
theorem stop_any {α:Type} {I:Addr} {o:Obj} {vs:Array Value} {R:α->Shared->Prop} {s₀:Shared} (hh:A.handled=none) (ho:s.heap.get? I=some o) (hd:o.data=.fields vs) (hs:2 < vs.size) (hsb:Heap.SameBut I s₀.heap s.heap)
 (hq:∀ h',Heap.ExtBut I s₀.heap h'->∀ e,(∃ oe,h'.get? e=some oe/\oe.cls=.type "StopIteration")->E (.ref e) { s with heap:=h' }) :
 wpAny (model prog w) A (do setField (.ref I) 2 .none; raiseNew (<-newExc (.type "StopIteration") [])) R E s:=by
 refine wpAny_bind (wpAny_setField ho hd hs ?_)
 show wpAny _ _ (newExc (.type "StopIteration") []>>=_) _ _ _
 refine wpAny_bind ?_
 simp only [newExc,newTuple]
 refine wpAny_bind (wpAny_newObj_type ?_ (by size_fits))
 refine wpAny_bind (m:=firstArgMember _ _) (wpAny_of_eq (a:=Value.none) (by first | rfl | (simp only [firstArgMember]; rfl)) ?_)
 refine wpAny_newObj_type ?_ (by size_fits)
 simp only [raiseNew]
 refine wpAny_bind (wpAny_handled ?_)
 rw [hh]
 refine wpAny_bind (wpAny_pure (wpAny_throw ?_))
 exact hq _ (((hsb.trans (Heap.SameBut.update ..)).extBut.push _).push _) _ ⟨_,Heap.get?_push_size _ rfl,rfl⟩
theorem end_drawn {I S tp:Addr} {i:Nat} {es:Array (Int×Value)} {ep:Nat} {t:SetTable} {ps:List Nat} {Q:Option Value->Shared->Prop} (hh:A.handled=none)
 (hI:B6 s.heap I (.ref tp) i S es.size ep) (hS:Ek s.heap S es ep t) (ht:s.heap.IsTuple tp (ps.map fun k:Nat=>rawInt (k:Int)).toArray) (hp:ps[i]? = none)
 (hQ:∀ h',Heap.ExtBut I s.heap h'->Q none { s with heap:=h' }):wpAny (model prog w) A (pyNext (.ref I)) Q E s:=by
 have hT:=hI.typeIs
 obtain ⟨o,ho,hc,hd⟩:=hI
 obtain ⟨os,hos,_,hds,hf⟩:=hS
 obtain ⟨ot,hot,_,nt,hdt⟩:=ht
 unfold pyNext
 refine wpAny_bind (wpAny_attempt (wpAny_callSpecial?_slot (name:=Str.ofString "__next__") hT A1
  (wpAny_call_entry A1 hT BJ ?_ (BW _))))
 show wpAny _ _ (fieldsOf (.ref I)>>=_) _ _ s
 refine wpAny_bind ?_
 unfold fieldsOf
 refine wpAny_bind (wpAny_load ho ?_)
 rw [hd]
 refine wpAny_pure ?_
 show wpAny _ _ (setEntries S>>=_) _ _ s
 refine wpAny_bind (wpAny_setEntries_of hos hds hf ?_)
 show wpAny _ _ (if ((es.size:Int) != (es.size:Int))=true then _ else _) _ _ s
 rw [if_neg (by simp)]
 show wpAny _ _ (seqItems? (.ref tp)>>=_) _ _ s
 refine wpAny_bind (wpAny_seqItems hot hdt ?_)
 have hpl:(ps.map fun k:Nat=>rawInt (k:Int)).toArray[(i:Int).toNat]? = none:=by
  rw [Int.toNat_natCast,List.getElem?_toArray,List.getElem?_map,hp]; rfl
 show wpAny _ _ (match (ps.map fun k:Nat=>rawInt (k:Int)).toArray[(i:Int).toNat]? with | some (.int place _)=>_ | some _=>_ | none=>_) _ _ s
 rw [hpl]
 refine wpAny_bind (wpAny_setField ho hd (by simp) ?_)
 refine stop_any (A:=A.in1) (s:={ s with heap:=s.heap.update I (Obj.mapFields (·.setIfInBounds 0 (rawInt 0))) }) (s₀:=s) (by exact hh) (Heap.get?_update_self _ ho (Obj.isFreed_of_fields (Obj.data_mapFields hd _))) (Obj.data_mapFields hd _) (by simp) (Heap.SameBut.update ..) fun h' hx e ⟨oe,h1,h2⟩=>?_
 refine wpAny_bind (wpAny_isInstance (T := "StopIteration") (b:=true) ⟨oe,h1,h2⟩ isSubtype_stop ?_)
 exact wpAny_pure (hQ _ hx)
theorem GI {I S:Addr} {slot i:Nat} {es:Array (Int×Value)} {ep:Nat} {t:SetTable} {x:Value} {nx:Nat} {Q:Option Value->Shared->Prop}
 (hI:B6 s.heap I (rawInt slot) i S es.size ep) (hS:Ek s.heap S es ep t) (hN:∀ (A':Around) (E':Value->Shared->Prop) (Q':Option (Value×Nat)->Shared->Prop),Q' (some (x,nx)) s->wpAny (model prog w) A' (setNext S slot i ep) Q' E' s)
 (hQ:∀ h',B6 h' I (rawInt nx) (i+1) S es.size ep->Heap.SameBut I s.heap h'->Q (some x) { s with heap:=h' }):wpAny (model prog w) A (pyNext (.ref I)) Q E s:=by
 have hT:=hI.typeIs
 obtain ⟨o,ho,hc,hd⟩:=hI
 obtain ⟨os,hos,_,hds,hf⟩:=hS
 unfold pyNext
 refine wpAny_bind (wpAny_attempt (wpAny_callSpecial?_slot (name:=Str.ofString "__next__") hT A1
  (wpAny_call_entry A1 hT BJ ?_ (BW _))))
 show wpAny _ _ (fieldsOf (.ref I)>>=_) _ _ s
 refine wpAny_bind ?_
 unfold fieldsOf
 refine wpAny_bind (wpAny_load ho ?_)
 rw [hd]
 refine wpAny_pure ?_
 show wpAny _ _ (setEntries S>>=_) _ _ s
 refine wpAny_bind (wpAny_setEntries_of hos hds hf ?_)
 show wpAny _ _ (if ((es.size:Int) != (es.size:Int))=true then _ else _) _ _ s
 rw [if_neg (by simp)]
 show wpAny _ _ (setNext S (slot:Int).toNat (i:Int).toNat (ep:Int).toNat>>=_) _ _ s
 rw [Int.toNat_natCast,Int.toNat_natCast,Int.toNat_natCast]
 refine wpAny_bind (hN _ _ _ ?_)
 refine wpAny_bind (wpAny_setField ho hd (by simp) ?_)
 have ho1:=Heap.get?_update_self (Obj.mapFields (·.setIfInBounds 0 (rawInt nx))) ho (Obj.isFreed_of_fields (Obj.data_mapFields hd _))
 have hd1:=Obj.data_mapFields hd (·.setIfInBounds 0 (rawInt nx))
 refine wpAny_bind (wpAny_setField (s:={ s with heap:=s.heap.update I (Obj.mapFields (·.setIfInBounds 0 (rawInt nx))) }) ho1 hd1 (by simp) (wpAny_pure ⟨x,rfl,wpAny_pure (hQ _ ?_ ((Heap.SameBut.update ..).trans (Heap.SameBut.update ..)))⟩))
 exact ⟨_,Heap.get?_update_self _ ho1 (Obj.isFreed_of_fields (Obj.data_mapFields hd1 _)),(Obj.cls_mapFields ..).trans ((Obj.cls_mapFields ..).trans hc),by
  rw [Obj.data_mapFields hd1]; simp [rawInt]⟩
theorem end_plain {I S:Addr} {slot i:Nat} {es:Array (Int×Value)} {ep:Nat} {t:SetTable} {Q:Option Value->Shared->Prop} (hh:A.handled=none)
 (hI:B6 s.heap I (rawInt slot) i S es.size ep) (hS:Ek s.heap S es ep t) (hN:∀ (A':Around) (E':Value->Shared->Prop) (Q':Option (Value×Nat)->Shared->Prop),Q' none s->wpAny (model prog w) A' (setNext S slot i ep) Q' E' s)
 (hQ:∀ h',Heap.ExtBut I s.heap h'->Q none { s with heap:=h' }):wpAny (model prog w) A (pyNext (.ref I)) Q E s:=by
 have hT:=hI.typeIs
 obtain ⟨o,ho,hc,hd⟩:=hI
 obtain ⟨os,hos,_,hds,hf⟩:=hS
 unfold pyNext
 refine wpAny_bind (wpAny_attempt (wpAny_callSpecial?_slot (name:=Str.ofString "__next__") hT A1
  (wpAny_call_entry A1 hT BJ ?_ (BW _))))
 show wpAny _ _ (fieldsOf (.ref I)>>=_) _ _ s
 refine wpAny_bind ?_
 unfold fieldsOf
 refine wpAny_bind (wpAny_load ho ?_)
 rw [hd]
 refine wpAny_pure ?_
 show wpAny _ _ (setEntries S>>=_) _ _ s
 refine wpAny_bind (wpAny_setEntries_of hos hds hf ?_)
 show wpAny _ _ (if ((es.size:Int) != (es.size:Int))=true then _ else _) _ _ s
 rw [if_neg (by simp)]
 show wpAny _ _ (setNext S (slot:Int).toNat (i:Int).toNat (ep:Int).toNat>>=_) _ _ s
 rw [Int.toNat_natCast,Int.toNat_natCast,Int.toNat_natCast]
 refine wpAny_bind (hN _ _ _ ?_)
 refine stop_any (A:=A.in1) (s₀:=s) (by exact hh) ho hd (by simp) (Heap.SameBut.refl ..) fun h' hx e hz_=>?_
 obtain ⟨oe,h1,h2⟩:=hz_
 refine wpAny_bind (wpAny_isInstance (T := "StopIteration") (b:=true) ⟨oe,h1,h2⟩ isSubtype_stop ?_)
 exact wpAny_pure (hQ _ hx)
theorem E6 {S:Addr} {slot i:Nat} {es:Array (Int×Value)} {ep:Nat} {t:SetTable} (hb:Bu w=true) (hS:Ek s.heap S es ep t) {Q:Option (Value×Nat)->Shared->Prop}
 (h:Q (((pickOrder (w.params.setOrder S ep) es)[i]?).map fun e=>(e.2,slot)) s):wpAny (model prog w) A (setNext S slot i ep) Q E s:=by
 obtain ⟨os,hos,_,hds,hf⟩:=hS
 unfold setNext
 refine wpAny_bind (wpAny_setState_of hos hds hf ?_)
 dsimp only
 unfold setsByText
 refine wpAny_bind (wpAny_bind (wpAny_askSetting (wpAny_pure ?_)))
 show wpAny _ _ (if Bu w=true then _ else _) _ _ _
 rw [if_pos hb]
 show wpAny _ _ (if (ep != ep)=true then _ else _) _ _ _
 rw [if_neg (by simp)]
 refine wpAny_bind ?_
 unfold setWalk
 refine wpAny_bind (wpAny_setState_of hos hds hf ?_)
 dsimp only
 unfold setsByText
 refine wpAny_bind (wpAny_bind (wpAny_askSetting (wpAny_pure ?_)))
 show wpAny _ _ (if Bu w=true then _ else _) _ _ _
 rw [if_pos hb]
 refine wpAny_bind (wpAny_askSetting (wpAny_pure (wpAny_pure ?_)))
 exact h
theorem F6 {S:Addr} {slot i:Nat} {es:Array (Int×Value)} {ep:Nat} {t:SetTable} (hb:Bu w=false) (hS:Ek s.heap S es ep t) (h1:es.size<=1) (hl:t.led=true) {Q:Option (Value×Nat)->Shared->Prop}
 (h:Q (match es[SetTable.below t.place slot]?,t.place[SetTable.below t.place slot]? with | some (_,x),some j=>some (x,j+1) | _,_=>none) s):wpAny (model prog w) A (setNext S slot i ep) Q E s:=by
 obtain ⟨os,hos,_,hds,hf⟩:=hS
 unfold setNext
 refine wpAny_bind (wpAny_setState_of hos hds hf ?_)
 dsimp only
 unfold setsByText
 refine wpAny_bind (wpAny_bind (wpAny_askSetting (wpAny_pure ?_)))
 show wpAny _ _ (if Bu w=true then _ else _) _ _ _
 rw [if_neg (by rw [hb]; simp)]
 show wpAny _ _ (if (!t.plain&&decide (es.size > 1))=true then _ else _) _ _ _
 rw [if_neg (by simp; omega)]
 refine wpAny_bind ?_
 show wpAny _ _ (if (!t.led && !es.isEmpty)=true then _ else _) _ _ _
 rw [if_neg (by rw [hl]; simp)]
 exact wpAny_pure (wpAny_pure h)
end
end Mine
namespace Mine
set_option maxRecDepth 100000
open PySem PySem.Calls
theorem D1:Slot "set_iterator" "__iter__" "set_iterator.__iter__" :=
 .of (owner := "set_iterator") (n := "__iter__") (by rw [typeLookup_type,builtinLookup_eq_fast]; kernel_rfl) (by decide +kernel) (by decide +kernel) (by decide +kernel)
  (by first | exact .inl (by decide +kernel) | exact .inr (by decide +kernel)) (by rw [isSubtype_type]; kernel_rfl)
theorem FV:entryFor table "set_iterator.__iter__" = some Builtin.«dict_keyiterator.__iter__» :=
 entryFor_alias (id' := "dict_keyiterator.__iter__") (by kernel_rfl) rfl (by decide +kernel) (by kernel_rfl)
theorem args_seti_iter (a:Value):argsOk "set_iterator.__iter__" ⟨[a],[]⟩:=by unfold argsOk; kernel_rfl
theorem Ew {α:Type}:∀ (l:List α) (i:Nat) (y:α),l[i]? = some y->(y::l.eraseIdx i).Perm l
 | [],i,y,h=>by simp at h
 | a::r,0,y,h=>by simp at h; subst h; exact .refl _
 | a::r,i+1,y,h=>by
  have h':r[i]? = some y:=by exact h
  exact (List.Perm.swap a y _).trans (.cons a (Ew r i y h'))
theorem pick_go {α:Type} (f:Nat->Nat):∀ (n k:Nat) (left:List α) (out:Array α),left.length=n->(pickOrder.go f n k left out).toList.Perm (out.toList++left)
 | 0,k,[],out,_=>by rw [pickOrder.go,List.append_nil]
 | n+1,k,x::r,out,h=>by
  have hi:f k % (x::r).length < (x::r).length:=Nat.mod_lt _ (by simp)
  have hy:(x::r)[f k % (x::r).length]? = some (x::r)[f k % (x::r).length]:=List.getElem?_eq_getElem hi
  rw [pickOrder.go,hy]
  refine (pick_go f n (k+1) _ _ ?_).trans ?_
  ·rw [List.length_eraseIdx_of_lt hi,h]; rfl
  ·rw [Array.toList_push,List.append_assoc]
   exact List.Perm.append_left _ (Ew _ _ _ hy)
 | 0,_,_::_,_,h=>by simp at h
 | _+1,_,[],_,h=>by simp at h
theorem pick_perm {α:Type} (f:Nat->Nat) (xs:Array α):(pickOrder f xs).toList.Perm xs.toList:=pick_go f _ 0 xs.toList #[] (Array.length_toList ..)
section
variable {prog:Program} {w:World} {A:Around} {E:Value->Shared->Prop} {s:Shared}
theorem Fs {I S:Addr} {first:Value} {i n ep:Nat} {Q:Value->Shared->Prop} (hI:B6 s.heap I first i S n ep) (h:Q (.ref I) s):wpAny (model prog w) A (pyIter (.ref I)) Q E s:=by
 refine wpAny_pyIter_slot hI.typeIs D1 (wpAny_call_entry D1 hI.typeIs FV ?_ (args_seti_iter _))
 show wpAny _ _ (ret (.ref I)) _ _ s
 exact wpAny_pure ⟨_,rfl,"set_iterator",_,hI.typeIs,A1.lookup,h⟩
theorem wpAny_choose {src:Source} {n:Nat} {Q:Nat->Shared->Prop} (hn:n≠0) (h:∀ i d,i < n->Q i { s with drawn:=d }):wpAny (model prog w) A (choose src n) Q E s:=by
 intro Γ p hΓ
 exact ⟨hn,h _ _ (Nat.mod_lt _ (Nat.pos_of_ne_zero hn))⟩
theorem Ei {α:Type}:∀ (n:Nat) (xs:List α) (s:Shared) (Q:List α->Shared->Prop),xs.length=n->(∀ l d,l.Perm xs->Q l { s with drawn:=d })->wpAny (model prog w) A (drawOrder n xs) Q E s
 | 0,[],s,Q,_,h=>wpAny_pure (h [] s.drawn .nil)
 | n+1,x::xs,s,Q,hl,h=>by
  show wpAny _ _ (choose _ _>>=_) _ _ _
  refine wpAny_bind (wpAny_choose (by exact Nat.succ_ne_zero _) fun i d hi=>?_)
  obtain ⟨y,hy⟩:∃ y,(x::xs)[i]? = some y:=⟨(x::xs)[i],List.getElem?_eq_getElem hi⟩
  rw [hy]
  refine wpAny_bind (Ei n ((x::xs).eraseIdx i) _ _ ?_ fun l d' hp=>wpAny_pure (h _ d' ?_))
  ·rw [List.length_eraseIdx_of_lt hi]; simp at hl ⊢; (with_reducible assumption)
  ·exact (List.Perm.cons y hp).trans (Ew _ _ _ hy)
 | 0,_::_,_,_,h,_=>by simp at h
 | _+1,[],_,_,h,_=>by simp at h
theorem walks_drawn {I S tp:Addr} {es:Array (Int×Value)} {ep:Nat} {t:SetTable} {ps:List Nat} (hh:A.handled=none) (hp:ps.Perm (List.range es.size)) (hIS:I≠S) (hIt:I≠tp) :
 WalksS prog w A I [I,S,tp] [I] (fun a b=>b=a) es.size (fun i v=>∃ p e,ps[i]? = some p/\es[p]? = some e/\v=e.2) (fun i s=>B6 s.heap I (.ref tp) i S es.size ep/\Ek s.heap S es ep t/\s.heap.IsTuple tp (ps.map fun k:Nat=>rawInt (k:Int)).toArray):=by
 have hlen:ps.length=es.size:=by rw [hp.length_eq,List.length_range]
 have sm:∀ {h h':Heap},Heap.SameBut I h h'->∀ b o,b∉[I]->h.get? b=some o->h'.get? b=some o:=fun hs b o hb e=>(hs.2 b fun q=>hb (by rw [q]; exact List.mem_singleton.mpr rfl)).trans e
 refine ⟨fun b hb=>by rw [List.mem_singleton.mp hb]; exact List.mem_cons_self,fun a=>rfl,fun a b c h1 h2=>h2.trans h1,fun i s h' tk z _ hk=>?_,fun i s Q E hi z hQ=>?_,fun s Q E z hQ=>?_,fun i s Q E z hQ=>Fs z.1 hQ⟩
 ·obtain ⟨⟨o,h1,r1⟩,⟨o2,h2,r2⟩,⟨o3,h3,r3⟩⟩:=z
  exact ⟨⟨o,hk I (by exact .head _) o h1,r1⟩,⟨o2,hk S (by exact .tail _ (.head _)) o2 h2,r2⟩,⟨o3,hk tp (by exact .tail _ (.tail _ (.head _))) o3 h3,r3⟩⟩
 ·have h1:=z.1
  have h2:=z.2.1
  have h3:=z.2.2
  have hpi:ps[i]? = some ps[i]:=List.getElem?_eq_getElem (by omega)
  have hlt:ps[i] < es.size:=List.mem_range.mp (hp.mem_iff.mp (List.getElem_mem (by omega)))
  refine next_drawn h1 h2 h3 hpi (Array.getElem?_eq_getElem hlt) fun h' hI' hs=>hQ _ _ ⟨_,_,hpi,Array.getElem?_eq_getElem hlt,rfl⟩ ⟨hI',?_,?_⟩ ⟨fun b o hb e=>sm hs b o hb e,rfl,rfl,rfl,Nat.le_refl _⟩
  ·obtain ⟨o,e,r⟩:=h2; exact ⟨o,(hs.2 S (Ne.symm hIS)).trans e,r⟩
  ·obtain ⟨o,e,r⟩:=h3; exact ⟨o,(hs.2 tp (Ne.symm hIt)).trans e,r⟩
 ·refine end_drawn hh z.1 z.2.1 z.2.2 (List.getElem?_eq_none (by (exact Nat.le_of_eq ‹_›))) fun h' hx=>hQ _ ⟨fun b o hb e=>hx b o (fun q=>hb (by rw [q]; exact List.mem_singleton.mpr rfl)) e,rfl,rfl,rfl,Nat.le_refl _⟩
theorem walks_text {I S:Addr} {es:Array (Int×Value)} {ep:Nat} {t:SetTable} (hb:Bu w=true) (hh:A.handled=none) (hn:(pickOrder (w.params.setOrder S ep) es).size=es.size) (hIS:I≠S) :
 WalksS prog w A I [I,S] [I] (fun a b=>b=a) es.size (fun i v=>∃ e,(pickOrder (w.params.setOrder S ep) es)[i]? = some e/\v=e.2) (fun i s=>B6 s.heap I (rawInt ((0:Nat):Int)) i S es.size ep/\Ek s.heap S es ep t):=by
 have sm:∀ {h h':Heap},Heap.SameBut I h h'->∀ b o,b∉[I]->h.get? b=some o->h'.get? b=some o:=fun hs b o hb e=>(hs.2 b fun q=>hb (by rw [q]; exact List.mem_singleton.mpr rfl)).trans e
 refine ⟨fun b hb=>by rw [List.mem_singleton.mp hb]; exact List.mem_cons_self,fun a=>rfl,fun a b c h1 h2=>h2.trans h1,fun i s h' tk z _ hk=>?_,fun i s Q E hi z hQ=>?_,fun s Q E z hQ=>?_,fun i s Q E z hQ=>Fs z.1 hQ⟩
 ·obtain ⟨⟨o,h1,r1⟩,⟨o2,h2,r2⟩⟩:=z
  exact ⟨⟨o,hk I (by exact .head _) o h1,r1⟩,⟨o2,hk S (by exact .tail _ (.head _)) o2 h2,r2⟩⟩
 ·have h1:=z.1
  have h2:=z.2
  have he:(pickOrder (w.params.setOrder S ep) es)[i]? = some (pickOrder (w.params.setOrder S ep) es)[i]:=Array.getElem?_eq_getElem (by omega)
  refine GI h1 h2 (fun A' E' Q' hq=>E6 hb h2 (by rw [he]; exact hq)) fun h' hI' hs=>hQ _ _ ⟨_,he,rfl⟩ ⟨hI',?_⟩ ⟨fun b o hb e=>sm hs b o hb e,rfl,rfl,rfl,Nat.le_refl _⟩
  obtain ⟨o,e,r⟩:=h2; exact ⟨o,(hs.2 S (Ne.symm hIS)).trans e,r⟩
 ·refine end_plain hh z.1 z.2 (fun A' E' Q' hq=>E6 hb z.2 (by rw [Array.getElem?_eq_none (by (exact Nat.le_of_eq ‹_›))]; exact hq)) fun h' hx=>hQ _ ⟨fun b o hb e=>hx b o (fun q=>hb (by rw [q]; exact List.mem_singleton.mpr rfl)) e,rfl,rfl,rfl,Nat.le_refl _⟩
end
end Mine
namespace Mine
set_option maxRecDepth 100000
open PySem PySem.Calls
theorem below_one (a j:Nat):SetTable.below #[a] j=if a < j then 1 else 0:=by
 show SetTable.below.go #[a] j 1 0 1=_
 unfold SetTable.below.go
 simp only [Nat.zero_lt_one,if_true]
 show (if (#[a]:Array Nat).getD 0 j < j then SetTable.below.go #[a] j 0 1 1 else SetTable.below.go #[a] j 0 0 0)=_
 rfl
section
variable {prog:Program} {w:World} {A:Around} {E:Value->Shared->Prop} {s:Shared}
theorem walks_few {I S:Addr} {es:Array (Int×Value)} {ep:Nat} {t:SetTable} (hb:Bu w=false) (hh:A.handled=none) (h1:es.size<=1) (hl:t.led=true) (hf:t.fits es.size=true) (hIS:I≠S) :
 WalksS prog w A I [I,S] [I] (fun a b=>b=a) es.size (fun i v=>∃ e,es[i]? = some e/\v=e.2) (fun i s=>∃ slot:Nat,B6 s.heap I (rawInt (slot:Int)) i S es.size ep/\Ek s.heap S es ep t/\SetTable.below t.place slot=i):=by
 have sm:∀ {h h':Heap},Heap.SameBut I h h'->∀ b o,b∉[I]->h.get? b=some o->h'.get? b=some o:=fun hs b o hb e=>(hs.2 b fun q=>hb (by rw [q]; exact List.mem_singleton.mpr rfl)).trans e
 have hpl:t.place.size=es.size:=by
  simp only [SetTable.fits,Bool.and_eq_true,beq_iff_eq,decide_eq_true_eq] at hf
  exact hf.1
 refine ⟨fun b hb=>by rw [List.mem_singleton.mp hb]; exact List.mem_cons_self,fun a=>rfl,fun a b c h1 h2=>h2.trans h1,fun i s h' tk z _ hk=>?_,fun i s Q E hi z hQ=>?_,fun s Q E z hQ=>?_,fun i s Q E z hQ=>z.elim fun _ z=>Fs z.1 hQ⟩
 ·obtain ⟨slot,⟨o,k1,r1⟩,⟨o2,k2,r2⟩,k3⟩:=z
  exact ⟨slot,⟨o,hk I (by exact .head _) o k1,r1⟩,⟨o2,hk S (by exact .tail _ (.head _)) o2 k2,r2⟩,k3⟩
 ·obtain ⟨slot,k1,k2,k3⟩:=z
  have he:es[i]? = some es[i]:=Array.getElem?_eq_getElem hi
  have hj:t.place[i]? = some t.place[i]:=Array.getElem?_eq_getElem (by omega)
  have hi0:i=0:=by lia
  obtain ⟨a,ha⟩:∃ a,t.place=#[a]:=Array.size_eq_one_iff.mp (by lia)
  refine GI (x:=es[i].2) (nx:=t.place[i]+1) k1 k2 (fun A' E' Q' hq=>F6 hb k2 h1 hl (by rw [k3,he,hj]; exact hq)) fun h' hI' hs=>hQ _ _ ⟨_,he,rfl⟩ ⟨t.place[i]+1,hI',?_,?_⟩ ⟨fun b o hb e=>sm hs b o hb e,rfl,rfl,rfl,Nat.le_refl _⟩
  ·obtain ⟨o,e,r⟩:=k2; exact ⟨o,(hs.2 S (Ne.symm hIS)).trans e,r⟩
  ·subst hi0
   have:t.place[0]=a:=by simp [ha]
   rw [this,ha,below_one,if_pos (Nat.lt_succ_self a)]
 ·obtain ⟨slot,k1,k2,k3⟩:=z
  refine end_plain hh k1 k2 (fun A' E' Q' hq=>F6 hb k2 h1 hl (by rw [k3,Array.getElem?_eq_none (Nat.le_refl _)]; exact hq)) fun h' hx=>hQ _ ⟨fun b o hb e=>hx b o (fun q=>hb (by rw [q]; exact List.mem_singleton.mpr rfl)) e,rfl,rfl,rfl,Nat.le_refl _⟩
inductive TWalk (prog:Program) (w:World) (I S:Addr) (h₀:Heap) (s:Shared) (ks:List Str):Prop
 | mk (fp:List Addr) (n:Nat) (P:Nat->Value->Prop) (St:Nat->Shared->Prop) (vals:List Value) (ks':List Str) (h1:∀ A:Around,A.handled=none->WalksS prog w A I fp [I] (fun a b=>b=a) n P St) (h2:St 0 s)
  (h3:∀ b∈fp,b < s.heap.objs.size) (h4:∀ i v,P i v->vals[i]? = some v) (h5:vals.length=n) (h6:PyProof.Rows.StrsAre vals ks') (h7:ks'.Perm ks) (h8:∀ b∈fp,b=S\/h₀.get? b=none):TWalk prog w I S h₀ s ks
theorem strs_of:∀ {l:List (Int×Value)},ElemsOf (strKind prog w) l->PyProof.Rows.StrsAre (l.map (·.2)) (l.map fun e=>Fh e.2)
 | [],_=>.nil
 | e::r,h=>by
  obtain ⟨t,he⟩:=ElemsOf.strs h (List.mem_cons_self ..)
  rw [List.map_cons,List.map_cons]
  have:=strs_of (l:=r) h.tail
  generalize Fh e.2=x at he ⊢
  rw [he]
  exact .cons x t this
theorem iter_T {S:Addr} {ks:List Str} {Q:Value->Shared->Prop} (hS:DJ prog w s.heap S ks (!Bu w))
 (h:∀ I h' d,s.heap.get? I=none->(∀ b o,s.heap.get? b=some o->h'.get? b=some o)->TWalk prog w I S s.heap { s with heap:=h',drawn:=d } ks->Q (.ref I) { s with heap:=h',drawn:=d }):wpAny (model prog w) A (pyIter (.ref S)) Q E s:=by
 obtain ⟨o,es,ep,t,ho,hex,hd,hel,hp,hbd,hf,hl,hpl⟩:=hS
 have hT:s.TypeIs (.ref S) "set" := ⟨o,ho,hex.1⟩
 have hSl:S < s.heap.objs.size:=Heap.lt_size ho
 refine wpAny_pyIter_slot hT F.slot_set_iter (wpAny_call_entry F.slot_set_iter hT entry_set_iter ?_ (F.args_set_iter_1 _))
 show wpAny _ _ (Builtin.Frozenset.sizeOf S>>=_) _ _ s
 refine wpAny_bind ?_
 unfold Builtin.Frozenset.sizeOf
 refine wpAny_bind (wpAny_setEntries_of ho hd hf (wpAny_pure ?_))
 show wpAny _ _ (setDrawn S>>=_) _ _ s
 refine wpAny_bind ?_
 unfold setDrawn
 refine wpAny_bind (wpAny_setState_of ho hd hf ?_)
 dsimp only
 unfold setsByText
 refine wpAny_bind (wpAny_bind (wpAny_askSetting (wpAny_pure (wpAny_pure ?_))))
 show wpAny _ _ (if (!Bu w&&(!t.plain&&decide (es.size > 1)))=true then _ else _) _ _ _
 have plain:∀ (hc:(!Bu w&&(!t.plain&&decide (es.size > 1)))=false),wpAny (model prog w) A.in1 (do
  let x <-setEpoch S
  let y <-newFields "set_iterator" [rawInt 0,rawInt 0,.ref S,rawInt es.size,rawInt x]
  ret y) (fun fin s'=>∃ v,fin=.done (.ret v)/\∃ T' r,s'.TypeIs v T'/\typeLookup (.type T') "__next__" = pure (some r)/\Q v s') E s:=fun hc=>by
  refine wpAny_bind (wpAny_setEpoch_of ho hd hf ?_)
  unfold newFields
  refine wpAny_bind (wpAny_newObj_type (wpAny_pure ⟨_,rfl,"set_iterator",_,⟨_,Heap.get?_push_size _ rfl,rfl⟩,A1.lookup,?_⟩))
  have hI0:s.heap.get? s.heap.objs.size=none:=Heap.get?_none_of_le (Nat.le_refl _)
  have hIS:s.heap.objs.size≠S:=Nat.ne_of_gt hSl
  have keep:∀ b x,s.heap.get? b=some x->(s.heap.push { cls:=.type "set_iterator",dict:=none,data:=.fields [rawInt 0,rawInt 0,Value.ref S,rawInt es.size,rawInt ep].toArray }).get? b=some x:=fun b x e=>Heap.get?_push_of_some _ e
  have hat:Ek (s.heap.push { cls:=.type "set_iterator",dict:=none,data:=.fields [rawInt 0,rawInt 0,Value.ref S,rawInt es.size,rawInt ep].toArray }) S es ep t:=⟨o,keep S o ho,hex.1,hd,hf⟩
  have hit:B6 (s.heap.push { cls:=.type "set_iterator",dict:=none,data:=.fields [rawInt 0,rawInt 0,Value.ref S,rawInt es.size,rawInt ep].toArray }) s.heap.objs.size (rawInt ((0:Nat):Int)) 0 S es.size ep:=⟨_,Heap.get?_push_size _ rfl,rfl,rfl⟩
  have hfp:∀ b∈[s.heap.objs.size,S],b < (s.heap.push { cls:=.type "set_iterator",dict:=none,data:=.fields [rawInt 0,rawInt 0,Value.ref S,rawInt es.size,rawInt ep].toArray }).objs.size:=fun b hb=>by
   rw [Heap.size_push]
   rcases List.mem_cons.mp hb with rfl | hb
   ·exact Nat.lt_succ_self _
   ·rw [List.mem_singleton.mp hb]; exact Nat.lt_succ_of_lt hSl
  have hnew:∀ b∈[s.heap.objs.size,S],b=S\/s.heap.get? b=none:=fun b hb=>by
   rcases List.mem_cons.mp hb with rfl | hb
   ·exact .inr hI0
   ·exact .inl (List.mem_singleton.mp hb)
  refine h s.heap.objs.size _ s.drawn hI0 keep ?_
  induction hb:Bu w with
  | true =>
   have hpk:=pick_perm (w.params.setOrder S ep) es
   have hsz:(pickOrder (w.params.setOrder S ep) es).size=es.size:=by rw [<-Array.length_toList,hpk.length_eq,Array.length_toList]
   refine ⟨[s.heap.objs.size,S],es.size,_,_,(pickOrder (w.params.setOrder S ep) es).toList.map (·.2),_,fun A' hh=>walks_text hb hh hsz hIS,⟨hit,hat⟩,hfp,fun i v hz_=>?_,by rw [List.length_map,Array.length_toList,hsz],strs_of (hel.perm hpk),(hpk.map _).trans hp,hnew⟩
   obtain ⟨e,h1,h2⟩:=hz_
   rw [List.getElem?_map,Array.getElem?_toList,h1,h2]; rfl
  | false =>
   have h1:es.size<=1:=by
    rw [hb] at hc
    by_cases q:es.size<=1
    ·exact q
    ·rw [hpl (by omega)] at hc
     simp at hc; (with_reducible assumption)
   refine ⟨[s.heap.objs.size,S],es.size,_,_,es.toList.map (·.2),_,fun A' hh=>walks_few hb hh h1 (by rw [hl,hb]; rfl) hf hIS,⟨0,hit,hat,?_⟩,hfp,fun i v ⟨e,h1,h2⟩=>?_,by rw [List.length_map,Array.length_toList],strs_of hel,hp,hnew⟩
   ·have hps:t.place.size=es.size:=by
     simp only [SetTable.fits,Bool.and_eq_true,beq_iff_eq,decide_eq_true_eq] at hf
     exact hf.1
    rcases Nat.lt_or_ge es.size 1 with q | q
    ·rw [Array.size_eq_zero_iff.mp (show t.place.size=0 by lia)]; rfl
    ·obtain ⟨a,ha⟩:=Array.size_eq_one_iff.mp (show t.place.size=1 by lia)
     rw [ha,below_one,if_neg (Nat.not_lt_zero a)]
   ·rw [List.getElem?_map,Array.getElem?_toList,h1,h2]; rfl
 split
 ·rename_i hc
  refine wpAny_bind (Ei es.size (List.range es.size) s _ (List.length_range ..) fun ps d hps=>?_)
  have hlen:ps.length=es.size:=by rw [hps.length_eq,List.length_range]
  show wpAny _ _ (newTuple (ps.map fun i:Nat=>rawInt (i:Int))>>=_) _ _ _
  refine wpAny_bind (wpAny_newTuple ?_ (by rw [List.length_map,hlen]; exact fits_of_scanBound hbd))
  have ho1:=Heap.get?_push_of_some (h:=s.heap) { cls:=.type "tuple",dict:=none,data:=.seq (ps.map fun i:Nat=>rawInt (i:Int)).toArray } ho
  show wpAny _ _ (setEpoch S>>=_) _ _ _
  refine wpAny_bind (wpAny_setEpoch_of ho1 hd hf ?_)
  show wpAny _ _ (newFields "set_iterator" _>>=_) _ _ _
  unfold newFields
  refine wpAny_bind (wpAny_newObj_type (wpAny_pure ⟨_,rfl,"set_iterator",_,⟨_,Heap.get?_push_size _ rfl,rfl⟩,A1.lookup,?_⟩))
  generalize hH1:s.heap.push { cls:=.type "tuple",dict:=none,data:=.seq (ps.map fun i:Nat=>rawInt (i:Int)).toArray } = H1 at ho1
  have hsz1:H1.objs.size=s.heap.objs.size+1:=by rw [<-hH1,Heap.size_push]
  have hIS:H1.objs.size≠S:=Nat.ne_of_gt (by rw [hsz1]; exact Nat.lt_succ_of_lt hSl)
  have hIt:H1.objs.size≠s.heap.objs.size:=Nat.ne_of_gt (by rw [hsz1]; exact Nat.lt_succ_self _)
  have keep:∀ b x,s.heap.get? b=some x->(H1.push { cls:=.type "set_iterator",dict:=none,data:=.fields [Value.ref s.heap.objs.size,rawInt 0,Value.ref S,rawInt es.size,rawInt ep].toArray }).get? b=some x:=fun b x e=>Heap.get?_push_of_some _ (by rw [<-hH1]; exact Heap.get?_push_of_some _ e)
  refine h H1.objs.size _ d (Heap.get?_none_of_le (by lia)) keep ?_
  refine ⟨[H1.objs.size,S,s.heap.objs.size],es.size,_,_,ps.map fun p=>(es[p]?.map (·.2)).getD .none,ps.map fun p=>(es[p]?.map fun e=>Fh e.2).getD Str.empty,fun A' hh=>walks_drawn (ep:=ep) (t:=t) hh hps hIS hIt,⟨⟨_,Heap.get?_push_size _ rfl,rfl,rfl⟩,⟨o,keep S o ho,hex.1,hd,hf⟩,⟨_,Heap.get?_push_of_some _ (by rw [<-hH1]; exact Heap.get?_push_size _ rfl),rfl,_,rfl⟩⟩,fun b hb=>?_,fun i v ⟨p,e,h1,h2,h3⟩=>?_,by rw [List.length_map,hlen],?_,?_,fun b hb=>?_⟩
  ·rw [Heap.size_push]
   simp only [List.mem_cons,List.not_mem_nil,or_false] at hb
   rcases hb with hb | hb | hb <;> rw [hb]
   ·exact Nat.lt_succ_self _
   ·rw [hsz1]; exact Nat.lt_succ_of_lt (Nat.lt_succ_of_lt hSl)
   ·rw [hsz1]; exact Nat.lt_succ_of_lt (Nat.lt_succ_self _)
  ·rw [List.getElem?_map,h1]
   show some ((es[p]?.map (·.2)).getD .none)=_
   rw [h2,h3]; rfl
  ·have hlt:∀ p∈ps,p < es.size:=fun p hp'=>List.mem_range.mp (hps.mem_iff.mp hp')
   clear hps hlen hH1 keep hsz1 hIS hIt
   induction ps with
   | nil=>exact .nil
   | cons p r ih =>
    have hp0:=hlt p (List.mem_cons_self ..)
    obtain ⟨tk,he⟩:=ElemsOf.strs hel (Array.getElem_mem_toList (xs:=es) hp0)
    rw [List.map_cons,List.map_cons,Array.getElem?_eq_getElem hp0]
    show PyProof.Rows.StrsAre (es[p].2::_) (Fh es[p].2::_)
    have:=ih (fun q hq=>hlt q (List.mem_cons_of_mem _ hq))
    generalize Fh es[p].2=x at he ⊢
    rw [he]
    exact .cons x tk this
  ·refine List.Perm.trans (hps.map _) ?_
   have e:(List.range es.size).map (fun p=>(es[p]?.map fun e=>Fh e.2).getD Str.empty)=es.toList.map fun e=>Fh e.2:=by
    apply List.ext_getElem
    ·simp
    ·intro i h1 h2
     have hi:i < es.size:=by simpa using h1
     simp [hi]
   rw [e]; exact hp
  ·simp only [List.mem_cons,List.not_mem_nil,or_false] at hb
   rcases hb with hb | hb | hb
   ·exact .inr (by rw [hb]; exact Heap.get?_none_of_le (by rw [hsz1]; exact Nat.le_succ _))
   ·exact .inl hb
   ·exact .inr (by rw [hb]; exact Heap.get?_none_of_le (Nat.le_refl _))
 ·rename_i hc
  exact plain (by exact Bool.not_eq_true _ |>.mp hc)
end
end Mine
namespace Mine
set_option maxRecDepth 100000
open PySem PySem.Calls
section
variable {prog:Program} {w:World} {A:Around} {E:Value->Shared->Prop} {s:Shared}
theorem hint_T {S:Addr} {Q:Bool->Shared->Prop} (hT:s.TypeIs (.ref S) "set") (h:Q false s):wpAny (model prog w) A (Builtin.List.listLengthHint (.ref S)) Q E s:=by
 unfold Builtin.List.listLengthHint
 refine wpAny_bind (wpAny_specialOf hT F.slot_set_len.lookup ?_)
 generalize hid:("set.__len__" : String)=id0
 wp_delta
 rw [show splitId id0=some ("set","__len__") from by subst hid; decide +kernel]
 subst hid
 refine wpAny_bind (wpAny_isInstance (T := "set") (b:=true) hT (by rw [isSubtype_type]; kernel_rfl) ?_)
 refine wpAny_ite_split (fun hab=>absurd hab (by decide)) (fun _=>?_)
 refine wpAny_ite_split (fun _=>?_) (fun hab=>absurd (by decide +kernel) hab)
 exact wpAny_bind (wpAny_typeOf hT (wpAny_pure h))
theorem items_eq {P:Nat->Value->Prop} {acc:Array Value} {n:Nat} {vals:List Value} (h:ItemsOf P acc n) (h4:∀ i v,P i v->vals[i]? = some v) (h5:vals.length=n):acc.toList=vals:=by
 apply List.ext_getElem?
 intro i
 by_cases hi:i < n
 ·have hi':i < acc.size:=by rw [h.1]; exact hi
  have hv:acc[i]? = some acc[i]:=Array.getElem?_eq_getElem hi'
  rw [Array.getElem?_toList,hv]
  exact (h4 i _ (h.2 i _ hv)).symm
 ·rw [List.getElem?_eq_none (by rw [Array.length_toList,h.1]; (exact Nat.le_of_not_lt ‹_›)),List.getElem?_eq_none (by lia)]
theorem collect_T {S:Addr} {ks:List Str} {Q:List Value->Shared->Prop} (hh:A.handled=none) (hS:DJ prog w s.heap S ks (!Bu w)) (hks:ks.length<=1000)
 (hQ:∀ vals ks' h' d tk,PyProof.Rows.StrsAre vals ks'->ks'.Perm ks->(∀ b o,s.heap.get? b=some o->h'.get? b=some o)->Q vals { s with heap:=h',drawn:=d,toks:=tk }):wpAny (model prog w) A (collect (.ref S)) Q E s:=by
 unfold collect
 refine wpAny_bind (wpAny_runValue (codeAny_builtin F.entry_proto_collect ?_))
 rw [Around.under_plainId F.plain_proto_collect _]
 show wpAny _ A.in1 (newList []>>=fun l=>again (.builtin "list.__iadd__" ⟨[l,.ref S],[]⟩)) _ _ s
 refine wpAny_bind (wpAny_newObj_type ?_)
 refine wpAny_pure ⟨plainId_quiet F.plain_list_iadd _,codeAny_builtin F.entry_list_iadd ?_⟩
 rw [Around.under_plainId F.plain_list_iadd _]
 generalize hL0:s.heap.objs.size=L0
 generalize hH1:s.heap.push { cls:=.type "list",data:=.seq ([]:List Value).toArray } = H1
 have keep1:∀ b o,s.heap.get? b=some o->H1.get? b=some o:=fun b o e=>by rw [<-hH1]; exact Heap.get?_push_of_some _ e
 have hL1:H1.get? L0=some { cls:=.type "list",data:=.seq ([]:List Value).toArray }:=by rw [<-hH1,<-hL0]; exact Heap.get?_push_size _ rfl
 have hS1:DJ prog w H1 S ks (!Bu w):=by
  obtain ⟨o,es,ep,t,ho,rest⟩:=hS
  exact ⟨o,es,ep,t,keep1 S o ho,rest⟩
 have hSlt:S < s.heap.objs.size:=by
  obtain ⟨o,es,ep,t,ho,rest⟩:=hS
  exact Heap.lt_size ho
 have hT:Shared.TypeIs { s with heap:=H1 } (.ref S) "set" := by
  obtain ⟨o,es,ep,t,ho,hex,rest⟩:=hS1
  exact ⟨o,ho,hex.1⟩
 have hLS:L0≠S:=by rw [<-hL0]; exact Nat.ne_of_gt hSlt
 have hn0:s.heap.get? L0=none:=by rw [<-hL0]; exact Heap.get?_none_of_le (Nat.le_refl _)
 show wpAny _ A.in1 (Builtin.List.listExtendWith (.ref L0) (.ref S) (.ref L0)) _ _ { s with heap:=H1 }
 unfold Builtin.List.listExtendWith
 refine wpAny_bind (wpAny_typeOf hT ?_)
 have h1:Builtin.List.listSameRef (.ref L0) (.ref S)=false:=by simp [Builtin.List.listSameRef,hLS]
 have h2:(Value.type "set" == Value.type "list")=false:=by decide
 have h3:(Value.type "set" == Value.type "tuple")=false:=by decide
 simp only [h1,h2,h3,Bool.or_false,Bool.false_eq_true,if_false]
 refine wpAny_bind (iter_T (s:={ s with heap:=H1 }) hS1 fun I h' d hI0 hk W=>?_)
 have hT':Shared.TypeIs { s with heap:=h',drawn:=d } (.ref S) "set" := by
  obtain ⟨o,e,r⟩:=hT
  exact ⟨o,hk S o e,r⟩
 refine wpAny_bind (wpAny_holding (hint_T hT' ?_))
 show wpAny _ A.in1 (rule "list.extend.makes-room" >>= fun _=>Builtin.List.listTouch (.ref L0)>>=fun _ =>
  again (.builtin "list.extend.loop" ⟨[.ref L0,.ref I,.ref L0],[]⟩)) _ _ _
 refine wpAny_bind (wpAny_rule ?_)
 refine wpAny_bind ?_
 have hL2:=hk L0 _ hL1
 show wpAny _ A.in1 (updateSeq L0 (·.push .none)>>=fun _=>updateSeq L0 (·.pop)) _ _ _
 refine wpAny_bind (wpAny_updateSeq hL2 rfl ?_)
 have hL3:=Heap.get?_update_self (Obj.mapSeq (·.push Value.none)) hL2 rfl
 refine wpAny_updateSeq (hz:=by seq_fits) hL3 rfl ?_
 have hL4:=Heap.get?_update_self (Obj.mapSeq (·.pop)) hL3 rfl
 have oth:∀ b o,b≠L0->h'.get? b=some o->((h'.update L0 (Obj.mapSeq (·.push Value.none))).update L0 (Obj.mapSeq (·.pop))).get? b=some o :=
  fun b o hb e=>(Heap.get?_update_other _ _ (Ne.symm hb)).trans ((Heap.get?_update_other _ _ (Ne.symm hb)).trans e)
 obtain ⟨fp,n,P,St,vals,ks',w1,w2,w3,w4,w5,w6,w7,w8⟩:=W
 have hLf:L0∉fp:=fun q=>by
  rcases w8 L0 q with e | e
  ·exact hLS e
  ·have e:H1.get? L0=none:=e
   exact absurd (hL1.symm.trans e) (by decide)
 have hnb:n<=sizeLine:=by
  have e1:=w6.length
  have e2:=w7.length_eq
  have:n<=1000:=by lia
  exact Nat.le_trans this (by decide)
 refine wpAny_pure ⟨plainId_quiet F.plain_extend_loop _,codeAny_extend_loopS (w1 A.in1 hh) hnb L0 hLf _ n 0 _ _ _ rfl (Nat.zero_le _)
  ((w1 A.in1 hh).frame 0 ({ s with heap:=h',drawn:=d }:Shared) _ s.toks w2 (Nat.le_refl _) fun b hb o e=>oth b o (fun q=>hLf (q▸hb)) e) hL4 (ItemsOf.nil P) fun s' acc' c' hm hS' hacc=>?_⟩
 show wpAny _ A (load L0>>=_) _ _ s'
 refine wpAny_bind (wpAny_load hS' ?_)
 refine wpAny_pure ?_
 rw [items_eq hacc w4 w5]
 obtain ⟨h'',g'',d'',tk'',os''⟩:=s'
 have eg:g''=s.gens:=hm.gens
 have ed:d''=d:=hm.drawn
 have eo:os''=s.os:=hm.os
 subst eg; subst ed; subst eo
 refine hQ vals ks' h'' d'' tk'' w6 w7 fun b o e=>?_
 have hbL:b≠L0:=fun q=>by rw [q,hn0] at e; cases e
 have hbI:b≠I:=fun q=>by
  have:=keep1 b o e
  rw [q] at this
  have hI0:H1.get? I=none:=hI0
  rw [hI0] at this; cases this
 exact hm.heap b o (by simp [hbL,hbI]) (oth b o hbL (hk b o (keep1 b o e)))
end
end Mine
namespace Mine
set_option maxRecDepth 100000
open PySem PySem.Calls
section
variable {prog:Program} {w:World} {A:Around} {E:Value->Shared->Prop} {s:Shared}
theorem sortedHeap_at {h:Heap} {a:Addr} {vs:List Value} {out:Array Value} {n:Nat} (ho:h.get? a=some (PyProof.Rows.seqObj "list" vs.toArray n)):∃ e,(PyProof.Rows.sortedHeap h a vs out).get? a=some (PyProof.Rows.seqObj "list" out e):=by
 have ha:a < h.objs.size:=Heap.lt_size ho
 have h1:=PyProof.Rows.get?_update_seq ho (fun _=>#[])
 have h2:=Heap.get?_push_of_some (PyProof.Rows.seqObj "list" #[] 0) (Heap.get?_push_of_some (PyProof.Rows.seqObj "tuple" vs.toArray 0) h1)
 exact ⟨_,PyProof.Rows.get?_update_seq h2 (fun _=>out)⟩
theorem Gz {h:Heap} {a b:Addr} {vs:List Value} {out:Array Value} {o:Obj} (hb:b≠a) (e:h.get? b=some o):(PyProof.Rows.sortedHeap h a vs out).get? b=some o:=by
 unfold PyProof.Rows.sortedHeap
 rw [Heap.get?_update_other _ _ (Ne.symm hb)]
 refine Heap.get?_push_of_some _ (Heap.get?_push_of_some _ ?_)
 rw [Heap.get?_update_other _ _ (Ne.symm hb)]
 exact e
theorem sorted_T {S:Addr} {ks:List Str} {Q:Value->Shared->Prop} (hh:A.handled=none) (hS:DJ prog w s.heap S ks (!Bu w)) (hks:ks.length < 64)
 (h:∀ L out ss' h' d tk e,PyProof.Rows.StrsAre out.toList ss'->ss'.Perm ks->PyProof.Rows.sortedS ss'=true->s.heap.get? L=none->h'.get? L=some (PyProof.Rows.seqObj "list" out e)->(∀ b o,s.heap.get? b=some o->h'.get? b=some o)->Q (.ref L) { s with heap:=h',drawn:=d,toks:=tk }) :
 wpAny (model prog w) A (call (.builtin "sorted") [.ref S]) Q E s:=by
 refine Calls.call_function_entry PyProof.Rows.kind_sorted PyProof.Rows.plain_sorted PyProof.Rows.entry_sorted (PyProof.Rows.args_sorted1 _) ?_
 unfold Builtin.«sorted»
 refine wpAny_bind (m:=checkCount "sorted" 1 1 _) (wpAny_pure ?_)
 refine wpAny_bind (collect_T (A:=A.in1) hh hS (by lia) fun vals ks' h₁ d tk v1 v2 v3=>?_)
 have hvl:vals.length < 64:=by rw [v1.length,v2.length_eq]; exact hks
 refine wpAny_bind (wpAny_newList ?_ (show vals.length<=16777216 by lia))
 have hoL:(h₁.push (PyProof.Rows.seqObj "list" vals.toArray 0)).get? h₁.objs.size=some (PyProof.Rows.seqObj "list" vals.toArray 0):=Heap.get?_push_size _ rfl
 show wpAny _ _ _ _ _ { s with heap:=h₁.push (PyProof.Rows.seqObj "list" vals.toArray 0),drawn:=d,toks:=tk }
 refine wpAny_bind (wpAny_holding (wpAny_call_entry PyProof.Rows.slot_list_sort ⟨_,hoL,rfl⟩ PyProof.Rows.entry_list_sort (PyProof.Rows.list_sort_treeK PyProof.Rows.strKind_oneLt hoL v1.keysOf (fun v₁ v₂ rest e=>PyProof.Rows.keyKind_strs (by rw [<-e]; exact v1)) hvl fun st' a1 a2=>⟨_,rfl,?_⟩) (PyProof.Rows.args_list_sort _)))
 obtain ⟨ss',s1,s2,s3⟩:=PyProof.Rows.sorted_out_str v1 a1 a2
 obtain ⟨e,he⟩:=sortedHeap_at (out:=(PyProof.Rows.arrOf st').map (·.2)) hoL
 have hnew:s.heap.get? h₁.objs.size=none:=by
  induction q:s.heap.get? h₁.objs.size with
  | none=>rfl
  | some o=>exact absurd (Heap.lt_size (v3 _ o q)) (Nat.lt_irrefl _)
 refine wpAny_pure ⟨_,rfl,h _ _ ss' _ d tk e s1 (s2.trans v2) s3 hnew he fun b o hb=>?_⟩
 have hb1:=v3 b o hb
 exact Gz (Nat.ne_of_lt (Heap.lt_size hb1)) (Heap.get?_push_of_some _ hb1)
end
end Mine
namespace Mine
open PySem PySem.Calls
theorem EG:∀ (l ks:List Str),ks.Nodup->(l.foldl (fun ks x=>if x∈ks then ks else ks++[x]) ks).Nodup/\∀ y,y∈l.foldl (fun ks x=>if x∈ks then ks else ks++[x]) ks ↔ y∈ks\/y∈l
 | [],ks,h=>⟨h,fun y=>⟨.inl,fun q=>q.elim id fun q=>nomatch q⟩⟩
 | x::r,ks,h=>by
  rw [List.foldl_cons]
  by_cases hx:x∈ks
  ·rw [if_pos hx]
   obtain ⟨h1,h2⟩:=EG r ks h
   refine ⟨h1,fun y=>(h2 y).trans ⟨fun q=>q.imp id (.tail _),fun q=>q.elim .inl fun q=>(List.mem_cons.mp q).elim (fun e=>.inl (e▸hx)) .inr⟩⟩
  ·rw [if_neg hx]
   obtain ⟨h1,h2⟩:=EG r (ks++[x]) (List.nodup_append.mpr ⟨h,List.pairwise_singleton ..,fun a ha b hb q=>hx (List.mem_singleton.mp hb▸q▸ha)⟩)
   refine ⟨h1,fun y=>(h2 y).trans ?_⟩
   rw [List.mem_append,List.mem_singleton,List.mem_cons,or_assoc]
theorem met_mem {l:List Str} {y:Str}:y∈met l ↔ y∈l:=((EG l [] .nil).2 y).trans ⟨fun q=>q.elim (fun q=>nomatch q) id,.inr⟩
theorem met_nodup {l:List Str}:(met l).Nodup:=(EG l [] .nil).1
section
variable {n k i:Nat} {c:Cx} {ρ:Af} {g:G} {σ σ₁ σ₂:Aa} {s:Shared} {x v:V} {a:E} {ss ss':List Str}
theorem sset_then {b:Bi} {id:String} {Q:Ar->G->Value->Shared->Prop} (hb:A6 b=.builtin id) (up:∀ {r:Ar} {g g₁:G} {X:Value} {s':Shared},G.le [] g g₁->Q r g₁ X s'->Q r g X s') (ha:SE n a ρ σ x σ₁) (h:Ag σ₁ x=some (vss ss)) (hl:ss.length < 64)
 (hx:∀ (r:Ar) (g:G) (s:Shared) (S:Addr),At n r g σ₁ s->DJ r.T.prog r.T.w s.heap S (met ss) (!Bu r.T.w)->(∀ z∈ss,z.length<=line)->r.wp (call (.builtin id) [.ref S]) (Q r g) s) {ex:Expr} (hc:IsE (.sset b a) c.K ex) (I:Inv n c ρ g σ s) (hn:3<=n):c.wp (eval ex c.env) (Q c.toAr g) s:=by
 refine hc (fun ex=>c.wp (eval ex c.env) (Q c.toAr g) s) fun nm nm' np mp y q p h1 h2 h3=>?_
 refine PyProof.Rows.Call_Name rfl (Bp I h1 fun x' hv=>?_)
 obtain rfl:x'=.builtin id:=(show x'=A6 b from hv).trans hb
 refine PySem.Calls.callWith_builtin rfl (Calls.evalArgs_plain (Calls.spliced_cons ?_))
 refine PyProof.Rows.Call_Name rfl (Bp I h2 fun x' hv=>?_)
 obtain rfl:x'=.type "set" := hv
 have hc2:DY (.cons a .nil) c.K [y]:=fun R_ kk=>kk y [] h3 rfl
 refine PyProof.Rows.callWith_type (BL _ _ hc2) (Cg (r:=c.toAr) hc2 (wpAny_mono (SEs.cons ha SEs.nil c g s [y] q hc2 I) (fun Xs s₁ p=>p _ fun g₁ le a₁ r1=>?_) fun _ _ h=>h))
 obtain ⟨X,rfl,rx⟩:=r1.one
 refine A3 a₁ rx h (R_:=fun X=>c.wp (call (.type "set") [X]) (fun v s₁=>wpAny (model c.T.prog c.T.w) c.A (spliced []) (fun vs s2=>wpAny (model c.T.prog c.T.w) c.A (call (.builtin id) (v::vs) []) (Q c.toAr g) (fun _ _=>False) s2) (fun _ _=>False) s₁) s₁) fun l ys hL hr hn' hs=>?_
 obtain ⟨t1,t2⟩:=E4 hr
 have hsz:ys.size=ss.length:=by rw [<-Array.length_toList,t1.length]
 refine call_set_T (I.hh.none hn) hL t1 (by rw [hsz]; unfold scanBound; omega) fun h' tk hS hk=>Calls.spliced_nil ?_
 have H':Has c.T g₁ σ₁ { s₁ with heap:=h',toks:=tk }:=a₁.keep fun b o e=>hk b o (Heap.lt_size e) e
 exact wpAny_mono (hx c.toAr g₁ _ _ (I.step le H').toAt hS t2) (fun _ _ p=>up le p) fun _ _ h=>h
theorem SL.sset (ha:SE n a ρ σ x σ₁) (h:Ag σ₁ x=some (vss ss)) (hl:ss.length < 64) (hp:ss'.Perm (met ss)) (hr:CD ss') (hn:3<=n:=by omega):SL n (.sset .sorted a) ρ σ (vss ss') σ₁:=fun c g s ex hc I =>
 sset_then (Q:=fun r g=>Be r g σ₁ (vss ss')) (b:=.sorted) rfl (fun le p=>p.after le) ha h hl (fun r g s S A hS ht=>by
  have hml:(met ss).length<=ss.length:=Ge ss
  refine sorted_T (A.hh.none hn) hS (by omega) fun L out so h' d tk e a1 a2 a3 b1 b2 b3=>?_
  obtain rfl:so=ss':=CM (BQ a3) hr (a2.trans hp.symm)
  exact .made A.has b3 b1 b2 (G6 a1 fun z hz=>ht z (met_mem.mp (a2.mem_iff.mp hz))) (by rw [List.length_map,a2.length_eq]; exact Nat.le_trans hml (Nat.le_trans (Nat.le_of_lt hl) (by decide)))) hc I hn
theorem SE.slen (ha:SE n a ρ σ x σ₁) (h:Ag σ₁ x=some (vss ss)) (hl:ss.length < 64) (hn:3<=n:=by omega):SE n (.sset .len a) ρ σ (vi (met ss).length) σ₁:=fun c g s ex hc I =>
 sset_then (Q:=fun r g=>Ans r g (vi (met ss).length) σ₁) (b:=.len) rfl (fun le p=>BI.after le p) ha h hl (fun r g s S A hS ht=>by
  have hml:(met ss).length<=ss.length:=Ge ss
  obtain ⟨o,es,ep,t,ho,hex,hd,hel,hp,hb,hf,hL,hpl⟩:=hS
  have hsz:es.size=(met ss).length:=by rw [<-Array.length_toList,<-hp.length_eq,List.length_map]
  exact call_len_set ho hex hd hf (by rw [hsz]; omega) (.refl A.has.tok ⟨_,by rw [hsz]⟩)) hc I hn
end
end Mine
namespace Mine
open PySem PySem.Calls
noncomputable def snapL (σ:Aa):List V->Option (List PyData)
 | []=>some []
 | v::r=>(snap σ v).bind fun x=>(snapL σ r).bind fun xs=>some (x::xs)
section
variable {T:Top} {g:G} {s:Shared} {σ:Aa} {x y:V} {X:Value} {ws:List V} {xs ds:List PyData} {d:PyData} {b:Bool} {i:Int}
theorem snapL_rep (H:Has T g σ s) (rx:An T g x X) (e1:Ag σ x=some ws) (e2:snapL σ ws=some xs):Au s.heap.get? (.list xs) X:=by
 refine A3 H rx e1 fun a vs hL hr hl hs=>?_
 obtain ⟨o,ho,hc,n,hd⟩:=hL
 have key:∀ {ws:List V} {xs:List PyData} {vs:List Value},Aj T g ws vs->snapL σ ws=some xs->Aq (Au s.heap.get?) xs vs:=by
  intro ws
  induction ws with
  | nil=>intro xs vs h e; rw [h.nil,<-Option.some.inj e]; exact trivial
  | cons w ws ih =>
   intro xs vs h e
   obtain ⟨v,vs,rfl,h1,h2⟩:=h.cons
   obtain ⟨x,e1,e⟩:=bind_some e
   obtain ⟨ys,e2,e⟩:=bind_some e
   rw [<-Option.some.inj e]
   exact ⟨CA H h1 e1,ih h2 e2⟩
 exact fun R_ kk=>kk a o vs n ho hc hd (.of (key hr e2)) (by rw [(key hr e2).length,<-hr.length,hl]; exact hs)
theorem p_neL (e1:Ag σ x=some ws) (e2:snapL σ ws=some xs) (h2:snap σ y=some d) (h:eqN AK (.list xs) d=some b):Pr2 (compareOp .NotEq) x y σ (vb !b) σ :=
 Ef fun r g s X Y A hx hy Q q=>(show Fe r.A s X Y b from eqN_ok AK r.A (Nat.lt_of_succ_lt A.room) _ d X Y b (snapL_rep A.has hx e1 e2) (CA A.has hy h2) h).ne _ _ _ Q q
theorem p_rep (h1:Ag σ x=some ws) (h0:i<=1000) (hn:0<=i) (hl:ws.length<=1000):PrN2 (binaryOp .Mult) x (vi i) σ (List.replicate i.toNat ws).flatten:=fun r g s X Y A hx hy=>by
 obtain ⟨u,rfl⟩:=hy
 refine A3 A.has hx h1 (R_:=fun X=>r.wp (binaryOp .Mult X (.int i u)) (Be r g σ (List.replicate i.toNat ws).flatten) s) fun l ys hL hr hl' hs=>?_
 obtain ⟨⟨cls,dd,data,sl⟩,ho,hcl,k,hd⟩:=hL
 simp only at hcl hd
 subst hcl hd
 have h3:ys.size<=1000:=hl'▸hl
 have h4:i.toNat<=1000:=by omega
 have hsz':ys.size * i.toNat<=2 ^ 24:=Nat.le_trans (Nat.mul_le_mul h3 h4) (by decide)
 refine PySem.wpAny_binaryOp_repeat_ref (T := "list") (U := "int") (by decide) ⟨_,ho,rfl⟩ (fun s'=>typeIs_int s' i u) noFill_list_mul F.fills_int_mul F.slot_int_rmul repeat_list F.slot_int_index.lookup
  (call_meets F.slot_int_rmul (typeIs_int s i u) F.entry_int_rmul (F.args_int_rmul_2 _ _) (lm_int_rmul_list_any i u l ys k dd sl)
   ⟨ho,rfl,⟨_,ho,rfl⟩,call_meets F.slot_list_mul ⟨_,ho,rfl⟩ F.entry_list_mul (F.args_list_mul_2 _ _)
    (lm_list_mul_any l ys k dd sl i u (by simp [Builtin.List.listFitsIndex]; omega) (by omega) (by simp [Builtin.List.listTooLong,sizeLine]; omega))
    ⟨ho,?_⟩⟩)
 rw [PyProof.Rows.listMul_foldl_if]
 refine .push A.has ?_ ?_
 ·rw [List.toList_toArray]
  generalize i.toNat=m
  induction m with
  | zero=>exact trivial
  | succ m ih=>rw [List.replicate_succ,List.replicate_succ,List.flatten_cons,List.flatten_cons]; exact hr.append ih
 ·have:(List.replicate i.toNat ws).flatten.length=i.toNat * ws.length:=by
   generalize i.toNat=m
   induction m with
   | zero=>rw [Nat.zero_mul]; rfl
   | succ m ih=>rw [List.replicate_succ,List.flatten_cons,List.length_append,ih,Nat.succ_mul,Nat.add_comm]
  rw [this]
  exact Nat.le_trans (Nat.mul_le_mul h4 hl) (by decide)
theorem p_mulS {z:Str} (hz:z.length<=1000) (h0:0<=i) (h1:i<=1000):Pr2 (binaryOp .Mult) (.d (.str z)) (vi i) σ (.d (.str (Txt.mul z i))) σ:=fun r g s X Y A hx hy=>by
 obtain ⟨t,rfl,_⟩:=hx
 obtain ⟨u,rfl⟩:=hy
 refine SB.mul (PyProof.Rows.mulOk_of 1000 1000 hz (by omega) (by omega) (by decide) (by decide)) fun t' k=>.refl A.has.tok ⟨_,rfl,?_⟩
 have h:=PyProof.Rows.len_mul z i
 rw [if_neg (by rw [decide_eq_false (by omega)]; exact Bool.false_ne_true)] at h
 have h2:((Txt.mul z i).length:Int)<=1000 * 1000:=by rw [h]; exact Int.mul_le_mul (by omega) h1 h0 (by decide)
 show (Txt.mul z i).length<=line
 exact Nat.le_trans (show (Txt.mul z i).length<=1000000 by omega) (by decide)
end
end Mine
namespace Mine
open PySem PySem.Calls PyProof.Rows
noncomputable abbrev Row:=Nat×Str×Fn×List Str
noncomputable def G7 (p:Program) (n:Str):Option Rc:=((recsOf p).find? (·.name == n)).map fun d=>⟨d.params,d.body,d.scope⟩
noncomputable def bodyR (o:Option Rc):List Stmt:=match o with | some r=>r.body | none=>[]
noncomputable def okRow (o:Option Rc) (lam:Option (Addr×Str)) (x:Row):Bool:=match o with | some r=>okRc lam x.2.2.1 x.2.2.2 r | none=>false
noncomputable def FT (n:Str):Str:=(n++(".<locals>." : Str))++("<lambda>" : Str)
theorem GD {o:Option Rc} {lam:Option (Addr×Str)} {x:Row} (h:okRow o lam x=true):∃ r,o=some r/\okRc lam x.2.2.1 x.2.2.2 r=true:=by
 cases o with
 | none=>exact ff_ h
 | some r=>exact ⟨r,rfl,h⟩
noncomputable def hide (h:Heap) (t:Addr):Heap:=h.update t fun o=>{ o with data:=.freed }
theorem hide_other {h:Heap} {t a:Addr} (hab:a≠t):(hide h t).get? a=h.get? a:=Heap.get?_update_other h _ (Ne.symm hab)
theorem hide_self {h:Heap} {t:Addr}:(hide h t).get? t=none:=by
 cases hq:h.objs[t]? with
 | none =>
  have e2:(hide h t).objs[t]? = none:=by
   show (h.objs.modify t fun o=>{ o with data:=.freed })[t]? = _
   rw [Array.getElem?_modify,if_pos rfl,hq]; rfl
  unfold Heap.get?
  rw [e2]
 | some o' =>
  have e2:(hide h t).objs[t]? = some { o' with data:=.freed }:=by
   show (h.objs.modify t fun o=>{ o with data:=.freed })[t]? = _
   rw [Array.getElem?_modify,if_pos rfl,hq]; rfl
  unfold Heap.get?
  rw [e2]
noncomputable def hides (h:Heap):List Addr->Heap
 | []=>h
 | t::r=>hide (hides h r) t
theorem DT {h:Heap} {a:Addr}:∀ {ts:List Addr},a∉ts->(hides h ts).get? a=h.get? a
 | [],_=>rfl
 | t::r,q=>(hide_other fun (e:a=t)=>q (e▸.head _)).trans (DT fun m=>q (.tail _ m))
theorem hides_in {h:Heap} {a:Addr}:∀ {ts:List Addr},a∈ts->(hides h ts).get? a=none
 | t::r,q=>by
  by_cases e:a=t
  ·rw [e]; exact hide_self
  ·exact (hide_other e).trans (hides_in ((List.mem_cons.mp q).resolve_left e))
section
variable {p:Program} {loose:List Str} {mean:ExcName->Option Value} {mg mb:Str->Option Value} {T:Mine.Top} {h:Heap} {ts:List Addr}
structure Hid (T:Mine.Top) (h:Heap) (ts:List Addr):Prop where
 h0:T.h0=hides h ts
 tab:∀ t,t∈ts->h.get? t=some (W.tabObj #[])
theorem Hid.get (H:Hid T h ts) {a:Addr} {o:Obj} (e:h.get? a=some o) (hd:o.data≠.fields #[]):T.h0.get? a=some o:=by
 rw [H.h0,DT fun q=>hd (by rw [H.tab a q] at e; rw [<-Option.some.inj e])]
 exact e
theorem Hid.ns (H:Hid T h ts) {a:Addr} {m:Str->Option Value} (x:h.Ns a m):T.h0.Ns a m:=by
 obtain ⟨o,es,ep,e,d,r⟩:=x; exact ⟨o,es,ep,H.get e (by rw [d]; exact fun q=>nomatch q),d,r⟩
theorem Hid.tail (H:Hid T h ts) {bmB tl:List Value} (x:OwnTail h bmB tl):OwnTail T.h0 bmB tl:=by
 induction x with
 | base=>exact .base
 | own h1 h2 h3 _ ih=>exact .own (H.get h1 fun q=>nomatch q) (H.ns h2) h3 ih
theorem Hid.own (H:Hid T h ts) {x:Str} {C:Addr} {bm:List Value} {newId:String} (O:PyProof.Rows.OwnCls x C bm newId mg h):PyProof.Rows.OwnCls x C bm newId mg T.h0:=by
 refine ex17 O.obj fun tl N nm q bs hdct sn sub ab col dd k0 k1 k2 k3 k5 mN hh=>?_
 obtain ⟨hC,hN,hni,Tl⟩:=hh
 exact ⟨O.bound,tl,N,nm,q,bs,hdct,sn,sub,ab,col,dd,k0,k1,k2,k3,k5,mN,H.get hC (fun q=>nomatch q),H.ns hN,hni,H.tail Tl⟩
theorem Hid.code (H:Hid T h ts) {cd:Value} {q:Str} (x:h.CodeRec cd q):T.h0.CodeRec cd q:=by
 obtain ⟨c,o,vs,t,e,g,d,r⟩:=x; exact ⟨c,o,vs,t,e,H.get g (fun w=>by rw [d] at w; injection w with w; rw [w] at r; exact Ab r),d,r⟩
theorem Hid.hd (H:Hid T h ts) {c t:Addr} (x:W.CodeHd h c t):W.CodeHd T.h0 c t:=by
 obtain ⟨o,vs,file,tf,flags,tg,inF,text,tt,e,a,b,c',d,f,g,i,j,hne⟩:=x; exact ⟨o,vs,file,tf,flags,tg,inF,text,tt,H.get e (fun w=>by rw [b] at w; injection w with w; rw [w] at c'; exact Ab c'),a,b,c',d,f,g,i,j,hne⟩
theorem fnOk_of (Tp:PyProof.Rows.Top p loose mean mg mb h) (H:Hid T h ts) {x:Row} {lam:Option (Addr×Str)} (hk:okRow (G7 p x.2.1) lam x=true) (hem:(emS x.2.2.1.body).2 (bodyR (G7 p x.2.1))=bodyR (G7 p x.2.1)) {a:Addr} (ha:mg x.2.1=some (.ref a))
 (hl:∀ t q,lam=some (t,q)->(t,q)∈T.tabs/\FT x.2.1=q/\∀ o fd,h.get? a=some o->o.data=.func fd->∃ c,fd.code=.ref c/\W.CodeHd h c t):FnOk T glP x.2.2.1 a:=by
 obtain ⟨r,hr,hk⟩:=GD hk
 rw [hr] at hem
 obtain ⟨d,hd,rfl⟩:=Option.map_eq_some_iff.mp hr
 have hm:=List.mem_of_find?_eq_some hd
 have hn:d.name=x.2.1:=eq_of_beq (show (d.name == x.2.1)=true from List.find?_some (p:=fun (y:DefRec)=>y.name == x.2.1) hd)
 obtain ⟨a',o,pm,code,doc,e1,e2,e3,e4⟩:=Tp.fn d hm
 rw [hn,ha] at e1
 obtain rfl:=Value.ref.inj (Option.some.inj e1)
 refine fun R_ k=>k _ _ o x.2.2.2 lam (fnIs_of hk hem (H.get e2 (by rw [e3]; exact fun q=>nomatch q)) e3 (H.code e4) rfl rfl rfl rfl rfl rfl rfl rfl fun t q e=>?_)
 obtain ⟨h1,h2,h3⟩:=hl t q e
 obtain ⟨c,c1,c2⟩:=h3 o _ e2 e3
 exact ⟨h1,by rw [<-h2,<-hn]; rfl,c,c1,H.hd c2⟩
noncomputable def freeOk (p:Program) (loose:List Str) (x:Str):Bool :=
 !startupNames.contains x&&(!loose.contains x&&(!((recsOf p).map (·.name)).contains x&&(!((litsOf p).map (·.1)).contains x&&(!((clssOf p loose).map (·.name)).contains x && !(x == ("__name__" : Str))))))
theorem EE {x:Str} {l:List Str} (h:(!l.contains x)=true):x∉l:=fun hm=>by rw [List.contains_iff_mem.mpr hm] at h; exact ff_ h
theorem free_of (Tp:PyProof.Rows.Top p loose mean mg mb h) {x:Str} (hf:freeOk p loose x=true):mg x=none/\mb x=bootBuiltins x :=
 ⟨Tp.free x (EE (Ao hf)) (EE (Ao (Ae hf))) (EE (Ao (Ae (Ae hf)))) (EE (Ao (Ae (Ae (Ae hf))))) (EE (Ao (Ae (Ae (Ae (Ae hf)))))),Tp.builtins x fun e=>by
  have q:=Ae (Ae (Ae (Ae (Ae hf))))
  rw [e,beq_self_eq_true] at q; exact ff_ q⟩
noncomputable def isInt (d:PyData):Bool:=match d with | .int _=>true | .str z=>Nat.ble z.length 16777216 | _=>false
noncomputable def okGl (p:Program) (loose:List Str) (e:Str×GV):Bool :=
 match e.2 with
 | .fn f=>(DB.find? fun x=>Nat.beq x.1 f).any fun x=>x.2.1 == e.1
 | .bi b=>freeOk p loose e.1&&(bootBuiltins e.1 == some (A6 b))
 | .ty t=>freeOk p loose e.1&&(bootBuiltins e.1 == some (.type t))
 | .cst d=>isInt d&&(match valOf p e.1 with | some d'=>Fz d' d | none=>false)
 | .cls=>false
 | .exc k=>(excP.lookup k).any fun n=>n == e.1
noncomputable def okExc (p:Program) (e:Nat×Str):Bool:=(ownsOf p).any fun o=>o.name == e.2&&(o.newId == "ValueError.__new__" && o.bm == [.type "ValueError",.type "Exception",.type "BaseException",.type "object"])
noncomputable def refOf (v:Value):Option Addr:=match v with | .ref a=>some a | _=>none
theorem D4 {o:Option Value} {a:Addr} (h:o.bind refOf=some a):o=some (.ref a):=by
 obtain ⟨v,rfl,h⟩:=bind_some h
 cases v with
 | ref b=>rw [Option.some.inj (show some b=some a from h)]
 | _=>exact Ab h
noncomputable def fnsOf (mg:Str->Option Value) (f:Nat):Option Addr:=(DB.find? fun x=>Nat.beq x.1 f).bind fun x=>(mg x.2.1).bind refOf
theorem ES {f:Nat} {x:Row} (hx:(DB.find? fun x=>Nat.beq x.1 f)=some x):fnsOf mg f=(mg x.2.1).bind refOf:=by unfold fnsOf; rw [hx]; rfl
theorem find_no {l:List Row} {f:Nat} {x:Row} (h:(l.find? fun x=>Nat.beq x.1 f)=some x):x.1=f/\x∈l:=⟨Nat.eq_of_beq_eq_true (List.find?_some (p:=fun (x:Row)=>Nat.beq x.1 f) h),List.mem_of_find?_eq_some h⟩
theorem any_some {α:Type} {f:α->Bool} {o:Option α} (h:o.any f=true):∃ d,o=some d/\f d=true:=by
 cases o with
 | none=>exact ff_ h
 | some d=>exact ⟨d,rfl,h⟩
theorem mem_of_lookupE {k:Nat} {n:Str}:∀ {l:List (Nat×Str)},l.lookup k=some n->(k,n)∈l
 | [],h=>Ab h
 | b::l,h=>by
  rw [List.lookup_cons] at h
  cases hb:k == b.1 with
  | true =>
   rw [hb] at h
   obtain rfl:=Option.some.inj h
   rw [eq_of_beq hb]; exact .head _
  | false=>rw [hb] at h; exact .tail _ (mem_of_lookupE h)
noncomputable def excOf (mg:Str->Option Value) (k:Nat):Option Addr:=(excP.lookup k).bind fun n=>(mg n).bind refOf
structure TextOk (p:Program) (loose:List Str) (lamOf:Nat->Option (Addr×Str)):Prop where
 fok:∀ x,x∈DB->okRow (G7 p x.2.1) (lamOf x.1) x=true
 fem:∀ x,x∈DB->(emS x.2.2.1.body).2 (bodyR (G7 p x.2.1))=bodyR (G7 p x.2.1)
 gok:∀ e,e∈glsP->okGl p loose e=true
 eok:∀ e,e∈excP->okExc p e=true
theorem prog_of {lamOf:Nat->Option (Addr×Str)} (K:TextOk p loose lamOf) (Tp:PyProof.Rows.Top p loose mean mg mb h) (eF:T.fn=fnsOf mg) (eE:T.exc=excOf mg) (H:Hid T h ts) (S:h.NoSeer) (ht:T.prog.given.tree=none) (htf:∀ t q q',(t,q)∈T.tabs->(t,q')∈T.tabs->q=q') (hI:IsiOk T) (hK:CatOk T)
 (hl:∀ x t q,x∈DB->lamOf x.1=some (t,q)->(t,q)∈T.tabs/\FT x.2.1=q/\∀ a o fd,mg x.2.1=some (.ref a)->h.get? a=some o->o.data=.func fd->∃ c,fd.code=.ref c/\W.CodeHd h c t):ProgOk T:=by
 have fnA:∀ x,x∈DB->∃ a o fd,mg x.2.1=some (.ref a)/\h.get? a=some o/\o.data=.func fd:=fun x hx=>by
  obtain ⟨r,hr,_⟩:=GD (K.fok x hx)
  obtain ⟨d,hd,rfl⟩:=Option.map_eq_some_iff.mp hr
  have hn:d.name=x.2.1:=eq_of_beq (show (d.name == x.2.1)=true from List.find?_some (p:=fun (y:DefRec)=>y.name == x.2.1) hd)
  obtain ⟨a',o,pm,code,doc,e1,e2,e3,e4⟩:=Tp.fn d (List.mem_of_find?_eq_some hd)
  exact ⟨a',o,_,hn▸e1,e2,e3⟩
 have excD:∀ {k n},excP.lookup k=some n->∃ C,mg n=some (.ref C)/\ExcC T C:=fun {k n} e=>by
  obtain ⟨o,ho,h1⟩:=List.any_eq_true.mp (K.eok (k,n) (Mine.mem_of_lookupE e))
  obtain ⟨C,O,_⟩:=Tp.own o ho
  have hn:o.name=n:=eq_of_beq (Ao h1)
  refine ⟨C,hn▸O.bound,o.name,o.bm,o.newId,"ValueError","ValueError.__init__",mg,H.own O.own,?_⟩
  rw [eq_of_beq (Ao (Ae h1)),eq_of_beq (Ae (Ae h1))]
  exact F.excBase_ValueError
 obtain ⟨mc,n1,n2⟩:=Tp.nolimit
 obtain ⟨mm,m1,m2⟩:=S.mods
 obtain ⟨mc',c1,c2⟩:=S.statics
 obtain ⟨mb',i1,i2⟩:=S.imp
 obtain ⟨mg',bm0,ob0,g1,g2,g3,g4⟩:=S.main
 obtain ⟨bm,ob,b1,b2,b3,b4,b5,b6⟩:=Tp.bmain
 have hob:=H.get b3 (by rw [b6]; exact fun q=>nomatch q)
 have fnD:∀ f a,T.fn f=some a->∃ o fd,T.h0.get? a=some o/\o.data=.func fd:=fun f a e=>by
  rw [eF] at e
  cases hx:DB.find? fun x=>Nat.beq x.1 f with
  | some x =>
   rw [ES hx] at e
   obtain ⟨a',o,fd,e1,e2,e3⟩:=fnA x (find_no hx).2
   obtain rfl:=Value.ref.inj (As (D4 e) e1)
   exact ⟨o,fd,H.get e2 (by rw [e3]; exact fun q=>nomatch q),e3⟩
  | none=>unfold fnsOf at e; rw [hx] at e; exact Ab e
 refine ⟨⟨⟨⟨mc,H.ns n1,n2⟩,⟨⟨mc',H.ns c1,c2⟩,⟨mm,H.ns m1,m2⟩,⟨mb',H.ns i1,i2⟩,⟨mg,bm,ob,H.ns Tp.g,b1,hob,b4,b5⟩⟩,ht,?_,htf⟩,fnD,mg,mb,H.ns Tp.g,H.ns Tp.b,fun n v hv=>?_,bm,ob,b1,b2,hob,b4,b5,b6⟩,fun f fn a hP hf=>?_,fun k C' e=>?_,hI,hK⟩
 ·obtain ⟨o,es,ep,e,d,r⟩:=m1
  exact ⟨o,H.get e (by rw [d]; exact fun q=>nomatch q)⟩
 ·unfold glP at hv
  have he:=K.gok (n,v) (mem_of_lookup hv)
  cases v with
  | fn f =>
   obtain ⟨x,hx,he⟩:=any_some (show (DB.find? fun x=>Nat.beq x.1 f).any (fun x=>x.2.1 == n)=true from he)
   obtain ⟨a,o,fd,e1,_⟩:=fnA x (find_no hx).2
   have hn:x.2.1=n:=eq_of_beq he
   exact ⟨_,⟨a,by rw [eF,ES hx,e1]; rfl,rfl⟩,.inl (hn▸e1)⟩
  | bi b =>
   have he:(freeOk p loose n&&(bootBuiltins n == some (A6 b)))=true:=he
   obtain ⟨f1,f2⟩:=free_of Tp (Ao he)
   exact ⟨_,rfl,.inr ⟨f1,by rw [f2]; exact beq_iff_eq.mp (Ae he)⟩⟩
  | ty t =>
   have he:(freeOk p loose n&&(bootBuiltins n == some (.type t)))=true:=he
   obtain ⟨f1,f2⟩:=free_of Tp (Ao he)
   exact ⟨_,rfl,.inr ⟨f1,by rw [f2]; exact beq_iff_eq.mp (Ae he)⟩⟩
  | cst d =>
   have he:(isInt d&&(match valOf p n with | some d'=>Fz d' d | none=>false))=true:=he
   have h2:=Ae he
   cases e:valOf p n with
   | none=>rw [e] at h2; exact ff_ h2
   | some d' =>
    rw [e] at h2
    obtain ⟨v,v1,v2⟩:=Tp.const n d' e
    rw [dataIs_eq (show Fz d' d=true from h2)] at v2
    refine ⟨v,?_,.inl v1⟩
    have h1:=Ao he
    cases d with
    | int i=>obtain ⟨t,e,_⟩:=reads_int_inv (v2 {}); exact ⟨t,e⟩
    | str z=>obtain ⟨t,e,_⟩:=reads_str_inv (v2 {}); exact ⟨t,e,Nat.le_of_ble_eq_true h1⟩
    | _=>exact ff_ h1
  | cls=>exact ff_ he
  | exc k =>
   obtain ⟨n',hx,he⟩:=any_some (show (excP.lookup k).any (fun n'=>n' == n)=true from he)
   obtain ⟨C',e1,_⟩:=excD hx
   have hn:n'=n:=eq_of_beq he
   exact ⟨_,⟨C',by rw [eE]; unfold excOf; rw [hx]; show (mg n').bind refOf=_; rw [e1]; rfl,rfl⟩,.inl (hn▸e1)⟩
 ·unfold Pg at hP
  obtain ⟨x,hx,rfl⟩:=Option.map_eq_some_iff.mp hP
  rw [show DB++metP=DB from List.append_nil _] at hx
  rw [eF,ES hx] at hf
  have hm:=(find_no hx).2
  exact fnOk_of Tp H (K.fok x hm) (K.fem x hm) (D4 hf) fun t q e=>by
   obtain ⟨h1,h2,h3⟩:=hl x t q hm e
   exact ⟨h1,h2,fun o fd=>h3 a o fd (D4 hf)⟩
 ·rw [eE] at e
  obtain ⟨n,hx,e⟩:=bind_some (show (excP.lookup k).bind (fun n=>(mg n).bind refOf)=some C' from e)
  obtain ⟨C2,e1,h2⟩:=excD hx
  obtain rfl:=Value.ref.inj (As (D4 e) e1)
  exact h2
end
end Mine
namespace Mine
set_option tactic.hygienic true
set_option maxRecDepth 100000
open PySem PyProof.Rows PySem.W
noncomputable def lo04:List Str:=PySem.W.looseW view04 []
noncomputable def lam04 (t u:Addr) (f:Nat):Option (Addr×Str):=bif Nat.beq f 8 then some (t,FT nm1) else bif Nat.beq f 87 then some (u,FT nm2) else none
theorem Gn {α:Type} {l:List α} {f:α->Bool} (h:l.all f=true):∀ x,x∈l->f x=true:=List.all_eq_true.mp h
theorem fok04 (t u:Addr):(DB.all fun x=>okRow (G7 view04 x.2.1) (lam04 t u x.1) x)=true:=by kernel_rfl
theorem fem04:(DB.map fun x=>(emS x.2.2.1.body).2 (bodyR (G7 view04 x.2.1)))=DB.map fun x=>bodyR (G7 view04 x.2.1):=by kernel_rfl
theorem gok04:(glsP.all fun e=>okGl view04 lo04 e)=true:=by kernel_rfl
theorem eok04:(excP.all (okExc view04))=true:=by kernel_rfl
theorem text04 (t u:Addr):TextOk view04 lo04 (lam04 t u) where
 fok:=Gn (fok04 t u)
 fem:=List.map_inj_left.mp fem04
 gok:=Gn gok04
 eok:=Gn eok04
theorem lamn04:(DB.all fun x=>bif Nat.beq x.1 8 then x.2.1 == nm1 else bif Nat.beq x.1 87 then x.2.1 == nm2 else true)=true:=by kernel_rfl
theorem lams04 {t u a:Addr} {q:Str} {x:Row} (hx:x∈DB) (e:lam04 t u x.1=some (a,q)):(a=t/\q=FT nm1/\x.2.1=nm1)\/(a=u/\q=FT nm2/\x.2.1=nm2):=by
 have h:=Gn lamn04 x hx
 unfold lam04 at e
 cases h8:Nat.beq x.1 8 with
 | true =>
  rw [h8] at e h
  obtain ⟨q1,q2⟩:=Prod.mk.inj (Option.some.inj (show some (t,FT nm1)=some (a,q) from e))
  exact .inl ⟨q1.symm,q2.symm,eq_of_beq h⟩
 | false =>
  rw [h8] at e h
  cases h9:Nat.beq x.1 87 with
  | true =>
   rw [h9] at e h
   obtain ⟨q1,q2⟩:=Prod.mk.inj (Option.some.inj (show some (u,FT nm2)=some (a,q) from e))
   exact .inr ⟨q1.symm,q2.symm,eq_of_beq h⟩
  | false=>rw [h9] at e; exact Ab e
end Mine
namespace Mine
set_option tactic.hygienic true
set_option maxRecDepth 100000
open PySem PySem.Calls PyProof.Rows PySem.W
theorem ints_rep {f:Addr->Option Obj} {vs:List Value} {ns:List Int} (h:IntsAre vs ns):RepDs f (ns.map .int) vs:=by
 induction h with
 | nil=>exact trivial
 | cons n t r ih=>exact ⟨⟨t,rfl⟩,ih⟩
theorem excOk_of {K:Frag} {D:Addr} (h:excOk K D=true):ExcK K D:=by
 unfold excOk at h
 simp only [Bool.and_eq_true] at h
 obtain ⟨⟨⟨⟨⟨h1,h2⟩,h3⟩,h4⟩,h5⟩,h6⟩:=h
 refine ⟨isVal_eq h1,isVal_eq h2,isBind_eq h3,CW h4,CW h5,h6⟩
section
variable {w:World} {s₁:Shared} {mean:ExcName->Option Value} {mg mb:Str->Option Value} {T:Mine.Top}
theorem tab04 (Tp:PyProof.Rows.Top view04 lo04 mean mg mb s₁.heap) {n:Str} {P:Addr} (hn:(G7 view04 n).isSome=true) (x:TabOf mg s₁.heap n P):(∃ c,s₁.heap.TableAt c P #[])/\∀ a o fd,mg n=some (.ref a)->s₁.heap.get? a=some o->o.data=.func fd->∃ c,fd.code=.ref c/\CodeHd s₁.heap c P:=by
 cases hr:G7 view04 n with
 | none=>rw [hr] at hn; exact ff_ hn
 | some r =>
  obtain ⟨d,hd,_⟩:=Option.map_eq_some_iff.mp hr
  have hdn:d.name=n:=eq_of_beq (show (d.name == n)=true from List.find?_some (p:=fun (y:DefRec)=>y.name == n) hd)
  obtain ⟨a,o,fd,c,P',h1,h2,h3,h4,h5,h6⟩:=Tp.tab d (List.mem_of_find?_eq_some hd)
  rw [hdn] at h1
  obtain ⟨a',o',fd',c',oc,vs,e1,e2,e3,e4,e5,e6,e7⟩:=x
  obtain rfl:=Value.ref.inj (As h1 e1)
  obtain rfl:=As h2 e2
  obtain rfl:=Data.func.inj (h3.symm.trans e3)
  obtain rfl:=Value.ref.inj (h4.symm.trans e4)
  obtain ⟨o2,vs2,f1,f2,f3,f4⟩:=h6.1
  obtain rfl:=As e5 f1
  obtain rfl:=Data.fields.inj (e6.symm.trans f3)
  obtain rfl:=Value.ref.inj (As e7 f4)
  refine ⟨⟨c,h6⟩,fun a' o' fd' e1 e2 e3=>?_⟩
  obtain rfl:=Value.ref.inj (As h1 e1)
  obtain rfl:=As h2 e2
  obtain rfl:=Data.func.inj (h3.symm.trans e3)
  exact ⟨c,h4,.of h5 h6⟩
theorem EH {a:Addr} {o:Obj}:∀ {K:Frag},K.lookup a=some o->(a,o)∈K
 | [],h=>Ab h
 | b::l,h=>by
  rw [List.lookup_cons] at h
  cases hb:a == b.1 with
  | true =>
   rw [hb] at h
   obtain rfl:=Option.some.inj h
   rw [eq_of_beq hb]; exact .head _
  | false=>rw [hb] at h; exact .tail _ (EH h)
theorem mem_lookE {k:Nat} {n:Str} (h:excP.lookup k=some n):(k,n)∈cn04:=mem_of_lookupE h
theorem exc04 {K:Frag} (KX:K.In s₁.heap) (G:s₁.heap.Ns mainGlobals mg) (KC:chkTop W04 cn04 [4,5,8] ps04 K=true) {k:Nat} {a:Addr} (h:excOf mg k=some a):W04 k=.ref a:=by
 obtain ⟨n,h1,h2⟩:=bind_some h
 have h3:=D4 h2
 have h4:=mg_of KX G (isVal_eq (List.all_eq_true.mp (Ae (Ao (Ao KC))) (k,n) (mem_lookE h1)))
 exact As h4 h3
theorem sub04:∀ c∈DD,∀ k < 10,(c,k)∈ps04/\(c == k||k == 1||k == 0)=Bm c k:=by decide
theorem pos04:∀ c∈DD,c < 10/\(c == 0)=false:=by decide
theorem isi04 {K:Frag} (KX:K.In s₁.heap) (KX':K.In T.h0) (eT:T.exc=excOf mg) (G:s₁.heap.Ns mainGlobals mg) (KC:chkTop W04 cn04 [4,5,8] ps04 K=true):IsiOk T:=by
 refine isi_of (K:=K) KX' (fun c D hc hD=>?_) fun c k D v hc hk hD hv=>?_
 ·have h1:=List.all_eq_true.mp (Ae (Ao KC)) c hc
  rw [exc04 KX G KC (eT▸hD)] at h1
  exact excOk_of h1
 ·have h1:=CW (Ao (List.all_eq_true.mp (Ae KC) (c,k) (sub04 c hc k hk).1))
  have e1:=exc04 KX G KC (eT▸hD)
  have e2:W04 k=v:=by
   have hv:bif Nat.beq k 0 then v=.type "ValueError" else ∃ a,T.exc k=some a/\v=.ref a:=hv
   cases q:Nat.beq k 0 with
   | true=>rw [q] at hv; rw [Nat.eq_of_beq_eq_true q]; exact Eq.symm hv
   | false=>rw [q] at hv; obtain ⟨a,ha,e⟩:=hv; rw [show v=.ref a from e]; exact exc04 KX G KC (eT▸ha)
  rw [e1,e2] at h1
  exact h1.trans (congrArg some (sub04 c hc k hk).2)
theorem cat04 {K:Frag} (KX:K.In s₁.heap) (KX':K.In T.h0) (eT:T.exc=excOf mg) (G:s₁.heap.Ns mainGlobals mg) (KC:chkTop W04 cn04 [4,5,8] ps04 K=true):CatOk T:=by
 refine cat_of (K:=K) KX' fun c k D v hc hk hD hv=>?_
 obtain ⟨h0,h1⟩:=pos04 k hk
 have h2:=Ae (List.all_eq_true.mp (Ae KC) (c,k) (sub04 c hc k h0).1)
 have h2:=(Bool.or_eq_true_iff.mp h2).resolve_left fun q=>tt_ (q.symm.trans h1)
 have h3:=CW (Ao h2)
 have h4:=CW (Ae h2)
 rw [exc04 KX G KC (k:=c) (eT▸hD),exc04 KX G KC (k:=k) (eT▸hv)] at h3
 rw [exc04 KX G KC (k:=k) (eT▸hv)] at h4
 exact ⟨h3.trans (congrArg some (sub04 c hc k h0).2),h4⟩
noncomputable abbrev top04 (w:World) (s:Shared) (mg:Str->Option Value) (t u:Addr):Mine.Top:=⟨PySem.Challenge.rw_uf010019_04.row.prog,w,hides s.heap [t,u],fnsOf mg,[(t,FT nm1),(u,FT nm2)],s.gens,s.os,0,excOf mg⟩
theorem law04 (run:∀ ns:List Int,ns.length<=63->∃ σ',SSs 23 Flaw.body (AV Flaw [.d (.list (ns.map .int))]) [] (RetIs (vb true) σ'))
 (Tp:PyProof.Rows.Top view04 lo04 mean mg mb s₁.heap) (AP:Ap nm1 nm2 mg s₁.heap) {K:Frag} (KX:K.In s₁.heap) (KC:chkTop W04 cn04 [4,5,8] ps04 K=true) {fa l:Addr} {vs:List Value} {ns:List Int} (hmg:mg (Str.ofString "law")=some (.ref fa)) (hL:s₁.heap.IsList l vs.toArray) (hI:IntsAre vs ns) (hn:ns.length<=63) {Q:Value->Shared->Prop} {E:Value->Shared->Prop}
 (hQ:∀ s',OldK s₁.heap s'.heap->s'.gens=s₁.gens->s'.os=s₁.os->Q (.bool true) s') :
 wpAny (model PySem.Challenge.rw_uf010019_04.row.prog w) callerA (call (.ref fa) [.ref l]) Q E s₁:=by
 obtain ⟨t,u,t1,u1,htu⟩:=AP
 obtain ⟨⟨ct,t2⟩,t3⟩:=tab04 Tp (by kernel_rfl) t1
 obtain ⟨⟨cu,u2⟩,u3⟩:=tab04 Tp (by kernel_rfl) u1
 have H:Hid (top04 w s₁ mg t u) s₁.heap [t,u]:=⟨rfl,all_cons t2.2 (Av u2.2)⟩
 have KX':K.In (hides s₁.heap [t,u]):=fun a o e=>(DT fun q=>by
  have h2:=As (KX a o e) (H.tab a q)
  have h3:=List.all_eq_true.mp (Ao (Ao (Ao KC))) (a,o) (EH e)
  rw [h2] at h3
  exact ff_ h3).trans (KX a o e)
 have ok:ProgOk (top04 w s₁ mg t u):=by
  refine prog_of (text04 t u) Tp rfl rfl H (Tp.seer (by decide +kernel)) rfl (fun a q q' h h'=>?_) (isi04 KX KX' rfl Tp.g KC) (cat04 KX KX' rfl Tp.g KC) fun x a q hx e=>?_
  ·rcases List.mem_cons.mp h with h | h <;> rcases List.mem_cons.mp h' with h' | h'
   ·rw [(Prod.mk.inj h).2,(Prod.mk.inj h').2]
   ·exact absurd ((Prod.mk.inj h).1.symm.trans (Prod.mk.inj (List.mem_singleton.mp h')).1) htu
   ·exact absurd ((Prod.mk.inj h').1.symm.trans (Prod.mk.inj (List.mem_singleton.mp h)).1) htu
   ·rw [(Prod.mk.inj (List.mem_singleton.mp h)).2,(Prod.mk.inj (List.mem_singleton.mp h')).2]
  ·rcases lams04 hx e with ⟨q1,q2,q3⟩ | ⟨q1,q2,q3⟩
   ·rw [q1,q2,q3]; exact ⟨.head _,rfl,t3⟩
   ·rw [q1,q2,q3]; exact ⟨.tail _ (.head _),rfl,u3⟩
 have hfa:(top04 w s₁ mg t u).fn 34=some fa:=by
  show fnsOf mg 34=some fa
  rw [ES (x:=(34,Str.ofString "law",Flaw,_)) rfl,hmg]; rfl
 obtain ⟨o,ho,hc,m,hd⟩:=hL
 have hne:∀ a,a∈[t,u]->l≠a:=all_cons (fun e=>by
  subst e
  have:=congrArg Obj.data (As ho t2.2)
  rw [hd] at this; cases this) (Av fun e=>by
  subst e
  have:=congrArg Obj.data (As ho u2.2)
  rw [hd] at this; cases this)
 let g:G:=⟨fun a=>if a∈[t,u] then none else s₁.heap.get? a,fun _=>none,[]⟩
 have gne:∀ {a:Addr},a∉[t,u]->g.fz a=s₁.heap.get? a:=fun h=>if_neg h
 have geq:∀ {a:Addr},a∈[t,u]->g.fz a=none:=fun h=>if_pos h
 have gz:∀ {a:Addr} {o:Obj},g.fz a=some o->s₁.heap.get? a=some o:=fun {a o} e=>by
  by_cases q:a∈[t,u]
  ·exact Am (geq q) e
  ·rw [gne q] at e; exact e
 have tabs:∀ a,a∈[t,u]->s₁.heap.get? a=some (tabObj #[]):=all_cons t2.2 (Av u2.2)
 have has:Has (top04 w s₁ mg t u) g [] s₁:=by
  refine ⟨fun a o e=>gz e,fun a o e=>Ab e,rfl,List.nodup_nil,(fun a h=>nomatch h),fun a o e=>Ab e,fun k a o _ e=>Ab e,fun a o e=>?_,fun a q h R_ k=>?_,rfl,rfl⟩
  ·have e:(hides s₁.heap [t,u]).get? a=some o:=e
   by_cases q:a∈[t,u]
   ·exact Am (hides_in q) e
   ·rw [DT q] at e; exact (gne q).trans e
  ·have hm:a∈[t,u]:=by
    rcases List.mem_cons.mp h with h | h
    ·rw [(Prod.mk.inj h).1]; exact .head _
    ·rw [(Prod.mk.inj (List.mem_singleton.mp h)).1]; exact .tail _ (.head _)
   exact k #[] (geq hm) rfl ((fun h=>nomatch h)) (tabs a hm) trivial fun pos cv e=>Ab e
 have r:Aj (top04 w s₁ mg t u) g [.d (.list (ns.map .int))] [.ref l]:=⟨fun R_ k=>k l o vs.toArray m ((gne fun q=>hne l q rfl).trans ho) hc hd (by rw [List.toList_toArray]; exact ints_rep hI) (by rw [List.length_map]; exact Nat.le_trans hn (by decide)),trivial⟩
 obtain ⟨σ',hrun⟩:=run ns hn
 have fin:=FA.run (f:=34) (fn:=Flaw) (n:=23) (r:=⟨top04 w s₁ mg t u,[],callerA⟩) (by unfold Pg; rfl) rfl hrun (by decide) hfa ok rfl (show callerA.depth+(23+1)<=600 by decide) (show callerA.units+100 * (23+1)<=9000 by decide) ⟨.inl rfl,rfl⟩ (fun e he=>nomatch he) has r
 refine wpAny_mono fin (fun x s' p=>p _ fun g' le H' rx=>?_) fun _ _ h=>h.elim
 obtain rfl:x=.bool true:=rx
 have keep:∀ b o,b∉[t,u]->s₁.heap.get? b=some o->s'.heap.get? b=some o:=fun b o q e=>H'.fz b o (le.fz b o ((gne q).trans e))
 have tab:∀ a,a∈[t,u]->∃ ps,s'.heap.get? a=some (tabObj ps):=all_cons (H'.tb t (FT nm1) (.head _) _ fun ps _ _ _ h _ _=>⟨ps,h⟩) (Av (H'.tb u (FT nm2) (.tail _ (.head _)) _ fun ps _ _ _ h _ _=>⟨ps,h⟩))
 have ist:∀ a,a∈[t,u]->isCodeTable s₁.heap a:=all_cons t2.isCodeTable (Av u2.isCodeTable)
 refine hQ s' ⟨fun b o e=>?_,fun b o e=>?_⟩ H'.gens H'.os
 ·by_cases q:b∈[t,u]
  ·obtain ⟨ps,hps⟩:=tab b q
   obtain rfl:=As (tabs b q) e
   exact .inr (.inl ⟨ist b q,rfl,#[],ps,rfl,by rw [Array.empty_append]; exact hps⟩)
  ·exact .inl (keep b o q e)
 ·by_cases q:b∈[t,u]
  ·obtain ⟨ps,hps⟩:=tab b q; exact ⟨_,hps⟩
  ·exact ⟨o,keep b o q e⟩
end
end Mine
namespace Mine
open PySem
noncomputable def Tx (l:List Nat):Str:=⟨l.toArray⟩
theorem Tx_app (a b:List Nat):Tx a++Tx b=Tx (a++b):=by
 show Str.append _ _=_
 simp [Str.append,Tx]
theorem Tx_len (a:List Nat):(Tx a).length=a.length:=by simp [Str.length,Tx]
theorem Tx_size (a:List Nat):(Tx a).cps.size=a.length:=by simp [Tx]
theorem Tx_inj {a b:List Nat} (h:Tx a=Tx b):a=b:=by
 have:=congrArg (fun s=>s.cps.toList) h
 simpa [Tx] using this
theorem DI (x:Str):Tx x.cps.toList=x:=by simp [Tx]
theorem Tx_cut (lo hi:Option Int) (a:List Nat):cutS lo hi (Tx a)=Tx (BG lo hi a):=by simp [cutS,Tx]
theorem Tx_at (a:List Nat) (i:Int):Txt.charAt (Tx a) i=(seqIndex? i a.length).bind (a[·]?):=by
 simp [Txt.charAt,Tx,Str.length]
theorem Tx_lt (a b:List Nat):AN (Tx a) (Tx b)=decide (a < b):=by
 unfold AN; congr
theorem Tx_beq (a b:List Nat):(Tx a == Tx b)=decide (a=b):=by
 by_cases h:a=b
 ·subst h; simp
 ·have h1:Tx a≠Tx b:=fun e=>h (Tx_inj e)
  simp [h,h1]
noncomputable abbrev vs (l:List Nat):V:=.d (.str (Tx l))
noncomputable abbrev dl (l:List (List Nat)):PyData:=.list (l.map fun t=>.str (Tx t))
section
variable {O:Orc} {ρ:Af} {σ:Aa} {a b c r i es z o elt it ifs lo hi:E} {op:Operator} {cop:CmpOp} {bop:BoolOp}
theorem v_bin:(ev O (.bin op a b)).v ρ σ=((ev O a).v ρ σ).bind fun x=>((ev O b).v ρ σ).bind fun y=>EY op x y σ:=rfl
theorem t_not:(ev O (.not a)).t ρ σ=Dt ((ev O a).t ρ σ):=rfl
theorem v_cmp:(ev O (.cmp cop a b)).v ρ σ=((ev O a).v ρ σ).bind fun x=>((ev O b).v ρ σ).bind fun y=>(Ct cop x y σ).bind fun t=>some (vb t):=rfl
theorem t_cmp:(ev O (.cmp cop a b)).t ρ σ=((ev O a).v ρ σ).bind fun x=>((ev O b).v ρ σ).bind fun y=>Ct cop x y σ:=rfl
theorem v_tup:(ev O (.tup es)).v ρ σ=((ev O es).row ρ σ).bind tupV:=rfl
theorem v_sub:(ev O (.sub a i)).v ρ σ=((ev O a).v ρ σ).bind fun x=>((ev O i).v ρ σ).bind fun y=>AI x y σ:=rfl
theorem v_bi {b:Bi}:(ev O (.bi b es)).v ρ σ=((ev O es).row ρ σ).bind (Bx b σ):=rfl
theorem v_fcall {f:Nat}:(ev O (.fcall f es)).v ρ σ=((ev O es).row ρ σ).bind fun xs=>O f xs σ:=rfl
theorem r_cons:(ev O (.cons a r)).row ρ σ=((ev O a).v ρ σ).bind fun x=>((ev O r).row ρ σ).bind fun xs=>some (x::xs):=rfl
theorem t_bop:(ev O (.bop bop es)).t ρ σ=(ev O es).bt bop ρ σ:=rfl
theorem t_bi {b:Bi}:(ev O (.bi b es)).t ρ σ=(((ev O es).row ρ σ).bind (Bx b σ)).bind (Eb σ):=rfl
theorem b_cons:(ev O (.cons a r)).bt bop ρ σ=((ev O a).t ρ σ).bind fun t=>bif t == Co bop then some t else (ev O r).bt bop ρ σ:=rfl
theorem s_cons:(ev O (.cons a r)).ts ρ σ=((ev O a).t ρ σ).bind fun t=>bif t then (ev O r).ts ρ σ else some false:=rfl
theorem v_slc:(ev O (.slc a lo hi)).v ρ σ=((ev O a).v ρ σ).bind fun x=>(optI lo (ev O lo).v ρ σ).bind fun l=>(optI hi (ev O hi).v ρ σ).bind fun h=>slice σ x l h:=rfl
theorem v_lst:(ev O (.lst es)).v ρ σ=((ev O es).row ρ σ).bind mkL:=rfl
theorem bs {α β:Type} {a:α} {f:α->Option β}:(some a).bind f=f a:=rfl
end
section
variable {σ:Aa} {i j:Int} {x y:V}
theorem b_mul (h:(small i||small j)=true):EY .Mult (vi i) (vi j) σ=some (vi (i * j)):=by
 show (if (small i||small j)=true then some (i * j) else none).bind _=_
 rw [if_pos h]; rfl
theorem B2 (h:j≠0):EY .FloorDiv (vi i) (vi j) σ=some (vi (i.fdiv j)):=by
 show (if j=0 then none else some (i.fdiv j)).bind _=_
 rw [if_neg h]; rfl
theorem A2 (h:j≠0):EY .Mod (vi i) (vi j) σ=some (vi (i.fmod j)):=by
 show (if j=0 then none else some (i.fmod j)).bind _=_
 rw [if_neg h]; rfl
theorem b_cat (a b:List Nat) (h:a.length+b.length<=line):EY .Add (vs a) (vs b) σ=some (vs (a++b)):=by
 show (if (Tx a).length+(Tx b).length<=line then some (V.d (.str (Tx a++Tx b))) else none)=_
 rw [if_pos (by rw [Tx_len,Tx_len]; exact h),Tx_app]
theorem BX (l:List PyData):CS (l.map .d)=some l:=by
 induction l with
 | nil=>rfl
 | cons x r ih =>
  show (CS (r.map .d)).bind (fun xs=>some (x::xs))=_
  rw [ih]; rfl
theorem FS (l:List PyData) (h:l.length<=line):mkL (l.map .d)=some (.d (.list l)):=by
 unfold mkL
 rw [if_pos (by rw [List.length_map]; exact h),BX]; rfl
theorem b_catL (a b:List PyData) (h:a.length+b.length<=line):EY .Add (.d (.list a)) (.d (.list b)) σ=some (.d (.list (a++b))):=by
 show ((if (a.map V.d).length+(b.map V.d).length<=line then some (a.map V.d++b.map V.d) else none).bind mkL)=_
 rw [if_pos (by rw [List.length_map,List.length_map]; exact h),<-List.map_append]
 exact FS _ (by rw [List.length_append]; exact h)
theorem len_s {l:List Nat}:Bx .len σ [vs l]=some (vi l.length):=by
 show some (vi ((Tx l).cps.size:Nat))=_
 rw [Tx_size]
theorem D8 {l:List PyData}:Bx .len σ [.d (.list l)]=some (vi l.length):=by
 show some (vi ((l.map V.d).length:Nat))=_
 rw [List.length_map]
theorem len_r {k:Nat} {ws:List V} (h:σ[k]? = some (.list ws)):Bx .len σ [.ref k]=some (vi ws.length):=by
 show (BF σ[k]?).bind _=_
 rw [h]; rfl
theorem CH {k:Nat} {ws:List V} (h:σ[k]? = some (.list ws)):Ag σ (.ref k)=some ws:=by
 show BF σ[k]? = _
 rw [h]; rfl
theorem B1:Ct .Eq (vi i) (vi j) σ=some (decide (i=j)):=by
 show some (i == j)=_
 by_cases h:i=j
 ·rw [decide_eq_true h,beq_iff_eq.mpr h]
 ·rw [decide_eq_false h,beq_eq_false_iff_ne.mpr h]
theorem eq_str {a b:List Nat}:Ct .Eq (vs a) (vs b) σ=some (decide (a=b)):=by
 show some (Tx a == Tx b)=_
 rw [Tx_beq]
theorem ne_str {a b:List Nat}:Ct .NotEq (vs a) (vs b) σ=some (!decide (a=b)):=by
 show Dt (some (Tx a == Tx b))=_
 rw [Tx_beq]; rfl
theorem c_lt:Ct .Lt (vi i) (vi j) σ=some (decide (i < j)):=rfl
theorem c_gt:Ct .Gt (vi i) (vi j) σ=some (decide (i > j)):=rfl
theorem c_nin:Ct .NotIn x y σ=Dt (inV σ x y):=rfl
theorem inD_str (a:List Nat) (l:List (List Nat)):inD (.str (Tx a)) (l.map fun t=>.str (Tx t))=some (decide (a∈l)):=by
 induction l with
 | nil=>rfl
 | cons b l ih =>
  show (some (Tx b == Tx a)).bind (fun x=>(inD (.str (Tx a)) (l.map fun t=>.str (Tx t))).bind fun y=>some (x||y))=_
  rw [ih,Tx_beq]
  show some (decide (b=a)||decide (a∈l))=_
  rw [<-Bool.decide_or]
  congr 1
  exact decide_eq_decide.mpr (by rw [List.mem_cons,eq_comm])
theorem in_strs (a:List Nat) (l:List (List Nat)):inV σ (vs a) (.d (dl l))=some (decide (a∈l)):=inD_str a l
theorem in_ref {k:Nat} {a:List Nat} {l:List (List Nat)} (h:σ[k]? = some (.list (l.map vs))):inV σ (vs a) (.ref k)=some (decide (a∈l)):=by
 show inO σ (vs a) k σ[k]? = _
 rw [h]
 show (lstD (BF σ[k]?)).bind _=_
 rw [h]
 show ((CS (l.map vs)).bind fun xs=>some (PyData.list xs)).bind _=_
 rw [show l.map vs=(l.map fun t=>PyData.str (Tx t)).map V.d by rw [List.map_map]; rfl,BX]
 exact inD_str a l
theorem seqI {k:Int} {n:Nat} (h0:0<=k) (h:k < n):seqIndex? k n=some k.toNat:=by
 have h1:¬ k < 0:=by lia
 simp [seqIndex?,h1,h0,h]
theorem small_of (h1:-1000000000000 < i) (h2:i < 1000000000000):small i=true:=by simp [small]; lia
theorem nth_at {ws:List V} {v:V} (k:Int) (h0:0<=k) (hs:k < 9223372036854775808) (h:ws[k.toNat]? = some v):nth ws k=some v:=by
 have h1:k.toNat < ws.length:=(List.getElem?_eq_some_iff.mp h).1
 unfold nth
 rw [if_pos (by simp [small]; lia),seqI h0 (by lia)]
 exact h
theorem Gm {l:List PyData} {y:PyData} (k:Int) (h0:0<=k) (hs:k < 9223372036854775808) (h:l[k.toNat]? = some y):AI (.d (.list l)) (vi k) σ=some (.d y) :=
 nth_at (ws:=l.map .d) k h0 hs (by rw [List.getElem?_map,h]; rfl)
theorem at_ref {ws:List V} {v:V} {j:Nat} (k:Int) (h0:0<=k) (hs:k < 9223372036854775808) (hj:σ[j]? = some (.list ws)) (h:ws[k.toNat]? = some v):AI (.ref j) (vi k) σ=some v:=by
 show subO σ (vi k) σ[j]? = _
 rw [hj]; exact nth_at k h0 hs h
theorem at_text {l:List Nat} {y:Nat} (k:Int) (h0:0<=k) (hs:k < 9223372036854775808) (h:l[k.toNat]? = some y):AI (vs l) (vi k) σ=some (vs [y]):=by
 have h1:k.toNat < l.length:=(List.getElem?_eq_some_iff.mp h).1
 show (if small k=true then (Txt.charAt (Tx l) k).bind fun c=>some (V.d (.str (chr1 c))) else none)=_
 rw [if_pos (by simp [small]; lia),Tx_at,seqI h0 (by lia)]
 show (l[k.toNat]?).bind _=_
 rw [h]; rfl
theorem nth_last {ws:List V} {v:V} (h:ws[ws.length-1]? = some v):nth ws (-1)=some v:=by
 have h1:=(List.getElem?_eq_some_iff.mp h).1
 unfold nth
 rw [if_pos (by decide)]
 have h4:(0:Int) <= -1+ws.length:=by lia
 have h5:(-1+(ws.length:Int)) < ws.length:=by lia
 have h6:(-1+(ws.length:Int)).toNat=ws.length-1:=by lia
 rw [show seqIndex? (-1) ws.length=some (ws.length-1) by simp [seqIndex?,h4,h5,h6]]
 exact h
theorem clip_nat (n k:Nat):clipAt n (k:Int)=min k n:=by
 show (max 0 (min (if (k:Int) < 0 then (k:Int)+n else k) n)).toNat=_
 rw [if_neg (Int.not_lt.mpr (Int.natCast_nonneg k))]
 rcases Nat.le_total k n with h | h
 ·rw [Int.min_eq_left (Int.ofNat_le.mpr h),Nat.min_eq_left h,Int.max_eq_right (Int.natCast_nonneg _)]; rfl
 ·rw [Int.min_eq_right (Int.ofNat_le.mpr h),Nat.min_eq_right h,Int.max_eq_right (Int.natCast_nonneg _)]; rfl
theorem cut_to {α:Type} (l:List α) (k:Nat):BG none (some (k:Int)) l=l.take k:=by
 have:=clip_nat l.length k
 simp only [BG,Option.elim,this,List.drop_zero,Nat.sub_zero]
 rcases Nat.le_total k l.length with h | h
 ·rw [Nat.min_eq_left h]
 ·rw [Nat.min_eq_right h,List.take_of_length_le (Nat.le_refl _),List.take_of_length_le h]
theorem cut_from {α:Type} (l:List α) (k:Nat):BG (some (k:Int)) none l=l.drop k:=by
 have:=clip_nat l.length k
 simp only [BG,Option.elim,this]
 rcases Nat.le_total k l.length with h | h
 ·rw [Nat.min_eq_left h,List.take_of_length_le (by simp)]
 ·rw [Nat.min_eq_right h]; simp [List.drop_eq_nil_of_le h]
theorem sl_to {a:List Nat} (k:Nat):slice σ (vs a) none (some (k:Int))=some (vs (a.take k)):=by
 show some (V.d (.str (cutS none (some (k:Int)) (Tx a))))=_
 rw [Tx_cut,cut_to]
theorem sl_from {a:List Nat} (k:Nat):slice σ (vs a) (some (k:Int)) none=some (vs (a.drop k)):=by
 show some (V.d (.str (cutS (some (k:Int)) none (Tx a))))=_
 rw [Tx_cut,cut_from]
theorem sl_toZ {a:List Nat} (h0:0<=i):slice σ (vs a) none (some i)=some (vs (a.take i.toNat)):=by
 rw [<-sl_to,Int.toNat_of_nonneg h0]
theorem sl_fromZ {a:List Nat} (h0:0<=i):slice σ (vs a) (some i) none=some (vs (a.drop i.toNat)):=by
 rw [<-sl_from,Int.toNat_of_nonneg h0]
theorem slL_fromZ {l:List PyData} (h0:0<=i) (hl:l.length<=line):slice σ (.d (.list l)) (some i) none=some (.d (.list (l.drop i.toNat))):=by
 show mkL (BG (some i) none (l.map V.d))=_
 rw [<-Int.toNat_of_nonneg h0,cut_from,<-List.map_drop]
 exact FS _ (Nat.le_trans (by rw [List.length_drop]; exact Nat.sub_le _ _) hl)
theorem A0 (i:Int) {j:Int} (h:0 < j):0<=i.fmod j/\i.fmod j < j:=⟨Int.fmod_nonneg_of_pos i h,Int.fmod_lt_of_pos i h⟩
theorem upV_eq (lo:Int) (n:Nat):upV lo n=(List.range n).map fun j:Nat=>vi (lo+(j:Int)):=by
 induction n generalizing lo with
 | zero=>rfl
 | succ n ih =>
  show vi lo::upV (lo+1) n=_
  rw [ih,List.range_succ_eq_map]
  simp only [List.map_cons,List.map_map]
  congr 1
  ·simp
  ·apply List.map_congr_left; intro j _; show vi (lo+1+(j:Int))=vi (lo+((j+1:Nat):Int)); rw [Int.natCast_add,Int.add_assoc,Int.add_comm 1]; rfl
theorem up0 (n:Nat):upV 0 n=(List.range n).map fun j:Nat=>vi (j:Int):=by simp [upV_eq]
end
section
variable {α:Type} {O:Orc} {ρ:Af} {σ:Aa} {e es elt ifs it:E} {t:Nat} {l:List α} {m:Int}
theorem itr (h:(ev O es).row ρ σ=some [vi m]) (h1:m<=1000000) (h2:-1000000<=m):(ev O (.range es)).it ρ σ=some ((List.range m.toNat).map (fun j:Nat=>vi (j:Int)),[]):=by
 show ((ev O es).row ρ σ).bind range1=_
 rw [h]
 show (if m<=1000000/\-1000000<=m then some (upV 0 m.toNat,[]) else none)=_
 rw [if_pos ⟨h1,h2⟩,up0]
theorem Db {f:V->Option (Option V)} (w:α->V) (g:α->Option V):∀ (l:List α),(∀ a∈l,f (w a)=some (g a))->CK f (l.map w)=some (l.filterMap g)
 | [],_=>rfl
 | a::l,h=>by
  show (f (w a)).bind (fun x=>(CK f (l.map w)).bind fun xs=>some (match x with | some y=>y::xs | none=>xs))=_
  rw [h a (.head _),bs,Db w g l fun b hb=>h b (.tail _ hb),bs,List.filterMap_cons]
  cases g a <;> rfl
theorem filt_map {β:Type} (p:α->Bool) (g:α->β):∀ l:List α,(l.filterMap fun a=>if p a then some (g a) else none)=(l.filter p).map g
 | []=>rfl
 | a::l=>by cases h:p a <;> simp [List.filterMap_cons,List.filter_cons,h,filt_map p g l]
theorem BR {kps:List (Nat×List V)} (w:α->V) (p:α->Bool) (g:α->V) (hi:(ev O it).it ρ σ=some (l.map w,kps)) (hl:l.length<=line)
 (hp:∀ a∈l,(ev O ifs).ts ((ρ.set t none).set t (some (w a))) σ=some (p a))
 (hg:∀ a∈l,p a=true->(ev O elt).v ((ρ.set t none).set t (some (w a))) σ=some (g a)):(ev O (.comp elt [t] it ifs)).nl ρ σ=some ((l.filter p).map g):=by
 show (((ev O it).it ρ σ).bind fun q=>CK _ q.1).bind _=_
 rw [hi]
 show (CK _ (l.map w)).bind _=_
 rw [Db w (fun a=>if p a then some (g a) else none) l fun a ha=>?_,bs,filt_map]
 ·exact if_pos (Nat.le_trans (by rw [List.length_map]; exact List.length_filter_le _ _) hl)
 ·show ((ev O ifs).ts ((ρ.set t none).set t (some (w a))) σ).bind _=_
  rw [hp a ha,bs]
  cases h:p a with
  | true =>
   show ((ev O elt).v ((ρ.set t none).set t (some (w a))) σ).bind _=_
   rw [hg a ha h]; rfl
  | false=>rfl
theorem D7 {ds:List PyData} (h:(ev O (.comp elt [t] it ifs)).nl ρ σ=some (ds.map .d)):(ev O (.comp elt [t] it ifs)).v ρ σ=some (.d (.list ds)):=by
 obtain ⟨ws,h1,q⟩:=bind_some h
 obtain ⟨q1,q2⟩:=AJ q
 show (((ev O it).it ρ σ).bind fun p=>CK _ p.1).bind mkL=_
 rw [show (((ev O it).it ρ σ).bind fun p=>CK _ p.1)=some ws from h1,q2,bs]
 exact FS _ (by rw [<-List.length_map (f:=V.d),<-q2]; exact q1)
end
end Mine
namespace Mine
open PySem
section
variable {O:Orc} {ρ:Af} {σ:Aa} {a b c r i es elt it ifs:E} {op:Operator} {cop:CmpOp} {x y z u:V} {p q:Bool} {xs:List V}
theorem Ah (h1:(ev O a).v ρ σ=some x) (h2:(ev O b).v ρ σ=some y) (h3:EY op x y σ=some z):(ev O (.bin op a b)).v ρ σ=some z:=by rw [v_bin,h1,bs,h2,bs]; exact h3
theorem Ak (h1:(ev O a).v ρ σ=some x) (h2:(ev O i).v ρ σ=some y) (h3:AI x y σ=some z):(ev O (.sub a i)).v ρ σ=some z:=by rw [v_sub,h1,bs,h2,bs]; exact h3
theorem A5 (h1:(ev O a).v ρ σ=some x) (h2:(ev O b).v ρ σ=some y) (h3:Ct cop x y σ=some p):(ev O (.cmp cop a b)).t ρ σ=some p:=by rw [t_cmp,h1,bs,h2,bs]; exact h3
theorem Fx (h1:(ev O a).v ρ σ=some x) (h2:(ev O b).v ρ σ=some y) (h3:Ct cop x y σ=some p):(ev O (.cmp cop a b)).v ρ σ=some (vb p):=by rw [v_cmp,h1,bs,h2,bs,h3]; rfl
theorem e_row (h1:(ev O a).v ρ σ=some x) (h2:(ev O r).row ρ σ=some xs):(ev O (.cons a r)).row ρ σ=some (x::xs):=by rw [r_cons,h1,bs,h2]; rfl
theorem Ax (h1:(ev O a).v ρ σ=some x):(ev O (.cons a .nil)).row ρ σ=some [x]:=e_row h1 rfl
theorem BB (h1:(ev O a).v ρ σ=some x) (h2:(ev O b).v ρ σ=some y):(ev O (.cons a (.cons b .nil))).row ρ σ=some [x,y]:=e_row h1 (Ax h2)
theorem e_r3 (h1:(ev O a).v ρ σ=some x) (h2:(ev O b).v ρ σ=some y) (h3:(ev O c).v ρ σ=some z):(ev O (.cons a (.cons b (.cons c .nil)))).row ρ σ=some [x,y,z]:=e_row h1 (BB h2 h3)
theorem Bc {b:Bi} (h1:(ev O es).row ρ σ=some xs) (h2:Bx b σ xs=some z):(ev O (.bi b es)).v ρ σ=some z:=by rw [v_bi,h1,bs]; exact h2
theorem FW {f:Nat} (h1:(ev O es).row ρ σ=some xs) (h2:O f xs σ=some z):(ev O (.fcall f es)).v ρ σ=some z:=by rw [v_fcall,h1,bs]; exact h2
theorem CY (h:(ev O a).t ρ σ=some p):(ev O (.not a)).t ρ σ=some (!p):=by rw [t_not,h]; rfl
theorem ET {v:V} (h:(ev O es).row ρ σ=some xs) (h2:tupV xs=some v):(ev O (.tup es)).v ρ σ=some v:=by rw [v_tup,h,bs]; exact h2
theorem DC (h1:(ev O a).t ρ σ=some p) (h2:p=false->(ev O b).t ρ σ=some q):(ev O (.bop .Or (.cons a (.cons b .nil)))).t ρ σ=some (p||q):=by
 rw [t_bop,b_cons,h1,bs]
 cases p with
 | true=>rfl
 | false =>
  show (ev O (.cons b .nil)).bt .Or ρ σ=_
  rw [b_cons,h2 rfl,bs]
  cases q <;> rfl
theorem CQ (h1:(ev O a).t ρ σ=some p) (h2:p=true->(ev O b).t ρ σ=some q):(ev O (.bop .And (.cons a (.cons b .nil)))).t ρ σ=some (p&&q):=by
 rw [t_bop,b_cons,h1,bs]
 cases p with
 | false=>rfl
 | true =>
  show (ev O (.cons b .nil)).bt .And ρ σ=_
  rw [b_cons,h2 rfl,bs]
  cases q <;> rfl
theorem e_or3 {s:Bool} (h1:(ev O a).t ρ σ=some p) (h2:p=false->(ev O b).t ρ σ=some q) (h3:p=false->q=false->(ev O c).t ρ σ=some s):(ev O (.bop .Or (.cons a (.cons b (.cons c .nil))))).t ρ σ=some (p||(q||s)):=by
 rw [t_bop,b_cons,h1,bs]
 cases p with
 | true=>rfl
 | false=>exact DC (a:=b) (b:=c) (q:=s) (h2 rfl) fun e=>h3 rfl e
theorem e_ts1 (h1:(ev O a).t ρ σ=some p):(ev O (.cons a .nil)).ts ρ σ=some p:=by
 rw [s_cons,h1,bs]; cases p <;> rfl
theorem e_and2v (h1:(ev O a).v ρ σ=some (vb p)) (h2:p=true->(ev O b).v ρ σ=some (vb q)):(ev O (.bop .And (.cons a (.cons b .nil)))).v ρ σ=some (vb (p&&q)):=by
 show ((ev O a).v ρ σ).bind (fun x=>(Eb σ x).bind fun t=>bif t == Co .And then some x else (ev O (.cons b .nil)).bo .And ρ σ)=_
 rw [h1,bs]
 cases p with
 | false=>rfl
 | true=>exact h2 rfl
theorem len_of' {ws:List V} (h:Ag σ x=some ws):Bx .len σ [x]=some (vi ws.length):=by
 cases x with
 | d y=>cases y with
  | list l=>rw [D8,<-Option.some.inj h,List.length_map]
  | _=>exact Ab h
 | ref k=>exact len_r (Cd h)
 | _=>exact Ab h
theorem sub_of {ws:List V} {k:Int} (h:Ag σ x=some ws):AI x (vi k) σ=nth ws k:=by
 cases x with
 | d y=>cases y with
  | list l=>rw [<-Option.some.inj h]; rfl
  | _=>exact Ab h
 | ref j=>show subO σ (vi k) σ[j]? = _; rw [Cd h]; rfl
 | _=>exact Ab h
theorem tr_of' {ws:List V} (h:Ag σ x=some ws):Eb σ x=some (!ws.isEmpty):=by
 cases x with
 | d y=>cases y with
  | list l=>rw [<-Option.some.inj h,Fp]; rfl
  | _=>exact Ab h
 | ref j=>rw [show Eb σ (.ref j)=(BF σ[j]?).bind fun ws=>some (!ws.isEmpty) from rfl,show BF σ[j]? = some ws from h]; rfl
 | _=>exact Ab h
theorem in_of {w:List Nat} {l:List (List Nat)} (h:Ag σ x=some (l.map vs)):inV σ (vs w) x=some (decide (w∈l)):=by
 cases x with
 | d y=>cases y with
  | list l' =>
   have e:l'=l.map fun t=>PyData.str (Tx t):=by
    have h1:=congrArg (fun o=>o.bind CS) h
    have h2:CS (l'.map V.d)=CS (l.map vs):=h1
    rw [BX,show l.map vs=(l.map fun t=>PyData.str (Tx t)).map V.d by rw [List.map_map]; rfl,BX] at h2
    exact Option.some.inj h2
   rw [e]; exact in_strs w l
  | _=>exact Ab h
 | ref j=>exact in_ref (Cd h)
 | _=>exact Ab h
end
section
variable {C:Cfg} {P:Fl->Aa->Prop} {st r:S} {ρ:Af} {σ:Aa}
theorem BV {M:Af->Aa->Prop} (h:Ai C (fun fl σ'=>∃ ρ',fl=.next ρ'/\M ρ' σ') (.cons st .nil) ρ σ) (k:∀ ρ' σ',M ρ' σ'->Ai C P r ρ' σ'):Ai C P (.cons st r) ρ σ:=by
 obtain ⟨fl,σ',⟨ρ',rfl,h1⟩,h2⟩:=h
 exact B9 (fl:=.next ρ') (fun Q q=>SS.mono (fun f s e=>by rw [e.1,e.2]; exact q) (.of1 h2)) (k ρ' σ' h1)
end
noncomputable def Bk (c k:Int):Int:=((c+7919 * k) * 48271).fmod 2147483647
theorem sm1 (i:Int):(small 7919||small i)=true:=by rw [show small 7919=true by decide]; rfl
theorem sm2 (i:Int):(small i||small 48271)=true:=by rw [show small 48271=true by decide,Bool.or_true]
theorem sm4 (i:Int):(small 4||small i)=true:=by rw [show small 4=true by decide]; rfl
theorem smr {i j:Int} (h1:-1000000000000 < j) (h2:j < 1000000000000):(small i||small j)=true:=by rw [small_of h1 h2,Bool.or_true]
noncomputable def C0 (n:Nat):Cfg:=⟨n,fun _ _ _=>none,fun _ _ _ _ h=>Ab h⟩
theorem fn_mixed {σ:Aa} (c k:Int):FN 2 10 [vi c,vi k] σ (vi (Bk c k)) σ:=by
 exact FN.same (C:=C0 1) (fn:=Fmixed) (by unfold Pg; rfl) rfl (Nat.le_refl _)
  (AE (Ah (Ah (Ah rfl (Ah rfl rfl (b_mul (sm1 _))) rfl) rfl (b_mul (sm2 _))) rfl (A2 (by decide))) ⟨rfl,rfl⟩)
noncomputable def mixO (xs:List V):Option V:=match xs with | x::r=>(match r with | y::r=>(match r with | []=>(BP x).bind fun c=>(BP y).bind fun k=>some (vi (Bk c k)) | _=>none) | []=>none) | []=>none
theorem mixO_ok {n:Nat} {σ:Aa} {xs:List V} {v:V} (hn:2<=n) (h:mixO xs=some v):FN n 10 xs σ v σ:=by
 match xs,h with
 | [],h=>exact Ab h
 | [_],h=>exact Ab h
 | [x,y],h =>
  obtain ⟨c,e1,h⟩:=bind_some h
  obtain ⟨k,e2,h⟩:=bind_some h
  rw [AR e1,AR e2,<-Option.some.inj h]
  exact (fn_mixed c k).more hn
 | _::_::_::_,h=>exact Ab h
noncomputable def Cfg.add (C:Cfg) (f:Nat) (g:List V->Aa->Option V) (h:∀ xs σ v,g xs σ=some v->FN C.n f xs σ v σ):Cfg:=⟨C.n,fun f' xs σ=>bif Nat.beq f' f then g xs σ else C.O f' xs σ,fun f' xs σ v e=>by
 cases q:Nat.beq f' f with
 | true=>rw [q] at e; rw [Nat.eq_of_beq_eq_true q]; exact h xs σ v e
 | false=>rw [q] at e; exact C.ok f' xs σ v e⟩
noncomputable def C1 (n:Nat) (hn:2<=n):Cfg:=(C0 n).add 10 (fun xs _=>mixO xs) fun _ _ _ h=>mixO_ok hn h
theorem fn_cell {σ:Aa} (sc:List Int) (k:Int) (h0:0<=k) (hk:k < 1000):FN 2 9 [.d (.list (sc.map .int)),vi k] σ (vi (sc.getD k.toNat 0)) σ:=by
 exact FN.same (C:=C0 1) (fn:=Fcell) (by unfold Pg; rfl) rfl (Nat.le_refl _) (by
  refine AC (t:=decide (k < sc.length)) (A5 rfl (Bc (Ax rfl) (D8.trans (by rw [List.length_map]))) c_lt) (fun h=>?_) fun h=>Ac ?_
  ·have h:=of_decide_eq_true h
   refine AE (v:=vi (sc.getD k.toNat 0)) (Ak rfl rfl (Gm (y:=.int (sc.getD k.toNat 0)) k h0 (by omega) ?_)) ⟨rfl,rfl⟩
   have:k.toNat < sc.length:=by omega
   simp [List.getD,this]
  ·have h:=of_decide_eq_false h
   refine AE (v:=vi (sc.getD k.toNat 0)) ?_ ⟨rfl,rfl⟩
   rw [show sc.getD k.toNat 0=0 by
    have:sc.length<=k.toNat:=by omega
    simp [List.getD,this]]
   rfl)
end Mine
namespace Mine
open PySem
noncomputable def D2:List Nat:=[97,98,99,100,101,102,103,104,105,106,107,108,109,110,111,112,113,114,115,116,117,118,119,120,121,122,48,49,50,51,52,53,54,55,56,57]
noncomputable def BU (t:List Nat):Bool:=!(decide ((t.length:Int) < 1)||decide ((t.length:Int) > 12))&&t.all fun c=>decide (c∈D2)
theorem k_signs:Str.ofString "abcdefghijklmnopqrstuvwxyz0123456789" = Tx D2:=by decide +kernel
theorem CU (t:List Nat):BU t=true ↔ 1<=t.length/\t.length<=12/\∀ c∈t,c∈D2:=by
 simp only [BU,Bool.and_eq_true,Bool.not_eq_true',Bool.or_eq_false_iff,decide_eq_false_iff_not,List.all_eq_true,decide_eq_true_eq]
 constructor
 ·rintro ⟨⟨h1,h2⟩,h3⟩; exact ⟨by lia,by lia,h3⟩
 ·rintro ⟨h1,h2,h3⟩; exact ⟨⟨by lia,by lia⟩,h3⟩
noncomputable def sg (i:Int):Nat:=D2.getD i.toNat 0
theorem sg_at (i:Int) (h0:0<=i) (h:i < 36):D2[i.toNat]? = some (sg i):=by
 have:i.toNat < D2.length:=by simp [D2]; (with_reducible assumption)
 simp [sg,List.getD,this]
theorem sg_mem (i:Int) (h0:0<=i) (h:i < 36):sg i∈D2:=List.mem_of_getElem? (sg_at i h0 h)
section
variable {σ:Aa}
theorem sub_sg {i:Int} (h0:0<=i) (h:i < 36):AI (vs D2) (vi i) σ=some (vs [sg i]):=at_text i h0 (by lia) (sg_at i h0 h)
noncomputable def num (j:Nat):List Nat:=(strOf (j:Int)).cps.toList
theorem num_name:∀ j:Nat,j < 130->BU (num j)=true:=by decide +kernel
theorem num_nodup:((List.range 130).map num).Nodup:=by decide +kernel
theorem num_str {i:Int} (h0:0<=i) (h:i < 130):Bx .str σ [vi i]=some (vs (num i.toNat)):=by
 show (if i.natAbs < 1000000000000 then some (V.d (.str (strOf i))) else none)=_
 rw [if_pos (by lia)]
 unfold num
 rw [Int.toNat_of_nonneg h0]
 simp only [vs,DI]
theorem pigeon {β:Type} [DecidableEq β]:∀ (l m:List β),l.Nodup->(∀ x∈l,x∈m)->l.length<=m.length
 | [],m,_,_=>by exact Nat.zero_le _
 | a::l,m,hn,hs=>by
  have ha:a∈m:=hs a (by exact .head _)
  rw [List.nodup_cons] at hn
  have:=pigeon l (m.erase a) hn.2 (by
   intro x hx
   have hne:x≠a:=fun e=>hn.1 (e▸hx)
   exact (List.mem_erase_of_ne hne).mpr (hs x (by exact .tail _ hx)))
  rw [List.length_erase_of_mem ha] at this
  have h0:0 < m.length:=List.length_pos_iff.mpr (fun e=>by simp [e] at ha)
  simp; omega
theorem num_free (l:List (List Nat)) (hl:l.length < 130):∃ j,j<=l.length/\num j∉l:=by
 apply Classical.byContradiction
 intro hno
 have h1:((List.range (l.length+1)).map num).Nodup:=by
  have:(List.range (l.length+1)).map num=((List.range 130).map num).take (l.length+1):=by
   rw [<-List.map_take,List.take_range]; congr 2; lia
  rw [this]
  exact List.Sublist.nodup (List.take_sublist _ _) num_nodup
 have:=pigeon _ l h1 (by
  intro x hx
  simp only [List.mem_map,List.mem_range] at hx
  obtain ⟨j,h2,rfl⟩:=hx
  apply Classical.byContradiction
  intro h3; exact hno ⟨j,by (exact Nat.le_of_lt_succ ‹_›),h3⟩)
 simp at this
 (exact Nat.lt_irrefl _ ‹_›)
theorem mixed_lt (c k:Int):0<=Bk c k/\Bk c k < 2147483647:=A0 _ (by decide)
theorem joinOk0 (l:List (List Nat)) (h:l.length<=1000000) (h1:∀ t∈l,t.length<=1):JoinOk (Tx []) (l.map Tx)=true:=by
 refine PyProof.Rows.joinOk_of ?_
 have h2:((l.map Tx).map (·.length)).sum<=l.length:=by
  clear h
  induction l with
  | nil=>simp
  | cons a l ih =>
   have:=h1 a (by simp)
   have:=ih (fun t ht=>h1 t (by simp [ht]))
   simp only [List.map_cons,List.sum_cons,List.length_cons,Tx_len]; lia
 simp only [Tx_len,List.length_nil,Nat.mul_zero]
 lia
theorem join0 (l:List (List Nat)):Txt.join (Tx []) (l.map Tx)=Tx l.flatten:=by
 show Builtin.Str.glued _ _=_
 rw [StrLaws.glued_eq_join]
 induction l with
 | nil=>rfl
 | cons a l ih =>
  induction l with
  | nil=>simp [Str.join]
  | cons b l =>
   simp only [List.map_cons,Str.join] at ih ⊢
   rw [ih,Tx_app,Tx_app]; simp
theorem k_nil:Str.ofString "" = Tx []:=by decide +kernel
theorem Fq:∀ l:List Str,C3 BA (vss l)=some l
 | []=>rfl
 | x::l=>by show (C3 BA (vss l)).bind _=_; rw [Fq l]; rfl
theorem e_signs {O:Orc} {ρ:Af} {elt es:E} {t:Nat} {m:Int} (g:Int->Nat) (hi:(ev O es).row ρ σ=some [vi m]) (hl:m<=1000) (hl2:-1000<=m)
 (hg:∀ i:Int,0<=i->i < m->(ev O elt).v ((ρ.set t none).set t (some (vi i))) σ=some (vs [g i])) :
 (ev O (.meth .join (.cst (.str (Str.ofString ""))) (.cons (.comp elt [t] (.range es) .nil) .nil))).v ρ σ=some (vs ((List.range m.toNat).map fun j:Nat=>g (j:Int))):=by
 have h1:=D7 (O:=O) (ρ:=ρ) (σ:=σ) (elt:=elt) (t:=t) (it:=.range es) (ifs:=.nil) (ds:=(List.range m.toNat).map fun j:Nat=>.str (Tx [g (j:Int)])) (by
  rw [BR (fun j:Nat=>vi (j:Int)) (fun _=>true) (fun j:Nat=>vs [g (j:Int)]) (itr hi (by lia) (by lia)) (by rw [List.length_range]; exact Nat.le_trans (show m.toNat<=1000 by lia) (by decide)) (fun _ _=>rfl) (fun j hj _=>hg j (Int.natCast_nonneg _) (by have:=List.mem_range.mp hj; lia)),List.filter_eq_self.mpr (fun _ _=>rfl),List.map_map]
  rfl)
 show (((ev O (.cons (.comp elt [t] (.range es) .nil) .nil)).row ρ σ).bind fun ys=>joinV σ (.d (.str (Str.ofString ""))) ys)=_
 rw [Ax h1,k_nil]
 show ((C3 BA (((List.range m.toNat).map fun j:Nat=>PyData.str (Tx [g (j:Int)])).map V.d)).bind fun ss=>if JoinOk (Tx []) ss=true then some (V.d (.str (Txt.join (Tx []) ss))) else none)=_
 rw [show (((List.range m.toNat).map fun j:Nat=>PyData.str (Tx [g (j:Int)])).map V.d)=vss (((List.range m.toNat).map fun j:Nat=>[g (j:Int)]).map Tx) by show _=(((List.range m.toNat).map fun j:Nat=>[g (j:Int)]).map Tx).map fun y=>V.d (.str y); rw [List.map_map,List.map_map,List.map_map]; rfl,Fq,bs,if_pos (joinOk0 _ (by simp; lia) (by simp)),join0]
 congr 3
 generalize List.range m.toNat=l
 congr 1
 induction l with
 | nil=>rfl
 | cons a l ih=>simp [ih]
end
theorem name_base (m:Nat) (g:Nat->Int) (h1:1<=m) (h2:m<=12) (hg:∀ j,0<=g j/\g j < 36):BU ((List.range m).map fun j=>sg (g j))=true:=by
 rw [CU]
 refine ⟨by simpa using h1,by simpa using h2,?_⟩
 intro x hx
 simp only [List.mem_map] at hx
 obtain ⟨j,_,rfl⟩:=hx
 exact sg_mem _ (hg j).1 (hg j).2
theorem ln_t2 {u:List Nat} {x:Nat} {i j:Nat} (h:u.length<=12):(u.take i++[x]).length+(u.drop j).length<=line/\(u.take i).length + [x].length<=line:=by simp [line]; omega
theorem nm4 {u:List Nat} {x:Nat} {a:Int} (h2:u.length<=12) (h0:0<=a) (ha:a < u.length):1<=(u.take a.toNat++[x]++u.drop (a+1).toNat).length/\(u.take a.toNat++[x]++u.drop (a+1).toNat).length<=12:=by
 simp; omega
theorem run_name {C:Cfg} {σ:Aa} {x:V} (hm:∀ c k,C.O 10 [vi c,vi k] σ=some (vi (Bk c k))) (c:Int) (tk:List (List Nat)) (hx:Ag σ x=some (tk.map vs)) (hg:∀ x∈tk,BU x=true) (hl:tk.length < 100) :
 Ai C (fun fl σ'=>∃ r,BU r=true/\r∉tk/\EA fl=vs r/\σ'=σ) Fname.body (AV Fname [vi c,x]) σ:=by
 show Ai C _ _ [some (vi c),some x,none,none,none,none,none] σ
 have hlen:=len_of' hx
 rw [List.length_map] at hlen
 have htr:=tr_of' hx
 refine Az (v:=vs D2) (congrArg (fun s=>some (V.d (.str s))) k_signs) ?_
 refine Az (v:=vi (Bk c 5)) (FW (BB rfl rfl) (hm _ _)) ?_
 have hL:=mixed_lt c 5
 generalize Bk c 5=L at hL
 have h12:=A0 L (j:=12) (by decide)
 have h36:=A0 L (j:=36) (by decide)
 refine Az (v:=vs ((List.range (1+L.fmod 12).toNat).map fun j:Nat=>sg ((Bk c j).fmod 36))) (e_signs (fun i=>sg ((Bk c i).fmod 36)) (Ax (Ah rfl (Ah rfl rfl (A2 (by decide))) rfl)) (by omega) (by omega) (fun i _ _=>by
  have h:=A0 (Bk c i) (j:=36) (by decide)
  exact Ak rfl (Ah (FW (BB rfl rfl) (hm _ _)) rfl (A2 (by decide))) (sub_sg h.1 h.2))) ?_
 have hf:BU ((List.range (1+L.fmod 12).toNat).map fun j:Nat=>sg ((Bk c j).fmod 36))=true:=name_base _ (fun j=>(Bk c j).fmod 36) (by omega) (by omega) (fun j=>A0 _ (by decide))
 generalize ((List.range (1+L.fmod 12).toNat).map fun j:Nat=>sg ((Bk c j).fmod 36))=f at hf
 let K:List Nat->Option V->Af:=fun f z=>[some (vi c),some x,some (vs D2),some (vi L),some (vs f),none,z]
 let M:Af->Aa->Prop:=fun ρ σ'=>(∃ f z,BU f=true/\ρ=K f z)/\σ=σ'
 refine BV (M:=M) ?_ ?_
 ·refine AC (t:=decide (c.fmod 8=1)) (A5 (Ah rfl rfl (A2 (by decide))) rfl B1) (fun h=>?_) (fun h=>?_)
  ·have hx:=A0 L (j:=130) (by decide)
   exact Az (v:=vs (num (L.fmod 130).toNat)) (Bc (Ax (Ah rfl rfl (A2 (by decide)))) (num_str hx.1 hx.2)) (Ac (Ac ⟨_,rfl,⟨_,none,num_name _ (by omega),rfl⟩,rfl⟩))
  ·exact Ac (Ac ⟨_,rfl,⟨f,none,hf,rfl⟩,rfl⟩)
 rintro _ _ ⟨⟨f,z,hf,rfl⟩,rfl⟩
 refine BV (M:=M) ?_ ?_
 ·refine AC (t:=decide (c.fmod 8=2) && !(tk.map vs).isEmpty) (CQ (A5 (Ah rfl rfl (A2 (by decide))) rfl B1) fun _=>htr) (fun h=>?_) (fun h=>?_)
  ·have hne:tk≠[]:=by
    intro e; rw [e] at h; simp at h
   have hlast:=List.getLast?_eq_some_getLast hne
   have hgl:=(CU _).mp (hg _ (List.getLast_mem hne))
   generalize tk.getLast hne=u at hlast hgl
   rw [List.getLast?_eq_getElem?] at hlast
   refine Az (v:=vs (u.take 11++[sg (L.fmod 36)])) (Ah (x:=vs (u.take 11)) (y:=vs [sg (L.fmod 36)]) ?_ (Ak rfl (Ah rfl rfl (A2 (by decide))) (sub_sg h36.1 h36.2)) (b_cat _ _ (ln_t2 (j:=0) hgl.2.1).2)) (Ac (Ac ⟨_,rfl,⟨_,z,?_,rfl⟩,rfl⟩))
   ·rw [v_slc,Ak (z:=vs u) rfl rfl ((sub_of hx).trans (nth_last (by rw [List.length_map,List.getElem?_map,hlast]; rfl))),bs]
    exact sl_to (σ:=σ) 11
   ·rw [CU]
    refine ⟨by simp,by simp; omega,?_⟩
    intro x hx
    simp only [List.mem_append,List.mem_singleton] at hx
    rcases hx with hx | rfl
    ·exact hgl.2.2 x (List.mem_of_mem_take hx)
    ·exact sg_mem _ h36.1 h36.2
  ·exact Ac (Ac ⟨_,rfl,⟨f,z,hf,rfl⟩,rfl⟩)
 clear hf f z
 rintro _ _ ⟨⟨f,z,hf,rfl⟩,rfl⟩
 refine BV (M:=M) ?_ ?_
 ·refine AC (t:=decide (c.fmod 8 > 4) && !(tk.map vs).isEmpty) (CQ (A5 (Ah rfl rfl (A2 (by decide))) rfl c_gt) fun _=>htr) (fun h=>?_) (fun h=>?_)
  ·have hne:tk≠[]:=by
    intro e; rw [e] at h; simp at h
   have hpos:0 < tk.length:=List.length_pos_iff.mpr hne
   have hlt:=A0 L (j:=tk.length) (by omega)
   obtain ⟨u,hu⟩:∃ u,tk[(L.fmod tk.length).toNat]? = some u:=⟨_,List.getElem?_eq_getElem (by omega)⟩
   have hgu:=(CU _).mp (hg u (List.mem_of_getElem? hu))
   refine Az (v:=vs u) (Ak rfl (Ah rfl (Bc (Ax rfl) hlen) (A2 (by omega))) ((sub_of hx).trans (nth_at _ hlt.1 (by omega) (by rw [List.getElem?_map,hu]; rfl)))) ?_
   have hat:=A0 (L.fdiv 60) (j:=u.length) (by omega)
   refine Az (v:=vi ((L.fdiv 60).fmod u.length)) (Ah (Ah rfl rfl (B2 (by decide))) (Bc (Ax rfl) len_s) (A2 (by omega))) ?_
   generalize (L.fdiv 60).fmod u.length=a at hat
   have hs:=A0 (L.fdiv 720) (j:=36) (by decide)
   refine Az (v:=vs (u.take a.toNat++[sg ((L.fdiv 720).fmod 36)]++u.drop (a+1).toNat)) (Ah (Ah (x:=vs (u.take a.toNat)) (y:=vs [sg ((L.fdiv 720).fmod 36)]) ?_ (Ak rfl (Ah (Ah rfl rfl (B2 (by decide))) rfl (A2 (by decide))) (sub_sg hs.1 hs.2)) (b_cat _ _ (ln_t2 (j:=0) hgu.2.1).2)) (y:=vs (u.drop (a+1).toNat)) ?_ (b_cat _ _ (ln_t2 hgu.2.1).1)) (Ac (Ac ⟨_,rfl,⟨_,some (vi a),?_,rfl⟩,rfl⟩))
   ·exact sl_toZ (σ:=σ) (a:=u) hat.1
   ·exact sl_fromZ (σ:=σ) (a:=u) (i:=a+1) (by omega)
   ·rw [CU]
    refine ⟨(nm4 hgu.2.1 hat.1 hat.2).1,(nm4 hgu.2.1 hat.1 hat.2).2,?_⟩
    intro x hx
    simp only [List.mem_append,List.mem_singleton] at hx
    rcases hx with (hx | rfl) | hx
    ·exact hgu.2.2 x (List.mem_of_mem_take hx)
    ·exact sg_mem _ hs.1 hs.2
    ·exact hgu.2.2 x (List.mem_of_mem_drop hx)
  ·exact Ac (Ac ⟨_,rfl,⟨f,z,hf,rfl⟩,rfl⟩)
 clear hf f z
 rintro _ _ ⟨⟨f,z,hf,rfl⟩,rfl⟩
 refine AC (t:=!decide (f∈tk)) (A5 rfl rfl (by rw [c_nin,in_of hx]; rfl)) (fun h=>?_) (fun h=>Ac ?_)
 ·exact AE (v:=vs f) rfl ⟨f,hf,by simpa using h,rfl,rfl⟩
 ·have hc:(ev C.O (.comp (.bi .str (.cons (.var 5) .nil)) [5] (.range (.cons (.bin .Add (.bi .len (.cons (.var 1) .nil)) (.cst (.int 1))) .nil)) (.cons (.cmp .NotIn (.bi .str (.cons (.var 5) .nil)) (.var 1)) .nil))).v (K f z) σ=some (.d (.list (((List.range ((tk.length:Int)+1).toNat).filter fun j=>!decide (num j∈tk)).map fun j=>.str (Tx (num j))))):=by
   refine D7 ?_
   rw [BR (fun j:Nat=>vi (j:Int)) (fun j=>!decide (num j∈tk)) (fun j=>vs (num j)) (itr (Ax (Ah (Bc (Ax rfl) hlen) rfl rfl)) (by omega) (by omega)) (by rw [List.length_range]; exact Nat.le_trans (show ((tk.length:Int)+1).toNat<=101 by omega) (by decide)) (fun j hj=>?_) (fun j hj _=>?_),List.map_map]
   ·rfl
   ·have hj:=List.mem_range.mp hj
    exact e_ts1 (A5 (Bc (Ax rfl) (num_str (i:=(j:Int)) (by omega) (by omega))) rfl (by rw [c_nin,in_of hx]; rfl))
   ·have hj:=List.mem_range.mp hj
    exact Bc (Ax rfl) (num_str (i:=(j:Int)) (by omega) (by omega))
  obtain ⟨j,hj1,hj2⟩:=num_free tk (Nat.lt_trans hl (by decide))
  have hmem:j∈(List.range ((tk.length:Int)+1).toNat).filter fun j=>!decide (num j∈tk):=List.mem_filter.mpr ⟨List.mem_range.mpr (by omega),by simpa using hj2⟩
  cases hfl:(List.range ((tk.length:Int)+1).toNat).filter fun j=>!decide (num j∈tk) with
  | nil=>rw [hfl] at hmem; cases hmem
  | cons i rest =>
   have hi:i∈(List.range ((tk.length:Int)+1).toNat).filter fun j=>!decide (num j∈tk):=by rw [hfl]; exact .head _
   have hi:=List.mem_filter.mp hi
   rw [hfl] at hc
   exact AE (v:=vs (num i)) (Ak hc rfl (Gm 0 (by decide) (by decide) rfl)) ⟨num i,num_name i (by have:=List.mem_range.mp hi.1; omega),by simpa using hi.2,rfl,rfl⟩
theorem fn_name {σ:Aa} {x:V} (c:Int) (tk:List (List Nat)) (hx:Ag σ x=some (tk.map vs)) (hg:∀ x∈tk,BU x=true) (hl:tk.length < 100):∃ r,BU r=true/\r∉tk/\FN 3 11 [vi c,x] σ (vs r) σ:=by
 obtain ⟨v,σ',⟨r,h1,h2,h3,h4⟩,h⟩:=FN.ends (C:=C1 2 (Nat.le_refl _)) (f:=11) (fn:=Fname) (R:=fun v σ'=>∃ r,BU r=true/\r∉tk/\v=vs r/\σ'=σ) (by unfold Pg; rfl) rfl (show 1<=2 by decide) (run_name (fun _ _=>rfl) c tk hx hg hl)
 rw [h3,h4] at h
 exact ⟨r,h1,h2,h⟩
end Mine
namespace Mine
open PySem
noncomputable def someA:List Nat:=[32,33,34,35,36,38,39,40,41,42,43,44,45,46,47,48,49,50,51,52,53,54,55,56,57,58,59,60,61,62,63,64,65,66,67,68,69,70,71,72,73,74,75,76,77,78,79,80,81,82,83,84,85,86,87,88,89,90,91,92,93,94,95,96]
noncomputable def someB:List Nat:=[97,98,99,100,101,102,103,104,105,106,107,108,109,110,111,112,113,114,115,116,117,118,119,120,121,122,123,124,125,126]
noncomputable def G1:List Nat:=someA++someB
theorem k_someA:Str.ofString " !\"#$&'()*+,-./0123456789:;<=>?@ABCDEFGHIJKLMNOPQRSTUVWXYZ[\\]^_`" = Tx someA:=by decide +kernel
theorem k_someB:Str.ofString "abcdefghijklmnopqrstuvwxyz{|}~" = Tx someB:=by decide +kernel
theorem k_col:Str.ofString ": " = Tx [58,32]:=by decide +kernel
noncomputable def so (i:Int):Nat:=G1.getD i.toNat 0
theorem so_at (i:Int) (h0:0<=i) (h:i < 94):G1[i.toNat]? = some (so i):=by
 have:i.toNat < G1.length:=Int.toNat_lt h0 |>.mpr h
 simp [so,List.getD,this]
theorem some_ok:∀ x∈G1,32<=x/\x<=126:=by decide +kernel
structure Ey (l:List Nat):Prop where
 len:l.length<=200
 ok:∀ x∈l,32<=x/\x<=126
section
variable {σ:Aa}
theorem sub_so {i:Int} (h0:0<=i) (h:i < 94):AI (vs G1) (vi i) σ=some (vs [so i]):=at_text i h0 (by lia) (so_at i h0 h)
theorem run_line {C:Cfg} (c:Int):Ai C (fun fl σ'=>∃ l,Ey l/\EA fl=vs l/\σ'=σ) Fline.body (AV Fline [vi c]) σ:=by
 show Ai C _ _ [some (vi c),none,none,none,none] σ
 refine Az (v:=vs someA) (congrArg (fun s=>some (V.d (.str s))) k_someA) ?_
 refine Az (v:=vs G1) (Ah (y:=vs someB) rfl (congrArg (fun s=>some (V.d (.str s))) k_someB) (b_cat _ _ (by decide))) ?_
 have h4:=A0 c (j:=4) (by decide)
 refine Az (v:=vi (c.fmod 4)) (Ah rfl rfl (A2 (by decide))) ?_
 refine BV (M:=fun ρ σ'=>(∃ s:Int,0<=s/\s<=200/\ρ=[some (vi c),some (vs G1),some (vi s),none,none])/\σ=σ') ?_ ?_
 ·refine AC (t:=decide ((c.fdiv 4).fmod 9=1)) (A5 (Ah (Ah rfl rfl (B2 (by decide))) rfl (A2 (by decide))) rfl B1) (fun h=>?_) (fun h=>?_)
  ·have h5:=A0 (c.fdiv 36) (j:=201) (by decide)
   exact Az (v:=vi ((c.fdiv 36).fmod 201)) (Ah (Ah rfl rfl (B2 (by decide))) rfl (A2 (by decide))) (Ac (Ac ⟨_,rfl,⟨_,h5.1,by omega,rfl⟩,rfl⟩))
  ·exact Ac (Ac ⟨_,rfl,⟨_,h4.1,by omega,rfl⟩,rfl⟩)
 rintro _ _ ⟨⟨s,hs0,hs1,rfl⟩,rfl⟩
 have h5:=A0 c (j:=5) (by decide)
 refine Az (v:=vs ((List.range s.toNat).map fun j:Nat=>so ((c.fdiv 7+j * (1+c.fmod 5)).fmod 94))) (e_signs (fun i=>so ((c.fdiv 7+i * (1+c.fmod 5)).fmod 94)) rfl (by omega) (by omega) (fun i _ _=>by
  have h:=A0 (c.fdiv 7+i * (1+c.fmod 5)) (j:=94) (by decide)
  exact Ak rfl (Ah (Ah (Ah rfl rfl (B2 (by decide))) (Ah rfl (Ah rfl (Ah rfl rfl (A2 (by decide))) rfl) (b_mul (smr (by omega) (by omega)))) rfl) rfl (A2 (by decide))) (sub_so h.1 h.2))) ?_
 have hf1:((List.range s.toNat).map fun j:Nat=>so ((c.fdiv 7+j * (1+c.fmod 5)).fmod 94)).length=s.toNat:=by simp
 have hf2:∀ x∈((List.range s.toNat).map fun j:Nat=>so ((c.fdiv 7+j * (1+c.fmod 5)).fmod 94)),32<=x/\x<=126:=by
  intro x hx
  obtain ⟨j,_,rfl⟩:=List.mem_map.mp hx
  have h:=A0 (c.fdiv 7+j * (1+c.fmod 5)) (j:=94) (by decide)
  exact some_ok _ (List.mem_of_getElem? (so_at _ h.1 h.2))
 generalize ((List.range s.toNat).map fun j:Nat=>so ((c.fdiv 7+j * (1+c.fmod 5)).fmod 94))=f at hf1 hf2
 refine AC (t:=decide ((c.fdiv 3).fmod 8=1)&&decide (s < 199)) (CQ (A5 (Ah (Ah rfl rfl (B2 (by decide))) rfl (A2 (by decide))) rfl B1) (fun _=>rfl)) (fun h=>?_) (fun h=>Ac ?_)
 ·simp only [Bool.and_eq_true,decide_eq_true_eq] at h
  refine AE (v:=vs (f.take 1++[58,32]++f.drop 1)) (Ah (Ah (x:=vs (f.take 1)) (y:=vs [58,32]) (sl_to (σ:=σ) 1) (congrArg (fun s=>some (V.d (.str s))) k_col) (b_cat _ _ (by simp [line]; omega))) (y:=vs (f.drop 1)) (sl_from (σ:=σ) 1) (b_cat _ _ (by simp [line]; omega))) ⟨_,⟨by simp; omega,?_⟩,rfl,rfl⟩
  intro x hx
  simp only [List.mem_append,List.mem_cons,List.not_mem_nil,or_false] at hx
  rcases hx with (hx | rfl | rfl) | hx
  ·exact hf2 x (List.mem_of_mem_take hx)
  ·decide
  ·decide
  ·exact hf2 x (List.mem_of_mem_drop hx)
 ·exact AE (v:=vs f) rfl ⟨f,⟨by omega,hf2⟩,rfl,rfl⟩
end
theorem EJ (x:PyData) (m:Nat):low m (.d x):=trivial
theorem fn_line (c:Int):∃ l,Ey l/\∀ σ,FN 2 12 [vi c] σ (vs l) σ:=by
 obtain ⟨v,σ',⟨l,h1,h2,h3⟩,h⟩:=FN.ends (C:=C0 1) (f:=12) (fn:=Fline) (zs:=[vi c]) (σ:=[]) (R:=fun v σ'=>∃ l,Ey l/\v=vs l/\σ'=[]) (by unfold Pg; rfl) rfl (Nat.le_refl _) (run_line c)
 rw [h2,h3] at h
 exact ⟨l,h1,fun σ=>h.any (all_cons (EJ _ _) Cl)⟩
noncomputable def lineF (c:Int):List Nat:=Classical.choose (fn_line c)
theorem lineF_ok (c:Int):Ey (lineF c):=(Classical.choose_spec (fn_line c)).1
theorem lineF_fn (c:Int) (σ:Aa):FN 2 12 [vi c] σ (vs (lineF c)) σ:=(Classical.choose_spec (fn_line c)).2 σ
noncomputable def int1 (g:Int->V) (xs:List V):Option V:=match xs with | x::r=>(match r with | []=>(BP x).bind fun c=>some (g c) | _=>none) | []=>none
theorem int1_ok {n f:Nat} {σ:Aa} {g:Int->V} {xs:List V} {v:V} (hf:∀ c,FN n f [vi c] σ (g c) σ) (h:int1 g xs=some v):FN n f xs σ v σ:=by
 match xs,h with
 | [],h=>exact Ab h
 | [x],h =>
  obtain ⟨c,e1,h⟩:=bind_some h
  rw [AR e1,<-Option.some.inj h]
  exact hf c
 | _::_::_,h=>exact Ab h
noncomputable def C2 (n:Nat) (hn:2<=n):Cfg:=(C1 n hn).add 12 (fun xs _=>int1 (fun c=>vs (lineF c)) xs) fun _ σ _ h=>int1_ok (fun c=>(lineF_fn c σ).more hn) h
end Mine
namespace Mine
set_option tactic.hygienic true
noncomputable def kadd:List Nat:=[97,100,100]
noncomputable def kset:List Nat:=[115,101,116]
set_option genInjectivity true in
structure Deed where
 word:List Nat
 mark:Option (List Nat×Int)
 text:Option (List Nat)
noncomputable abbrev Ch:=List Nat×List (List Nat)×List Deed
noncomputable abbrev Mk:=List Nat×Int
noncomputable def Dr (d:Deed):Bool:=decide (d.word=kadd)
noncomputable def De:List Deed->Nat
 | []=>0
 | d::ds=>(if Dr d then 1 else 0)+De ds
noncomputable def ownM (nm:List Nat) (k:Nat):Nat->List Mk
 | 0=>[]
 | n+1=>(nm,(k:Int))::ownM nm (k+1) n
noncomputable def DOk (nm:List Nat) (ms:List Mk):List Deed->Nat->Prop
 | [],_=>True
 | d::ds,k=>(∀ m,d.mark=some m->m∈ms\/(m.1=nm/\0<=m.2/\m.2 < (k:Int)))/\DOk nm ms ds (if Dr d then k+1 else k)
end Mine
namespace Mine
set_option tactic.hygienic true
section
variable {κ β:Type} [DecidableEq κ] {h t:List (κ×β)} {k:κ} {v:β}
theorem B0 (q:κ×β) (h:List (κ×β)) (k:κ):Al (q::h) k=if q.1=k then some q.2 else Al h k:=by
 unfold Al
 rw [List.find?_cons]
 by_cases e:q.1=k
 ·rw [decide_eq_true e,if_pos e]; rfl
 ·rw [decide_eq_false e,if_neg e]
theorem get_left (e:Al h k=some v):Al (h++t) k=some v:=by
 induction h with
 | nil=>cases e
 | cons q h ih =>
  rw [List.cons_append,B0] at *
  split at e
  ·rename_i q1; rw [if_pos q1]; exact e
  ·rename_i q1; rw [if_neg q1]; exact ih e
theorem Ft (e:Al h k=none):Al (h++t) k=Al t k:=by
 induction h with
 | nil=>rfl
 | cons q h ih =>
  rw [B0] at e
  rw [List.cons_append,B0]
  split at e
  ·cases e
  ·rename_i q1; rw [if_neg q1]; exact ih e
theorem C6:Al h k=none ↔ k∉h.map (·.1):=by
 induction h with
 | nil=>simp [Al]
 | cons q h ih =>
  rw [B0,List.map_cons,List.mem_cons]
  by_cases e:q.1=k
  ·rw [if_pos e]; exact ⟨(fun q=>by cases q),fun q=>(q (.inl e.symm)).elim⟩
  ·rw [if_neg e,ih]; exact ⟨fun q1 q2=>q2.elim (fun q3=>e q3.symm) q1,fun q1 q2=>q1 (.inr q2)⟩
theorem B5:(∃ v,Al h k=some v) ↔ k∈h.map (·.1):=by
 cases e:Al h k with
 | none=>exact ⟨(fun ⟨v,q⟩=>by cases q),fun q=>(C6.mp e q).elim⟩
 | some v =>
  refine ⟨fun _=>?_,fun _=>⟨v,rfl⟩⟩
  by_cases q:k∈h.map (·.1)
  ·exact q
  ·rw [C6.mpr q] at e; cases e
theorem any_get:(h.any fun p=>p.1=k)=(Al h k).isSome:=by
 induction h with
 | nil=>rfl
 | cons q h ih =>
  rw [List.any_cons,B0,ih]
  by_cases e:q.1=k
  ·rw [if_pos e,decide_eq_true e]; rfl
  ·rw [if_neg e,decide_eq_false e]; rfl
theorem Gc (e:Al h k=none):Fj h k v=h++[(k,v)]:=by
 unfold Fj
 rw [any_get,e]; rfl
end
noncomputable def Fr (pre:List Ch) (ls:List (List Nat)):List Mk:=(pre.filter fun c=>decide (c.1∈ls)).flatMap fun c=>ownM c.1 0 (De c.2.2)
structure FM (cs:List Ch):Prop where
 nd:(cs.map (·.1)).Nodup
 ok:∀ pre c post,cs=pre++c::post->(∀ l∈c.2.1,l∈pre.map (·.1))/\DOk c.1 (Fr pre c.2.1) c.2.2 0
def Bf (H:List Nat->Int) (a b:Ch):Prop:=H a.1 < H b.1\/(H a.1=H b.1/\b.1 < a.1)
end Mine
namespace Mine
open PySem
theorem k_add:Str.ofString "add" = Tx kadd:=by decide +kernel
noncomputable def kcut:List Nat:=[99,117,116]
theorem k_cut:Str.ofString "cut" = Tx kcut:=by decide +kernel
theorem k_set:Str.ofString "set" = Tx kset:=by decide +kernel
noncomputable def BE (o:Option Mk):PyData:=match o with | none=>.none | some m=>.tuple [.str (Tx m.1),.int m.2]
noncomputable abbrev vm (m:Mk):V:=.d (BE (some m))
noncomputable abbrev dms (ms:List Mk):PyData:=.list (ms.map fun m=>BE (some m))
noncomputable def Deed.data (d:Deed):PyData:=.tuple (.str (Tx d.word)::BE d.mark::(match d.text with | none=>[] | some l=>[.str (Tx l)]))
noncomputable abbrev dds (ds:List Deed):PyData:=.list (ds.map Deed.data)
noncomputable def Ch.data (c:Ch):PyData:=.tuple [.str (Tx c.1),dl c.2.1,dds c.2.2]
noncomputable abbrev vc (c:Ch):V:=.d (Ch.data c)
section
variable {σ:Aa}
theorem sub_word (d:Deed):AI (.d d.data) (vi 0) σ=some (vs d.word):=by
 unfold Deed.data
 cases d.text <;> rfl
theorem sub_mark (d:Deed):AI (.d d.data) (vi 1) σ=some (.d (BE d.mark)):=by
 unfold Deed.data
 cases d.text <;> rfl
theorem Bv (c:Ch):AI (vc c) (vi 0) σ=some (vs c.1):=rfl
theorem DL (c:Ch):AI (vc c) (vi 1) σ=some (.d (dl c.2.1)):=rfl
theorem E3 (c:Ch):AI (vc c) (vi 2) σ=some (.d (dds c.2.2)):=rfl
end
theorem isn_mark {σ:Aa} (m:Option Mk):Ct .IsNot (.d (BE m)) (.d .none) σ=some (!m.isNone):=by cases m <;> rfl
structure E0 (d:Deed):Prop where
 shp:(d.word=kadd/\∃ l,d.text=some l/\Ey l)\/(d.word=kset/\∃ m l,d.mark=some m/\d.text=some l/\Ey l)\/(d.word=kcut/\∃ m,d.mark=some m)
 lin:∀ l,d.text=some l->Ey l
theorem adds_eq:∀ ds:List Deed,(ds.filter fun d=>decide (d.word=kadd)).length=De ds
 | []=>rfl
 | d::ds=>by
  rw [List.filter_cons]
  show _=(if Dr d then 1 else 0)+De ds
  rw [<-adds_eq ds]
  unfold Dr
  split
  ·rw [List.length_cons,Nat.add_comm]
  ·rw [Nat.zero_add]
theorem adds_le (ds:List Deed):De ds<=ds.length:=by rw [<-adds_eq]; exact List.length_filter_le _ _
theorem adds_snoc:∀ (ds:List Deed) (d:Deed),De (ds++[d])=De ds+(if Dr d then 1 else 0)
 | [],d=>by show (if Dr d then 1 else 0)+0=0+_; rw [Nat.add_comm]
 | e::ds,d=>by show (if Dr e then 1 else 0)+De (ds++[d])=(if Dr e then 1 else 0)+De ds+_; rw [adds_snoc ds d,Nat.add_assoc]
theorem DOk_snoc {nm:List Nat} {ms:List Mk} {d:Deed}:∀ (ds:List Deed) (k:Nat),DOk nm ms ds k->(∀ m,d.mark=some m->m∈ms\/(m.1=nm/\0<=m.2/\m.2 < ((k+De ds:Nat):Int)))->DOk nm ms (ds++[d]) k
 | [],k,_,h=>⟨h,trivial⟩
 | e::ds,k,⟨h1,h2⟩,h=>by
  refine ⟨h1,DOk_snoc ds _ h2 fun m hm=>?_⟩
  have:=h m hm
  have e1:(if Dr e then k+1 else k)+De ds=k+De (e::ds):=by
   show _=k+((if Dr e then 1 else 0)+De ds)
   split <;> omega
  rw [e1]; exact this
theorem Cf {α:Type} (l:List α):l.filter (fun _=>true)=l:=List.filter_eq_self.mpr fun _ _=>rfl
section
variable {O:Orc} {ρ:Af} {σ:Aa} {elt es:E} {t:Nat} {m:Int}
theorem e_compR (g:Int->PyData) (hi:(ev O es).row ρ σ=some [vi m]) (h0:0<=m) (hl:m<=1000000)
 (hg:∀ i:Int,0<=i->i < m->(ev O elt).v ((ρ.set t none).set t (some (vi i))) σ=some (.d (g i))):(ev O (.comp elt [t] (.range es) .nil)).v ρ σ=some (.d (.list ((List.range m.toNat).map fun j:Nat=>g (j:Int)))):=by
 refine D7 ?_
 rw [BR (fun j:Nat=>vi (j:Int)) (fun _=>true) (fun j:Nat=>.d (g (j:Int))) (itr hi hl (by omega)) (by rw [List.length_range]; exact Nat.le_trans (show m.toNat<=1000000 by omega) (by decide)) (fun _ _=>rfl) (fun j hj _=>hg j (Int.natCast_nonneg _) (by have:=List.mem_range.mp hj; omega)),Cf,List.map_map]
 rfl
theorem e_compL {α:Type} {a ifs:E} {l:List α} (d:α->PyData) (p:α->Bool) (g:α->PyData) (ha:(ev O a).it ρ σ=some (l.map fun x=>.d (d x),[])) (hl:l.length<=line) (hp:∀ x∈l,(ev O ifs).ts ((ρ.set t none).set t (some (.d (d x)))) σ=some (p x))
 (hg:∀ x∈l,p x=true->(ev O elt).v ((ρ.set t none).set t (some (.d (d x)))) σ=some (.d (g x))):(ev O (.comp elt [t] a ifs)).v ρ σ=some (.d (.list ((l.filter p).map g))):=by
 refine D7 ?_
 rw [BR (fun x=>.d (d x)) p (fun x=>.d (g x)) ha hl hp hg,List.map_map]
 rfl
theorem it_lst {α:Type} {e:E} {l:List α} {d:α->PyData} (h:(ev O e).v ρ σ=some (.d (.list (l.map d)))) (he:(ev O e).it ρ σ=((ev O e).v ρ σ).bind (CN σ)):(ev O e).it ρ σ=some (l.map fun x=>.d (d x),[]):=by
 rw [he,h]
 show some ((l.map d).map V.d,[])=_
 rw [List.map_map]; rfl
end
theorem own_data (t:List Nat) (k:Nat):((List.range k).map fun j:Nat=>BE (some (t,(j:Int))))=((List.range k).map fun j:Nat=>(t,(j:Int))).map fun m=>BE (some m):=by rw [List.map_map]; rfl
theorem ownM_range (nm:List Nat) (n k:Nat):ownM nm k n=(List.range n).map fun j:Nat=>(nm,((k+j:Nat):Int)):=by
 induction n generalizing k with
 | zero=>rfl
 | succ n ih =>
  rw [List.range_succ_eq_map,List.map_cons,List.map_map]
  show (nm,(k:Int))::ownM nm (k+1) n=_
  rw [ih]
  congr 1
  refine List.map_congr_left fun j _=>?_
  show (nm,((k+1+j:Nat):Int))=(nm,((k+(j+1):Nat):Int))
  rw [show k+1+j=k+(j+1) by omega]
theorem DO (nm:List Nat) (n:Nat):ownM nm 0 n=(List.range n).map fun j:Nat=>(nm,(j:Int)):=by
 rw [ownM_range]; simp
theorem fn_marks {σ:Aa} (c:Ch) (hd:c.2.2.length<=100):FN 2 14 [vc c] σ (.d (dms (ownM c.1 0 (De c.2.2)))) σ:=by
 exact FN.same (C:=C0 1) (fn:=Fmarks) (by unfold Pg; rfl) rfl (Nat.le_refl _) (by
  have c1:=e_compL (O:=(C0 1).O) (ρ:=[some (vc c),none,none,none]) (σ:=σ) (elt:=.var 2) (t:=2) (a:=.sub (.var 0) (.cst (.int 2))) (ifs:=.cons (.cmp .Eq (.sub (.var 2) (.cst (.int 0))) (.cst (.str (Str.ofString "add")))) .nil) (l:=c.2.2) Deed.data (fun d=>decide (d.word=kadd)) Deed.data (it_lst (Ak rfl rfl (E3 c)) rfl) (Nat.le_trans hd (by decide)) (fun d _=>e_ts1 (A5 (Ak rfl rfl (sub_word d)) (congrArg (fun s=>some (V.d (.str s))) k_add) eq_str)) (fun d _ _=>rfl)
  refine Az (v:=vi (De c.2.2)) (Bc (Ax c1) (D8.trans (by rw [List.length_map,adds_eq]))) ?_
  have hk:=adds_le c.2.2
  generalize De c.2.2=k at hk
  refine AE (e_compR (fun i=>BE (some (c.1,i))) rfl (by omega) (by omega) (fun i _ _=>ET (BB (Ak rfl rfl (Bv c)) rfl) rfl)) ⟨?_,rfl⟩
  show V.d (.list ((List.range (k:Int).toNat).map fun j:Nat=>BE (some (c.1,(j:Int)))))=_
  rw [Int.toNat_natCast,own_data,DO])
end Mine
namespace Mine
open PySem
theorem it_rg {C:Cfg} {ρ:Af} {σ:Aa} {es:E} {m:Int} (h:(ev C.O es).row ρ σ=some [vi m]) (h1:m<=1000000) (h2:-1000000<=m):C.it (.range es) ρ σ=some ((List.range m.toNat).map (fun j:Nat=>vi (j:Int)),[]):=itr h h1 h2
structure DsAt (t:List Nat) (ms:List Mk) (p:Nat) (ds:List Deed) (own:Nat):Prop where
 own:own=De ds
 len:ds.length=p
 dok:DOk t ms ds 0
 ok:∀ d∈ds,E0 d
theorem DsAt.snoc {t:List Nat} {ms:List Mk} {p:Nat} {ds:List Deed} {own own':Nat} {d:Deed} (h:DsAt t ms p ds own) (ho:own'=own+(if Dr d then 1 else 0)) (hd:E0 d) (hm:∀ m,d.mark=some m->m∈ms\/(m.1=t/\0<=m.2/\m.2 < (own:Int))):DsAt t ms (p+1) (ds++[d]) own' :=
 ⟨by rw [ho,adds_snoc,h.own],by rw [List.length_append,h.len]; rfl,DOk_snoc ds 0 h.dok fun m e=>by rw [Nat.zero_add,<-h.own]; exact hm m e,fun e he=>by
  rcases List.mem_append.mp he with he | he
  ·exact h.ok e he
  ·rw [List.mem_singleton.mp he]; exact hd⟩
theorem run_deeds {C:Cfg} (hm:∀ c k σ,C.O 10 [vi c,vi k] σ=some (vi (Bk c k))) (hl:∀ c σ,C.O 12 [vi c] σ=some (vs (lineF c)))
 (t:List Nat) (c many:Int) (ms:List Mk) (h0:0<=many) (h1:many<=100) (hml:ms.length<=10000) :
 Ai C (fun fl σ'=>∃ ds:List Deed,ds.length=many.toNat/\DOk t ms ds 0/\(∀ d∈ds,E0 d)/\EA fl=.ref 0/\σ'=[.list (ds.map fun d=>.d d.data)]) Fdeeds.body (AV Fdeeds [vs t,vi c,vi many,.d (dms ms)]) []:=by
 show Ai C _ _ [some (vs t),some (vi c),some (vi many),some (.d (dms ms)),none,none,none,none,none,none,none,none,none] []
 refine Ck (ws:=[]) rfl ?_
 refine Az (v:=vi 0) rfl ?_
 let K:Nat->Option V->Option V->Option V->Option V->Option V->Option V->Option V->Af:=fun own z6 z7 z8 z9 z10 z11 z12=>[some (vs t),some (vi c),some (vi many),some (.d (dms ms)),some (.ref 0),some (vi own),z6,z7,z8,z9,z10,z11,z12]
 refine go_for1 (l:=List.range many.toNat) (fun j:Nat=>vi (j:Int)) (fun p ρ σ=>∃ ds own,DsAt t ms p.length ds own/\(∃ z6 z7 z8 z9 z10 z11 z12,ρ=K own z6 z7 z8 z9 z10 z11 z12)/\σ=[.list (ds.map fun d=>.d d.data)])
  (it_rg rfl (by omega) (by omega)) ⟨[],0,⟨rfl,rfl,trivial,fun d h=>nomatch h⟩,⟨none,none,none,none,none,none,none,rfl⟩,rfl⟩ ?_ ?_
 ·rintro p j q ρ σ hp ⟨ds,own,D,⟨z6,z7,z8,z9,z10,z11,z12,rfl⟩,rfl⟩
  have hpl:p.length < 100:=by
   have:=congrArg List.length hp
   rw [List.length_range,List.length_append,List.length_cons] at this; omega
  have hdl:ds.length < 100:=D.len▸hpl
  have hon:own<=100:=by rw [D.own]; exact Nat.le_trans (adds_le ds) (Nat.le_of_lt hdl)
  have hll:(ds.map fun d=>V.d d.data).length < line:=by rw [List.length_map]; exact Nat.lt_trans hdl (by decide)
  have fin:∀ (d:Deed) (own':Nat) (ρ:Af),own'=own+(if Dr d then 1 else 0)->E0 d->(∀ m,d.mark=some m->m∈ms\/(m.1=t/\0<=m.2/\m.2 < (own:Int)))->(∃ z6 z7 z8 z9 z10 z11 z12,ρ=K own' z6 z7 z8 z9 z10 z11 z12) ->
   ∃ ρ',Fl.next ρ=.next ρ'/\∃ ds' own,DsAt t ms (p++[j]).length ds' own/\(∃ z6 z7 z8 z9 z10 z11 z12,ρ'=K own z6 z7 z8 z9 z10 z11 z12)/\([O.list ((ds.map fun d=>V.d d.data)++[V.d d.data])]:Aa)=[O.list (ds'.map fun d=>V.d d.data)]:=fun d own' ρ ho hd hm hρ =>
   ⟨ρ,rfl,ds++[d],own',by rw [List.length_append]; exact D.snoc ho hd hm,hρ,by rw [List.map_append]; rfl⟩
  have hown:(ev C.O (.comp (.tup (.cons (.var 0) (.cons (.var 12) .nil))) [12] (.range (.cons (.var 5) .nil)) .nil)).v (K own (some (vi j)) z7 z8 z9 z10 z11 z12) [.list (ds.map fun d=>.d d.data)]=some (.d (dms ((List.range own).map fun j:Nat=>(t,(j:Int))))):=by
   rw [e_compR (fun i=>BE (some (t,i))) (m:=own) rfl (by omega) (by omega) (fun i _ _=>ET (BB rfl rfl) rfl),Int.toNat_natCast,own_data]
  obtain ⟨ks,hks,hks1,hks2⟩:∃ ks:List Mk,C.v (.bin .Add (.var 3) (.comp (.tup (.cons (.var 0) (.cons (.var 12) .nil))) [12] (.range (.cons (.var 5) .nil)) .nil)) (K own (some (vi j)) z7 z8 z9 z10 z11 z12) [.list (ds.map fun d=>.d d.data)]=some (.d (dms ks))/\(∀ m∈ks,m∈ms\/(m.1=t/\0<=m.2/\m.2 < (own:Int)))/\ks.length<=10100:=by
   refine ⟨ms++(List.range own).map (fun j:Nat=>(t,(j:Int))),Ah rfl hown ((b_catL _ _ ?_).trans (by rw [<-List.map_append])),?_,?_⟩
   ·simp [line]; omega
   ·intro m hm
    rcases List.mem_append.mp hm with hm | hm
    ·exact .inl hm
    ·obtain ⟨i,hi,rfl⟩:=List.mem_map.mp hm
     have:=List.mem_range.mp hi
     exact .inr ⟨rfl,Int.natCast_nonneg i,by show (i:Int) < _; omega⟩
   ·simp; omega
  refine Az hks ?_
  refine Az (v:=vi (Bk c j)) (FW (BB rfl rfl) (hm _ _ _)) ?_
  generalize Bk c j=L
  have hat:=A0 (L.fdiv 5) (j:=(ks.length:Int)+1) (by omega)
  have hkl:∀ σ,Bx .len σ [.d (dms ks)]=some (vi ks.length):=fun σ=>D8.trans (by rw [List.length_map])
  refine Az (v:=vi ((L.fdiv 5).fmod ((ks.length:Int)+1))) (Ah (Ah rfl rfl (B2 (by decide))) (Ah (Bc (Ax rfl) (hkl _)) rfl rfl) (A2 (by omega))) ?_
  generalize (L.fdiv 5).fmod ((ks.length:Int)+1)=a at hat
  refine Az (v:=vs (lineF (L.fdiv 365))) (FW (Ax (Ah rfl rfl (B2 (by decide)))) (hl _ _)) ?_
  have hlo:=lineF_ok (L.fdiv 365)
  generalize lineF (L.fdiv 365)=l at hlo
  have pick:∀ i:Int,0<=i->i < ks.length->∃ m,m∈ks/\∀ σ,AI (.d (dms ks)) (vi i) σ=some (vm m):=fun i i0 i1=>by
   obtain ⟨m,hm1⟩:∃ m,ks[i.toNat]? = some m:=⟨_,List.getElem?_eq_getElem (by omega)⟩
   exact ⟨m,List.mem_of_getElem? hm1,fun σ=>Gm _ i0 (by omega) (by rw [List.getElem?_map,hm1]; rfl)⟩
  refine AC (t:=decide (L.fmod 5 < 3) || !(!(ks.map fun m=>BE (some m)).isEmpty)) (DC (A5 (Ah rfl rfl (A2 (by decide))) rfl c_lt) fun _=>rfl) (fun h=>?_) (fun h=>?_)
  ·refine Az (v:=.d .none) rfl ?_
   refine BV (M:=fun ρ σ'=>(∃ o:Option Mk,(∀ m,o=some m->m∈ks)/\ρ=K own (some (vi j)) (some (.d (dms ks))) (some (vi L)) (some (vi a)) (some (vs l)) (some (.d (BE o))) z12)/\[.list (ds.map fun d=>.d d.data)]=σ') ?_ ?_
   ·refine AC (t:=decide (a > 0)) rfl (fun h=>?_) (fun h=>?_)
    ·have h:=of_decide_eq_true h
     obtain ⟨m,hm1,hm2⟩:=pick (a-1) (by omega) (by omega)
     exact Az (v:=vm m) (Ak rfl (Ah rfl rfl rfl) (hm2 _)) (Ac (Ac ⟨_,rfl,⟨some m,(fun m' e=>Option.some.inj e▸hm1),rfl⟩,rfl⟩))
    ·exact Ac (Ac ⟨_,rfl,⟨none,(fun m' e=>Ab e),rfl⟩,rfl⟩)
   rintro _ _ ⟨⟨o,ho,rfl⟩,rfl⟩
   refine B4 (k:=0) (y:=.d (Deed.data ⟨kadd,o,some l⟩)) rfl (Ax (ET (e_r3 (x:=vs kadd) (congrArg (fun s=>some (V.d (.str s))) k_add) rfl rfl) rfl)) rfl hll ?_
   exact Az (v:=vi ((own:Int)+1)) rfl (Ac (Ac (fin ⟨kadd,o,some l⟩ (own+1) _ rfl ⟨.inl ⟨rfl,l,rfl,hlo⟩,fun _ e=>Option.some.inj e▸hlo⟩ (fun m e=>hks1 m (ho m e)) ⟨_,_,_,_,_,_,_,rfl⟩)))
  ·have h2:=(Bool.or_eq_false_iff.mp h).2
   have hpos:0 < ks.length:=by
    cases ks with
    | nil=>cases h2
    | cons _ _=>exact Nat.succ_pos _
   have hi:=A0 a (j:=(ks.length:Int)) (by omega)
   obtain ⟨m,hm1,hm2⟩:=pick (a.fmod ks.length) hi.1 hi.2
   refine AC (t:=decide (L.fmod 5=3)) (A5 (Ah rfl rfl (A2 (by decide))) rfl B1) (fun h=>?_) (fun h=>?_)
   ·exact B4 (k:=0) (y:=.d (Deed.data ⟨kcut,some m,none⟩)) rfl (Ax (ET (BB (x:=vs kcut) (congrArg (fun s=>some (V.d (.str s))) k_cut) (Ak rfl (Ah rfl (Bc (Ax rfl) (hkl _)) (A2 (by omega))) (hm2 _))) rfl)) rfl hll (Ac (Ac (Ac (fin ⟨kcut,some m,none⟩ own _ rfl ⟨.inr (.inr ⟨rfl,m,rfl⟩),fun _ e=>Ab e⟩ (fun m' e=>Option.some.inj e▸hks1 m hm1) ⟨_,_,_,_,_,_,_,rfl⟩))))
   ·exact B4 (k:=0) (y:=.d (Deed.data ⟨kset,some m,some l⟩)) rfl (Ax (ET (e_r3 (x:=vs kset) (congrArg (fun s=>some (V.d (.str s))) k_set) (Ak rfl (Ah rfl (Bc (Ax rfl) (hkl _)) (A2 (by omega))) (hm2 _)) rfl) rfl)) rfl hll (Ac (Ac (Ac (fin ⟨kset,some m,some l⟩ own _ rfl ⟨.inr (.inl ⟨rfl,m,l,rfl,rfl,hlo⟩),fun _ e=>Option.some.inj e▸hlo⟩ (fun m' e=>Option.some.inj e▸hks1 m hm1) ⟨_,_,_,_,_,_,_,rfl⟩))))
 ·rintro ρ σ ⟨ds,own,D,⟨z6,z7,z8,z9,z10,z11,z12,rfl⟩,rfl⟩
  exact AE (v:=.ref 0) rfl ⟨ds,by rw [D.len,List.length_range],D.dok,D.ok,rfl,rfl⟩
theorem fn_deeds (t:List Nat) (c many:Int) (ms:List Mk) (h0:0<=many) (h1:many<=100) (hml:ms.length<=10000):∃ ds:List Deed,ds.length=many.toNat/\DOk t ms ds 0/\(∀ d∈ds,E0 d)/\∀ σ,FN 3 15 [vs t,vi c,vi many,.d (dms ms)] σ (.d (dds ds)) σ:=by
 obtain ⟨v,σ',⟨ds,k1,k2,k3,k4,k5⟩,h⟩:=FN.ends (C:=C2 2 (Nat.le_refl _)) (f:=15) (fn:=Fdeeds) (zs:=[vs t,vi c,vi many,.d (dms ms)]) (σ:=[]) (R:=fun v σ'=>∃ ds:List Deed,ds.length=many.toNat/\DOk t ms ds 0/\(∀ d∈ds,E0 d)/\v=.ref 0/\σ'=[.list (ds.map fun d=>.d d.data)]) (by unfold Pg; rfl) rfl (show 1<=2 by decide) (run_deeds (fun _ _ _=>rfl) (fun _ _=>rfl) t c many ms h0 h1 hml)
 rw [k4,k5] at h
 exact ⟨ds,k1,k2,k3,fun σ=>(FA.seal (σ:=[]) (d:=dds ds) h ⟨_,rfl,Nat.zero_le _,by rw [List.map_map]; rfl⟩).any (all_cons (EJ _ _) (all_cons (EJ _ _) (all_cons (EJ _ _) (all_cons (EJ _ _) Cl))))⟩
end Mine
namespace Mine
open PySem
noncomputable def insL (x:List Nat):List (List Nat)->List (List Nat)
 | []=>[x]
 | y::r=>if decide (x < y) then x::y::r else y::insL x r
noncomputable def AZ:List (List Nat)->List (List Nat)
 | []=>[]
 | x::r=>insL x (AZ r)
theorem insStr_Tx (x:List Nat) (l:List (List Nat)):Dm (Tx x) (l.map Tx)=(insL x l).map Tx:=by
 induction l with
 | nil=>rfl
 | cons y l ih =>
  show (if AN (Tx x) (Tx y)=true then Tx x::Tx y::l.map Tx else Tx y::Dm (Tx x) (l.map Tx))=(if decide (x < y)=true then x::y::l else y::insL x l).map Tx
  rw [Tx_lt,ih]
  cases decide (x < y) <;> rfl
theorem G0 (l:List (List Nat)):Dh (l.map Tx)=(AZ l).map Tx:=by
 induction l with
 | nil=>rfl
 | cons y l ih =>
  show Dm (Tx y) (Dh (l.map Tx))=(insL y (AZ l)).map Tx
  rw [ih,insStr_Tx]
theorem Ce (l:List (List Nat)):(AZ l).Perm l:=by
 have ins:∀ (x:List Nat) (l:List (List Nat)),(insL x l).Perm (x::l):=by
  intro x l
  induction l with
  | nil=>exact .refl _
  | cons y l ih =>
   unfold insL
   split
   ·exact .refl _
   ·exact (ih.cons y).trans (.swap ..)
 induction l with
 | nil=>exact .refl _
 | cons y l ih=>exact (ins y _).trans (ih.cons y)
theorem isort_rise (l:List (List Nat)) (h:l.Nodup):(AZ l).Pairwise (· < ·):=by
 have h1:=C9 (l.map Tx)
 rw [G0] at h1
 have h1:((AZ l).map Tx).Pairwise fun a b=>AN b a=false:=h1
 rw [List.pairwise_map] at h1
 have h2:(AZ l).Nodup:=(Ce l).nodup_iff.mpr h
 refine (h1.and h2).imp fun {a b} q=>?_
 have q1:=q.1
 rw [Tx_lt] at q1
 exact Classical.byContradiction fun h=>q.2 (List.le_antisymm (List.not_lt.mp (of_decide_eq_false q1)) (List.not_lt.mp h))
theorem mapV_vs (l:List (List Nat)):C3 BA (l.map vs)=some (l.map Tx):=by
 rw [show l.map vs=vss (l.map Tx) by show _=(l.map Tx).map _; rw [List.map_map]; rfl]
 exact Fq _
theorem sort_vs {σ:Aa} {x:V} {l:List (List Nat)} (hx:Ag σ x=some (l.map vs)) (h:l.length < 64):Bx .sorted σ [x]=some (.d (dl (AZ l))):=by
 show (bmake1 .sorted σ x).bind mkL=_
 show ((Ag σ x).bind fun ws=>(C3 BA ws).bind fun ss=>if ss.length < 64 then some (vss (Dh ss)) else none).bind mkL=_
 rw [hx,bs,mapV_vs,bs,if_pos (by rw [List.length_map]; exact h),bs,G0]
 have e:vss ((AZ l).map Tx)=((AZ l).map fun t=>PyData.str (Tx t)).map V.d:=by
  show ((AZ l).map Tx).map _=_
  rw [List.map_map,List.map_map]; rfl
 rw [e]
 exact FS _ (by rw [List.length_map,(Ce l).length_eq]; exact Nat.le_trans (Nat.le_of_lt h) (by decide))
theorem enumV_eq (ds:List PyData) (k:Nat):FJ k ds=(ds.zipIdx k).map fun p=>V.d (.tuple [.int (p.2:Int),p.1]):=by
 induction ds generalizing k with
 | nil=>rfl
 | cons x a ih=>show _::FJ (k+1) a=_; rw [ih]; rfl
theorem idx_fst:∀ (l:List Ch) (k:Nat),(l.zipIdx k).map (·.1.1)=l.map (·.1)
 | [],_=>rfl
 | _::l,k=>by rw [List.zipIdx_cons,List.map_cons,List.map_cons,idx_fst l (k+1)]
theorem listD_map {α:Type} {σ:Aa} {k:Nat} {l:List α} {d:α->PyData} (h:σ[k]? = some (.list (l.map fun a=>V.d (d a)))):listD σ (.ref k)=some (l.map d):=by
 show (BF σ[k]?).bind CS=_
 rw [h]
 show CS (l.map fun a=>V.d (d a))=_
 rw [show (l.map fun a=>V.d (d a))=(l.map d).map V.d by rw [List.map_map]; rfl,BX]
noncomputable abbrev lcs (cs:List Ch):O:=.list (cs.map vc)
theorem run_leans {C:Cfg} (hm:∀ c k σ,C.O 10 [vi c,vi k] σ=some (vi (Bk c k))) (c:Int) (cs:List Ch) (hcs:cs.length<=60) :
 Ai C (fun fl σ'=>∃ fs:List (List Nat),fs.Sublist (cs.map (·.1))/\EA fl=.d (dl (AZ fs))/\σ'=[lcs cs,.list (fs.map vs)]) Fleans.body (AV Fleans [vi c,.ref 0]) [lcs cs]:=by
 show Ai C _ _ [some (vi c),some (.ref 0),none,none,none,none,none] [lcs cs]
 refine Az (v:=vi (Bk c 1)) (FW (BB rfl rfl) (hm _ _ _)) ?_
 refine Ck (ws:=[]) rfl ?_
 let K:Int->Option V->Option V->Option V->Af:=fun L z4 z5 z6=>[some (vi c),some (.ref 0),some (vi L),some (.ref 1),z4,z5,z6]
 have hlen:∀ o,Bx .len [lcs cs,o] [.ref 0]=some (vi cs.length):=fun o=>(len_r rfl).trans (by rw [List.length_map])
 refine go_for (l:=cs.zipIdx) (kps:=[(0,(cs.map Ch.data).map V.d)]) (fun p=>V.d (.tuple [.int (p.2:Int),Ch.data p.1])) (fun p ρ σ=>∃ fs:List (List Nat),fs.Sublist (p.map (·.1.1))/\(∃ L z4 z5 z6,ρ=K L z4 z5 z6)/\σ=[lcs cs,.list (fs.map vs)]) ?_ ?_ (fun _ _=>.inr ⟨_,rfl,rfl⟩) ⟨[],.refl _,⟨_,none,none,none,rfl⟩,rfl⟩ ?_ ?_
 ·show (listD [lcs cs,.list []] (.ref 0)).bind (fun ds=>some (FJ 0 ds,C4 (.ref 0) (ds.map .d)))=_
  rw [listD_map (l:=cs) (d:=Ch.data) rfl,bs,enumV_eq,List.zipIdx_map,List.map_map]
  rfl
 ·rintro p ρ σ ⟨fs,_,_,rfl⟩ k ws hk
  obtain ⟨rfl,rfl⟩:=Prod.mk.inj (List.mem_singleton.mp hk)
  rw [List.map_map]; rfl
 ·rintro p ⟨ch,i⟩ q ρ σ hp ⟨fs,g1,⟨L,z4,z5,z6,rfl⟩,rfl⟩
  have hfl:fs.length < 100:=by
   have h1:=g1.length_le
   have h2:=congrArg List.length hp
   simp at h1 h2; omega
  show Ai C _ _ (K L (some (vi i)) (some (vc ch)) z6) [lcs cs,.list (fs.map vs)]
  have h3:=A0 c (j:=3) (by decide)
  refine Az (v:=vb (decide ((i:Int)=cs.length-1)&&decide (c.fmod 7=3))) (e_and2v (Fx rfl (Ah (Bc (Ax rfl) (hlen _)) rfl rfl) B1) fun _=>Fx (Ah rfl rfl (A2 (by decide))) rfl B1) ?_
  generalize (decide ((i:Int)=cs.length-1)&&decide (c.fmod 7=3))=last
  refine BV (M:=fun ρ σ=>∃ fs':List (List Nat),fs'.Sublist ((p++[(ch,i)]).map (·.1.1))/\ρ=K L (some (vi i)) (some (vc ch)) (some (vb last))/\σ=[lcs cs,.list (fs'.map vs)]) ?_ ?_
  ·refine AC (t:=last||(decide (L.fmod (2+c.fmod 3)=0)&&(decide ((cs.length:Int) < 20)||decide ((i:Int).fmod 7=(L.fdiv 4).fmod 7))))
    (DC rfl fun _=>CQ (A5 (Ah rfl (Ah rfl (Ah rfl rfl (A2 (by decide))) rfl) (A2 (by omega))) rfl B1) fun _=>DC (A5 (Bc (Ax rfl) (hlen _)) rfl c_lt) fun _=>A5 (Ah rfl rfl (A2 (by decide))) (Ah (Ah rfl rfl (B2 (by decide))) rfl (A2 (by decide))) B1) (fun _=>?_) (fun _=>?_)
   ·refine B4 (k:=1) (y:=vs ch.1) rfl (Ax (Ak rfl rfl (Bv ch))) rfl (by rw [List.length_map]; exact Nat.lt_trans hfl (by decide)) (Ac (Ac ⟨_,rfl,fs++[ch.1],?_,rfl,?_⟩))
    ·rw [List.map_append]; exact g1.append (.refl _)
    ·rw [List.map_append]; rfl
   ·exact Ac (Ac ⟨_,rfl,fs,by rw [List.map_append]; exact g1.trans (List.sublist_append_left _ _),rfl,rfl⟩)
  rintro _ _ ⟨fs',k1,rfl,rfl⟩
  refine Az (v:=vi (L.fdiv 3)) (Ah rfl rfl (B2 (by decide))) ?_
  refine AC (t:=decide (L.fdiv 3 < 100)) rfl (fun _=>?_) (fun _=>?_)
  ·exact Az (v:=vi (Bk c ((i:Int)+2))) (FW (BB rfl rfl) (hm _ _ _)) (Ac (Ac ⟨_,rfl,fs',k1,⟨_,_,_,_,rfl⟩,rfl⟩))
  ·exact Ac (Ac ⟨_,rfl,fs',k1,⟨_,_,_,_,rfl⟩,rfl⟩)
 ·rintro ρ σ ⟨fs,g1,⟨L,z4,z5,z6,rfl⟩,rfl⟩
  have g2:fs.Sublist (cs.map (·.1)):=by rw [<-idx_fst cs 0]; exact g1
  have hl:=g2.length_le
  rw [List.length_map] at hl
  exact AE (v:=.d (dl (AZ fs))) (Bc (Ax rfl) (sort_vs (x:=.ref 1) (CH rfl) (by omega))) ⟨fs,g2,rfl,rfl⟩
theorem low_cs (cs:List Ch):∀ (k:Nat) o,([lcs cs]:Aa)[k]? = some o->lowO 1 o:=fun k o e=>by
 cases k with
 | zero =>
  rw [<-Option.some.inj (show some (lcs cs)=some o from e)]
  intro v hv
  obtain ⟨c,_,rfl⟩:=List.mem_map.mp hv
  exact trivial
 | succ k=>exact Ab e
theorem fn_leans {τ:Aa} (c:Int) (cs:List Ch) (hcs:cs.length<=60):∃ fs:List (List Nat),fs.Sublist (cs.map (·.1))/\FN 3 13 [vi c,.ref 0] (lcs cs::τ) (.d (dl (AZ fs))) (lcs cs::τ):=by
 obtain ⟨v,σ',⟨fs,k1,k2,k3⟩,h⟩:=FN.ends (C:=C1 2 (Nat.le_refl _)) (f:=13) (fn:=Fleans) (zs:=[vi c,.ref 0]) (σ:=[lcs cs]) (R:=fun v σ'=>∃ fs:List (List Nat),fs.Sublist (cs.map (·.1))/\v=.d (dl (AZ fs))/\σ'=[lcs cs,.list (fs.map vs)]) (by unfold Pg; rfl) rfl (show 1<=2 by decide) (run_leans (fun _ _ _=>rfl) c cs hcs)
 rw [k2,k3] at h
 exact ⟨fs,k1,FA.tail (σ:=[lcs cs]) (σ':=[lcs cs]) (FA.seal (σ:=[lcs cs]) (τ:=[.list (fs.map vs)]) h rfl) rfl (all_cons (EJ _ _) (all_cons (show 0 < 1 by decide) Cl)) (low_cs cs)⟩
end Mine
namespace Mine
open PySem
structure GenCh (c:Ch):Prop where
 name:BU c.1=true
 few:c.2.1.length<=60
 rise:c.2.1.Pairwise (· < ·)
 deeds:c.2.2.length<=20
 ok:∀ d∈c.2.2,E0 d
theorem lmarks_snoc (pre:List Ch) (c:Ch) (ls:List (List Nat)):Fr (pre++[c]) ls=Fr pre ls++(if c.1∈ls then ownM c.1 0 (De c.2.2) else []):=by
 unfold Fr
 rw [List.filter_append,List.flatMap_append]
 congr 1
 by_cases h:c.1∈ls
 ·rw [if_pos h,List.filter_cons_of_pos (by exact decide_eq_true h)]; simp
 ·rw [if_neg h,List.filter_cons_of_neg (by simpa using h)]; rfl
theorem FM.snoc {cs:List Ch} {c:Ch} (H:FM cs) (hn:c.1∉cs.map (·.1)) (hl:∀ l∈c.2.1,l∈cs.map (·.1)) (hd:DOk c.1 (Fr cs c.2.1) c.2.2 0):FM (cs++[c]):=by
 refine ⟨?_,fun pre x post e=>?_⟩
 ·rw [List.map_append,List.nodup_append]
  refine ⟨H.nd,by simp,fun a ha b hb e=>hn ?_⟩
  have:b=c.1:=by simpa using hb
  rw [<-this,<-e]; exact ha
 ·rcases List.eq_nil_or_concat post with rfl | ⟨post',y,rfl⟩
  ·have e':cs++[c]=pre++[x]:=e
   obtain ⟨rfl,e2⟩:=List.append_inj' e' rfl
   cases e2
   exact ⟨hl,hd⟩
  ·have e':cs++[c]=(pre++x::post')++[y]:=by rw [e]; simp
   obtain ⟨e1,_⟩:=List.append_inj' e' rfl
   exact H.ok _ _ _ e1
theorem k_zero:Str.ofString "0" = Tx [48]:=by decide +kernel
theorem zero_name:BU [48]=true:=by decide
noncomputable abbrev scD (ns:List Int):PyData:=.list (ns.map .int)
theorem sub_sc {σ:Aa} {ns:List Int} (i:Int) (h0:0<=i) (h:i < ns.length) (hn:ns.length<=1000):AI (.d (scD ns)) (vi i) σ=some (vi (ns.getD i.toNat 0)):=by
 have hi:i.toNat < ns.length:=by omega
 refine Gm i h0 (by omega) ?_
 rw [List.getElem?_map,List.getElem?_eq_getElem hi]
 show some (PyData.int ns[i.toNat])=some (.int (ns.getD i.toNat 0))
 rw [List.getD_eq_getElem?_getD,List.getElem?_eq_getElem hi]; rfl
noncomputable abbrev ltk (cs:List Ch):O:=.list (([48]::cs.map (·.1)).map vs)
noncomputable def chBody:S:=match DK.body with | .cons _ (.cons _ (.cons (.for_ _ _ b) _))=>b | _=>.nil
theorem turn_changes {C:Cfg} (hn:3<=C.n) (ns:List Int) (most k:Int) (hns:ns.length<=1000) (h0:0<=k) (hk:4 * (k+1)<=ns.length) (cs:List Ch) (hcs:cs.length < 60) (hg:∀ c∈cs,GenCh c) (hok:FM cs) (hnd:([48]::cs.map (·.1)).Nodup) (z5 z6 z7 z8 z9:Option V) :
 Ai C (fun fl σ'=>∃ ρ',fl=.next ρ'/\∃ (c:Ch) (z5 z6 z7 z8 z9:Option V),GenCh c/\FM (cs++[c])/\([48]::(cs++[c]).map (·.1)).Nodup/\ρ'=[some (.d (scD ns)),some (vi most),some (.ref 0),some (.ref 1),some (vi k),z5,z6,z7,z8,z9]/\σ'=[lcs (cs++[c]),ltk (cs++[c])])
  chBody [some (.d (scD ns)),some (vi most),some (.ref 0),some (.ref 1),some (vi k),z5,z6,z7,z8,z9] [lcs cs,ltk cs]:=by
 have hnm:∀ x∈([48]::cs.map (·.1)),BU x=true:=by
  intro x hx
  rcases List.mem_cons.mp hx with rfl | hx
  ·exact zero_name
  ·obtain ⟨c,hc,rfl⟩:=List.mem_map.mp hx
   exact (hg c hc).name
 have m4:∀ {e σ z5 z6 z7 z8 z9},(ev C.O (.bin .Mult (.cst (.int 4)) (.var 4))).v [some (.d (scD ns)),some (vi most),some (.ref 0),some (.ref 1),some (vi k),z5,z6,z7,z8,z9] σ=e ↔ some (vi (4 * k))=e:=by
  intro e σ z5 z6 z7 z8 z9
  rw [Ah rfl rfl (b_mul (sm4 k))]
 have cell:∀ (j:Int) {σ z5 z6 z7 z8 z9},0<=j->j < 4->(ev C.O (.sub (.var 0) (.bin .Add (.bin .Mult (.cst (.int 4)) (.var 4)) (.cst (.int j))))).v [some (.d (scD ns)),some (vi most),some (.ref 0),some (.ref 1),some (vi k),z5,z6,z7,z8,z9] σ=some (vi (ns.getD (4 * k+j).toNat 0)):=fun j {σ z5 z6 z7 z8 z9} j0 j4 =>
  Ak rfl (Ah (m4.mpr rfl) rfl rfl) (sub_sc (4 * k+j) (by omega) (by omega) hns)
 obtain ⟨t,t1,t2,t3⟩:=fn_name (σ:=[lcs cs,ltk cs]) (x:=.ref 1) (ns.getD (4 * k).toNat 0) ([48]::cs.map (·.1)) (CH rfl) hnm (by rw [List.length_cons,List.length_map]; omega)
 refine AS (v:=vs t) rfl (.fcall ((Ad C.ok _).row (BB (Ak rfl (m4.mpr rfl) (sub_sc (4 * k) (by omega) (by omega) hns)) rfl)) (t3.more hn)) ?_
 refine B4 (k:=1) (y:=vs t) rfl rfl rfl (by rw [List.length_map,List.length_cons,List.length_map]; exact Nat.lt_trans (Nat.succ_lt_succ hcs) (by decide)) ?_
 obtain ⟨fs,f1,f2⟩:=fn_leans (τ:=[.list (([48]::cs.map (·.1)).map vs++[vs t])]) (ns.getD (4 * k+1).toNat 0) cs (Nat.le_of_lt hcs)
 refine AS (v:=.d (dl (AZ fs))) rfl (.fcall ((Ad C.ok _).row (BB (cell 1 (by decide) (by decide)) rfl)) (f2.more hn)) ?_
 refine Az (v:=.d (.list [])) rfl ?_
 have hfl:(AZ fs).length<=60:=by
  rw [(Ce fs).length_eq]
  have:=f1.length_le
  rw [List.length_map] at this; omega
 refine go_for (l:=cs) (kps:=[(0,cs.map vc)]) vc (fun pre ρ σ=>(∃ ms,ms=Fr pre (AZ fs)/\ms.length<=20 * pre.length/\∃ z8,ρ=[some (.d (scD ns)),some (vi most),some (.ref 0),some (.ref 1),some (vi k),some (vs t),some (.d (dl (AZ fs))),some (.d (dms ms)),z8,z9])/\σ=[lcs cs,.list (([48]::cs.map (·.1)).map vs++[vs t])]) rfl ?_ (fun _ _=>.inl rfl) ⟨⟨[],rfl,Nat.zero_le _,_,rfl⟩,rfl⟩ ?_ ?_
 ·rintro p ρ σ ⟨_,rfl⟩ k ws hk
  obtain ⟨rfl,rfl⟩:=Prod.mk.inj (List.mem_singleton.mp hk)
  rfl
 ·rintro p c q ρ σ hp ⟨⟨ms,m1,m2,z8,rfl⟩,rfl⟩
  have hc:GenCh c:=hg c (by rw [hp]; simp)
  have hpl:p.length < 60:=by have:=congrArg List.length hp; simp at this; omega
  have hsn:=lmarks_snoc p c (AZ fs)
  have hjd:=adds_le c.2.2
  have hcd:=hc.deeds
  refine AC (t:=decide (c.1∈AZ fs)) (A5 (Ak rfl rfl (Bv c)) rfl (in_strs _ _)) (fun h=>?_) (fun h=>?_)
  ·have h:=of_decide_eq_true h
   refine AS (v:=.d (dms (ms++ownM c.1 0 (De c.2.2)))) rfl (Fu (ws:=((ms++ownM c.1 0 (De c.2.2)).map fun m=>BE (some m)).map V.d) (.bin ((Ad C.ok (.var 7)).v rfl) (.fcall ((Ad C.ok _).row (Ax rfl)) ((fn_marks c (by omega)).more (Nat.le_trans (by decide) hn))) (catL_ok ?_)) (FS _ ?_)) (Ac (Ac ⟨_,rfl,⟨_,by rw [hsn,if_pos h,m1],?_,_,rfl⟩,rfl⟩))
   ·show (if _ then _ else _)=_
    rw [if_pos (by simp [line,DO]; omega)]
    simp [List.map_append]
   ·simp [line,DO]; omega
   ·simp [DO]; omega
  ·exact Ac (Ac ⟨_,rfl,⟨ms,by rw [hsn,if_neg (of_decide_eq_false h),List.append_nil]; exact m1,by rw [List.length_append]; omega,_,rfl⟩,rfl⟩)
 rintro _ _ ⟨⟨ms,m1,m2,z8,rfl⟩,rfl⟩
 have h5:=A0 (ns.getD (4 * k+3).toNat 0) (j:=5) (by decide)
 refine Az (v:=vi ((ns.getD (4 * k+3).toNat 0).fmod 5)) (Ah (cell 3 (by decide) (by decide)) rfl (A2 (by decide))) ?_
 refine BV (M:=fun ρ σ=>(∃ m:Int,0<=m/\m<=20/\ρ=[some (.d (scD ns)),some (vi most),some (.ref 0),some (.ref 1),some (vi k),some (vs t),some (.d (dl (AZ fs))),some (.d (dms ms)),z8,some (vi m)])/\σ=[lcs cs,.list (([48]::cs.map (·.1)).map vs++[vs t])]) ?_ ?_
 ·refine AC (t:=decide (((ns.getD (4 * k+3).toNat 0).fdiv 5).fmod 16=1)) (A5 (Ah (Ah (cell 3 (by decide) (by decide)) rfl (B2 (by decide))) rfl (A2 (by decide))) rfl B1) (fun h=>?_) (fun h=>?_)
  ·have h16:=A0 ((ns.getD (4 * k+3).toNat 0).fdiv 80) (j:=16) (by decide)
   exact Az (v:=vi (20-((ns.getD (4 * k+3).toNat 0).fdiv 80).fmod 16)) (Ah rfl (Ah (Ah (cell 3 (by decide) (by decide)) rfl (B2 (by decide))) rfl (A2 (by decide))) rfl) (Ac (Ac ⟨_,rfl,⟨_,by omega,by omega,rfl⟩,rfl⟩))
  ·exact Ac (Ac ⟨_,rfl,⟨_,h5.1,by omega,rfl⟩,rfl⟩)
 rintro _ _ ⟨⟨m,hm0,hm1,rfl⟩,rfl⟩
 obtain ⟨ds,d1,d2,d3,d4⟩:=fn_deeds t (ns.getD (4 * k+2).toNat 0) m ms hm0 (by omega) (by omega)
 refine go_expS (v:=vnone) (σ':=[.list (cs.map vc++[vc (t,AZ fs,ds)]),.list (([48]::cs.map (·.1)).map vs++[vs t])]) rfl (.lmeth (k:=0) (ws:=cs.map vc) basic_var slot_list_append type_list_append ((Ad C.ok (.var 2)).v rfl) (.cons (.tup (ds:=[.str (Tx t),dl (AZ fs),dds ds]) (.cons ((Ad C.ok (.var 5)).v rfl) (.cons ((Ad C.ok (.var 6)).v rfl) (.cons (.fcall ((Ad C.ok _).row (e_row rfl (e_r3 (cell 2 (by decide) (by decide)) rfl rfl))) ((d4 _).more hn)) .nil))) (show 3<=line by decide)) .nil) rfl rfl (GL (by rw [List.length_map]; exact Nat.lt_trans hcs (by decide)))) ?_
 have hfn:∀ l∈AZ fs,l∈cs.map (·.1):=fun l hl=>f1.subset ((Ce fs).mem_iff.mp hl)
 have hcn:t∉cs.map (·.1):=fun h=>t2 (.tail _ h)
 refine Ac ⟨_,rfl,(t,AZ fs,ds),some (vs t),some (.d (dl (AZ fs))),some (.d (dms ms)),z8,some (vi m),⟨t1,hfl,isort_rise fs (f1.nodup hok.nd),by rw [d1]; omega,d3⟩,hok.snoc hcn hfn (m1▸d2),?_,rfl,?_⟩
 ·have:[48]::(cs++[(t,AZ fs,ds)]).map (·.1)=([48]::cs.map (·.1))++[t]:=by simp
  rw [this,List.nodup_append]
  exact ⟨hnd,by simp,fun a ha b hb e=>t2 (by rw [<-List.mem_singleton.mp hb,<-e]; exact ha)⟩
 ·simp [lcs,ltk,List.map_append]
theorem min1 (m:Nat) (most:Int) (hm:m<=1000) (h0:0<=most) (h1:most<=60):0<=(if most < (m:Int).fdiv 4 then most else (m:Int).fdiv 4)/\(if most < (m:Int).fdiv 4 then most else (m:Int).fdiv 4)<=most/\4 * (if most < (m:Int).fdiv 4 then most else (m:Int).fdiv 4)<=m:=by
 rw [Int.fdiv_eq_ediv_of_nonneg _ (by decide)]
 split <;> omega
theorem run_changes {C:Cfg} (hn:3<=C.n) (ns:List Int) (most:Int) (hns:ns.length<=1000) (h0:0<=most) (h1:most<=60) :
 Ai C (fun fl σ'=>∃ cs:List Ch,(cs.length:Int)<=most/\(∀ c∈cs,GenCh c)/\FM cs/\[48]∉cs.map (·.1)/\EA fl=.ref 0/\σ'=[lcs cs,ltk cs]) DK.body (AV DK [.d (scD ns),vi most]) []:=by
 show Ai C _ (.cons _ (.cons _ (.cons (.for_ [4] _ chBody) _))) [some (.d (scD ns)),some (vi most),none,none,none,none,none,none,none,none] []
 refine Ck (ws:=[]) rfl ?_
 refine Ck (ws:=[vs [48]]) (by show (ev C.O (.lst _)).nl _ _=_; exact congrArg (fun s=>some [V.d (.str s)]) k_zero) ?_
 obtain ⟨m0,m1,m2⟩:=min1 ns.length most hns h0 h1
 have hr:(ev C.O (.cons (.bi .min (.cons (.bin .FloorDiv (.bi .len (.cons (.var 0) .nil)) (.cst (.int 4))) (.cons (.var 1) .nil))) .nil)).row [some (.d (scD ns)),some (vi most),some (.ref 0),some (.ref 1),none,none,none,none,none,none] [.list [],.list [vs [48]]]=some [vi (if most < (ns.length:Int).fdiv 4 then most else (ns.length:Int).fdiv 4)] :=
  Ax (Bc (BB (Ah (Bc (Ax rfl) (D8.trans (by rw [List.length_map]))) rfl (B2 (by decide))) rfl) rfl)
 generalize (if most < (ns.length:Int).fdiv 4 then most else (ns.length:Int).fdiv 4)=m at m0 m1 m2 hr
 refine go_for1 (l:=List.range m.toNat) (fun j:Nat=>vi (j:Int)) (fun pre ρ σ=>∃ cs:List Ch,cs.length=pre.length/\(∀ c∈cs,GenCh c)/\FM cs/\([48]::cs.map (·.1)).Nodup/\(∃ z4 z5 z6 z7 z8 z9,ρ=[some (.d (scD ns)),some (vi most),some (.ref 0),some (.ref 1),z4,z5,z6,z7,z8,z9])/\σ=[lcs cs,ltk cs])
  (it_rg hr (by omega) (by omega)) ⟨[],rfl,(fun c h=>nomatch h),⟨List.nodup_nil,fun pre c post e=>by simp at e⟩,by simp,⟨none,none,none,none,none,none,rfl⟩,rfl⟩ ?_ ?_
 ·rintro p j q ρ σ hp ⟨cs,g0,g1,g2,g3,⟨z4,z5,z6,z7,z8,z9,rfl⟩,rfl⟩
  have hj:j < m.toNat:=by
   have:j∈List.range m.toNat:=by rw [hp]; simp
   exact List.mem_range.mp this
  have hl:p.length < 60:=by
   have:=congrArg List.length hp
   simp at this; omega
  refine (turn_changes hn ns most (j:Int) hns (Int.natCast_nonneg _) (by omega) cs (by omega) g1 g2 g3 z5 z6 z7 z8 z9).mono fun fl σ' h=>?_
  obtain ⟨ρ',e,c,y5,y6,y7,y8,y9,k1,k2,k3,k4,k5⟩:=h
  refine ⟨ρ',e,cs++[c],by rw [List.length_append,List.length_append,g0]; rfl,fun x hx=>?_,k2,k3,⟨_,_,_,_,_,_,k4⟩,k5⟩
  rcases List.mem_append.mp hx with hx | hx
  ·exact g1 x hx
  ·rw [List.mem_singleton.mp hx]; exact k1
 ·rintro ρ σ ⟨cs,g0,g1,g2,g3,⟨z4,z5,z6,z7,z8,z9,rfl⟩,rfl⟩
  refine AE (v:=.ref 0) rfl ⟨cs,?_,g1,g2,(List.nodup_cons.mp g3).1,rfl,rfl⟩
  rw [List.length_range] at g0; omega
end Mine
namespace Mine
open PySem
theorem ne_int {σ:Aa} {i j:Int}:Ct .NotEq (vi i) (vi j) σ=some (!decide (i=j)):=by
 show Dt (Ct .Eq (vi i) (vi j) σ)=_
 rw [B1]; rfl
end Mine
namespace Mine
open PySem
theorem Gj (n:Nat) (a b:List Nat):eqN n (.str (Tx a)) (.str (Tx b))=some (decide (a=b)):=by
 rw [<-Tx_beq]
 cases n <;> rfl
theorem eqn_int (n:Nat) (a b:Int):eqN n (.int a) (.int b)=some (decide (a=b)):=by
 have h:(a == b)=decide (a=b):=by
  by_cases e:a=b
  ·rw [decide_eq_true e,beq_iff_eq.mpr e]
  ·rw [decide_eq_false e,beq_eq_false_iff_ne.mpr e]
 rw [<-h]
 cases n <;> rfl
theorem eqn_mk (n:Nat) (a b:Mk):eqN (n+1) (BE (some a)) (BE (some b))=some (decide (a=b)):=by
 show (eqN n (.str (Tx a.1)) (.str (Tx b.1))).bind (fun x=>((eqN n (.int a.2) (.int b.2)).bind fun y=>(some true).bind fun z=>some (y&&z)).bind fun y=>some (x&&y))=_
 rw [Gj,eqn_int]
 show some (decide (a.1=b.1)&&(decide (a.2=b.2)&&true))=_
 congr 1
 rw [Bool.and_true,<-Bool.decide_and]
 exact decide_eq_decide.mpr Prod.ext_iff.symm
theorem all_bools (bl:List Bool) (σ:Aa):Bx .all σ [.d (.list (bl.map .bool))]=some (vb (bl.all id)):=by
 have h:C3 EX ((bl.map PyData.bool).map V.d)=some bl:=by
  induction bl with
  | nil=>rfl
  | cons a l ih=>show (C3 EX ((l.map PyData.bool).map V.d)).bind _=_; rw [ih]; rfl
 show (C3 EX ((bl.map PyData.bool).map V.d)).bind _=_
 rw [h]; rfl
end Mine
namespace Mine
set_option tactic.hygienic true
set_option backward.match.sparseCases true
set_option genInjectivity true
inductive Ht (cs:List Ch):List Nat->Int->Prop
 | mk {c:Ch} (hc:c∈cs) (f:List Nat->Int) (h:∀ l∈c.2.1,Ht cs l (f l)):Ht cs c.1 (1+Dq (-1) (c.2.1.map f))
theorem ch_uniq {cs:List Ch} (hn:(cs.map (·.1)).Nodup) {a b:Ch} (ha:a∈cs) (hb:b∈cs) (e:a.1=b.1):a=b:=by
 induction cs with
 | nil=>cases ha
 | cons c cs ih =>
  rw [List.map_cons,List.nodup_cons] at hn
  rcases List.mem_cons.mp ha with ea | ha1
  ·rcases List.mem_cons.mp hb with eb | hb1
   ·rw [ea,eb]
   ·exact absurd (by rw [<-ea,e]; exact List.mem_map_of_mem hb1) hn.1
  ·rcases List.mem_cons.mp hb with eb | hb1
   ·exact absurd (by rw [<-eb,<-e]; exact List.mem_map_of_mem ha1) hn.1
   ·exact ih hn.2 ha1 hb1
theorem Ht.fun_ {cs:List Ch} (hn:(cs.map (·.1)).Nodup) {n:List Nat} {v:Int} (h:Ht cs n v):∀ w,Ht cs n w->v=w:=by
 induction h with
 | @mk c hc f h ih =>
  intro w hw
  generalize e:c.1=m at hw
  cases hw with
  | @mk d hd g h' =>
   have:=ch_uniq hn hc hd e
   subst this
   congr 2
   exact List.map_congr_left fun l hl=>ih l hl _ (h' l hl)
section
variable {cs:List Ch}
abbrev Gsl:=List (List Nat×Int)
def DZ (cs:List Ch) (h:Gsl):Prop:=∀ n v,Al h n=some v->Ht cs n v
def Full (cs:List Ch) (h:Gsl):Prop:=∀ c∈cs,(∀ l∈c.2.1,∃ v,Al h l=some v)->∃ v,Al h c.1=some v
theorem full_all (hn:(cs.map (·.1)).Nodup) {h:Gsl} (hg:DZ cs h) (hf:Full cs h) {n:List Nat} {v:Int} (H:Ht cs n v):Al h n=some v:=by
 induction H with
 | @mk c hc f h ih =>
  obtain ⟨w,hw⟩:=hf c hc fun l hl=>⟨_,ih l hl⟩
  rw [hw]
  exact congrArg some ((hg _ _ hw).fun_ hn _ (.mk hc f h))
theorem full_eq (hn:(cs.map (·.1)).Nodup) {h h':Gsl} (hg:DZ cs h) (hf:Full cs h) (hg':DZ cs h') (hf':Full cs h') (n:List Nat):Al h n=Al h' n:=by
 cases e:Al h n with
 | some v=>exact (full_all hn hg' hf' (hg _ _ e)).symm
 | none =>
  cases e':Al h' n with
  | none=>rfl
  | some v=>rw [full_all hn hg hf (hg' _ _ e')] at e; cases e
noncomputable def hval (h:Gsl) (ls:List (List Nat)):Int:=1+Dq (-1) (ls.map fun l=>(Al h l).getD 0)
noncomputable def DE (h:Gsl) (c:Ch):Bool:=c.2.1.all fun l=>(Al h l).isSome
theorem can_iff {h:Gsl} {c:Ch}:DE h c=true ↔ ∀ l∈c.2.1,∃ v,Al h l=some v:=by
 unfold DE
 rw [List.all_eq_true]
 exact ⟨fun H l hl=>Option.isSome_iff_exists.mp (H l hl),fun H l hl=>Option.isSome_iff_exists.mpr (H l hl)⟩
theorem good_snoc {h:Gsl} (hg:DZ cs h) {c:Ch} (hc:c∈cs) (hb:DE h c=true):DZ cs (h++[(c.1,hval h c.2.1)]):=by
 intro n v e
 cases q:Al h n with
 | some w =>
  rw [get_left q] at e
  exact hg n v (q.trans e)
 | none =>
  rw [Ft q,B0] at e
  by_cases en:c.1=n
  ·rw [if_pos en] at e
   have hv':v=hval h c.2.1:=(Option.some.inj e).symm
   rw [hv',<-en]
   refine .mk hc _ fun l hl=>?_
   obtain ⟨w,hw⟩:=can_iff.mp hb l hl
   rw [hw]; exact hg l w hw
  ·rw [if_neg en] at e; cases e
theorem snoc_has {h:Gsl} {k:List Nat} {w:Int} {n:List Nat}:(∃ v,Al (h++[(k,w)]) n=some v) ↔ n=k\/∃ v,Al h n=some v:=by
 rw [B5,B5,List.map_append,List.mem_append]
 constructor
 ·rintro (q | q)
  ·exact .inr q
  ·exact .inl (by simpa using q)
 ·rintro (q | q)
  ·exact .inr (by simpa using q)
  ·exact .inl q
noncomputable def AM:Gsl->List Ch->Gsl×List Ch
 | h,[]=>(h,[])
 | h,c::r=>if DE h c then AM (h++[(c.1,hval h c.2.1)]) r else ((AM h r).1,c::(AM h r).2)
theorem Eo:∀ (l:List Ch) (h:Gsl),DZ cs h->(∀ c∈l,c∈cs)->DZ cs (AM h l).1
 | [],h,hg,_=>hg
 | c::r,h,hg,hs=>by
  unfold AM
  split
  ·rename_i hb
   exact Eo r _ (good_snoc hg (hs c (.head _)) hb) fun d hd=>hs d (.tail _ hd)
  ·exact Eo r h hg fun d hd=>hs d (.tail _ hd)
theorem DN:∀ (l:List Ch) (h:Gsl) (n:List Nat),(∃ v,Al h n=some v)->∃ v,Al (AM h l).1 n=some v
 | [],_,_,e=>e
 | c::r,h,n,e=>by
  unfold AM
  split
  ·exact DN r _ n (snoc_has.mpr (.inr e))
  ·exact DN r h n e
theorem B3:∀ (l:List Ch) (h:Gsl),(AM h l).2.Sublist l
 | [],_=>.slnil
 | c::r,h=>by
  unfold AM
  split
  ·exact (B3 r _).cons _
  ·exact (List.cons_sublist_cons (a:=c)).mpr (B3 r h)
theorem GA:∀ (l:List Ch) (h:Gsl),∀ c∈l,c∈(AM h l).2\/∃ v,Al (AM h l).1 c.1=some v
 | [],_,_,hc=>by cases hc
 | c::r,h,d,hd=>by
  unfold AM
  split
  ·rcases List.mem_cons.mp hd with e | hd
   ·rw [e]; exact .inr (DN r _ _ (snoc_has.mpr (.inl rfl)))
   ·exact GA r _ d hd
  ·rcases List.mem_cons.mp hd with e | hd
   ·rw [e]; exact .inl (.head _)
   ·rcases GA r h d hd with q | q
    ·exact .inl (.tail _ q)
    ·exact .inr q
theorem F7:∀ (l:List Ch) (h:Gsl),(AM h l).2.length=l.length->(AM h l).1=h/\∀ c∈l,DE h c=false
 | [],_,_=>⟨rfl,fun c hc=>by cases hc⟩
 | c::r,h,e=>by
  unfold AM at e ⊢
  split at e
  ·have:=(B3 r (h++[(c.1,hval h c.2.1)])).length_le
   rw [List.length_cons] at e; omega
  ·rename_i hb
   rw [if_neg hb]
   have e':(AM h r).2.length=r.length:=Nat.succ.inj e
   obtain ⟨h1,h2⟩:=F7 r h e'
   refine ⟨h1,fun d hd=>?_⟩
   rcases List.mem_cons.mp hd with q | q
   ·rw [q]; exact Bool.not_eq_true _ |>.mp hb
   ·exact h2 d q
noncomputable def A9:Nat->Gsl->List Ch->Gsl×Bool
 | 0,h,_=>(h,false)
 | n+1,h,l=>if l.length=0 then (h,true) else if (AM h l).2.length=l.length then (h,false) else A9 n (AM h l).1 (AM h l).2
theorem G5:∀ (n:Nat) (h:Gsl) (l:List Ch),l.length < n->DZ cs h->(∀ c∈l,c∈cs)->(∀ c∈cs,c∈l\/∃ v,Al h c.1=some v) ->
 DZ cs (A9 n h l).1/\Full cs (A9 n h l).1/\((A9 n h l).2=true->∀ c∈cs,∃ v,Al (A9 n h l).1 c.1=some v)
 | 0,_,_,hl,_,_,_=>absurd hl (Nat.not_lt_zero _)
 | n+1,h,l,hl,hg,hs,hi=>by
  unfold A9
  split
  ·rename_i e
   have:l=[]:=List.eq_nil_of_length_eq_zero e
   subst this
   have all:∀ c∈cs,∃ v,Al h c.1=some v:=fun c hc=>(hi c hc).elim (fun q=>by cases q) id
   exact ⟨hg,fun c hc _=>all c hc,fun _=>all⟩
  ·split
   ·rename_i e
    obtain ⟨_,h2⟩:=F7 l h e
    refine ⟨hg,fun c hc hb=>?_,fun q=>by cases q⟩
    rcases hi c hc with q | q
    ·have:=h2 c q; rw [can_iff.mpr hb] at this; cases this
    ·exact q
   ·rename_i e0 e
    have hlt:(AM h l).2.length < l.length:=Nat.lt_of_le_of_ne (B3 l h).length_le e
    exact G5 n _ _ (by omega) (Eo l h hg hs) (fun c hc=>hs c ((B3 l h).subset hc)) fun c hc=>by
     rcases hi c hc with q | q
     ·exact GA l h c q
     ·exact .inr (DN l h _ q)
end
end Mine
namespace Mine
set_option tactic.hygienic true
set_option backward.match.sparseCases true
set_option genInjectivity true
section
variable {cs:List Ch}
noncomputable def Cq (h:Gsl) (c:Ch):Gsl:=if (Al h c.1).isNone&&DE h c then h++[(c.1,hval h c.2.1)] else h
noncomputable def Cr:Gsl->List Ch->Gsl
 | h,[]=>h
 | h,c::r=>Cr (Cq h c) r
noncomputable def AU:Nat->Gsl->List Ch->Gsl
 | 0,h,_=>h
 | n+1,h,l=>AU n (Cr h l) l
theorem lstep_good {h:Gsl} (hg:DZ cs h) {c:Ch} (hc:c∈cs):DZ cs (Cq h c):=by
 unfold Cq
 split
 ·rename_i hb
  rw [Bool.and_eq_true] at hb
  exact good_snoc hg hc hb.2
 ·exact hg
theorem levR_good:∀ (l:List Ch) (h:Gsl),DZ cs h->(∀ c∈l,c∈cs)->DZ cs (Cr h l)
 | [],_,hg,_=>hg
 | c::r,h,hg,hs=>levR_good r _ (lstep_good hg (hs c (.head _))) fun d hd=>hs d (.tail _ hd)
theorem FF:∀ (n:Nat) (h:Gsl),DZ cs h->DZ cs (AU n h cs)
 | 0,_,hg=>hg
 | n+1,h,hg=>FF n _ (levR_good cs h hg fun _ hc=>hc)
def FZ (cs:List Ch) (h:Gsl):Prop:=(h.map (·.1)).Nodup/\∀ n∈h.map (·.1),n∈cs.map (·.1)
theorem lstep_keys {h:Gsl} (hk:FZ cs h) {c:Ch} (hc:c∈cs):FZ cs (Cq h c):=by
 unfold Cq
 split
 ·rename_i hb
  rw [Bool.and_eq_true,Option.isNone_iff_eq_none] at hb
  have hn:=C6.mp hb.1
  refine ⟨?_,fun n hm=>?_⟩
  ·rw [List.map_append,List.nodup_append]
   exact ⟨hk.1,by simp,fun a ha b hb' e=>hn ((List.mem_singleton.mp (show b∈[c.1] from hb'))▸e▸ha)⟩
  ·rw [List.map_append] at hm
   rcases List.mem_append.mp hm with q | q
   ·exact hk.2 n q
   ·have:n=c.1:=by simpa using q
    rw [this]; exact List.mem_map_of_mem hc
 ·exact hk
theorem DQ:∀ (l:List Ch) (h:Gsl),FZ cs h->(∀ c∈l,c∈cs)->FZ cs (Cr h l)
 | [],_,hg,_=>hg
 | c::r,h,hg,hs=>DQ r _ (lstep_keys hg (hs c (.head _))) fun d hd=>hs d (.tail _ hd)
theorem BN:∀ (n:Nat) (h:Gsl),FZ cs h->FZ cs (AU n h cs)
 | 0,_,hg=>hg
 | n+1,h,hg=>BN n _ (DQ cs h hg fun _ hc=>hc)
theorem lstep_len (h:Gsl) (c:Ch):h.length<=(Cq h c).length:=by
 unfold Cq; split <;> simp
theorem GR:∀ (l:List Ch) (h:Gsl),h.length<=(Cr h l).length
 | [],_=>Nat.le_refl _
 | c::r,h=>Nat.le_trans (lstep_len h c) (GR r _)
theorem GQ:∀ (l:List Ch) (h:Gsl),(Cr h l).length=h.length->Cr h l=h/\∀ c∈l,DE h c=true->∃ v,Al h c.1=some v
 | [],_,_=>⟨rfl,fun c hc=>by cases hc⟩
 | c::r,h,e=>by
  have h1:=lstep_len h c
  have h2:=GR r (Cq h c)
  have e':(Cr (Cq h c) r).length=h.length:=e
  have hs:Cq h c=h/\(DE h c=true->∃ v,Al h c.1=some v):=by
   unfold Cq at h1 h2 e' ⊢
   split at h1
   ·rename_i hb
    rw [if_pos hb] at h2 e'
    simp at h2 e'; omega
   ·rename_i hb
    rw [if_neg hb]
    refine ⟨rfl,fun hc=>?_⟩
    rw [Bool.and_eq_true,not_and] at hb
    cases q:Al h c.1 with
    | none=>exact absurd hc (hb (by rw [q]; rfl))
    | some v=>exact ⟨v,rfl⟩
  have e2:(Cr h r).length=h.length:=by rw [hs.1] at e'; exact e'
  obtain ⟨k1,k2⟩:=GQ r h e2
  refine ⟨?_,fun d hd=>?_⟩
  ·show Cr (Cq h c) r=h
   rw [hs.1]; exact k1
  ·rcases List.mem_cons.mp hd with q | q
   ·rw [q]; exact hs.2
   ·exact k2 d q
theorem Di {α:Type} [DecidableEq α]:∀ (l m:List α),l.Nodup->(∀ x∈l,x∈m)->l.length<=m.length
 | [],m,_,_=>Nat.zero_le _
 | a::l,m,hn,hs=>by
  have ha:a∈m:=hs a (.head _)
  rw [List.nodup_cons] at hn
  have:=Di l (m.erase a) hn.2 (fun x hx=>(List.mem_erase_of_ne (fun e:x=a=>hn.1 (e▸hx))).mpr (hs x (.tail _ hx)))
  rw [List.length_erase_of_mem ha] at this
  have h0:0 < m.length:=List.length_pos_iff.mpr (fun e=>by simp [e] at ha)
  simp; omega
theorem stuck_full {h:Gsl} (e:(Cr h cs).length=h.length):Cr h cs=h/\Full cs h :=
 let k:=GQ cs h e
 ⟨k.1,fun c hc hb=>k.2 c hc (can_iff.mpr hb)⟩
theorem GP {h:Gsl} (e:Cr h cs=h):∀ n,AU n h cs=h
 | 0=>rfl
 | n+1=>by show AU n (Cr h cs) cs=h; rw [e]; exact GP e n
theorem FG:∀ (n:Nat) (h:Gsl),FZ cs h->cs.length<=n+h.length->Full cs (AU n h cs)
 | 0,h,hk,hl=>by
  intro c hc _
  rw [B5]
  apply Classical.byContradiction
  intro hno
  have:=Di (c.1::h.map (·.1)) (cs.map (·.1)) (List.nodup_cons.mpr ⟨hno,hk.1⟩) (fun x hx=>by
   rcases List.mem_cons.mp hx with q | q
   ·rw [q]; exact List.mem_map_of_mem hc
   ·exact hk.2 x q)
  simp at this hl; omega
 | n+1,h,hk,hl=>by
  show Full cs (AU n (Cr h cs) cs)
  have hle:=GR cs h
  by_cases e:(Cr h cs).length=h.length
  ·obtain ⟨k1,k2⟩:=stuck_full e
   rw [k1,GP k1]; exact k2
  ·exact FG n _ (DQ cs h hk fun _ hc=>hc) (by omega)
theorem ER (hn:(cs.map (·.1)).Nodup):(∀ n,Al (A9 (cs.length+1) [] cs).1 n=Al (AU cs.length [] cs) n)/\((A9 (cs.length+1) [] cs).2=true->(AU cs.length [] cs).length=cs.length):=by
 have g0:DZ cs []:=fun n v e=>by cases e
 have k0:FZ cs []:=⟨List.nodup_nil,fun n h=>by cases h⟩
 obtain ⟨r1,r2,r3⟩:=G5 (cs:=cs) (cs.length+1) [] cs (Nat.lt_succ_self _) g0 (fun _ h=>h) fun c hc=>.inl hc
 have l1:=FF cs.length [] g0
 have l2:=FG cs.length [] k0 (Nat.le_add_right _ _)
 have l3:=BN cs.length [] k0
 have e:=full_eq hn r1 r2 l1 l2
 refine ⟨e,fun q=>?_⟩
 have h1:=Di ((AU cs.length [] cs).map (·.1)) (cs.map (·.1)) l3.1 l3.2
 have h2:=Di (cs.map (·.1)) ((AU cs.length [] cs).map (·.1)) hn (fun x hx=>by
  obtain ⟨c,hc,rfl⟩:=List.mem_map.mp hx
  obtain ⟨v,hv'⟩:=r3 q c hc
  exact B5.mp ⟨v,(e c.1).symm.trans hv'⟩)
 rw [List.length_map,List.length_map] at h1 h2
 omega
end
end Mine
namespace Mine
open PySem
noncomputable abbrev lints (ns:List Int):O:=.list (ns.map vi)
theorem len_sc {σ:Aa} (ns:List Int):Bx .len σ [.d (scD ns)]=some (vi ns.length):=D8.trans (by rw [List.length_map])
theorem run_wide {C:Cfg} (hm:∀ c k σ,C.O 10 [vi c,vi k] σ=some (vi (Bk c k))) (ns:List Int) (flag:Int) (hns:ns.length<=1000) :
 Ai C (fun fl σ'=>∃ ns':List Int,ns'.length<=1000/\((EA fl=.d (scD ns')/\σ'=[])\/(EA fl=.ref 0/\σ'=[lints ns']))) Fwide.body (AV Fwide [.d (scD ns),vi flag,vi 14]) []:=by
 show Ai C _ _ [some (.d (scD ns)),some (vi flag),some (vi 14),none,none] []
 refine AC (t:=decide ((ns.length:Int) < 4) || !decide (flag.fmod 12=5)) (DC (A5 (Bc (Ax rfl) (len_sc ns)) rfl c_lt) fun _=>A5 (Ah rfl rfl (A2 (by decide))) rfl ne_int) (fun h=>?_) (fun h=>Ac ?_)
 ·exact AE (v:=.d (scD ns)) rfl ⟨ns,hns,.inl ⟨rfl,rfl⟩⟩
 ·have h4:=of_decide_eq_false (Bool.or_eq_false_iff.mp h).1
  refine Ck (ws:=[]) rfl ?_
  have hq:=A0 (flag.fdiv 12) (j:=47) (by decide)
  refine go_for1 (l:=List.range (4 * (14+(flag.fdiv 12).fmod 47)).toNat) (fun j:Nat=>vi (j:Int)) (fun p ρ σ=>∃ ns':List Int,ns'.length=p.length/\(∃ z,ρ=[some (.d (scD ns)),some (vi flag),some (vi 14),some (.ref 0),z])/\σ=[lints ns'])
   (it_rg (Ax (Ah rfl (Ah rfl (Ah (y:=vi 47) (Ah rfl rfl (B2 (by decide))) rfl (A2 (by decide))) rfl) (b_mul (sm4 _)))) (by omega) (by omega)) ⟨[],rfl,⟨none,rfl⟩,rfl⟩ ?_ ?_
  ·rintro p j q ρ σ hp ⟨ns',g0,⟨z,rfl⟩,rfl⟩
   have hj:p.length=j/\j < 244:=by
    have h1:(List.range (4 * (14+(flag.fdiv 12).fmod 47)).toNat)[p.length]? = some j:=by rw [hp]; simp
    obtain ⟨h2,h3⟩:=List.getElem?_eq_some_iff.mp h1
    rw [List.getElem_range] at h3
    rw [List.length_range] at h2
    omega
   have hi:=A0 (j:Int) (j:=(ns.length:Int)) (by omega)
   refine B4 (k:=0) (y:=vi (Bk (ns.getD ((j:Int).fmod ns.length).toNat 0) j)) rfl (Ax (FW (BB (Ak rfl (Ah rfl (Bc (Ax rfl) (len_sc ns)) (A2 (by omega))) (sub_sc _ hi.1 hi.2 hns)) rfl) (hm _ _ _))) rfl (by rw [List.length_map,g0,hj.1]; exact Nat.lt_trans hj.2 (by decide)) ?_
   generalize Bk (ns.getD ((j:Int).fmod ns.length).toNat 0) j=M
   have hx:(ns'.map vi++[vi M])[(j:Int).toNat]? = some (vi M):=by
    rw [Int.toNat_natCast,List.getElem?_append_right (by rw [List.length_map,g0,hj.1]; exact Nat.le_refl _),List.length_map,g0,hj.1,Nat.sub_self]; rfl
   refine AC (t:=decide ((j:Int).fmod 4=1)&&decide ((flag.fdiv 12).fmod 2=1)) (CQ (A5 (Ah rfl rfl (A2 (by decide))) rfl B1) fun _=>A5 (Ah (Ah rfl rfl (B2 (by decide))) rfl (A2 (by decide))) rfl B1) (fun h=>?_) (fun h=>?_)
   ·refine go_setL (k:=0) (j:=(j:Int)) (z:=vi (M.fdiv 7 * 7+3)) (Ah (Ah (Ah (Ak rfl rfl (at_ref (j:Int) (by omega) (by omega) rfl hx)) rfl (B2 (by decide))) rfl (b_mul (smr (by decide) (by decide)))) rfl rfl) rfl rfl rfl (by omega) (by rw [List.length_append,List.length_map,g0,hj.1]; show (j:Int) < ((j+1:Nat):Int); omega) (Ac (Ac ⟨_,rfl,ns'++[M.fdiv 7 * 7+3],by rw [List.length_append,List.length_append,g0]; rfl,⟨_,rfl⟩,?_⟩))
    show [O.list ((ns'.map vi++[vi M]).set (j:Int).toNat (vi (M.fdiv 7 * 7+3)))]=_
    rw [Int.toNat_natCast,List.set_append_right _ _ (by rw [List.length_map,g0,hj.1]; exact Nat.le_refl _),List.length_map,g0,hj.1,Nat.sub_self,lints,List.map_append]; rfl
   ·exact Ac (Ac ⟨_,rfl,ns'++[M],by rw [List.length_append,List.length_append,g0]; rfl,⟨_,rfl⟩,by show _=[O.list ((ns'++[M]).map vi)]; rw [List.map_append]; rfl⟩)
  ·rintro ρ σ ⟨ns',g0,⟨z,rfl⟩,rfl⟩
   exact AE (v:=.ref 0) rfl ⟨ns',by rw [g0,List.length_range]; omega,.inr ⟨rfl,rfl⟩⟩
theorem fn_wide (ns:List Int) (flag:Int) (hns:ns.length<=1000):∃ ns':List Int,ns'.length<=1000/\∀ σ,FN 3 33 [.d (scD ns),vi flag,vi 14] σ (.d (scD ns')) σ:=by
 obtain ⟨v,σ',⟨ns',k1,k2⟩,h⟩:=FN.ends (C:=C1 2 (Nat.le_refl _)) (f:=33) (fn:=Fwide) (zs:=[.d (scD ns),vi flag,vi 14]) (σ:=[]) (R:=fun v σ'=>∃ ns':List Int,ns'.length<=1000/\((v=.d (scD ns')/\σ'=[])\/(v=.ref 0/\σ'=[lints ns']))) (by unfold Pg; rfl) rfl (show 1<=2 by decide) (run_wide (fun _ _ _=>rfl) ns flag hns)
 refine ⟨ns',k1,fun σ=>?_⟩
 refine FA.any (d:=scD ns') ?_ (all_cons (EJ _ _) (all_cons (EJ _ _) (all_cons (EJ _ _) Cl)))
 rcases k2 with ⟨k2,k3⟩ | ⟨k2,k3⟩
 ·rw [k2,k3] at h; exact h
 ·rw [k2,k3] at h
  exact FA.seal (σ:=[]) h ⟨_,rfl,Nat.zero_le _,by rw [List.map_map]; rfl⟩
end Mine
namespace Mine
open PySem
theorem go_no {C:Cfg} {P:Fl->Aa->Prop} {r a:S} {ρ:Af} {σ:Aa} {c:E} {t:Bool} (h:C.t c ρ σ=some t) (e:t=false) (k:Ai C P r ρ σ):Ai C P (.cons (.ite c a .nil) r) ρ σ:=Cj (e▸h) k
theorem Gq {α β:Type} (d:α->PyData) (d':β->PyData):∀ (l:List α) (m:List β),Gr ((l.map d).map .d) ((m.map d').map .d)=(l.zip m).map fun p=>V.d (.tuple [d p.1,d' p.2])
 | [],_=>rfl
 | _::_,[]=>rfl
 | a::l,b::m=>by show _::Gr ((l.map d).map .d) ((m.map d').map .d)=_; rw [Gq d d' l m]; rfl
theorem CZ {O:Orc} {ρ:Af} {σ:Aa} {es:E} {xs:List V} {b:Bi} {p:Bool} (h1:(ev O es).row ρ σ=some xs) (h2:Bx b σ xs=some (vb p)):(ev O (.bi b es)).t ρ σ=some p:=by rw [t_bi,h1,bs,h2]; rfl
section
variable {κ κ' α β:Type} [DecidableEq κ] [DecidableEq κ'] (φ:κ->κ') (f:α->β)
noncomputable def Cw (kvs:List (κ×α)):List (κ'×β):=kvs.map fun p=>(φ p.1,f p.2)
end
section
variable {κ κ' α β:Type} [DecidableEq κ] [DecidableEq κ'] (φ:κ->κ') (f:α->β)
theorem CV (kvs:List (κ×α)):(Cw φ f kvs).length=kvs.length:=List.length_map ..
end
section
variable {κ κ' α β:Type} [DecidableEq κ] [DecidableEq κ'] (φ:κ->κ') (f:α->β)
theorem mapK_app (a b:List (κ×α)):Cw φ f (a++b)=Cw φ f a++Cw φ f b:=List.map_append ..
end
section
variable {κ κ' α β:Type} [DecidableEq κ] [DecidableEq κ'] (φ:κ->κ') (f:α->β)
variable {φ} (hφ:∀ a b,φ a=φ b->a=b)
include hφ
theorem CX (kvs:List (κ×α)) (k:κ):Al (Cw φ f kvs) (φ k)=(Al kvs k).map f:=by
 induction kvs with
 | nil=>rfl
 | cons q r ih =>
  show Al ((φ q.1,f q.2)::Cw φ f r) (φ k)=_
  rw [B0,B0,ih]
  by_cases e:q.1=k
  ·rw [if_pos e,if_pos (congrArg φ e)]; rfl
  ·rw [if_neg e,if_neg (fun h=>e (hφ _ _ h))]
end
section
variable {κ κ' α β:Type} [DecidableEq κ] [DecidableEq κ'] (φ:κ->κ') (f:α->β)
variable {φ} (hφ:∀ a b,φ a=φ b->a=b)
include hφ
theorem EB (kvs:List (κ×α)) (k:κ) (v:α):Fj (Cw φ f kvs) (φ k) (f v)=Cw φ f (Fj kvs k v):=by
 unfold Fj
 have h:((Cw φ f kvs).any fun p=>p.1=φ k)=kvs.any fun p=>p.1=k:=by
  rw [any_get,any_get,CX f hφ]; cases Al kvs k <;> rfl
 rw [h]
 split
 ·unfold Cw
  rw [List.map_map,List.map_map]
  refine List.map_congr_left fun p _=>?_
  show (if (φ p.1)=φ k then (φ p.1,f v) else (φ p.1,f p.2))=(φ (if p.1=k then (p.1,v) else p).1,f (if p.1=k then (p.1,v) else p).2)
  by_cases e:p.1=k
  ·rw [if_pos e,if_pos (congrArg φ e)]
  ·rw [if_neg e,if_neg (fun h=>e (hφ _ _ h))]
 ·rw [mapK_app]; rfl
end
theorem Fb:∀ a b:List Nat,Tx a=Tx b->a=b:=fun _ _=>Tx_inj
section
variable {σ:Aa} {k:Nat}
theorem sub_dS {kvs:List (Str×V)} {a:List Nat} {d:V} (hk:σ[k]? = some (.dictS kvs)) (hd:Al kvs (Tx a)=some d):AI (.ref k) (vs a) σ=some d:=by
 show subO σ (vs a) σ[k]? = _
 rw [hk]
 exact hd
end
section
variable {σ:Aa} {k:Nat}
theorem in_dS {kvs:List (Str×V)} {a:List Nat} (hk:σ[k]? = some (.dictS kvs)):inV σ (vs a) (.ref k)=some (Al kvs (Tx a)).isSome:=by
 show inO σ (vs a) k σ[k]? = _
 rw [hk]; rfl
end
def Cu (σ:Aa) (x:V) (ds:List PyData):Prop:=x=.d (.list ds)\/∃ k,x=.ref k/\σ[k]? = some (.list (ds.map .d))
section
variable {σ:Aa} {x:V} {ds:List PyData}
theorem Cu.lst (h:Cu σ x ds):Ag σ x=some (ds.map .d):=by
 rcases h with rfl | ⟨k,rfl,h⟩
 ·rfl
 ·show BF σ[k]? = _
  rw [h]; rfl
end
section
variable {σ:Aa} {x:V} {ds:List PyData}
theorem Cu.snap (h:Cu σ x ds):snap σ x=some (.list ds):=by
 rcases h with rfl | ⟨k,rfl,h⟩
 ·rfl
 ·show lstD (BF σ[k]?)=_
  rw [h]
  show (CS (ds.map V.d)).bind _=_
  rw [BX]; rfl
end
section
variable {σ:Aa} {x:V} {ds:List PyData}
theorem Cu.isi (h:Cu σ x ds):Bx .isinstance σ [x,.ty "list"]=some (vb true):=by
 rcases h with rfl | ⟨k,rfl,h⟩
 ·rfl
 ·show ((tyOf σ (.ref k)).bind _).bind _=_
  rw [show tyOf σ (.ref k)=some "list" by show (BF σ[k]?).bind _=_; rw [h]; rfl]
  rfl
end
section
variable {σ:Aa} {x:V} {ds:List PyData}
theorem Cu.len (h:Cu σ x ds):Bx .len σ [x]=some (vi ds.length):=(len_of' h.lst).trans (by rw [List.length_map])
end
section
variable {σ:Aa} {x:V} {ds:List PyData}
theorem EO (l:List Nat):Bx .isinstance σ [vs l,.ty "str"]=some (vb true):=rfl
end
theorem Go {α:Type}:∀ l:List α,l.zip l=l.map fun a=>(a,a)
 | []=>rfl
 | a::l=>congrArg ((a,a) :: ·) (Go l)
theorem all_true {σ:Aa} {α:Type} (l:List α):Bx .all σ [.d (.list (l.map fun _=>PyData.bool true))]=some (vb true):=by
 show (C3 EX ((l.map fun _=>PyData.bool true).map V.d)).bind _=_
 have:C3 EX ((l.map fun _=>PyData.bool true).map V.d)=some (l.map fun _=>true):=by
  induction l with
  | nil=>rfl
  | cons a l ih=>show (C3 EX ((l.map fun _=>PyData.bool true).map V.d)).bind _=_; rw [ih]; rfl
 rw [this,bs]
 congr 2
 rw [List.all_eq_true.mpr fun x hx=>?_]
 obtain ⟨_,_,rfl⟩:=List.mem_map.mp hx; rfl
section
variable {O:Orc} {C:Cfg} {P:Fl->Aa->Prop} {r body:S} {ρ:Af} {σ:Aa} {it:E} {x:Nat} {y:V} {α:Type} {l:List α}
theorem lst_nstr {ws:List V} (h:Ag σ y=some ws):BA y=none:=by
 cases y with
 | d z=>cases z with
  | str _=>exact Ab h
  | _=>rfl
 | _=>rfl
end
section
variable {O:Orc} {C:Cfg} {P:Fl->Aa->Prop} {r body:S} {ρ:Af} {σ:Aa} {it:E} {x:Nat} {y:V} {α:Type} {l:List α}
theorem CO {w:α->V} (h:(ev O it).v ρ σ=some y) (hy:Ag σ y=some (l.map w)) (he:(ev O it).it ρ σ=((ev O it).v ρ σ).bind (CN σ)):(ev O it).it ρ σ=some (l.map w,C4 y (l.map w)):=by
 rw [he,h,bs]
 unfold CN
 rw [lst_nstr hy]
 show (Ag σ y).bind _=_
 rw [hy]; rfl
end
section
variable {O:Orc} {C:Cfg} {P:Fl->Aa->Prop} {r body:S} {ρ:Af} {σ:Aa} {it:E} {x:Nat} {y:V} {α:Type} {l:List α}
theorem go_forL (w:α->V) (J:List α->Af->Aa->Prop) (hit:C.v it ρ σ=some y) (hk:∀ p ρ σ,J p ρ σ->Ag σ y=some (l.map w)) (hJ:J [] ρ σ)
 (hf:∀ p a q ρ σ,l=p++a::q->J p ρ σ->Ai C (fun fl σ'=>∃ ρ',fl=.next ρ'/\J (p++[a]) ρ' σ') body (ρ.set x (some (w a))) σ) (k:∀ ρ' σ',J l ρ' σ'->Ai C P r ρ' σ') (he:C.it it ρ σ=(C.v it ρ σ).bind (CN σ):=by rfl):Ai C P (.cons (.for_ [x] it body) r) ρ σ :=
 go_for w J (CO hit (hk _ _ _ hJ) he) (fun p ρ σ h=>BT (hk p ρ σ h)) (fun _ _=>.inl rfl) hJ hf k
end
theorem D6 (ls:List (List Nat)):ls.map vs=(ls.map fun t=>PyData.str (Tx t)).map V.d:=by rw [List.map_map]; rfl
noncomputable abbrev xt (c:Ch) (i j:Nat):V:=.tup [.inl (.str (Tx c.1)),.inr i,.inr j]
theorem AD {τ:Aa} {a:O}:(τ++[a])[τ.length]? = some a:=List.getElem?_concat_length
noncomputable abbrev oLs (c:Ch):O:=.list (c.2.1.map vs)
noncomputable abbrev oDs (c:Ch):O:=.list (c.2.2.map fun d=>.d d.data)
structure Hnd (σ:Aa) (c:Ch) (i j:Nat):Prop where
 l:σ[i]? = some (.list (c.2.1.map vs))
 d:σ[j]? = some (.list (c.2.2.map fun d=>.d d.data))
section
variable {σ τ:Aa} {c:Ch} {i j:Nat}
theorem sub_xt1:AI (xt c i j) (vi 1) σ=some (.ref i):=rfl
end
section
variable {σ τ:Aa} {c:Ch} {i j:Nat}
theorem sub_xt2:AI (xt c i j) (vi 2) σ=some (.ref j):=rfl
end
theorem eqs_self {f:PyData->PyData->Option Bool}:∀ l:List PyData,(∀ d∈l,f d d=some true)->Eh f l l=some true
 | [],_=>rfl
 | d::l,h=>by
  show (f d d).bind (fun a=>(Eh f l l).bind fun b=>some (a&&b))=_
  rw [h d (.head _),eqs_self l fun x hx=>h x (.tail _ hx)]; rfl
theorem eql_self {n:Nat} {l:List PyData} (h:∀ d∈l,eqN n d d=some true):eqN (n+1) (.list l) (.list l)=some true:=by
 show (if l.length=l.length then Eh (eqN n) l l else some false)=_
 rw [if_pos rfl]; exact eqs_self l h
theorem eqm_self (n:Nat) (m:Mk):eqN (n+1) (BE (some m)) (BE (some m))=some true:=by rw [eqn_mk n m m,decide_eq_true rfl]
theorem eqd_self (n:Nat) (l:List (List Nat)):eqN (n+1) (dl l) (dl l)=some true:=eql_self fun d hd=>by
 obtain ⟨t,_,rfl⟩:=List.mem_map.mp hd
 rw [Gj,decide_eq_true rfl]
theorem eq_self' {σ:Aa} {d:PyData} (h:eqN AK d d=some true):Ct .Eq (.d d) (.d d) σ=some true:=h
theorem e_nlb {O:Orc} {ρ:Af} {σ:Aa} {es:E} {b:Bi} {xs ws:List V} (h:(ev O es).row ρ σ=some xs) (h2:bmake b σ xs=some ws) (hl:ws.length<=line):(ev O (.bi b es)).nl ρ σ=some ws:=by
 show (((ev O es).row ρ σ).bind (bmake b σ)).bind (fun ws=>if ws.length<=line then some ws else none)=_
 rw [h,bs,h2,bs,if_pos hl]
theorem D3 {τ:Aa} {a b:O}:(τ++[a]).set τ.length b=τ++[b]:=by rw [List.set_append_right _ _ (Nat.le_refl _),Nat.sub_self]; rfl
theorem go_passS {C:Cfg} {P:Fl->Aa->Prop} {r a:S} {ρ:Af} {σ σ':Aa} {c:E} (h:ST (C.n+3) c ρ σ false σ') (k:Ai C P r ρ σ'):Ai C P (.cons (.ite c a .nil) r) ρ σ :=
 B9 (fl:=.next ρ) (σ':=σ') (fun Q q=>.ite h (fun e=>ff_ e) fun _=>.nil q) k
noncomputable def Cfg.knowF (C:Cfg) (f:Nat) {α:Type} (arg:α->List V) (out:α->V) (h:∀ a σ,FN C.n f (arg a) σ (out a) σ):Cfg:=C.add f (fun xs _=>@dite _ (∃ a,arg a=xs) (Classical.propDecidable _) (fun q=>some (out (Classical.choose q))) fun _=>none) fun xs σ v e=>by
 by_cases q:∃ a,arg a=xs
 ·rw [dif_pos q] at e
  rw [<-Option.some.inj e]
  have:=h (Classical.choose q) σ
  rw [Classical.choose_spec q] at this; exact this
 ·rw [dif_neg q] at e; exact Ab e
theorem knowF_eq {C:Cfg} {f:Nat} {α:Type} {arg:α->List V} {out:α->V} {h:∀ a σ,FN C.n f (arg a) σ (out a) σ} (inj:∀ a b,arg a=arg b->out a=out b) (a:α) (σ:Aa):(C.knowF f arg out h).O f (arg a) σ=some (out a):=by
 have q:∃ b,arg b=arg a:=⟨a,rfl⟩
 show (bif Nat.beq f f then @dite _ (∃ b,arg b=arg a) (Classical.propDecidable _) (fun q=>some (out (Classical.choose q))) fun _=>none else C.O f (arg a) σ)=_
 rw [Nat.beq_refl f]
 show @dite _ (∃ b,arg b=arg a) (Classical.propDecidable _) (fun q=>some (out (Classical.choose q))) (fun _=>none)=_
 rw [dif_pos q,inj _ _ (Classical.choose_spec q)]
end Mine
namespace Mine
open PySem
theorem eqp_self {n:Nat} {l:List PyData} (h:∀ d∈l,eqN n d d=some true):eqN (n+1) (.tuple l) (.tuple l)=some true:=eqs_self l h
theorem eqv_self (n:Nat) (d:Deed):eqN (n+2) d.data d.data=some true:=by
 refine eqp_self fun x hx=>?_
 have hs:∀ t:List Nat,eqN (n+1) (.str (Tx t)) (.str (Tx t))=some true:=fun t=>by rw [Gj,decide_eq_true rfl]
 rcases List.mem_cons.mp hx with rfl | hx
 ·exact hs _
 rcases List.mem_cons.mp hx with rfl | hx
 ·cases d.mark with
  | none=>rfl
  | some m=>exact eqm_self n m
 ·cases e:d.text with
  | none=>rw [e] at hx; exact nomatch hx
  | some l=>rw [e] at hx; rw [List.mem_singleton.mp hx]; exact hs _
section
variable {σ:Aa}
theorem isi_deed (d:Deed):Bx .isinstance σ [.d d.data,.ty "tuple"]=some (vb true):=rfl
end
section
variable {σ:Aa}
theorem deed_rest (d:Deed):∃ ts:List (List Nat),d.data=.tuple (.str (Tx d.word)::BE d.mark::ts.map fun t=>.str (Tx t))/\ts.length<=1:=by
 cases e:d.text with
 | none=>exact ⟨[],by unfold Deed.data; rw [e]; rfl,by decide⟩
 | some l=>exact ⟨[l],by unfold Deed.data; rw [e]; rfl,Nat.le_refl 1⟩
end
section
variable {σ:Aa}
theorem fn_deedlike (d:Deed):FN 2 70 [.d d.data,.d d.data] σ (vb true) σ:=by
 obtain ⟨ts,ed,hts⟩:=deed_rest d
 let C:=C0 1
 let D:V:=.d d.data
 exact FN.same (C:=C) (fn:=Fdeed_like) (by unfold Pg; rfl) rfl (Nat.le_refl _) (by
  show Ai C _ _ [some D,some D,none,none] σ
  have hlen:Bx .len σ [D]=some (vi ((ts.length+2:Nat):Int)):=by
   show lenV σ (.d d.data)=_
   rw [ed]
   show some (vi ((PyData.str (Tx d.word)::BE d.mark::ts.map fun t=>PyData.str (Tx t)).map V.d).length)=_
   rw [List.length_map,List.length_cons,List.length_cons,List.length_map]
  refine go_no (e_or3 (p:=false) (q:=false) (s:=false) (CY (p:=true) (CZ (BB rfl rfl) (isi_deed d))) (fun _=>(A5 (Bc (Ax rfl) hlen) (Bc (Ax rfl) hlen) ne_int).trans (by rw [decide_eq_true rfl]; rfl)) fun _ _=>CY (p:=true) (CZ (BB (Ak rfl rfl (sub_word d)) rfl) (EO _))) rfl ?_
  refine BV (M:=fun ρ σ'=>(∃ z,ρ=[some D,some D,z,none])/\σ=σ') ?_ ?_
  ·refine AC (t:=!d.mark.isNone) (A5 (Ak rfl rfl (sub_mark d)) rfl (isn_mark d.mark)) (fun e=>?_) fun e=>Ac (Ac ⟨_,rfl,⟨_,rfl⟩,rfl⟩)
   refine Az (v:=.d (BE d.mark)) (Ak rfl rfl (sub_mark d)) ?_
   cases em:d.mark with
   | none=>rw [em] at e; cases e
   | some m =>
    show Ai C _ _ [some D,some D,some (vm m),none] σ
    refine Cj (e_or3 (p:=false) (q:=false) (s:=false) (CY (p:=true) (CZ (BB rfl rfl) rfl)) (fun _=>rfl) fun _ _=>CY (p:=true) (CZ (BB (x:=vs m.1) (Ak rfl rfl rfl) rfl) (EO _))) ?_
    exact Cj (DC (p:=false) (q:=false) (CY (p:=true) (CZ (BB (x:=vi m.2) (Ak rfl rfl rfl) rfl) rfl)) fun _=>CZ (BB (x:=vi m.2) (Ak rfl rfl rfl) rfl) rfl) (Ac (Ac ⟨_,rfl,⟨_,rfl⟩,rfl⟩))
  ·rintro _ _ ⟨⟨z,rfl⟩,rfl⟩
   have hI:SI (C.n+3) (.slc (.var 0) (.cst (.int 2)) .nil) [some D,some D,z,none] σ (ts.map vs) [] σ:=by
    have:=SI.tup (n:=C.n+3) (σ:=σ) (ds:=ts.map fun t=>PyData.str (Tx t)) (e:=.slc (.var 0) (.cst (.int 2)) .nil) (ρ:=[some D,some D,z,none]) (Nat.le_add_left 3 _) (SE.slc (x:=.d (.tuple (.str (Tx d.word)::BE d.mark::ts.map fun t=>.str (Tx t)))) (by rw [<-ed]; exact (Ad C.ok (.var 0)).v rfl) (.some rfl ((Ad C.ok (.cst (.int 2))).v rfl)) .none (c_tup (k:=2) (by decide) (by simp)))
    rw [<-D6] at this; exact this
   have hc:SE (C.n+3) (.bi .all (.cons (.comp (.bi .isinstance (.cons (.var 3) (.cons (.ty "str") .nil))) [3] (.slc (.var 0) (.cst (.int 2)) .nil) .nil) .nil)) [some D,some D,z,none] σ (vb true) σ:=by
    have ht:vb true=vb ((ts.map fun _=>true).all id):=by rw [show (ts.map fun _=>true).all id=true from List.all_eq_true.mpr fun x hx=>by obtain ⟨_,_,rfl⟩:=List.mem_map.mp hx; rfl]
    rw [ht]
    refine SE.bi1 (x:=.d (.list (ts.map fun _=>PyData.bool true))) (.cons (SE.frz (SL.comp (ws:=(ts.map fun _=>PyData.bool true).map V.d) hI (Da (kps:=[]) (Ad C.ok _) (Ad C.ok _) (fun _ _ m=>nomatch m) ?_) (by rw [List.length_map,List.length_map]; exact Nat.le_trans hts (by decide)))) .nil) (f_all (bs:=ts.map fun _=>true) ?_) (Nat.le_add_left 3 _)
    ·rw [Db vs (fun _=>some (vb true)) ts (fun t _=>?_),List.filterMap_eq_map',List.map_map]
     ·rfl
     ·show ((ev C.O (.bi .isinstance (.cons (.var 3) (.cons (.ty "str") .nil)))).v [some D,some D,z,some (vs t)] σ).bind (fun u=>some (some u))=_
      rw [Bc (BB rfl rfl) (EO t)]; rfl
    ·show some ((ts.map fun _=>PyData.bool true).map V.d)=some ((ts.map fun _=>true).map _)
     rw [List.map_map,List.map_map]; rfl
   exact CI (v:=vb true) (.bop (.more (t:=true) rfl hc (Cn rfl) (fun q=>nomatch q) fun _=>.one ((Ad C.ok _).v (Fx (p:=true) rfl rfl (eq_self' (eqv_self 38 d)))))) ⟨rfl,rfl⟩)
end
section
variable {σ:Aa}
theorem fn_changelike {c:Ch} (hl:c.2.1.length<=100) (hd:c.2.2.length<=100):FN 3 71 [vc c,vc c] σ (vb true) σ:=by
 let C:Cfg:=(C0 2).knowF 70 (fun d:Deed=>[.d d.data,.d d.data]) (fun _=>vb true) fun d σ=>fn_deedlike d
 have k70:∀ (d:Deed) σ,C.O 70 [.d d.data,.d d.data] σ=some (vb true):=fun d σ=>knowF_eq (C:=C0 2) (fun _ _ _=>rfl) d σ
 let X:=vc c
 have L1:Cu σ (.d (dl c.2.1)) (c.2.1.map fun t=>.str (Tx t)):=.inl rfl
 have L2:Cu σ (.d (dds c.2.2)) (c.2.2.map Deed.data):=.inl rfl
 exact FN.same (C:=C) (fn:=Fd) (by unfold Pg; rfl) rfl (show 1<=2 by decide) (by
  show Ai C _ _ [some X,some (vc c),none,none,none] σ
  have x1:(ev C.O (.sub (.var 0) (.cst (.int 1)))).v [some X,some (vc c),none,none,none] σ=some (.d (dl c.2.1)):=Ak rfl rfl (DL c)
  have x2:(ev C.O (.sub (.var 0) (.cst (.int 2)))).v [some X,some (vc c),none,none,none] σ=some (.d (dds c.2.2)):=Ak rfl rfl (E3 c)
  have y1:(ev C.O (.sub (.var 1) (.cst (.int 1)))).v [some X,some (vc c),none,none,none] σ=some (.d (dl c.2.1)):=Ak rfl rfl (DL c)
  have y2:(ev C.O (.sub (.var 1) (.cst (.int 2)))).v [some X,some (vc c),none,none,none] σ=some (.d (dds c.2.2)):=Ak rfl rfl (E3 c)
  refine Cj (e_or3 (p:=false) (q:=false) (s:=false) (CY (p:=true) (CZ (BB rfl rfl) rfl)) (fun _=>rfl) fun _ _=>CY (p:=true) (CZ (BB (x:=vs c.1) (Ak rfl rfl (Bv c)) rfl) (EO _))) ?_
  refine Cj (DC (p:=false) (q:=false) (CY (p:=true) (CZ (BB x1 rfl) L1.isi)) fun _=>CY (p:=true) (CZ (BB x2 rfl) L2.isi)) ?_
  refine Cj (DC (p:=false) (q:=false) (CY (p:=true) (CZ (Ax (x:=.d (.list (c.2.1.map fun _=>PyData.bool true))) ?_) (all_true c.2.1))) fun _=>(A5 (Bc (Ax x2) L2.len) (Bc (Ax y2) D8) ne_int).trans (by rw [decide_eq_true rfl]; rfl)) ?_
  ·refine D7 ?_
   rw [BR (t:=2) vs (fun _=>true) (fun _=>vb true) (CO x1 (L1.lst.trans (by rw [D6])) rfl) (Nat.le_trans hl (by decide)) (fun _ _=>rfl) (fun a _ _=>Bc (BB rfl rfl) (EO a)),Cf,List.map_map]; rfl
  refine Cj (DC (p:=false) (q:=false) ((A5 (Ak rfl rfl (Bv c)) (Ak rfl rfl (Bv c)) ne_str).trans (by rw [decide_eq_true rfl]; rfl)) fun _=>A5 x1 y1 ?_) ?_
  ·show Dt ((snap σ (.d (dl c.2.1))).bind fun d=>(snap σ (.d (dl c.2.1))).bind fun d'=>eqN AK d d')=_
   rw [L1.snap,bs]
   show Dt (eqN AK (dl c.2.1) (dl c.2.1))=_
   rw [show eqN AK (dl c.2.1) (dl c.2.1)=some true from eqd_self 39 _]; rfl
  refine AE (Bc (Ax (x:=.d (.list (c.2.2.map fun _=>PyData.bool true))) ?_) (all_true c.2.2)) ⟨rfl,rfl⟩
  have hit:(ev C.O (.zip (.sub (.var 0) (.cst (.int 2))) (.sub (.var 1) (.cst (.int 2))))).it [some X,some (vc c),none,none,none] σ=some (c.2.2.map (fun d=>V.d (.tuple [d.data,d.data])),C4 (.d (dds c.2.2)) ((c.2.2.map Deed.data).map V.d)++[]):=by
   show (((ev C.O (.sub (.var 0) (.cst (.int 2)))).v [some X,some (vc c),none,none,none] σ).bind fun x=>((ev C.O (.sub (.var 1) (.cst (.int 2)))).v [some X,some (vc c),none,none,none] σ).bind fun y=>(Ag σ x).bind fun ds=>(Ag σ y).bind fun ds'=>some (Gr ds ds',C4 x ds++C4 y ds'))=_
   rw [x2,bs,y2,bs,L2.lst,bs]
   show some (Gr ((c.2.2.map Deed.data).map V.d) ((c.2.2.map Deed.data).map V.d),_)=_
   rw [Gq,Go,List.map_map]; rfl
  show (((ev C.O (.zip (.sub (.var 0) (.cst (.int 2))) (.sub (.var 1) (.cst (.int 2))))).it _ _).bind fun q=>CK _ q.1).bind mkL=_
  rw [show (ev C.O (.zip (.sub (.var 0) (.cst (.int 2))) (.sub (.var 1) (.cst (.int 2))))).it _ _=_ from hit]
  show (CK _ (c.2.2.map _)).bind mkL=_
  rw [Db (fun d:Deed=>V.d (.tuple [d.data,d.data])) (fun _=>some (vb true)) c.2.2 (fun d _=>?_),bs,List.filterMap_eq_map']
  ·rw [show (c.2.2.map fun _=>vb true)=(c.2.2.map fun _=>PyData.bool true).map V.d by rw [List.map_map]; rfl]
   exact FS _ (by rw [List.length_map]; exact Nat.le_trans hd (by decide))
  ·show ((ev C.O (.fcall 70 (.cons (.var 3) (.cons (.var 4) .nil)))).v [some X,some (vc c),none,some (.d d.data),some (.d d.data)] σ).bind _=_
   rw [FW (BB rfl rfl) (k70 d σ)]; rfl)
end
section
variable {n:Nat} {σ:Aa} {ρ:Af}
theorem F0 (hi:2 < ρ.length):∀ bs:List Bool,Ds n (.var 2) [2] (.cons (.var 2) .nil) [] ρ σ (vbs bs) σ (vbs (bs.filter id))
 | []=>⟨(fun _ _ m=>nomatch m),rfl,rfl⟩
 | b::bs=>by
  have hv:SE n (.var 2) (Bw (AA ρ [2]) [2] (vb b)) σ (vb b) σ:=SE.var (by show ((ρ.set 2 none).set 2 (some (vb b)))[2]? = _; rw [List.getElem?_set_self (by rw [List.length_set]; exact hi)])
  have ht:ST n (.var 2) (Bw (AA ρ [2]) [2] (vb b)) σ b σ:=ST.plain (fun hc=>Gw (.var 2) rfl hc) hv (Cn rfl)
  refine ⟨(fun _ _ m=>nomatch m),.inl rfl,b,σ,?_,fun q=>?_,fun q=>?_⟩
  ·cases b with
   | true=>exact .cons ht .nil
   | false=>exact .no ht
  ·subst q; exact F0 hi bs
  ·subst q; exact ⟨vb true,_,σ,hv,rfl,F0 hi bs⟩
end
section
variable {n:Nat} {σ:Aa} {ρ:Af}
theorem G3 {j k:Nat} (hv:ρ[0]? = some (some (.exc j))) (hj:j∈DD) (h0:Nat.beq k 0=false) (hk:k < 10):SE n (.bi .isinstance (.cons (.var 0) (.cons (.glx k) .nil))) ρ σ (vb (Bm j k)) σ:=.bi2 (.cons (.var hv) (.cons .glx .nil)) (f_isx hj h0 hk)
end
section
variable {n:Nat} {σ:Aa} {ρ:Af}
theorem fn_alone {j:Nat} (hj:j∈DD):FA 2 73 [.exc j] σ (vb true) σ:=by
 let b1:List Bool:=[Bm j 2,Bm j 3,Bm j 4,Bm j 5]
 let b2:List Bool:=[Bm j 6,Bm j 7,Bm j 8,Bm j 9]
 have e1:(b1++b2).filter id=[true]:=(show ∀ j∈DD,(([Bm j 2,Bm j 3,Bm j 4,Bm j 5]:List Bool)++[Bm j 6,Bm j 7,Bm j 8,Bm j 9]).filter id=[true] by decide) j hj
 have e2:Bm j 1=true:=by unfold Bm; rw [show Nat.beq 1 1=true from rfl,Bool.true_or,Bool.or_true]
 have e3:Bm j 0=true:=by unfold Bm; rw [show Nat.beq 0 0=true from rfl,Bool.or_true,Bool.or_true]
 have row:∀ {z k1 k2 k3 k4},Nat.beq k1 0=false->k1 < 10->Nat.beq k2 0=false->k2 < 10->Nat.beq k3 0=false->k3 < 10->Nat.beq k4 0=false->k4 < 10 ->
  SE 1 (.lst (.cons (.bi .isinstance (.cons (.var 0) (.cons (.glx k1) .nil))) (.cons (.bi .isinstance (.cons (.var 0) (.cons (.glx k2) .nil))) (.cons (.bi .isinstance (.cons (.var 0) (.cons (.glx k3) .nil))) (.cons (.bi .isinstance (.cons (.var 0) (.cons (.glx k4) .nil))) .nil))))) [some (.exc j),z,none] σ (.d (.list [.bool (Bm j k1),.bool (Bm j k2),.bool (Bm j k3),.bool (Bm j k4)])) σ:=fun {z k1 k2 k3 k4} a1 a2 a3 a4 a5 a6 a7 a8 =>
  SE.frz (ds:=[.bool (Bm j k1),.bool (Bm j k2),.bool (Bm j k3),.bool (Bm j k4)]) (SL.lst (.cons (G3 rfl hj a1 a2) (.cons (G3 rfl hj a3 a4) (.cons (G3 rfl hj a5 a6) (.cons (G3 rfl hj a7 a8) .nil)))) (show 4<=line by decide))
 refine FA.of (fn:=Falone) (n:=1) (by unfold Pg; rfl) rfl ?_ (Nat.le_refl _)
 show SSs 1 _ [some (.exc j),none,none] σ _
 refine .cons (.asg rfl (row (k1:=2) (k2:=3) (k3:=4) (k4:=5) rfl (by decide) rfl (by decide) rfl (by decide) rfl (by decide)) ?_)
 show SSs 1 _ [some (.exc j),some (.d (.list (b1.map .bool))),none] σ _
 refine .cons (.asg (v:=.d (.list ((b1++b2).map .bool))) rfl (SE.frz (SL.bin (x:=.d (.list (b1.map .bool))) (y:=.d (.list (b2.map .bool))) (.var rfl) (row (k1:=6) (k2:=7) (k3:=8) (k4:=9) rfl (by decide) rfl (by decide) rfl (by decide) rfl (by decide)) (GC (ws:=(b1.map PyData.bool).map V.d) (us:=(b2.map PyData.bool).map V.d) rfl rfl (show 4+4<=line by decide)))) ?_)
 show SSs 1 _ [some (.exc j),some (.d (.list ((b1++b2).map .bool))),none] σ _
 have hc:SE 1 (.comp (.var 2) [2] (.var 1) (.cons (.var 2) .nil)) [some (.exc j),some (.d (.list ((b1++b2).map .bool))),none] σ (.d (.list [.bool true])) σ:=by
  have h:=F0 (n:=1) (σ:=σ) (ρ:=[some (.exc j),some (.d (.list ((b1++b2).map .bool))),none]) (show 2 < 3 by decide) (b1++b2)
  rw [e1] at h
  exact SE.frz (ds:=[.bool true]) (SL.comp (kps:=[]) (SI.lst (v:=.d (.list ((b1++b2).map .bool))) (ws:=vbs (b1++b2)) (.var rfl) rfl) h (show 1<=line by decide))
 refine .cons (.ret (v:=vb true) (.bop (.more (t:=true) (x:=vb true) rfl (.cmp (x:=vi 1) (y:=vi 1) (.bi1 (.cons hc .nil) (lenV_ok rfl)) (.cst (.int 1)) (CC (op:=.Eq) rfl)) (Cn rfl) (fun q=>nomatch q) fun _=>?_)) ⟨rfl,rfl⟩)
 refine .more (t:=true) (x:=vb true) rfl (e2▸G3 rfl hj rfl (by decide)) (Cn rfl) (fun q=>nomatch q) fun _=>?_
 exact .one (e3▸SE.bi2 (.cons (.var rfl) (.cons .ty .nil)) (f_isx0 hj))
end
end Mine
namespace Mine
open PySem
def OrR (J:Af->Aa->Prop) (P:Fl->Aa->Prop) (fl:Fl) (σ:Aa):Prop:=match fl with | .next ρ=>J ρ σ | .ret v=>P (.ret v) σ
section
variable {C:Cfg} {P:Fl->Aa->Prop} {r body:S} {ρ:Af} {σ:Aa} {it:E} {x:Nat} {y:V} {α:Type} {ts:List Nat} {kps:List (Nat×List V)}
theorem turnsR (w:α->V) (J:List α->Af->Aa->Prop):∀ (q p:List α) (ρ:Af) (σ:Aa),(∀ p ρ σ,J p ρ σ->Bt σ kps)->J p ρ σ ->
 (∀ p' a q' ρ σ,p++q=p'++a::q'->J p' ρ σ->Ai C (OrR (J (p'++[a])) P) body (Bw ρ [x] (w a)) σ)->∃ fl σe,OrR (J (p++q)) P fl σe/\∀ Q:Fl->Aa->Prop,Q fl σe->ForQ (C.n+3) [x] body kps Q (q.map w) ρ σ
 | [],p,ρ,σ,hk,hJ,_=>⟨.next ρ,σ,(List.append_nil p).symm▸hJ,fun Q h=>⟨hk p ρ σ hJ,h⟩⟩
 | a::q,p,ρ,σ,hk,hJ,hf=>by
  have hb:Ex [x] (w a):=.inl rfl
  obtain ⟨fl,σ₁,h1,h2⟩:=hf p a q ρ σ rfl hJ
  cases fl with
  | ret v=>exact ⟨.ret v,σ₁,h1,fun Q h=>⟨hk p ρ σ hJ,hb.at (Nat.le_add_left 3 _),SSs.mono (fun f s e=>by rw [e.1,e.2]; exact h) h2⟩⟩
  | next ρ1 =>
   have e:p++[a]++q=p++a::q:=by rw [List.append_assoc]; rfl
   obtain ⟨fe,σe,h3,h4⟩:=turnsR w J q (p++[a]) ρ1 σ₁ hk h1 fun p' b q' ρ σ he=>hf p' b q' ρ σ (e.symm.trans he)
   exact ⟨fe,σe,e▸h3,fun Q h=>⟨hk p ρ σ hJ,hb.at (Nat.le_add_left 3 _),SSs.mono (fun f s e=>by rw [e.1,e.2]; exact h4 Q h) h2⟩⟩
theorem Gh {l:List α} (w:α->V) (J:List α->Af->Aa->Prop) (hit:C.v it ρ σ=some y) (hk:∀ p ρ σ,J p ρ σ->Ag σ y=some (l.map w)) (hJ:J [] ρ σ)
 (hf:∀ p a q ρ σ,l=p++a::q->J p ρ σ->Ai C (OrR (J (p++[a])) P) body (ρ.set x (some (w a))) σ) (k:∀ ρ' σ',J l ρ' σ'->Ai C P r ρ' σ') (he:C.it it ρ σ=(C.v it ρ σ).bind (CN σ):=by rfl):Ai C P (.cons (.for_ [x] it body) r) ρ σ:=by
 obtain ⟨fl,σe,h1,h2⟩:=turnsR (C:=C) (P:=P) (body:=body) (x:=x) (kps:=C4 y (l.map w)) w J l [] ρ σ (fun p ρ σ h=>BT (hk p ρ σ h)) hJ hf
 refine B9 (fl:=fl) (fun Q q=>.for_ ((Ad C.ok it).it (CO hit (hk _ _ _ hJ) he)).1 (h2 Q q)) ?_
 cases fl with
 | next ρ'=>exact k ρ' σe h1
 | ret v=>exact h1
end
def ChV (σ:Aa) (v:V) (c:Ch):Prop:=v=vc c\/∃ i j,v=xt c i j/\Hnd σ c i j
section
variable {σ σ':Aa} {v:V} {c:Ch}
theorem ChV.s0 (h:ChV σ v c) {σ':Aa}:AI v (vi 0) σ'=some (vs c.1):=by
 rcases h with rfl | ⟨i,j,rfl,_⟩
 ·exact Bv c
 ·rfl
theorem ChV.s1 (h:ChV σ v c):∃ l,(∀ σ',AI v (vi 1) σ'=some l)/\Cu σ l (c.2.1.map fun t=>.str (Tx t)):=by
 rcases h with rfl | ⟨i,j,rfl,H⟩
 ·exact ⟨_,fun _=>DL c,.inl rfl⟩
 ·exact ⟨.ref i,fun _=>rfl,.inr ⟨i,rfl,by rw [<-D6]; exact H.l⟩⟩
theorem ChV.s2 (h:ChV σ v c):∃ l,(∀ σ',AI v (vi 2) σ'=some l)/\Cu σ l (c.2.2.map Deed.data):=by
 rcases h with rfl | ⟨i,j,rfl,H⟩
 ·exact ⟨_,fun _=>E3 c,.inl rfl⟩
 ·exact ⟨.ref j,fun _=>rfl,.inr ⟨j,rfl,by rw [List.map_map]; exact H.d⟩⟩
def Bd (σ σ':Aa):Prop:=∀ (k:Nat) (o:O),σ[k]? = some o->σ'[k]? = some o
theorem Bd.app {τ:Aa}:Bd σ (σ++τ):=fun _ _ h=>Bh h
theorem ChV.stay (h:ChV σ v c) (s:Bd σ σ'):ChV σ' v c:=h.imp id fun ⟨i,j,e,H⟩=>⟨i,j,e,s _ _ H.l,s _ _ H.d⟩
theorem Cu.stay {x:V} {ds:List PyData} (h:Cu σ x ds) (s:Bd σ σ'):Cu σ' x ds:=h.imp id fun ⟨k,e,q⟩=>⟨k,e,s _ _ q⟩
theorem Cu.vs {x:V} {ls:List (List Nat)} (h:Cu σ x (ls.map fun t=>.str (Tx t))):Ag σ x=some (ls.map vs):=h.lst.trans (by rw [D6])
theorem Bl {x:V} {ws:List V} (h:Ag σ x=some ws) (s:Bd σ σ'):Ag σ' x=some ws:=by
 cases x with
 | ref k =>
  have h:BF σ[k]? = some ws:=h
  show BF σ'[k]? = _
  cases e:σ[k]? with
  | none=>rw [e] at h; exact Ab h
  | some o=>rw [e] at h; rw [s k o e]; exact h
 | _=>exact h
end
noncomputable def AT:List (List Nat)->List Ch->Bool
 | _,[]=>true
 | seen,c::r=>if c.1∈seen\/∃ l∈c.2.1,l∉seen then false else AT (seen++[c.1]) r
theorem s_bool {σ:Aa} {m:Nat} (b:Bool):Sn σ m (vb b) (.bool b):=rfl
structure Hd4 (σ:Aa) (y:V) (hs:List (V×Ch)):Prop where
 lst:Ag σ y=some (hs.map (·.1))
 ch:∀ p∈hs,ChV σ p.1 p.2
theorem Hd4.stay {σ σ':Aa} {y:V} {hs:List (V×Ch)} (h:Hd4 σ y hs) (s:Bd σ σ'):Hd4 σ' y hs:=⟨Bl h.lst s,fun p hp=>(h.ch p hp).stay s⟩
noncomputable abbrev nmV (p:List (V×Ch)):List (List Nat):=p.map fun x=>x.2.1
noncomputable abbrev oSeen (p:List (List Nat)):O:=.dictS (Cw Tx vb (p.map fun n=>(n,true)))
theorem seen_in {p:List (List Nat)} {n:List Nat}:(Al (Cw Tx vb (p.map fun n=>(n,true))) (Tx n)).isSome=decide (n∈p):=by
 rw [CX vb Fb,Option.isSome_map]
 by_cases h:n∈p
 ·obtain ⟨v,e⟩:=(B5 (h:=p.map fun n=>(n,true)) (k:=n)).mpr (by rw [List.map_map]; simpa using h)
  rw [e,decide_eq_true h]; rfl
 ·rw [(C6 (h:=p.map fun n=>(n,true)) (k:=n)).mpr (by rw [List.map_map]; simpa using h),decide_eq_false h]; rfl
theorem fn_keeps {σ:Aa} {y:V} {hs:List (V×Ch)} (H:Hd4 σ y hs) (hl:hs.length<=1000):FN 2 80 [y] σ (vb (AT [] (hs.map (·.2)))) σ:=by
 let C:=C0 1
 let k:=σ.length
 have st:∀ {o:O},Bd σ (σ++[o]):=Bd.app
 obtain ⟨v,σ',⟨h1,τ,h2⟩,h⟩:=FN.ends (C:=C) (f:=80) (fn:=Fkeeps) (zs:=[y]) (σ:=σ) (R:=fun v σ'=>v=vb (AT [] (hs.map (·.2)))/\∃ τ,σ'=σ++τ) (by unfold Pg; rfl) rfl (Nat.le_refl _) (by
  show Ai C _ _ [some y,none,none,none] σ
  refine Gi ?_
  refine Gh (l:=hs) (·.1) (fun p ρ σ'=>(∃ z2 z3,ρ=[some y,some (.ref k),z2,z3])/\AT [] (hs.map (·.2))=AT (nmV p) ((hs.drop p.length).map (·.2))/\σ++[oSeen (nmV p)]=σ') (y:=y) rfl (fun _ _ _ h=>h.2.2▸Bl H.lst st) ⟨⟨none,none,rfl⟩,rfl,rfl⟩ ?_ ?_
  ·rintro p a q ρ _ e ⟨⟨z2,z3,rfl⟩,hq,rfl⟩
   have hx:ChV σ a.1 a.2:=H.ch a (by rw [e]; simp)
   have ed:hs.drop p.length=a::q:=by rw [e,List.drop_left]
   rw [ed] at hq
   obtain ⟨l,l1,l2⟩:=hx.s1
   let σ1:=σ++[oSeen (nmV p)]
   show Ai C _ _ [some y,some (.ref k),some a.1,z3] σ1
   have hi:∀ n,inV σ1 (vs n) (.ref k)=some (decide (n∈nmV p)):=fun n=>(in_dS AD).trans (by rw [seen_in])
   refine AC (t:=decide (a.2.1∈nmV p)) (A5 (Ak rfl rfl hx.s0) rfl (hi _)) (fun e1=>AE rfl ⟨?_,_,rfl⟩) fun e1=>Ac ?_
   ·show vb false=_
    rw [hq]
    show _=vb (AT _ (a.2::q.map (·.2)))
    rw [AT,if_pos (.inl (of_decide_eq_true e1))]
   refine Gh (l:=a.2.2.1) vs (fun p' ρ σ'=>(∃ z3,ρ=[some y,some (.ref k),some a.1,z3])/\(∀ n∈p',n∈nmV p)/\σ1=σ') (y:=l) (Ak rfl rfl (l1 _)) (fun _ _ _ h=>h.2.2▸(l2.stay st).vs) ⟨⟨z3,rfl⟩,(fun _ h=>nomatch h),rfl⟩ ?_ ?_
   ·rintro p' n q' ρ _ e' ⟨⟨z3,rfl⟩,hp',rfl⟩
    refine AC (t:=!decide (n∈nmV p)) (A5 rfl rfl (by show Dt (inV σ1 (vs n) (.ref k))=_; rw [hi]; rfl)) (fun e2=>AE rfl ⟨?_,_,rfl⟩) fun e2=>Ac (Ac ⟨⟨_,rfl⟩,fun m hm=>?_,rfl⟩)
    ·show vb false=_
     rw [hq]
     show _=vb (AT _ (a.2::q.map (·.2)))
     rw [AT,if_pos (.inr ⟨n,by rw [e']; simp,of_decide_eq_false ((Bool.not_eq_true' _).mp e2)⟩)]
    ·rcases List.mem_append.mp hm with hm | hm
     ·exact hp' m hm
     ·rw [List.mem_singleton.mp hm]; exact of_decide_eq_true (by cases q:decide (n∈nmV p) with | true=>rfl | false=>rw [q] at e2; exact tt_ e2)
   ·rintro ρ _ ⟨⟨z3,rfl⟩,hp',rfl⟩
    refine Gg (dd:=vb true) (k:=k) (w:=Tx a.2.1) (kvs:=Cw Tx vb ((nmV p).map fun n=>(n,true))) rfl rfl (Ak rfl rfl hx.s0) AD ?_ (Ac ⟨⟨_,_,rfl⟩,?_,?_⟩)
    ·have:=congrArg List.length e
     rw [CV,List.length_map,List.length_map]
     simp at this
     exact Nat.lt_of_le_of_lt (show p.length<=1000 by omega) (by decide)
    ·rw [hq,List.length_append,List.length_singleton,<-List.drop_drop,ed]
     show AT _ (a.2::q.map (·.2))=AT _ (q.map (·.2))
     rw [AT,if_neg (fun h=>h.elim (fun h=>of_decide_eq_false e1 h) fun ⟨n,h1,h2⟩=>h2 (hp' n h1))]; show AT _ _=AT (nmV (p++[a])) _; rw [show nmV (p++[a])=nmV p++[a.2.1] from List.map_append ..]
    ·show _=σ1.set σ.length _
     rw [D3,EB vb Fb,Gc (C6.mpr (by rw [List.map_map]; simpa using of_decide_eq_false e1)),show nmV (p++[a])=nmV p++[a.2.1] from List.map_append ..,oSeen,List.map_append]; rfl
  ·rintro ρ _ ⟨⟨z2,z3,rfl⟩,hq,rfl⟩
   refine AE rfl ⟨?_,_,rfl⟩
   show vb true=_
   rw [hq,List.drop_length]; rfl)
 rw [h1,h2] at h
 exact FA.seal h (s_bool _)
end Mine
namespace Mine
open PySem
theorem e_allT {O:Orc} {ρ:Af} {σ:Aa} {t:Nat} {a elt:E} {ls:List (List Nat)} {l:V} (p:List Nat->Bool) (h:(ev O a).v ρ σ=some l) (hl:Ag σ l=some (ls.map vs)) (hn:ls.length<=1000) (hg:∀ n∈ls,(ev O elt).v ((ρ.set t none).set t (some (vs n))) σ=some (vb (p n))) (he:(ev O a).it ρ σ=((ev O a).v ρ σ).bind (CN σ):=by rfl):(ev O (.bi .all (.cons (.comp elt [t] a .nil) .nil))).t ρ σ=some (ls.all p):=by
 have hc:(ev O (.comp elt [t] a .nil)).v ρ σ=some (.d (.list ((ls.map p).map .bool))):=by
  refine D7 ?_
  rw [BR (t:=t) vs (fun _=>true) (fun n=>vb (p n)) (CO h hl he) (Nat.le_trans hn (by decide)) (fun _ _=>rfl) (fun n hn _=>hg n hn),Cf,List.map_map,List.map_map]; rfl
 refine (CZ (Ax hc) (all_bools _ _)).trans ?_
 rw [List.all_map]; rfl
theorem fn_kept {σ:Aa} {y:V} {hs:List (V×Ch)} (H:Hd4 σ y hs) (hl:hs.length<=1000) (hd:∀ p∈hs,p.2.2.1.length<=1000):FN 2 85 [y] σ (vb (AT [] (hs.map (·.2)))) σ:=by
 let C:=C0 1
 let k:=σ.length
 have st:∀ {o:O},Bd σ (σ++[o]):=Bd.app
 obtain ⟨v,σ',⟨h1,τ,h2⟩,h⟩:=FN.ends (C:=C) (f:=85) (fn:=Fkept) (zs:=[y]) (σ:=σ) (R:=fun v σ'=>v=vb (AT [] (hs.map (·.2)))/\∃ τ,σ'=σ++τ) (by unfold Pg; rfl) rfl (Nat.le_refl _) (by
  show Ai C _ _ [some y,none,none,none] σ
  refine Ck (ws:=[]) rfl ?_
  refine Gh (l:=hs) (·.1) (fun p ρ σ'=>(∃ z2 z3,ρ=[some y,some (.ref k),z2,z3])/\AT [] (hs.map (·.2))=AT (nmV p) ((hs.drop p.length).map (·.2))/\σ++[.list ((nmV p).map vs)]=σ') (y:=y) rfl (fun _ _ _ h=>h.2.2▸Bl H.lst st) ⟨⟨none,none,rfl⟩,rfl,rfl⟩ ?_ ?_
  ·rintro p a q ρ _ e ⟨⟨z2,z3,rfl⟩,hq,rfl⟩
   have hm:a∈hs:=by rw [e]; simp
   have hx:ChV σ a.1 a.2:=H.ch a hm
   have ed:hs.drop p.length=a::q:=by rw [e,List.drop_left]
   rw [ed] at hq
   obtain ⟨l,l1,l2⟩:=hx.s1
   let σ1:Aa:=σ++[.list ((nmV p).map vs)]
   show Ai C _ _ [some y,some (.ref k),some a.1,z3] σ1
   have hi:∀ n,inV σ1 (vs n) (.ref k)=some (decide (n∈nmV p)):=fun n=>in_of (by show BF σ1[σ.length]? = _; rw [AD]; rfl)
   have ha:=e_allT (O:=C.O) (ρ:=[some y,some (.ref k),some a.1,z3]) (σ:=σ1) (t:=3) (a:=.sub (.var 2) (.cst (.int 1))) (elt:=.cmp .In (.var 3) (.var 1)) (fun n=>decide (n∈nmV p)) (Ak rfl rfl (l1 _)) (l2.stay st).vs (hd a hm) (fun n _=>Fx (y:=.ref k) rfl rfl (hi n))
   refine AC (DC (A5 (Ak rfl rfl hx.s0) rfl (hi _)) fun _=>CY ha) (fun e1=>AE rfl ⟨?_,_,rfl⟩) fun e1=>Ac ?_
   ·show vb false=_
    rw [hq]
    show _=vb (AT _ (a.2::q.map (·.2)))
    rw [AT,if_pos]
    rcases Bool.or_eq_true_iff.mp e1 with e1 | e1
    ·exact .inl (of_decide_eq_true e1)
    ·refine .inr ?_
     have e1:(a.2.2.1.all fun n=>decide (n∈nmV p))=false:=by cases q:(a.2.2.1.all fun n=>decide (n∈nmV p)) with | false=>rfl | true=>rw [q] at e1; exact ff_ e1
     obtain ⟨n,h1,h2⟩:=List.all_eq_false.mp e1
     exact ⟨n,h1,fun q=>h2 (decide_eq_true q)⟩
   obtain ⟨e2,e3⟩:=Bool.or_eq_false_iff.mp e1
   have e3:(a.2.2.1.all fun n=>decide (n∈nmV p))=true:=by cases q:(a.2.2.1.all fun n=>decide (n∈nmV p)) with | true=>rfl | false=>rw [q] at e3; exact tt_ e3
   refine B4 (k:=k) (y:=vs a.2.1) (ws:=(nmV p).map vs) rfl (Ax (Ak rfl rfl hx.s0)) AD ?_ (Ac ⟨⟨_,_,rfl⟩,?_,?_⟩)
   ·have:=congrArg List.length e
    rw [List.length_map,List.length_map]
    simp at this
    exact Nat.lt_of_le_of_lt (show p.length<=1000 by omega) (by decide)
   ·rw [hq,List.length_append,List.length_singleton,<-List.drop_drop,ed]
    show AT _ (a.2::q.map (·.2))=AT _ (q.map (·.2))
    rw [AT,if_neg (fun h=>h.elim (fun h=>of_decide_eq_false e2 h) fun ⟨n,h1,h2⟩=>h2 (of_decide_eq_true (List.all_eq_true.mp e3 n h1)))]
    show AT _ _=AT (nmV (p++[a])) _
    rw [show nmV (p++[a])=nmV p++[a.2.1] from List.map_append ..]
   ·show _=σ1.set σ.length _
    rw [D3,show nmV (p++[a])=nmV p++[a.2.1] from List.map_append ..,List.map_append]; rfl
  ·rintro ρ _ ⟨⟨z2,z3,rfl⟩,hq,rfl⟩
   refine AE rfl ⟨?_,_,rfl⟩
   show vb true=_
   rw [hq,List.drop_length]; rfl)
 rw [h1,h2] at h
 exact FA.seal h (s_bool _)
end Mine
namespace Mine
open PySem
theorem max_shift:∀ (l:List Int) (b:Int),l.foldl (fun a b=>if a < b then b else a) b+1=(l.map (· + 1)).foldl (fun a b=>if a < b then b else a) (b+1)
 | [],_=>rfl
 | x::l,b=>by
  rw [List.map_cons,List.foldl_cons,List.foldl_cons,max_shift l]
  congr 1
  split <;> split <;> omega
theorem max_one (l:List Int):1+Dq (-1) l=Dq 0 (l.map (· + 1)):=by
 cases l with
 | nil=>rfl
 | cons x l =>
  show 1+l.foldl _ x=(l.map (· + 1)).foldl _ (x+1)
  rw [Int.add_comm,max_shift]
theorem mapV_ints (l:List Int):C3 BP (l.map vi)=some l:=by
 induction l with
 | nil=>rfl
 | cons x l ih=>show (C3 BP (l.map vi)).bind _=_; rw [ih]; rfl
noncomputable abbrev oT4 (h:Gsl):O:=.dictS (Cw Tx vi h)
theorem in_T4 {σ:Aa} {h:Gsl} {n:List Nat} {k:Nat} (hk:σ[k]? = some (oT4 h)):inV σ (vs n) (.ref k)=some (Al h n).isSome:=(in_dS hk).trans (by rw [CX vi Fb,Option.isSome_map])
theorem sub_T4 {σ:Aa} {h:Gsl} {n:List Nat} {k:Nat} {v:Int} (hk:σ[k]? = some (oT4 h)) (e:Al h n=some v):AI (.ref k) (vs n) σ=some (vi v):=sub_dS hk (by rw [CX vi Fb,e]; rfl)
theorem levR_snoc (c:Ch):∀ (l:List Ch) (h:Gsl),Cr h (l++[c])=Cq (Cr h l) c
 | [],_=>rfl
 | d::l,h=>levR_snoc c l (Cq h d)
theorem FE (cs:List Ch):∀ (n:Nat) (h:Gsl),AU (n+1) h cs=Cr (AU n h cs) cs
 | 0,_=>rfl
 | n+1,h=>FE cs n (Cr h cs)
theorem keys_len {cs:List Ch} {h:Gsl} (k:FZ cs h):h.length<=cs.length:=by
 have:=Di (h.map (·.1)) (cs.map (·.1)) k.1 k.2
 rw [List.length_map,List.length_map] at this; exact this
theorem BM {σ:Aa} {x:V} {ws:List V} (h:Ag σ x=some ws):bmake .list σ [x]=some ws:=by
 show toList σ x=_
 cases x with
 | ref k =>
  have h:BF σ[k]? = some ws:=h
  show keysO σ[k]? = _
  cases e:σ[k]? with
  | none=>rw [e] at h; exact Ab h
  | some o=>cases o with
   | list us=>rw [e] at h; exact h
   | _=>rw [e] at h; exact Ab h
 | d y=>exact h
 | _=>exact Ab h
theorem fn_copy {σ:Aa} {v:V} {c:Ch} (H:ChV σ v c) (hl:c.2.1.length<=1000) (hd:c.2.2.length<=1000):FN 2 17 [v] σ (xt c σ.length (σ++[oLs c]).length) (σ++[oLs c]++[oDs c]):=by
 let C:=C0 1
 obtain ⟨l,l1,l2⟩:=H.s1
 obtain ⟨d,d1,d2⟩:=H.s2
 obtain ⟨v',σ',⟨h1,h2⟩,h⟩:=FN.ends (C:=C) (f:=17) (fn:=Fcopy) (zs:=[v]) (σ:=σ) (R:=fun v σ'=>v=xt c σ.length (σ++[oLs c]).length/\σ'=σ++[oLs c]++[oDs c]) (by unfold Pg; rfl) rfl (Nat.le_refl _) (by
  show Ai C _ _ [some v] σ
  have n1:(ev C.O (.bi .list (.cons (.sub (.var 0) (.cst (.int 1))) .nil))).nl [some v] σ=some (c.2.1.map vs):=e_nlb (b:=.list) (Ax (Ak rfl rfl (l1 _))) (BM l2.vs) (by rw [List.length_map]; exact Nat.le_trans hl (by decide))
  have n2:(ev C.O (.bi .list (.cons (.sub (.var 0) (.cst (.int 2))) .nil))).nl [some v] (σ++[oLs c])=some (c.2.2.map fun d=>.d d.data):=e_nlb (b:=.list) (Ax (Ak rfl rfl (d1 _))) (BM (by rw [(d2.stay Bd.app).lst,List.map_map]; rfl)) (by rw [List.length_map]; exact Nat.le_trans hd (by decide))
  exact CI (SE.tupR (us:=[.inl (.str (Tx c.1)),.inr σ.length,.inr (σ++[oLs c]).length]) (.cons ((Ad C.ok _).v (Ak rfl rfl H.s0)) (.cons (SE.trk ((Ad C.ok _).nl n1)) (.cons (SE.trk ((Ad C.ok _).nl n2)) .nil))) (show 3<=line by decide)) ⟨rfl,rfl⟩)
 rw [h1,h2] at h; exact h
theorem fn_levels {σ:Aa} {y:V} {hs:List (V×Ch)} (H:Hd4 σ y hs) (hl:hs.length<=1000) (hd:∀ p∈hs,p.2.2.1.length<=1000):FN 2 86 [y] σ (.ref σ.length) (σ++[oT4 (AU hs.length [] (hs.map (·.2)))]):=by
 let C:=C0 1
 let k:=σ.length
 let cs:=hs.map (·.2)
 have st:∀ {o:O},Bd σ (σ++[o]):=Bd.app
 have hcs:cs.length<=1000:=by rw [List.length_map]; exact hl
 exact FN.same (C:=C) (fn:=Flevels) (by unfold Pg; rfl) rfl (Nat.le_refl _) (by
  show Ai C _ _ [some y,none,none,none,none] σ
  refine Gi ?_
  refine go_forL (l:=hs) (·.1) (fun p ρ σ'=>(∃ z2 z3 z4,ρ=[some y,some (.ref k),z2,z3,z4])/\σ++[oT4 (AU p.length [] cs)]=σ') (y:=y) rfl (fun _ _ _ h=>h.2▸Bl H.lst st) ⟨⟨none,none,none,rfl⟩,rfl⟩ ?_ ?_
  ·rintro p a q ρ _ e ⟨⟨z2,z3,z4,rfl⟩,rfl⟩
   have K0:FZ cs (AU p.length [] cs):=BN _ _ ⟨List.nodup_nil,fun n h=>nomatch h⟩
   have eS:AU (p++[a]).length [] cs=Cr (AU p.length [] cs) cs:=by rw [List.length_append]; exact FE cs _ _
   generalize AU p.length [] cs=t0 at K0 eS ⊢
   show Ai C _ _ [some y,some (.ref k),some a.1,z3,z4] _
   refine go_forL (l:=hs) (·.1) (fun p' ρ σ'=>(∃ z3 z4,ρ=[some y,some (.ref k),some a.1,z3,z4])/\σ++[oT4 (Cr t0 (p'.map (·.2)))]=σ') (y:=y) rfl (fun _ _ _ h=>h.2▸Bl H.lst st) ⟨⟨z3,z4,rfl⟩,rfl⟩ ?_ ?_
   ·rintro p' b q' ρ _ e' ⟨⟨z3,z4,rfl⟩,rfl⟩
    have hm:b∈hs:=by rw [e']; simp
    have hx:ChV σ b.1 b.2:=H.ch b hm
    have K1:FZ cs (Cr t0 (p'.map (·.2))):=DQ _ _ K0 fun c hc=>by
     obtain ⟨x,hx,rfl⟩:=List.mem_map.mp hc
     exact List.mem_map_of_mem (by rw [e']; simp [hx])
    have eL:Cr t0 ((p'++[b]).map (·.2))=Cq (Cr t0 (p'.map (·.2))) b.2:=by rw [List.map_append]; exact levR_snoc _ _ _
    generalize Cr t0 (p'.map (·.2))=t1 at K1 eL ⊢
    obtain ⟨l,l1,l2⟩:=hx.s1
    let σ1:Aa:=σ++[oT4 t1]
    show Ai C _ _ [some y,some (.ref k),some a.1,some b.1,z4] σ1
    have hi:∀ n,inV σ1 (vs n) (.ref k)=some (Al t1 n).isSome:=fun n=>in_T4 AD
    have ha:=e_allT (O:=C.O) (ρ:=[some y,some (.ref k),some a.1,some b.1,z4]) (σ:=σ1) (t:=4) (a:=.sub (.var 3) (.cst (.int 1))) (elt:=.cmp .In (.var 4) (.var 1)) (fun n=>(Al t1 n).isSome) (Ak rfl rfl (l1 _)) (l2.stay st).vs (hd b hm) (fun n _=>Fx (y:=.ref k) rfl rfl (hi n))
    refine AC (t:=(Al t1 b.2.1).isNone&&DE t1 b.2) (CQ (p:=(Al t1 b.2.1).isNone) (A5 (y:=.ref k) (Ak rfl rfl hx.s0) rfl (by show Dt (inV σ1 (vs b.2.1) (.ref k))=_; rw [hi]; cases Al t1 b.2.1 <;> rfl)) fun _=>ha) (fun e1=>?_) fun e1=>Ac (Ac ⟨_,rfl,⟨_,_,rfl⟩,?_⟩)
    ·obtain ⟨e2,e3⟩:=Bool.and_eq_true_iff.mp e1
     have hv:∀ n∈b.2.2.1,Al t1 n=some ((Al t1 n).getD 0):=fun n hn=>by
      have:=List.all_eq_true.mp e3 n hn
      cases q:Al t1 n with
      | none=>rw [q] at this; exact ff_ this
      | some v=>rfl
     have hc:(ev C.O (.comp (.bin .Add (.sub (.var 1) (.var 4)) (.cst (.int 1))) [4] (.sub (.var 3) (.cst (.int 1))) .nil)).v [some y,some (.ref k),some a.1,some b.1,z4] σ1=some (.d (.list (b.2.2.1.map fun n=>.int ((Al t1 n).getD 0+1)))):=by
      refine D7 ?_
      rw [BR (t:=4) vs (fun _=>true) (fun n=>vi ((Al t1 n).getD 0+1)) (CO (Ak rfl rfl (l1 _)) (l2.stay st).vs rfl) (Nat.le_trans (hd b hm) (by decide)) (fun _ _=>rfl) (fun n hn _=>Ah (Ak (x:=.ref k) (y:=vs n) rfl rfl (sub_T4 AD (hv n hn))) rfl rfl),Cf,List.map_map]; rfl
     have hmx:(ev C.O (.maxd (.comp (.bin .Add (.sub (.var 1) (.var 4)) (.cst (.int 1))) [4] (.sub (.var 3) (.cst (.int 1))) .nil) (.cst (.int 0)))).v [some y,some (.ref k),some a.1,some b.1,z4] σ1=some (vi (hval t1 b.2.2.1)):=by
      show ((ev C.O (.comp _ _ _ _)).v _ _).bind _=_
      rw [hc,bs]
      show (C3 BP ((b.2.2.1.map fun n=>PyData.int ((Al t1 n).getD 0+1)).map V.d)).bind _=_
      rw [show (b.2.2.1.map fun n=>PyData.int ((Al t1 n).getD 0+1)).map V.d=(b.2.2.1.map fun n=>(Al t1 n).getD 0+1).map vi by rw [List.map_map,List.map_map]; rfl,mapV_ints]
      show some (vi (Dq 0 _))=_
      unfold hval
      rw [max_one,List.map_map]; rfl
     refine Gg (dd:=vi (hval t1 b.2.2.1)) (k:=k) (w:=Tx b.2.1) (kvs:=Cw Tx vi t1) hmx rfl (Ak rfl rfl hx.s0) AD (by rw [CV]; exact Nat.lt_of_le_of_lt (Nat.le_trans (keys_len K1) hcs) (by decide)) (Ac (Ac ⟨_,rfl,⟨_,_,rfl⟩,?_⟩))
     show _=σ1.set σ.length _
     rw [D3,EB vi Fb,Gc (Option.isNone_iff_eq_none.mp e2),eL,Cq,if_pos e1]
    ·rw [eL,Cq,if_neg (by rw [e1]; exact Bool.false_ne_true)]
   ·rintro ρ _ ⟨⟨z3,z4,rfl⟩,rfl⟩
    exact Ac ⟨_,rfl,⟨_,_,_,rfl⟩,by rw [eS]⟩
  ·rintro ρ _ ⟨⟨z2,z3,z4,rfl⟩,rfl⟩
   exact AE rfl ⟨rfl,rfl⟩)
end Mine
namespace Mine
open PySem
theorem f_lenD {σ:Aa} {k:Nat} {kvs:List (Str×V)} (h:σ[k]? = some (.dictS kvs)) (hl:kvs.length<=line):Pr1 (fun X=>call (A6 .len) [X]) (.ref k) σ (vi kvs.length) σ:=fun r g s X A hx=>by
 obtain ⟨a,hk,rfl⟩:=hx
 refine A.has.dictS hk h fun ws hd hr=>?_
 have e:ws.length=kvs.length:=hr.length.symm
 exact call_len_dict (A.notMods hk) hd (by rw [e]; exact Int.ofNat_lt.mpr (Dl hl)) (.refl A.has.tok ⟨_,by rw [e]⟩)
theorem met_app (x:Str):∀ (l ks:List Str),(l.foldl (fun ks x=>if x∈ks then ks else ks++[x]) ks).length<=ks.length+l.length/\((l.foldl (fun ks x=>if x∈ks then ks else ks++[x]) ks).length=ks.length+l.length->l.Nodup/\∀ y∈l,y∉ks)
 | [],ks=>⟨Nat.le_refl _,fun _=>⟨List.nodup_nil,fun _ h=>nomatch h⟩⟩
 | z::r,ks=>by
  rw [List.foldl_cons]
  by_cases hz:z∈ks
  ·rw [if_pos hz]
   obtain ⟨h1,h2⟩:=met_app x r ks
   refine ⟨Nat.le_trans h1 (Nat.add_le_add_left (Nat.le_succ _) _),fun e=>?_⟩
   rw [List.length_cons] at e
   exact absurd h1 (by omega)
  ·rw [if_neg hz]
   obtain ⟨h1,h2⟩:=met_app x r (ks++[z])
   rw [List.length_append,List.length_singleton] at h1 h2
   refine ⟨by rw [List.length_cons]; omega,fun e=>?_⟩
   rw [List.length_cons] at e
   obtain ⟨h3,h4⟩:=h2 (by omega)
   refine ⟨List.nodup_cons.mpr ⟨fun q=>h4 z q (List.mem_append_right _ (.head _)),h3⟩,fun y hy=>?_⟩
   rcases List.mem_cons.mp hy with rfl | hy
   ·exact hz
   ·exact fun q=>h4 y hy (List.mem_append_left _ q)
theorem met_id:∀ (l ks:List Str),l.Nodup->(∀ y∈l,y∉ks)->l.foldl (fun ks x=>if x∈ks then ks else ks++[x]) ks=ks++l
 | [],ks,_,_=>(List.append_nil _).symm
 | z::r,ks,hn,hk=>by
  obtain ⟨h1,h2⟩:=List.nodup_cons.mp hn
  have h3:∀ y∈r,y∉ks++[z]:=fun y hy q=>(List.mem_append.mp q).elim (hk y (.tail _ hy)) fun q=>by rw [List.mem_singleton.mp q] at hy; exact h1 hy
  rw [List.foldl_cons,if_neg (hk z (.head _)),met_id r _ h2 h3,List.append_assoc]; rfl
theorem met_lt (l:List Str):(met l).length < l.length ↔ ¬ l.Nodup:=by
 constructor
 ·intro h hn
  have e:met l=l:=met_id l [] hn fun _ _ q=>nomatch q
  rw [e] at h; exact Nat.lt_irrefl _ h
 ·intro hn
  obtain ⟨h1,h2⟩:=met_app Str.empty l []
  rw [List.length_nil,Nat.zero_add] at h1 h2
  exact Nat.lt_of_le_of_ne h1 fun e=>hn (h2 e).1
theorem GH {l:List (List Nat)}:(l.map Tx).Nodup ↔ l.Nodup:=by
 rw [List.Nodup,List.pairwise_map]
 exact ⟨fun h=>h.imp fun q e=>q (congrArg Tx e),fun h=>h.imp fun q e=>q (Tx_inj e)⟩
end Mine
namespace Mine
open PySem
theorem F5 {κ κ' α α':Type} {lt:κ->κ->Bool} {lt':κ'->κ'->Bool} (f:κ×α->κ'×α') (h:∀ p q,lt' (f p).1 (f q).1=lt p.1 q.1) (l:List (κ×α)):A4 lt' (l.map f)=(A4 lt l).map f:=by
 have ins:∀ (p:κ×α) (l:List (κ×α)),Ca lt' (f p) (l.map f)=(Ca lt p l).map f:=by
  intro p l
  induction l with
  | nil=>rfl
  | cons q r ih =>
   show (if lt' (f q).1 (f p).1 then f q::Ca lt' (f p) (r.map f) else f p::f q::r.map f)=(if lt q.1 p.1 then q::Ca lt p r else p::q::r).map f
   rw [h,ih]
   split <;> rfl
 induction l with
 | nil=>rfl
 | cons p r ih =>
  show Ca lt' (f p) (A4 lt' (r.map f))=(Ca lt p (A4 lt r)).map f
  rw [ih,ins]
noncomputable def ltN (a b:List Nat):Bool:=decide (a < b)
theorem linN:LinB ltN:=⟨fun a=>decide_eq_false (List.lt_irrefl a),fun a b c h h'=>decide_eq_true (List.lt_trans (of_decide_eq_true h) (of_decide_eq_true h')),fun a b h h'=>List.le_antisymm (List.not_lt.mp (of_decide_eq_false h')) (List.not_lt.mp (of_decide_eq_false h))⟩
noncomputable def A8 (cs:List Ch):List Ch:=((A4 ltN (cs.map fun c=>(c.1,c)).reverse).reverse).map (·.2)
theorem DF (cs:List Ch):(A8 cs).Perm cs:=by
 have h:=((List.reverse_perm _).trans ((AX (lt:=ltN) (cs.map fun c=>(c.1,c)).reverse).trans (List.reverse_perm _))).map (·.2)
 rw [List.map_map,show ((fun x:List Nat×Ch=>x.2)∘fun c:Ch=>(c.1,c))=id from rfl,List.map_id] at h
 exact h
theorem byName_falls {cs:List Ch} (hn:(cs.map (·.1)).Nodup):(A8 cs).Pairwise fun a b=>b.1 < a.1:=by
 have h0:(cs.map fun c=>(c.1,c)).reverse.Pairwise fun a b:List Nat×Ch=>a.1≠b.1:=by
  rw [List.pairwise_reverse,List.pairwise_map]
  have:=hn
  rw [List.Nodup,List.pairwise_map] at this
  exact this.imp fun h e=>h e.symm
 have h1:=F4 linN _ h0
 unfold A8
 rw [List.pairwise_map,List.pairwise_reverse]
 refine h1.imp_of_mem fun {a b} ha hb h=>?_
 have key:∀ x:List Nat×Ch,x∈A4 ltN (cs.map fun c=>(c.1,c)).reverse->x.1=x.2.1:=fun x hx=>by
  have:=List.mem_reverse.mp ((AX _).mem_iff.mp hx)
  obtain ⟨c,_,rfl⟩:=List.mem_map.mp this
  rfl
 rcases h with h | h
 ·rw [<-key a ha,<-key b hb]; exact of_decide_eq_true h
 ·exact (h.2 h.1).elim
theorem Fa {α β γ:Type} {R:β->γ->Prop} {f:α->β} {g:α->γ}:∀ {l:List α},(∀ a∈l,R (f a) (g a))->Aq R (l.map f) (l.map g)
 | [],_=>trivial
 | _::_,h=>⟨h _ (.head _),Fa fun b hb=>h b (.tail _ hb)⟩
theorem Gp {α β γ:Type} (f:α->β) (g:α->γ):∀ l:List α,(l.map f).zip (l.map g)=l.map fun a=>(f a,g a)
 | []=>rfl
 | a::l=>congrArg ((f a,g a) :: ·) (Gp f g l)
theorem data_inj {a b:Ch} (h:Ch.data a=Ch.data b):a.1=b.1:=by
 unfold Ch.data at h
 injection h with h
 injection h with h
 injection h with h
 exact Tx_inj h
theorem data_nodup {cs:List Ch} (nd:(cs.map (·.1)).Nodup):(cs.map Ch.data).Nodup:=by
 rw [List.Nodup,List.pairwise_map] at nd ⊢
 exact nd.imp fun h e=>h (data_inj e)
theorem sort_name (cs:List Ch):CF true AN ((cs.map fun c=>Tx c.1).zip (cs.map Ch.data))=(A8 cs).map Ch.data:=by
 rw [Gp]
 show (A4 AN (cs.map fun c=>(Tx c.1,Ch.data c)).reverse).reverse.map (·.2)=(((A4 ltN (cs.map fun c=>(c.1,c)).reverse).reverse).map (·.2)).map Ch.data
 rw [show (cs.map fun c=>(Tx c.1,Ch.data c)).reverse=((cs.map fun c=>(c.1,c)).reverse).map fun p=>(Tx p.1,Ch.data p.2) by rw [<-List.map_reverse,<-List.map_reverse,List.map_map]; rfl,F5 (lt:=ltN) (fun p=>(Tx p.1,Ch.data p.2)) (fun p q=>Tx_lt ..),<-List.map_reverse,List.map_map,List.map_map]
 rfl
noncomputable abbrev nms (F:List Ch):List (List Nat):=F.map (·.1)
theorem str_nodup {cs:List Ch} (nd:(cs.map (·.1)).Nodup):(cs.map fun c=>PyData.str (Tx c.1)).Nodup:=by
 rw [List.Nodup,List.pairwise_map] at nd ⊢
 exact nd.imp fun h e=>h (by injection e with e; exact Tx_inj e)
noncomputable def ltI (a b:Int):Bool:=decide (a < b)
noncomputable def Ep (H:List Nat->Int) (cs:List Ch):List Ch:=(A4 ltI ((A8 cs).map fun c=>(H c.1,c))).map (·.2)
section
variable {H:List Nat->Int} {cs:List Ch} {σ:Aa}
theorem sort_by (f:Ch->PyData):CF false intK.lt (((A8 cs).map fun c=>H c.1).zip ((A8 cs).map f))=(Ep H cs).map f:=by
 rw [Gp]
 show (A4 ltI ((A8 cs).map fun c=>(H c.1,f c))).map (·.2)=((A4 ltI ((A8 cs).map fun c=>(H c.1,c))).map (·.2)).map f
 rw [show ((A8 cs).map fun c=>(H c.1,f c))=((A8 cs).map fun c=>(H c.1,c)).map fun p=>(p.1,f p.2) by rw [List.map_map]; rfl,F5 (lt:=ltI) (fun p:Int×Ch=>(p.1,f p.2)) (fun p q=>rfl),List.map_map,List.map_map]
 rfl
theorem fn_ordered {k:Nat} {h:Gsl} {y:V} (hl:cs.length < 64) (nd:(nms cs).Nodup) (hy:Ag σ y=some ((nms cs).map vs)) (hk:σ[k]? = some (oT4 h)) (hh:∀ c∈cs,Al h c.1=some (H c.1)):FN 3 8 [y,.ref k] σ (.d (dl (nms (Ep H cs)))) σ:=by
 have hp:=DF cs
 exact FN.same (C:=C0 2) (fn:=Fordered) (by unfold Pg; rfl) rfl (show 1<=2 by decide) (by
  show Ai _ _ _ [some y,some (.ref k),none,none] σ
  have e1:vss ((A8 cs).map fun c=>Tx c.1)=((A8 cs).map fun c=>PyData.str (Tx c.1)).map V.d:=by
   show ((A8 cs).map fun c=>Tx c.1).map _=_
   rw [List.map_map,List.map_map]; rfl
  have hs1:SL 5 (.sortr (.var 0)) [some y,some (.ref k),none,none] σ (vss ((A8 cs).map fun c=>Tx c.1)) σ:=by
   refine SL.sortr (ss:=cs.map fun c=>Tx c.1) ((Ad (C0 2).ok (.var 0)).v rfl) ?_ (by rw [List.length_map]; exact hl) (hp.map _) ?_
   ·rw [hy]
    show some ((nms cs).map vs)=some ((cs.map fun c=>Tx c.1).map _)
    rw [List.map_map,List.map_map]; rfl
   ·show (((A8 cs).map fun c=>Tx c.1).reverse).Pairwise fun a b=>AN b a=false
    rw [List.pairwise_reverse,List.pairwise_map]
    exact (byName_falls nd).imp fun {a b} h=>by rw [Tx_lt]; exact decide_eq_false fun q=>List.lt_irrefl _ (List.lt_trans q h)
  rw [e1] at hs1
  refine AS (v:=.d (.list ((A8 cs).map fun c:Ch=>PyData.str (Tx c.1)))) rfl (SE.frz (n:=5) (ds:=(A8 cs).map fun c:Ch=>PyData.str (Tx c.1)) hs1) ?_
  have hk':Aq (fun w b=>SE 4 (.sub (.var 1) (.var 3)) (([some y,some (.ref k),some (.d (.list ((A8 cs).map fun c=>PyData.str (Tx c.1)))),none]:Af).set 3 (some w)) σ (intK.kv b) σ) (((A8 cs).map fun c=>PyData.str (Tx c.1)).map .d) ((A8 cs).map fun c=>H c.1):=by
   rw [List.map_map]
   exact Fa fun c hc=>(Ad (C0 1).ok _).v (Ak (x:=.ref k) (y:=vs c.1) rfl rfl (sub_T4 hk (hh c (hp.mem_iff.mp hc))))
  have h:=SL.sortk (n:=4) (K:=intK) (rev:=false) (a:=.var 2) ((Ad (C0 2).ok (.var 2)).v rfl) rfl (str_nodup ((hp.map _).nodup_iff.mpr nd)) (by rw [List.length_map,hp.length_eq]; exact hl) hk'
  refine CI (v:=.d (dl (nms (Ep H cs)))) (SE.frz (ds:=(Ep H cs).map fun c=>PyData.str (Tx c.1)) ((congrArg (fun l:List PyData=>SL 5 (.sortk false (.var 2) 3 (.sub (.var 1) (.var 3))) _ σ (l.map V.d) σ) (sort_by fun c=>PyData.str (Tx c.1))).mp h) |> fun q=>?_) ⟨rfl,rfl⟩
  show SE 5 _ _ _ (.d (.list ((nms (Ep H cs)).map fun t=>.str (Tx t)))) _
  rw [List.map_map]; exact q)
end
end Mine
namespace Mine
open PySem
theorem go_iteS {C:Cfg} {P:Fl->Aa->Prop} {r a b:S} {ρ:Af} {σ:Aa} {c:E} {t:Bool} (h:ST (C.n+3) c ρ σ t σ) (kt:t=true->Ai C (Then C P r) a ρ σ) (kf:t=false->Ai C (Then C P r) b ρ σ):Ai C P (.cons (.ite c a b) r) ρ σ:=by
 cases t with
 | true =>
  obtain ⟨fl,σ',h1,h2⟩:=kt rfl
  exact B9 (fl:=fl) (σ':=σ') (fun Q q=>.ite h (fun _=>SSs.mono (fun f s e=>by rw [e.1,e.2]; exact q) h2) fun e=>tt_ e) h1
 | false =>
  obtain ⟨fl,σ',h1,h2⟩:=kf rfl
  exact B9 (fl:=fl) (σ':=σ') (fun Q q=>.ite h (fun e=>ff_ e) fun _=>SSs.mono (fun f s e=>by rw [e.1,e.2]; exact q) h2) h1
noncomputable abbrev EL (X:List Ch):Gsl:=AU X.length [] X
noncomputable abbrev EM (X:List Ch) (n:List Nat):Int:=(Al (EL X) n).getD 0
def Twc (X:List Ch):Prop:=¬ (nms X).Nodup
def Msg (X:List Ch):Prop:=∃ c∈X,∃ l∈c.2.1,l∉nms X
def Rng (X:List Ch):Prop:=(EL X).length < X.length
open Classical in
noncomputable def C7 (X:List Ch):String×List Ch:=if Twc X then ("twice",[]) else if Msg X then ("missing",[]) else if Rng X then ("ring",[]) else ("",Ep (EM X) X)
theorem lev_all {X:List Ch} (h:¬ Rng X) {c:Ch} (hc:c∈X):Al (EL X) c.1=some (EM X c.1):=by
 unfold EM
 cases e:Al (EL X) c.1 with
 | some v=>rfl
 | none =>
  have k:FZ X (EL X):=BN _ _ ⟨List.nodup_nil,fun n h=>nomatch h⟩
  have:=Di (c.1::(EL X).map (·.1)) (X.map (·.1)) (List.nodup_cons.mpr ⟨C6.mp e,k.1⟩) fun x hx=>by
   rcases List.mem_cons.mp hx with q | q
   ·rw [q]; exact List.mem_map_of_mem hc
   ·exact k.2 x q
  rw [List.length_cons,List.length_map,List.length_map] at this
  exact absurd this h
end Mine
namespace Mine
open PySem
noncomputable abbrev dueV (r:String×List Ch):PyData:=.tuple [.str (Str.ofString r.1),.list (r.2.map Ch.data)]
theorem lev_len {X:List Ch}:(EL X).length<=X.length:=keys_len (BN _ _ ⟨List.nodup_nil,fun n h=>nomatch h⟩)
theorem fn_due {σ:Aa} {y:V} {X:List Ch} (hy:Ag σ y=some (X.map vc)) (hl:X.length < 64) (hd:∀ c∈X,c.2.1.length<=1000):FN 3 87 [y] σ (.d (dueV (C7 X))) σ:=by
 let C:=C0 2
 let k:=σ.length
 let N:V:=.d (dl (nms X))
 let hs:List (V×Ch):=X.map fun c=>(vc c,c)
 have e1:hs.map (·.1)=X.map vc:=by rw [List.map_map]; rfl
 have e2:hs.map (·.2)=X:=by rw [List.map_map]; exact List.map_id _
 have H:Hd4 σ y hs:=⟨by rw [e1]; exact hy,fun p hp=>by obtain ⟨c,_,rfl⟩:=List.mem_map.mp hp; exact .inl rfl⟩
 have hlev:FN 2 86 [y] σ (.ref k) (σ++[oT4 (EL X)]):=by
  have:=fn_levels H (by rw [List.length_map]; omega) fun p hp=>by obtain ⟨c,hc,rfl⟩:=List.mem_map.mp hp; exact hd c hc
  rw [e2,List.length_map] at this; exact this
 have hNl:∀ {σ'},Ag σ' N=some (vss ((nms X).map Tx)):=fun {σ'}=>by
  show some (((nms X).map fun t=>PyData.str (Tx t)).map V.d)=some (((nms X).map Tx).map _)
  simp only [nms,List.map_map]; rfl
 have hNv:∀ {σ'},Ag σ' N=some ((nms X).map vs):=fun {σ'}=>by rw [D6]; rfl
 have lenN:∀ {ρ σ'},Eu ρ 1=some N->(ev C.O (.bi .len (.cons (.var 1) .nil))).v ρ σ'=some (vi X.length):=fun h=>Bc (Ax h) (D8.trans (by rw [List.length_map,List.length_map]))
 obtain ⟨v,σ',⟨h1,τ,h2⟩,h⟩:=FN.ends (C:=C) (f:=87) (fn:=Fdue) (zs:=[y]) (σ:=σ) (R:=fun v σ'=>v=.d (dueV (C7 X))/\∃ τ,σ'=σ++τ) (by unfold Pg; rfl) rfl (show 1<=2 by decide) (by
  show Ai C _ _ [some y,none,none,none,none,none,none] σ
  refine go_comp (ds:=(nms X).map fun t=>.str (Tx t)) ?_ ?_
  ·refine (BR (O:=C.O) (t:=2) vc (fun _=>true) (fun c=>vs c.1) (CO (y:=y) rfl hy rfl) (Nat.le_trans (Nat.le_of_lt hl) (by decide)) (fun _ _=>rfl) (fun c _ _=>Ak rfl rfl (Bv c))).trans ?_
   rw [Cf]; simp only [nms,List.map_map]; rfl
  show Ai C _ _ [some y,some N,none,none,none,none,none] σ
  refine go_iteS (t:=decide (((met ((nms X).map Tx)).length:Int) < (X.length:Int))) (.cmp (SE.slen (ss:=(nms X).map Tx) (x:=N) ((Ad C.ok (.var 1)).v rfl) hNl (by rw [List.length_map,List.length_map]; exact hl)) ((Ad C.ok _).v (lenN rfl)) (CC (op:=.Lt) rfl)) (fun e=>?_) fun e=>Ac ?_
  ·refine AE (v:=.d (dueV ("twice",[]))) rfl ⟨?_,[],(List.append_nil _).symm⟩
   have:Twc X:=fun q=>by
    have h3:=(met_lt ((nms X).map Tx)).mp (by have:=of_decide_eq_true e; rw [List.length_map,List.length_map]; omega)
    exact h3 (GH.mpr q)
   unfold C7; rw [if_pos this]; rfl
  have nd:(nms X).Nodup:=by
   refine GH.mp (Classical.byContradiction fun q=>?_)
   have h3:=(met_lt ((nms X).map Tx)).mpr q
   rw [List.length_map,List.length_map] at h3
   exact of_decide_eq_false e (by omega)
  refine Gh (l:=X) vc (fun p ρ σ'=>(∃ z2 z3,ρ=[some y,some N,z2,z3,none,none,none])/\(∀ c∈p,∀ l∈c.2.1,l∈nms X)/\σ=σ') (y:=y) rfl (fun _ _ _ h=>h.2.2▸hy) ⟨⟨none,none,rfl⟩,(fun _ h=>nomatch h),rfl⟩ ?_ ?_
  ·rintro p c q ρ _ e ⟨⟨z2,z3,rfl⟩,hp,rfl⟩
   have hm:c∈X:=by rw [e]; simp
   show Ai C _ _ [some y,some N,some (vc c),z3,none,none,none] σ
   have ha:=e_allT (O:=C.O) (ρ:=[some y,some N,some (vc c),z3,none,none,none]) (σ:=σ) (t:=3) (a:=.sub (.var 2) (.cst (.int 1))) (elt:=.cmp .In (.var 3) (.var 1)) (ls:=c.2.1) (fun n=>decide (n∈nms X)) (Ak rfl rfl (DL c)) (by show some ((c.2.1.map fun t=>PyData.str (Tx t)).map V.d)=_; rw [D6]) (hd c hm) (fun n _=>Fx (y:=N) rfl rfl (in_of hNv))
   refine AC (CY ha) (fun e3=>?_) fun e3=>Ac (Ac ⟨⟨_,_,rfl⟩,fun d hd'=>?_,rfl⟩)
   ·refine AE (v:=.d (dueV ("missing",[]))) rfl ⟨?_,[],(List.append_nil _).symm⟩
    have e3:(c.2.1.all fun n=>decide (n∈nms X))=false:=by cases q:(c.2.1.all fun n=>decide (n∈nms X)) with | false=>rfl | true=>rw [q] at e3; exact ff_ e3
    obtain ⟨n,n1,n2⟩:=List.all_eq_false.mp e3
    have:Msg X:=⟨c,hm,n,n1,fun q=>n2 (decide_eq_true q)⟩
    unfold C7; rw [if_neg (fun q=>q nd),if_pos this]; rfl
   ·have e3:(c.2.1.all fun n=>decide (n∈nms X))=true:=by cases q:(c.2.1.all fun n=>decide (n∈nms X)) with | true=>rfl | false=>rw [q] at e3; exact tt_ e3
    rcases List.mem_append.mp hd' with hd' | hd'
    ·exact hp d hd'
    ·rw [List.mem_singleton.mp hd']; exact fun l hl=>of_decide_eq_true (List.all_eq_true.mp e3 l hl)
  rintro ρ _ ⟨⟨z2,z3,rfl⟩,hp,rfl⟩
  have nm:¬ Msg X:=fun ⟨c,hc,l,hl,hn⟩=>hn (hp c hc l hl)
  let σ1:Aa:=σ++[oT4 (EL X)]
  have st:Bd σ σ1:=Bd.app
  refine AS (v:=.ref k) (σ':=σ1) rfl (.fcall ((Ad C.ok _).row (Ax rfl)) (FA.more hlev (by decide))) ?_
  show Ai C _ _ [some y,some N,z2,z3,some (.ref k),none,none] σ1
  have hkk:σ1[k]? = some (oT4 (EL X)):=AD
  refine go_iteS (t:=decide (((EL X).length:Int) < (X.length:Int))) (.cmp (.bi1 (.cons ((Ad C.ok (.var 4)).v rfl) .nil) (CV Tx vi (EL X)▸f_lenD hkk (by rw [CV]; exact Nat.le_trans lev_len (Nat.le_trans (Nat.le_of_lt hl) (by decide))))) ((Ad C.ok _).v (lenN rfl)) (CC (op:=.Lt) rfl)) (fun e=>?_) fun e=>Ac ?_
  ·refine AE (v:=.d (dueV ("ring",[]))) rfl ⟨?_,_,rfl⟩
   have:Rng X:=by have:=of_decide_eq_true e; unfold Rng; omega
   unfold C7; rw [if_neg (fun q=>q nd),if_neg nm,if_pos this]; rfl
  have nr:¬ Rng X:=fun q=>of_decide_eq_false e (by unfold Rng at q; omega)
  have hp2:=DF X
  have ndB:(nms (A8 X)).Nodup:=(hp2.map _).nodup_iff.mpr nd
  have s1:SL 5 (.sortk true (.var 0) 2 (.sub (.var 2) (.cst (.int 0)))) [some y,some N,z2,z3,some (.ref k),none,none] σ1 (((A8 X).map Ch.data).map .d) σ1:=by
   have:=SL.sortk (n:=4) (K:=strK) (rev:=true) (i:=2) (key:=.sub (.var 2) (.cst (.int 0))) (a:=.var 0) (σ:=σ1) (σ₁:=σ1) (ρ:=[some y,some N,z2,z3,some (.ref k),none,none]) (xs:=X.map Ch.data) (bs:=X.map fun c=>Tx c.1) ((Ad C.ok (.var 0)).v rfl) ((Bl hy st).trans (by rw [List.map_map]; rfl)) (data_nodup nd) (by rw [List.length_map]; exact hl) (by
    rw [List.map_map]
    exact Fa fun c hc=>(Ad (C0 1).ok _).v (Ak (x:=vc c) rfl rfl (Bv c)))
   exact (congrArg (fun l:List PyData=>SL 5 (.sortk true (.var 0) 2 (.sub (.var 2) (.cst (.int 0)))) [some y,some N,z2,z3,some (.ref k),none,none] σ1 (l.map V.d) σ1) (sort_name X)).mp this
  refine AS (v:=.d (.list ((A8 X).map Ch.data))) rfl (SE.frz s1) ?_
  show Ai C _ _ [some y,some N,z2,z3,some (.ref k),some (.d (.list ((A8 X).map Ch.data))),none] σ1
  have s2:SL 5 (.sortk false (.var 5) 6 (.sub (.var 4) (.sub (.var 6) (.cst (.int 0))))) [some y,some N,z2,z3,some (.ref k),some (.d (.list ((A8 X).map Ch.data))),none] σ1 (((Ep (EM X) X).map Ch.data).map .d) σ1:=by
   have:=SL.sortk (n:=4) (K:=intK) (rev:=false) (i:=6) (key:=.sub (.var 4) (.sub (.var 6) (.cst (.int 0)))) (a:=.var 5) (σ:=σ1) (σ₁:=σ1) (ρ:=[some y,some N,z2,z3,some (.ref k),some (.d (.list ((A8 X).map Ch.data))),none]) (xs:=(A8 X).map Ch.data) (bs:=(A8 X).map fun c=>EM X c.1) ((Ad C.ok (.var 5)).v rfl) rfl (data_nodup ndB) (by rw [List.length_map,hp2.length_eq]; exact hl) (by
    rw [List.map_map]
    exact Fa fun c hc=>(Ad (C0 1).ok _).v (Ak (x:=.ref k) (y:=vs c.1) rfl (Ak (x:=vc c) rfl rfl (Bv c)) (sub_T4 hkk (lev_all nr (hp2.mem_iff.mp hc)))))
   exact (congrArg (fun l:List PyData=>SL 5 (.sortk false (.var 5) 6 (.sub (.var 4) (.sub (.var 6) (.cst (.int 0))))) [some y,some N,z2,z3,some (.ref k),some (.d (.list ((A8 X).map Ch.data))),none] σ1 (l.map V.d) σ1) (sort_by (H:=EM X) (cs:=X) Ch.data)).mp this
  refine CI (v:=.d (dueV ("",Ep (EM X) X))) (.tup (ds:=[.str (Str.ofString ""),.list ((Ep (EM X) X).map Ch.data)]) (.cons ((Ad C.ok (.cst _)).v rfl) (.cons (SE.frz s2) .nil)) (show 2<=line by decide)) ⟨?_,_,rfl⟩
  show V.d _=_
  unfold C7; rw [if_neg (fun q=>q nd),if_neg nm,if_neg nr])
 rw [h1,h2] at h
 exact FA.seal h rfl
end Mine
namespace Mine
open PySem
noncomputable abbrev Tb:=Gsl
noncomputable def BC (s:Tb×List (V×Ch)) (a:V×Ch):Tb×List (V×Ch):=if DE s.1 a.2 then (s.1++[(a.2.1,hval s.1 a.2.2.1)],s.2) else (s.1,s.2++[a])
noncomputable def B8 (h:Tb) (l:List (V×Ch)):Tb×List (V×Ch):=l.foldl BC (h,[])
theorem passV_snoc (h:Tb) (p:List (V×Ch)) (a:V×Ch):B8 h (p++[a])=BC (B8 h p) a:=by unfold B8; rw [List.foldl_append]; rfl
theorem EC:∀ (l:List (V×Ch)) (h:Tb) (r:List (V×Ch)),(l.foldl BC (h,r)).1=(AM h (l.map (·.2))).1/\(l.foldl BC (h,r)).2.map (·.2)=r.map (·.2)++(AM h (l.map (·.2))).2
 | [],h,r=>⟨rfl,(List.append_nil _).symm⟩
 | a::l,h,r=>by
  rw [List.foldl_cons,List.map_cons]
  unfold AM
  by_cases e:DE h a.2=true
  ·rw [if_pos e,BC,if_pos e]; exact EC l _ r
  ·rw [if_neg e,BC,if_neg e]
   obtain ⟨h1,h2⟩:=EC l h (r++[a])
   refine ⟨h1,h2.trans ?_⟩
   rw [List.map_append,List.append_assoc]; rfl
end Mine
namespace Mine
open PySem
def Cz (C:Cfg) (P:Fl->Aa->Prop) (K:Nat->Aa->Prop) (l:S) (ρ:Af) (σ:Aa):Prop:=Ai C P l ρ σ\/∃ k σ',K k σ'/\SXs (C.n+3) l ρ σ k fun _ σ₁=>σ₁=σ'
section
variable {C:Cfg} {P:Fl->Aa->Prop} {K:Nat->Aa->Prop} {st r body:S} {ρ:Af} {σ:Aa} {x:Nat} {it c:E} {y:V} {α:Type}
theorem C5 {M:Af->Aa->Prop} (h:Ai C (fun fl σ'=>∃ ρ',fl=.next ρ'/\M ρ' σ') (.cons st .nil) ρ σ) (k:∀ ρ' σ',M ρ' σ'->Cz C P K r ρ' σ'):Cz C P K (.cons st r) ρ σ:=by
 obtain ⟨fl,σ',⟨ρ',rfl,h1⟩,h2⟩:=h
 rcases k ρ' σ' h1 with q | ⟨kk,σ₂,hK,q⟩
 ·exact .inl (BV (M:=fun a b=>a=ρ'/\b=σ') ⟨_,_,⟨ρ',rfl,rfl,rfl⟩,h2⟩ fun a b e=>by rw [e.1,e.2]; exact q)
 ·exact .inr ⟨kk,σ₂,hK,.tail (SS.mono (fun f s e=>by rw [e.1,e.2]; exact q) (.of1 h2))⟩
theorem goX_rse {t:Bool} {kk:Nat} {a:E} {ws:List V} (h:C.t c ρ σ=some t) (ha:C.row a ρ σ=some ws) (hl:ws.length<=line) (kt:t=true->K kk σ) (kf:t=false->Cz C P K r ρ σ):Cz C P K (.cons (.ite c (.cons (.rse kk a) .nil) .nil) r) ρ σ:=by
 cases t with
 | true=>exact .inr ⟨kk,σ,kt rfl,.head (.ite ((Ad C.ok c).t h) (.head (.rse (Nat.le_add_left 3 _) ((Ad C.ok a).row ha) hl rfl)))⟩
 | false=>exact C5 (M:=fun ρ' σ'=>ρ'=ρ/\σ'=σ) (Cj h (Ac ⟨ρ,rfl,rfl,rfl⟩)) fun ρ' σ' e=>by rw [e.1,e.2]; exact kf rfl
theorem turnsX {kps:List (Nat×List V)} (w:α->V) (J:List α->Af->Aa->Prop):∀ (q p:List α) (ρ:Af) (σ:Aa),(∀ p ρ σ,J p ρ σ->Bt σ kps)->J p ρ σ ->
 (∀ p' a q' ρ σ,p++q=p'++a::q'->J p' ρ σ->Cz C (fun fl σ'=>∃ ρ',fl=.next ρ'/\J (p'++[a]) ρ' σ') K body (Bw ρ [x] (w a)) σ) ->
 (∃ ρe σe,J (p++q) ρe σe/\∀ Q:Fl->Aa->Prop,Q (.next ρe) σe->ForQ (C.n+3) [x] body kps Q (q.map w) ρ σ)\/∃ k σ',K k σ'/\ForX (C.n+3) [x] body kps k (fun _ σ₁=>σ₁=σ') (q.map w) ρ σ
 | [],p,ρ,σ,hk,hJ,_=>.inl ⟨ρ,σ,(List.append_nil p).symm▸hJ,fun Q h=>⟨hk p ρ σ hJ,h⟩⟩
 | a::q,p,ρ,σ,hk,hJ,hf=>by
  have hb:Ex [x] (w a):=.inl rfl
  rcases hf p a q ρ σ rfl hJ with ⟨fl,σ₁,⟨ρ1,rfl,h1⟩,h2⟩ | ⟨k,σ',hK,h2⟩
  ·have e:p++[a]++q=p++a::q:=by rw [List.append_assoc]; rfl
   rcases turnsX w J q (p++[a]) ρ1 σ₁ hk h1 fun p' b q' ρ σ he=>hf p' b q' ρ σ (e.symm.trans he) with ⟨ρe,σe,h3,h4⟩ | ⟨k,σ',hK,h4⟩
   ·exact .inl ⟨ρe,σe,e▸h3,fun Q h=>⟨hk p ρ σ hJ,hb.at (Nat.le_add_left 3 _),SSs.mono (fun f s e=>by rw [e.1,e.2]; exact h4 Q h) h2⟩⟩
   ·exact .inr ⟨k,σ',hK,hk p ρ σ hJ,hb.at (Nat.le_add_left 3 _),.inr (SSs.mono (fun f s e=>by rw [e.1,e.2]; exact h4) h2)⟩
  ·exact .inr ⟨k,σ',hK,hk p ρ σ hJ,hb.at (Nat.le_add_left 3 _),.inl h2⟩
theorem goX_for {l:List α} (w:α->V) (J:List α->Af->Aa->Prop) (hit:C.v it ρ σ=some y) (hk:∀ p ρ σ,J p ρ σ->Ag σ y=some (l.map w)) (hJ:J [] ρ σ)
 (hf:∀ p a q ρ σ,l=p++a::q->J p ρ σ->Cz C (fun fl σ'=>∃ ρ',fl=.next ρ'/\J (p++[a]) ρ' σ') K body (ρ.set x (some (w a))) σ) (k:∀ ρ' σ',J l ρ' σ'->Cz C P K r ρ' σ') (he:C.it it ρ σ=(C.v it ρ σ).bind (CN σ):=by rfl):Cz C P K (.cons (.for_ [x] it body) r) ρ σ:=by
 have hI:=((Ad C.ok it).it (CO hit (hk _ _ _ hJ) he)).1
 rcases turnsX (C:=C) (K:=K) (body:=body) (x:=x) (kps:=C4 y (l.map w)) w J l [] ρ σ (fun p ρ σ h=>BT (hk p ρ σ h)) hJ hf with ⟨ρe,σe,h1,h2⟩ | ⟨kk,σ',hK,h2⟩
 ·exact C5 (M:=fun a b=>a=ρe/\b=σe) (B9 (fl:=.next ρe) (fun Q q=>.for_ hI (h2 Q q)) (Ac ⟨ρe,rfl,rfl,rfl⟩)) fun a b e=>by rw [e.1,e.2]; exact k ρe σe h1
 ·exact .inr ⟨kk,σ',hK,.head (.for_ hI h2)⟩
theorem whilesX (J:Nat->Af->Aa->Prop) (B:Af->Aa->Bool) (ht:∀ m ρ σ,J m ρ σ->C.t c ρ σ=some (B ρ σ)) (h0:∀ ρ σ,J 0 ρ σ->B ρ σ=false)
 (hf:∀ m ρ σ,J (m+1) ρ σ->B ρ σ=true->Cz C (fun fl σ'=>∃ ρ',fl=.next ρ'/\J m ρ' σ') K body ρ σ):∀ (m:Nat) (ρ:Af) (σ:Aa),J m ρ σ ->
 (∃ ρe σe m',J m' ρe σe/\B ρe σe=false/\∀ Q:Fl->Aa->Prop,Q (.next ρe) σe->WhQ (C.n+3) c body Q (m+1) ρ σ)\/∃ k σ',K k σ'/\WhX (C.n+3) c body k (fun _ σ₁=>σ₁=σ') (m+1) ρ σ
 | 0,ρ,σ,hJ=>.inl ⟨ρ,σ,0,hJ,h0 ρ σ hJ,fun Q q=>⟨false,σ,(Ad C.ok c).t (h0 ρ σ hJ▸ht 0 ρ σ hJ),fun _=>q,fun h=>ff_ h⟩⟩
 | m+1,ρ,σ,hJ=>by
  have h:=ht (m+1) ρ σ hJ
  cases e:B ρ σ with
  | false=>rw [e] at h; exact .inl ⟨ρ,σ,m+1,hJ,e,fun Q q=>⟨false,σ,(Ad C.ok c).t h,fun _=>q,fun h=>ff_ h⟩⟩
  | true =>
   rw [e] at h
   rcases hf m ρ σ hJ e with ⟨fl,σ₁,⟨ρ1,rfl,h1⟩,h2⟩ | ⟨k,σ',hK,h2⟩
   ·rcases whilesX J B ht h0 hf m ρ1 σ₁ h1 with ⟨ρe,σe,m',h3,h5,h4⟩ | ⟨k,σ',hK,h4⟩
    ·exact .inl ⟨ρe,σe,m',h3,h5,fun Q q=>⟨true,σ,(Ad C.ok c).t h,fun h=>tt_ h,fun _=>SSs.mono (fun f s e=>by rw [e.1,e.2]; exact h4 Q q) h2⟩⟩
    ·exact .inr ⟨k,σ',hK,σ,(Ad C.ok c).t h,.inr (SSs.mono (fun f s e=>by rw [e.1,e.2]; exact h4) h2)⟩
   ·exact .inr ⟨k,σ',hK,σ,(Ad C.ok c).t h,.inl h2⟩
theorem goX_while (J:Nat->Af->Aa->Prop) (B:Af->Aa->Bool) (m:Nat) (hJ:J m ρ σ) (ht:∀ m ρ σ,J m ρ σ->C.t c ρ σ=some (B ρ σ)) (h0:∀ ρ σ,J 0 ρ σ->B ρ σ=false)
 (hf:∀ m ρ σ,J (m+1) ρ σ->B ρ σ=true->Cz C (fun fl σ'=>∃ ρ',fl=.next ρ'/\J m ρ' σ') K body ρ σ) (k:∀ m' ρ' σ',J m' ρ' σ'->B ρ' σ'=false->Cz C P K r ρ' σ'):Cz C P K (.cons (.while_ c body) r) ρ σ:=by
 rcases whilesX (C:=C) (K:=K) (body:=body) J B ht h0 hf m ρ σ hJ with ⟨ρe,σe,m',h1,h3,h2⟩ | ⟨kk,σ',hK,h2⟩
 ·exact C5 (M:=fun a b=>a=ρe/\b=σe) (B9 (fl:=.next ρe) (fun Q q=>.while_ (h2 Q q)) (Ac ⟨ρe,rfl,rfl,rfl⟩)) fun a b e=>by rw [e.1,e.2]; exact k m' ρe σe h1 h3
 ·exact .inr ⟨kk,σ',hK,.head (.while_ h2)⟩
end
end Mine
namespace Mine
open PySem
section
variable {cs:List Ch}
theorem DM:∀ (l:List Ch) (h:Gsl) (n:List Nat),Al h n=none->n∉l.map (·.1)->Al (AM h l).1 n=none
 | [],_,_,e,_=>e
 | c::r,h,n,e,hn=>by
  rw [List.map_cons,List.mem_cons,not_or] at hn
  unfold AM
  split
  ·refine DM r _ n ?_ hn.2
   rw [Ft e,B0,if_neg (fun q=>hn.1 q.symm)]; rfl
  ·exact DM r h n e hn.2
end
section
variable {cs:List Ch}
theorem Dj:∀ (l:List Ch) (h:Gsl),(l.map (·.1)).Nodup->(∀ c∈l,Al h c.1=none)->∀ c∈(AM h l).2,Al (AM h l).1 c.1=none
 | [],_,_,_,_,hc=>by cases hc
 | c::r,h,hn,hh,d,hd=>by
  rw [List.map_cons,List.nodup_cons] at hn
  unfold AM at hd ⊢
  split at hd
  ·rename_i hb
   rw [if_pos hb]
   refine Dj r _ hn.2 (fun e he=>?_) d hd
   rw [Ft (hh e (.tail _ he)),B0,if_neg (fun q=>hn.1 (by rw [q]; exact List.mem_map_of_mem he))]; rfl
  ·rename_i hb
   rw [if_neg hb]
   rcases List.mem_cons.mp hd with q | q
   ·rw [q]; exact DM r h _ (hh c (.head _)) hn.1
   ·exact Dj r h hn.2 (fun e he=>hh e (.tail _ he)) d q
end
section
variable {cs:List Ch}
theorem E8:∀ (n:Nat) (h:Gsl) (l:List Ch),l.length < n->(l.map (·.1)).Nodup->(∀ c∈l,c∈cs)->(∀ c∈l,Al h c.1=none)->(A9 n h l).2=false->∃ c∈cs,Al (A9 n h l).1 c.1=none
 | 0,_,_,hl,_,_,_,_=>absurd hl (Nat.not_lt_zero _)
 | n+1,h,l,hl,hn,hs,hh,hf=>by
  unfold A9 at hf ⊢
  split at hf
  ·cases hf
  ·rename_i e0
   rw [if_neg e0]
   split at hf
   ·rename_i e
    rw [if_pos e]
    cases l with
    | nil=>exact absurd rfl e0
    | cons c r=>exact ⟨c,hs c (.head _),hh c (.head _)⟩
   ·rename_i e
    rw [if_neg e]
    have hlt:(AM h l).2.length < l.length:=Nat.lt_of_le_of_ne (B3 l h).length_le e
    exact E8 n _ _ (by omega) (((B3 l h).map _).nodup hn) (fun c hc=>hs c ((B3 l h).subset hc)) (Dj l h hn hh) hf
end
section
variable {cs:List Ch}
theorem ring_iff (hn:(cs.map (·.1)).Nodup):(A9 (cs.length+1) [] cs).2=decide ((AU cs.length [] cs).length=cs.length):=by
 obtain ⟨e,h1⟩:=ER hn
 cases q:(A9 (cs.length+1) [] cs).2 with
 | true=>exact (decide_eq_true (h1 q)).symm
 | false =>
  refine (decide_eq_false fun hl=>?_).symm
  obtain ⟨c,hc,hno⟩:=E8 (cs:=cs) (cs.length+1) [] cs (Nat.lt_succ_self _) hn (fun _ h=>h) (fun _ _=>rfl) q
  rw [e] at hno
  have k:=BN (cs:=cs) cs.length [] ⟨List.nodup_nil,fun n h=>by cases h⟩
  have:=Di (c.1::(AU cs.length [] cs).map (·.1)) (cs.map (·.1)) (List.nodup_cons.mpr ⟨C6.mp hno,k.1⟩) (fun x hx=>by
   rcases List.mem_cons.mp hx with q | q
   ·rw [q]; exact List.mem_map_of_mem hc
   ·exact k.2 x q)
  simp at this; omega
end
theorem passV_len:∀ (l:List (V×Ch)) (s:Tb×List (V×Ch)),(l.foldl BC s).1.length<=s.1.length+l.length
 | [],s=>Nat.le_refl _
 | a::l,s=>by
  refine Nat.le_trans (passV_len l (BC s a)) ?_
  unfold BC
  by_cases e:DE s.1 a.2=true
  ·rw [if_pos e,List.length_append,List.length_singleton,List.length_cons]; omega
  ·rw [if_neg e,List.length_cons]; show s.1.length+_<=_; omega
theorem passV_len2 (l:List (V×Ch)) (h:Tb):(B8 h l).2.length<=l.length:=by
 have h2:=(EC l h []).2
 have:=congrArg List.length h2
 rw [List.length_map] at this
 have h3:=(B3 (l.map (·.2)) h).length_le
 rw [List.length_map] at h3
 unfold B8
 rw [this]
 exact h3
theorem eqi (i j:Int):decide (i=j)=decide (i=j):=rfl
section
variable {C:Cfg} {P:Fl->Aa->Prop} {r:S} {σ τ:Aa} {y u:V}
noncomputable def hFor:S:=match Cv.body with | .cons _ (.cons _ (.cons (.while_ _ (.cons _ (.cons (.for_ _ _ b) _))) _))=>b | _=>.nil
noncomputable abbrev hSt (σ:Aa) (h:Tb) (τ:Aa):Aa:=σ++oT4 h::τ
theorem hSt_at {h:Tb}:(hSt σ h τ)[σ.length]? = some (oT4 h):=by rw [List.getElem?_append_right (Nat.le_refl _),Nat.sub_self]; rfl
theorem hSt_old {h:Tb}:Bd σ (hSt σ h τ):=Bd.app
theorem hSt_set {h h':Tb}:(hSt σ h τ).set σ.length (oT4 h')=hSt σ h' τ:=by rw [List.set_append_right _ _ (Nat.le_refl _),Nat.sub_self]; rfl
theorem hSt_last {h:Tb} {o:O}:(hSt σ h (τ++[o]))[σ.length+1+τ.length]? = some o:=by
 rw [List.getElem?_append_right (by omega),show σ.length+1+τ.length-σ.length=τ.length+1 by omega,List.getElem?_cons_succ,AD]
theorem hSt_lset {h:Tb} {o o':O}:(hSt σ h (τ++[o])).set (σ.length+1+τ.length) o'=hSt σ h (τ++[o']):=by
 rw [List.set_append_right _ _ (by omega),show σ.length+1+τ.length-σ.length=τ.length+1 by omega,List.set_cons_succ,D3]
theorem run_round {h:Tb} {l:List (V×Ch)} {z4 z5 z6:Option V} (hu:∀ h' τ',Ag (hSt σ h' (τ++τ')) u=some (l.map (·.1))) (hc:∀ a∈l,ChV σ a.1 a.2) (nd:(l.map (·.2.1)).Nodup) (hn:∀ a∈l,Al h a.2.1=none) (hh:h.length+l.length<=10000) (hd:∀ a∈l,a.2.2.1.length<=1000) :
 Ai C (fun fl σ'=>∃ ρ',fl=.next ρ'/\(∃ z4 z5 z6,ρ'=[some y,some (.ref σ.length),some u,some (.ref (σ.length+1+τ.length)),z4,z5,z6])/\σ'=hSt σ (B8 h l).1 (τ++[.list ((B8 h l).2.map (·.1))])) (.cons (.for_ [4] (.var 2) hFor) .nil) [some y,some (.ref σ.length),some u,some (.ref (σ.length+1+τ.length)),z4,z5,z6] (hSt σ h (τ++[.list []])):=by
 let k:=σ.length
 let m:=σ.length+1+τ.length
 refine go_forL (l:=l) (·.1) (fun p ρ σ'=>(∃ z4 z5 z6,ρ=[some y,some (.ref k),some u,some (.ref m),z4,z5,z6])/\hSt σ (B8 h p).1 (τ++[.list ((B8 h p).2.map (·.1))])=σ') (y:=u) rfl (fun _ _ _ h=>h.2▸hu _ _) ⟨⟨z4,z5,z6,rfl⟩,rfl⟩ ?_ ?_
 ·rintro p a q ρ _ e ⟨⟨z4,z5,z6,rfl⟩,rfl⟩
  have hm:a∈l:=by rw [e]; simp
  have hx:=hc a hm
  have hP:=EC p h []
  have hnone:Al (B8 h p).1 a.2.1=none:=by
   show Al (p.foldl BC (h,[])).1 a.2.1=none
   rw [hP.1]
   refine DM _ _ _ (hn a hm) fun q'=>?_
   rw [e,List.map_append,List.nodup_append] at nd
   obtain ⟨b,hb,eb⟩:=List.mem_map.mp q'
   obtain ⟨b',hb',rfl⟩:=List.mem_map.mp hb
   exact nd.2.2 b'.2.1 (List.mem_map_of_mem (f:=fun x:V×Ch=>x.2.1) hb') a.2.1 (.head _) eb
  have hlen:(B8 h p).1.length<=h.length+p.length:=passV_len p (h,[])
  have hlen2:(B8 h p).2.length<=p.length:=passV_len2 p h
  have hpl:p.length < l.length:=by rw [e]; simp
  have ev1:=passV_snoc h p a
  rw [ev1]
  generalize B8 h p=s at hnone hlen hlen2 ⊢
  obtain ⟨t,lt⟩:=s
  obtain ⟨x1,l1,l2⟩:=hx.s1
  let σ1:Aa:=hSt σ t (τ++[.list (lt.map (·.1))])
  show Ai C _ _ [some y,some (.ref k),some u,some (.ref m),some a.1,z5,z6] σ1
  have hi:∀ n,inV σ1 (vs n) (.ref k)=some (Al t n).isSome:=fun n=>in_T4 hSt_at
  let kn:List (List Nat):=a.2.2.1.filter fun n=>(Al t n).isSome
  refine go_comp (ds:=kn.map fun n=>.int ((Al t n).getD 0)) ?_ ?_
  ·refine (BR (O:=C.O) (t:=6) (it:=.sub (.var 4) (.cst (.int 1))) (elt:=.sub (.var 1) (.var 6)) (ifs:=.cons (.cmp .In (.var 6) (.var 1)) .nil) (ρ:=[some y,some (.ref k),some u,some (.ref m),some a.1,z5,z6]) (σ:=σ1) vs (fun n=>(Al t n).isSome) (fun n=>vi ((Al t n).getD 0)) (CO (y:=x1) (Ak rfl rfl (l1 _)) (l2.stay hSt_old).vs rfl) (Nat.le_trans (hd a hm) (by decide)) (fun n _=>e_ts1 (A5 (y:=.ref k) rfl rfl (hi n))) (fun n _ hs=>Ak (x:=.ref k) (y:=vs n) rfl rfl (sub_T4 hSt_at ?_))).trans ?_
   ·cases q:Al t n with
    | none=>rw [q] at hs; exact ff_ hs
    | some v=>rfl
   ·rw [List.map_map]; rfl
  show Ai C _ _ [some y,some (.ref k),some u,some (.ref m),some a.1,some (.d (.list (kn.map fun n=>.int ((Al t n).getD 0)))),z6] σ1
  have hkn:decide ((kn.length:Int)=(a.2.2.1.length:Int))=DE t a.2:=by
   unfold DE
   cases q:a.2.2.1.all fun n=>(Al t n).isSome with
   | true=>exact decide_eq_true (by rw [show kn=a.2.2.1 from List.filter_eq_self.mpr (List.all_eq_true.mp q)])
   | false =>
    refine decide_eq_false fun q'=>?_
    have:kn.length=a.2.2.1.length:=by omega
    rw [List.all_eq_true.mpr (List.length_filter_eq_length_iff.mp this)] at q
    exact tt_ q
  refine AC (t:=DE t a.2) ((A5 (Bc (Ax rfl) (D8.trans (by rw [List.length_map]))) (Bc (Ax (Ak rfl rfl (l1 _))) ((l2.stay hSt_old).len.trans (by rw [List.length_map]))) rfl).trans (by rw [<-hkn]; exact congrArg some (eqi _ _))) (fun ec=>?_) fun ec=>?_
  ·have ek:kn=a.2.2.1:=List.filter_eq_self.mpr (List.all_eq_true.mp ec)
   have hmx:(ev C.O (.bin .Add (.cst (.int 1)) (.maxd (.var 5) (.neg (.cst (.int 1)))))).v [some y,some (.ref k),some u,some (.ref m),some a.1,some (.d (.list (kn.map fun n=>.int ((Al t n).getD 0)))),z6] σ1=some (vi (hval t a.2.2.1)):=by
    refine Ah (y:=vi (Dq (-1) (a.2.2.1.map fun n=>(Al t n).getD 0))) rfl ?_ rfl
    show (C3 BP ((kn.map fun n=>PyData.int ((Al t n).getD 0)).map V.d)).bind _=_
    rw [show (kn.map fun n=>PyData.int ((Al t n).getD 0)).map V.d=(kn.map fun n=>(Al t n).getD 0).map vi by rw [List.map_map,List.map_map]; rfl,mapV_ints,ek]; rfl
   refine Gg (dd:=vi (hval t a.2.2.1)) (k:=k) (w:=Tx a.2.1) (kvs:=Cw Tx vi t) hmx rfl (Ak rfl rfl hx.s0) hSt_at (by rw [CV]; exact Nat.lt_of_le_of_lt (show t.length<=10000 by have:t.length<=h.length+p.length:=hlen; omega) (by decide)) (Ac (Ac ⟨_,rfl,⟨_,_,_,rfl⟩,?_⟩))
   rw [BC,if_pos ec,EB vi Fb,Gc hnone]
   exact hSt_set.symm
  ·refine B4 (k:=m) (y:=a.1) (ws:=lt.map (·.1)) rfl (Ax rfl) hSt_last (by rw [List.length_map]; exact Nat.lt_of_le_of_lt (show lt.length<=10000 by have:lt.length<=p.length:=hlen2; omega) (by decide)) (Ac (Ac ⟨_,rfl,⟨_,_,_,rfl⟩,?_⟩))
   rw [BC,if_neg (by rw [ec]; exact Bool.false_ne_true)]
   show hSt σ t (τ++[.list ((lt++[a]).map (·.1))])=_
   rw [List.map_append]
   exact hSt_lset.symm
 ·rintro ρ _ ⟨⟨z4,z5,z6,rfl⟩,rfl⟩
  exact Ac ⟨_,rfl,⟨_,_,_,rfl⟩,rfl⟩
end
end Mine
namespace Mine
open PySem
theorem passV_sum:∀ (l:List (V×Ch)) (s:Tb×List (V×Ch)),(l.foldl BC s).1.length+(l.foldl BC s).2.length=s.1.length+s.2.length+l.length
 | [],s=>rfl
 | a::l,s=>by
  rw [List.foldl_cons,passV_sum l (BC s a),List.length_cons]
  unfold BC
  by_cases e:DE s.1 a.2=true
  ·rw [if_pos e]; dsimp only; rw [List.length_append,List.length_singleton]; omega
  ·rw [if_neg e]; dsimp only; rw [List.length_append,List.length_singleton]; omega
theorem G9:∀ (l:List (V×Ch)) (s:Tb×List (V×Ch)),(l.foldl BC s).2.Sublist (s.2++l)
 | [],s=>(List.append_nil _).symm▸List.Sublist.refl _
 | a::l,s=>by
  rw [List.foldl_cons]
  refine (G9 l (BC s a)).trans ?_
  unfold BC
  by_cases e:DE s.1 a.2=true
  ·rw [if_pos e]; exact List.Sublist.append_left (List.sublist_cons_self _ _) _
  ·rw [if_neg e,List.append_assoc]; exact List.Sublist.refl _
noncomputable def leftB (ρ:Af) (σ:Aa):Bool:=match (Eu ρ 2).bind (Ag σ) with | some ws=>!ws.isEmpty | none=>false
theorem run_heights {C:Cfg} {σ:Aa} {y:V} {hs:List (V×Ch)} (H:Hd4 σ y hs) (nd:(hs.map (·.2.1)).Nodup) (hl:hs.length<=1000) (hd:∀ a∈hs,a.2.2.1.length<=1000) :
 Cz C (fun fl σ'=>(A9 (hs.length+1) [] (hs.map (·.2))).2=true/\EA fl=.ref σ.length/\∃ τ,σ'=hSt σ (A9 (hs.length+1) [] (hs.map (·.2))).1 τ) (fun kk σ'=>kk=8/\(A9 (hs.length+1) [] (hs.map (·.2))).2=false/\∃ τ,σ'=σ++τ) Cv.body (AV Cv [y]) σ:=by
 let k:=σ.length
 generalize hR:A9 (hs.length+1) [] (hs.map (·.2))=R
 show Cz C _ _ _ [some y,none,none,none,none,none,none] σ
 refine C5 (M:=fun ρ σ'=>ρ=[some y,some (.ref k),none,none,none,none,none]/\σ'=hSt σ [] []) (Gi (Ac ⟨_,rfl,rfl,rfl⟩)) ?_
 rintro _ _ ⟨rfl,rfl⟩
 refine C5 (M:=fun ρ σ'=>ρ=[some y,some (.ref k),some (.ref (k+1)),none,none,none,none]/\σ'=hSt σ [] [.list (hs.map (·.1))]) (Ck (ws:=hs.map (·.1)) (e_nlb (b:=.list) (Ax (x:=y) rfl) (BM (Bl H.lst hSt_old)) (by rw [List.length_map]; exact Nat.le_trans hl (by decide))) (Ac ⟨_,rfl,?_,?_⟩)) ?_
 ·show [some y,some (.ref k),some (.ref (σ++[oT4 []]).length),none,none,none,none]=_
  rw [List.length_append]; rfl
 ·show (σ++[oT4 []])++[O.list (hs.map (·.1))]=_
  rw [List.append_assoc]; rfl
 rintro _ _ ⟨rfl,rfl⟩
 refine goX_while (fun m ρ σ'=>∃ h l u z3 z4 z5 z6 τ n',ρ=[some y,some (.ref k),some u,z3,z4,z5,z6]/\σ'=hSt σ h τ/\(∀ h' τ',Ag (hSt σ h' (τ++τ')) u=some ((l:List (V×Ch)).map (·.1)))/\l.length<=m/\(∀ a∈l,a∈hs)/\(l.map (·.2.1)).Nodup/\(∀ a∈l,Al h a.2.1=none)/\h.length+l.length<=1000/\A9 n' h (l.map (·.2))=R/\l.length < n') leftB hs.length ⟨[],hs,.ref (k+1),none,none,none,none,[.list (hs.map (·.1))],hs.length+1,rfl,rfl,?_,Nat.le_refl _,fun a h=>h,nd,fun _ _=>rfl,by rw [List.length_nil]; omega,hR,Nat.lt_succ_self _⟩ ?_ ?_ ?_ ?_
 ·intro h' τ'
  show BF (hSt σ h' ([.list (hs.map (·.1))]++τ'))[σ.length+1]? = _
  rw [List.getElem?_append_right (by omega),show σ.length+1-σ.length=1 by omega]; rfl
 ·rintro m ρ _ ⟨h,l,u,z3,z4,z5,z6,τ,n',rfl,rfl,hu,q⟩
  have hu0:Ag (hSt σ h τ) u=some (l.map (·.1)):=by have:=hu h []; rw [List.append_nil] at this; exact this
  have hB:leftB [some y,some (.ref k),some u,z3,z4,z5,z6] (hSt σ h τ) = !(l.map (·.1)).isEmpty:=by
   unfold leftB
   rw [show (Eu [some y,some (.ref k),some u,z3,z4,z5,z6] 2).bind (Ag (hSt σ h τ))=Ag (hSt σ h τ) u from rfl,hu0]
  rw [hB]
  refine (A5 (Bc (Ax (x:=u) rfl) (len_of' hu0)) rfl rfl).trans ?_
  cases l with
  | nil=>rfl
  | cons a l=>exact congrArg some (decide_eq_true (show (0:Int) < (((a::l).map (·.1)).length:Int) by rw [List.map_cons,List.length_cons]; omega))
 ·rintro ρ _ ⟨h,l,u,z3,z4,z5,z6,τ,n',rfl,rfl,hu,q,_⟩
  have hu0:Ag (hSt σ h τ) u=some (l.map (·.1)):=by have:=hu h []; rw [List.append_nil] at this; exact this
  unfold leftB
  rw [show (Eu [some y,some (.ref k),some u,z3,z4,z5,z6] 2).bind (Ag (hSt σ h τ))=Ag (hSt σ h τ) u from rfl,hu0,List.eq_nil_of_length_eq_zero (Nat.le_zero.mp q)]; rfl
 ·rintro m ρ _ ⟨h,l,u,z3,z4,z5,z6,τ,n',rfl,rfl,hu,q1,q2,q3,q4,q5,q6,q7⟩ hB
  have hu0:Ag (hSt σ h τ) u=some (l.map (·.1)):=by have:=hu h []; rw [List.append_nil] at this; exact this
  have hl0:l.length≠0:=fun e=>by
   unfold leftB at hB
   rw [show (Eu [some y,some (.ref k),some u,z3,z4,z5,z6] 2).bind (Ag (hSt σ h τ))=Ag (hSt σ h τ) u from rfl,hu0,List.eq_nil_of_length_eq_zero e] at hB
   exact ff_ hB
  let j:=σ.length+1+τ.length
  have hjl:(hSt σ h τ).length=j:=by rw [List.length_append,List.length_cons]; omega
  refine C5 (M:=fun ρ σ'=>ρ=[some y,some (.ref k),some u,some (.ref j),z4,z5,z6]/\σ'=hSt σ h (τ++[.list []])) (Ck (ws:=[]) rfl (Ac ⟨_,rfl,?_,?_⟩)) ?_
  ·show [some y,some (.ref k),some u,some (.ref (hSt σ h τ).length),z4,z5,z6]=_
   rw [hjl]
  ·show (σ++oT4 h::τ)++[O.list []]=_
   rw [List.append_assoc]; rfl
  rintro _ _ ⟨rfl,rfl⟩
  refine C5 (run_round hu (fun a ha=>H.ch a (q2 a ha)) q3 q4 (by omega) fun a ha=>hd a (q2 a ha)) ?_
  rintro _ _ ⟨⟨y4,y5,y6,rfl⟩,rfl⟩
  have hV:=EC l h []
  have hsum:=passV_sum l (h,[])
  have hsub:=G9 l (h,[])
  have hnn:∀ a∈(B8 h l).2,Al (B8 h l).1 a.2.1=none:=fun a ha=>by
   show Al (l.foldl BC (h,[])).1 a.2.1=none
   rw [hV.1]
   refine Dj _ _ (by rw [List.map_map]; exact q3) (fun c hc=>by obtain ⟨b,hb,rfl⟩:=List.mem_map.mp hc; exact q4 b hb) a.2 ?_
   have:a.2∈(l.foldl BC (h,[])).2.map (·.2):=List.mem_map_of_mem ha
   rw [hV.2] at this; exact this
  have hl2:(AM h (l.map (·.2))).2.length=(B8 h l).2.length:=by
   have:=congrArg List.length hV.2
   rw [List.length_map] at this
   exact this.symm
  have h1':(AM h (l.map (·.2))).1=(B8 h l).1:=hV.1.symm
  have h2':(AM h (l.map (·.2))).2=(B8 h l).2.map (·.2):=hV.2.symm
  change (B8 h l).1.length+(B8 h l).2.length=h.length+0+l.length at hsum
  change (B8 h l).2.Sublist ([]++l) at hsub
  generalize B8 h l=s at hnn hl2 h1' h2' hsum hsub ⊢
  obtain ⟨t,lt⟩:=s
  let σ2:Aa:=hSt σ t (τ++[.list (lt.map (·.1))])
  have hj2:∀ h' τ',Ag (hSt σ h' (τ++[.list (lt.map (·.1))]++τ')) (.ref j)=some (lt.map (·.1)):=fun h' τ'=>by
   show BF (hSt σ h' (τ++[.list (lt.map (·.1))]++τ'))[σ.length+1+τ.length]? = _
   rw [List.getElem?_append_right (by omega),show σ.length+1+τ.length-σ.length=τ.length+1 by omega,List.getElem?_cons_succ,Bh AD]; rfl
  have hj0:Ag σ2 (.ref j)=some (lt.map (·.1)):=by have:=hj2 t []; rw [List.append_nil] at this; exact this
  obtain ⟨n1,rfl⟩:∃ n1,n'=n1+1:=⟨n' - 1,by omega⟩
  refine goX_rse (t:=decide ((lt.length:Int)=(l.length:Int))) ((A5 (Bc (Ax (x:=.ref j) rfl) ((len_of' hj0).trans (by rw [List.length_map]))) (Bc (Ax (x:=u) rfl) ((len_of' (hu t [.list (lt.map (·.1))])).trans (by rw [List.length_map]))) rfl)) (ws:=[_]) rfl (show 1<=line by decide) (fun e=>⟨rfl,?_,_,rfl⟩) fun e=>?_
  ·have e1:lt.length=l.length:=by have:=of_decide_eq_true e; omega
   rw [<-q6]
   unfold A9
   rw [List.length_map,if_neg hl0,if_pos (hl2.trans e1)]
  ·have e1:lt.length≠l.length:=fun q=>of_decide_eq_false e (by rw [q])
   have e2:lt.length<=l.length:=by have:=hsub.length_le; exact this
   refine .inl (Az (v:=.ref j) rfl (Ac ⟨_,rfl,t,lt,.ref j,some (.ref j),y4,y5,y6,τ++[.list (lt.map (·.1))],n1,rfl,rfl,hj2,by omega,fun a ha=>q2 a (hsub.subset ha),?_,hnn,?_,?_,by omega⟩))
   ·exact (hsub.map (·.2.1)).nodup q3
   ·change t.length+lt.length=h.length+0+l.length at hsum; omega
   ·rw [<-q6]
    show _=A9 (n1+1) h (l.map (·.2))
    rw [A9,List.length_map,if_neg hl0,if_neg (fun q=>e1 (hl2.symm.trans q)),h1',h2']
 ·rintro m ρ _ ⟨h,l,u,z3,z4,z5,z6,τ,n',rfl,rfl,hu,q1,q2,q3,q4,q5,q6,q7⟩ hB
  have hu0:Ag (hSt σ h τ) u=some (l.map (·.1)):=by have:=hu h []; rw [List.append_nil] at this; exact this
  have e:l=[]:=by
   unfold leftB at hB
   rw [show (Eu [some y,some (.ref k),some u,z3,z4,z5,z6] 2).bind (Ag (hSt σ h τ))=Ag (hSt σ h τ) u from rfl,hu0] at hB
   cases l with
   | nil=>rfl
   | cons a l=>exact tt_ hB
  subst e
  obtain ⟨n1,rfl⟩:∃ n1,n'=n1+1:=⟨n' - 1,by omega⟩
  have:R=(h,true):=by rw [<-q6]; rfl
  rw [this]
  exact .inl (AE rfl ⟨rfl,rfl,τ,rfl⟩)
end Mine
namespace Mine
open PySem
section
variable {C:Cfg} {P:Fl->Aa->Prop} {K:Nat->Aa->Prop} {r:S} {ρ:Af} {σ:Aa} {x f:Nat} {a:E}
theorem Cz.fn {fn:Fn} {zs:List V} {R:V->Aa->Prop} (hP:Pg f=some fn) (hl:zs.length=fn.np) (hn:1<=C.n) (h:Cz C (fun fl σ'=>R (EA fl) σ') K fn.body (AV fn zs) σ):(∃ v σ',R v σ'/\FN (C.n+1) f zs σ v σ')\/∃ kk σ',K kk σ'/\FX (C.n+1) f zs σ kk σ':=h.imp (FN.ends hP hl hn) fun ⟨kk,σ',h1,h2⟩=>⟨kk,σ',h1,FX.of hP hl h2 hn⟩
theorem FXA.more {n m k:Nat} {xs:List V} {σ':Aa} (hf:FXA n f xs σ k σ') (h:n<=m):FXA m f xs σ k σ':=fun r g s a Xs hf' A R=>hf r g s a Xs hf' (A.less h) R
theorem goX_call {ws:List V} {R:V->Aa->Prop} (ha:C.row a ρ σ=some ws) (h:(∃ v σ',R v σ'/\FN C.n f ws σ v σ')\/∃ kk σ',K kk σ'/\FX C.n f ws σ kk σ') (k:∀ v σ',R v σ'->Cz C P K r (ρ.set x (some v)) σ'):Cz C P K (.cons (.asg x (.fcall f a)) r) ρ σ:=by
 rcases h with ⟨v,σ',h1,h2⟩ | ⟨kk,σ',h1,h2⟩
 ·exact C5 (M:=fun ρ' σ₁=>ρ'=ρ.set x (some v)/\σ₁=σ') (AS rfl (.fcall ((Ad C.ok a).row ha) h2) (Ac ⟨_,rfl,rfl,rfl⟩)) fun _ _ e=>by rw [e.1,e.2]; exact k v σ' h1
 ·exact .inr ⟨kk,σ',h1,.head (.asg rfl (.fcall ((Ad C.ok a).row ha) h2) rfl)⟩
end
noncomputable def Cfg.know (C:Cfg) (f:Nat) (v:V) (P:List V->Aa->Prop) (h:∀ xs σ,P xs σ->FN C.n f xs σ v σ):Cfg:=C.add f (fun xs σ=>@ite _ (P xs σ) (Classical.propDecidable _) (some v) none) fun xs σ u e=>by
 obtain ⟨q,e⟩:=@AJ _ _ _ _ (Classical.propDecidable _) e
 exact e▸h xs σ q
theorem know_eq {C:Cfg} {f:Nat} {v:V} {P:List V->Aa->Prop} {hk:∀ xs σ,P xs σ->FN C.n f xs σ v σ} {xs:List V} {σ:Aa} (h:P xs σ):(C.know f v P hk).O f xs σ=some v:=by
 show (bif Nat.beq f f then @ite _ (P xs σ) (Classical.propDecidable _) (some v) none else C.O f xs σ)=_
 rw [Nat.beq_refl f]
 exact @if_pos _ (Classical.propDecidable _) h _ _ _
noncomputable abbrev byT (p:List (V×Ch)):List (List Nat×V):=p.map fun a=>(a.2.1,a.1)
noncomputable abbrev oBy (p:List (V×Ch)):O:=.dictS (Cw Tx id (byT p))
theorem by_keys (p:List (V×Ch)):(byT p).map (·.1)=nmV p:=by rw [List.map_map]; rfl
theorem by_in {p:List (V×Ch)} {n:List Nat}:(Al (Cw Tx id (byT p)) (Tx n)).isSome=decide (n∈nmV p):=by
 rw [CX id Fb,Option.isSome_map]
 by_cases h:n∈nmV p
 ·obtain ⟨v,e⟩:=(B5 (h:=byT p) (k:=n)).mpr (by rw [by_keys]; exact h)
  rw [e,decide_eq_true h]; rfl
 ·rw [(C6 (h:=byT p) (k:=n)).mpr (by rw [by_keys]; exact h),decide_eq_false h]; rfl
theorem by_get:∀ {p:List (V×Ch)} {a:V×Ch},(nmV p).Nodup->a∈p->Al (byT p) a.2.1=some a.1
 | [],_,_,h=>nomatch h
 | b::p,a,nd,h=>by
  show Al ((b.2.1,b.1)::byT p) a.2.1=_
  rw [B0]
  rcases List.mem_cons.mp h with rfl | h
  ·rw [if_pos rfl]
  ·have nd':=List.nodup_cons.mp (show (b.2.1::nmV p).Nodup from nd)
   rw [if_neg (fun e=>nd'.1 (by rw [e]; exact List.mem_map_of_mem (f:=fun x:V×Ch=>x.2.1) h))]
   exact by_get nd'.2 h
noncomputable def rBody:S:=match B7.body with | .cons _ (.cons _ (.cons _ (.cons _ (.cons _ b))))=>b | _=>.nil
theorem C8 (H:List Nat->Int) (cs:List Ch):(Ep H cs).Perm cs:=by
 have h:=(AX (lt:=ltI) ((A8 cs).map fun c=>(H c.1,c))).map (·.2)
 rw [List.map_map,show ((fun x:Int×Ch=>x.2)∘fun c:Ch=>(H c.1,c))=id from rfl,List.map_id] at h
 exact h.trans (DF cs)
theorem run_plain {C:Cfg} {P:Fl->Aa->Prop} {K:Nat->Aa->Prop} {σ:Aa} {y:V} {hs:List (V×Ch)} {X:List Ch} (hX:hs.map (·.2)=X) (hC:3<=C.n) (H:Hd4 σ y hs) (hl:hs.length < 64) (hd:∀ a∈hs,a.2.1.length<=1000/\a.2.2.1.length<=1000)
 (kT:∀ τ,Twc X->K 4 (σ++τ)) (kM:∀ τ,¬ Twc X->Msg X->K 5 (σ++τ)) (kR:∀ τ,¬ Twc X->¬ Msg X->Rng X->K 8 (σ++τ))
 (kO:∀ τ u z2 z3 v m z6 hs',¬ Twc X->¬ Msg X->¬ Rng X->(hs':List (V×Ch)).map (·.2)=Ep (EM X) X->(∀ a∈hs',a∈hs)->Ag (σ++τ) (.ref m)=some (hs'.map (·.1))->Ai C P rBody [some y,some u,z2,z3,some v,some (.ref m),z6] (σ++τ)) :
 Cz C P K B7.body (AV B7 [y]) σ:=by
 let k:=σ.length
 have hn:nmV hs=nms X:=by rw [<-hX]; show _=(hs.map (·.2)).map (·.1); rw [List.map_map]; rfl
 have hXl:X.length=hs.length:=by rw [<-hX,List.length_map]
 have st:∀ {o:O},Bd σ (σ++[o]):=Bd.app
 show Cz C _ _ _ [some y,none,none,none,none,none,none] σ
 refine C5 (M:=fun ρ σ'=>ρ=[some y,some (.ref k),none,none,none,none,none]/\σ'=σ++[oBy []]) (Gi (Ac ⟨_,rfl,rfl,rfl⟩)) ?_
 rintro _ _ ⟨rfl,rfl⟩
 refine goX_for (l:=hs) (·.1) (fun p ρ σ'=>(∃ z2,ρ=[some y,some (.ref k),z2,none,none,none,none])/\(nmV p).Nodup/\σ++[oBy p]=σ') (y:=y) rfl (fun _ _ _ h=>h.2.2▸Bl H.lst st) ⟨⟨none,rfl⟩,List.nodup_nil,rfl⟩ ?_ ?_
 ·rintro p a q ρ _ e ⟨⟨z2,rfl⟩,nd,rfl⟩
  have hm:a∈hs:=by rw [e]; simp
  have hx:ChV σ a.1 a.2:=H.ch a hm
  let σ1:Aa:=σ++[oBy p]
  show Cz C _ _ _ [some y,some (.ref k),some a.1,none,none,none,none] σ1
  have hi:∀ n,inV σ1 (vs n) (.ref k)=some (decide (n∈nmV p)):=fun n=>(in_dS AD).trans (by rw [by_in])
  have hpl:p.length < hs.length:=by rw [e]; simp
  refine goX_rse (t:=decide (a.2.1∈nmV p)) (A5 (Ak rfl rfl hx.s0) rfl (hi _)) (ws:=[_]) rfl (show 1<=line by decide) (fun e1=>kT _ fun q'=>?_) fun e1=>?_
  ·rw [<-hn,e,show nmV (p++a::q)=nmV p++a.2.1::nmV q from List.map_append ..,List.nodup_append] at q'
   exact q'.2.2 _ (of_decide_eq_true e1) _ (.head _) rfl
  ·refine .inl (Gg (dd:=a.1) (k:=k) (w:=Tx a.2.1) (kvs:=Cw Tx id (byT p)) rfl rfl (Ak rfl rfl hx.s0) AD (by rw [CV,List.length_map]; exact Nat.lt_of_lt_of_le (Nat.lt_trans hpl hl) (by decide)) (Ac ⟨_,rfl,⟨_,rfl⟩,?_,?_⟩))
   ·rw [show nmV (p++[a])=nmV p++[a.2.1] from List.map_append ..,List.nodup_append]
    exact ⟨nd,List.nodup_cons.mpr ⟨List.not_mem_nil,List.nodup_nil⟩,fun x hx y hy e=>of_decide_eq_false e1 (by rw [<-List.mem_singleton.mp hy,<-e]; exact hx)⟩
   ·show _=σ1.set σ.length _
    rw [D3,show Fj (Cw Tx id (byT p)) (Tx a.2.1) a.1=_ from EB id Fb (byT p) a.2.1 a.1,Gc (C6.mpr (by rw [by_keys]; exact of_decide_eq_false e1)),show byT p++[(a.2.1,a.1)]=byT (p++[a]) by show _=List.map _ _; rw [List.map_append]; rfl]
 rintro ρ _ ⟨⟨z2,rfl⟩,nd,rfl⟩
 have nt:¬ Twc X:=fun q=>q (hn▸nd)
 let σ1:Aa:=σ++[oBy hs]
 have hi:∀ n,inV σ1 (vs n) (.ref k)=some (decide (n∈nmV hs)):=fun n=>(in_dS AD).trans (by rw [by_in])
 refine goX_for (l:=hs) (·.1) (fun p ρ σ'=>(∃ z2 z3,ρ=[some y,some (.ref k),z2,z3,none,none,none])/\(∀ a∈p,∀ l∈a.2.2.1,l∈nmV hs)/\σ1=σ') (y:=y) rfl (fun _ _ _ h=>h.2.2▸Bl H.lst st) ⟨⟨z2,none,rfl⟩,(fun _ h=>nomatch h),rfl⟩ ?_ ?_
 ·rintro p a q ρ _ e ⟨⟨z2,z3,rfl⟩,hp,rfl⟩
  have hm:a∈hs:=by rw [e]; simp
  have hx:ChV σ a.1 a.2:=H.ch a hm
  obtain ⟨l,l1,l2⟩:=hx.s1
  show Cz C _ _ _ [some y,some (.ref k),some a.1,z3,none,none,none] σ1
  refine goX_for (l:=a.2.2.1) vs (fun p' ρ σ'=>(∃ z3,ρ=[some y,some (.ref k),some a.1,z3,none,none,none])/\(∀ n∈p',n∈nmV hs)/\σ1=σ') (y:=l) (Ak rfl rfl (l1 _)) (fun _ _ _ h=>h.2.2▸(l2.stay st).vs) ⟨⟨z3,rfl⟩,(fun _ h=>nomatch h),rfl⟩ ?_ ?_
  ·rintro p' n q' ρ _ e' ⟨⟨z3,rfl⟩,hp',rfl⟩
   refine goX_rse (t:=!decide (n∈nmV hs)) (A5 rfl rfl (by show Dt (inV σ1 (vs n) (.ref k))=_; rw [hi]; rfl)) (ws:=[_]) rfl (show 1<=line by decide) (fun e2=>kM _ nt ⟨a.2,by rw [<-hX]; exact List.mem_map_of_mem hm,n,by rw [e']; simp,?_⟩) fun e2=>.inl (Ac ⟨_,rfl,⟨_,rfl⟩,fun m hm=>?_,rfl⟩)
   ·rw [<-hn]; exact of_decide_eq_false ((Bool.not_eq_true' _).mp e2)
   ·rcases List.mem_append.mp hm with hm | hm
    ·exact hp' m hm
    ·rw [List.mem_singleton.mp hm]; exact of_decide_eq_true (by cases q:decide (n∈nmV hs) with | true=>rfl | false=>rw [q] at e2; exact tt_ e2)
  ·rintro ρ _ ⟨⟨z3,rfl⟩,hp',rfl⟩
   refine .inl (Ac ⟨_,rfl,⟨_,_,rfl⟩,fun b hb=>?_,rfl⟩)
   rcases List.mem_append.mp hb with hb | hb
   ·exact hp b hb
   ·rw [List.mem_singleton.mp hb]; exact hp'
 rintro ρ _ ⟨⟨z2,z3,rfl⟩,hp,rfl⟩
 have nm:¬ Msg X:=fun ⟨c,hc,l,h1,h2⟩=>by
  rw [<-hX] at hc
  obtain ⟨a,ha,rfl⟩:=List.mem_map.mp hc
  exact h2 (hn▸hp a ha l h1)
 have ndX:(X.map (·.1)).Nodup:=by show (nms X).Nodup; rw [<-hn]; exact nd
 have hr:=ring_iff ndX
 have hh:=(ER ndX).1
 have h81:=Cz.fn (C:=C0 1) (f:=81) (fn:=Cv) (zs:=[y]) (σ:=σ1) (R:=fun v σ'=>(A9 (hs.length+1) [] (hs.map (·.2))).2=true/\v=.ref σ1.length/\∃ τ,σ'=hSt σ1 (A9 (hs.length+1) [] (hs.map (·.2))).1 τ) (by unfold Pg; rfl) rfl (Nat.le_refl _) (run_heights (C:=C0 1) (H.stay st) nd (Nat.le_trans (Nat.le_of_lt hl) (by decide)) fun a ha=>(hd a ha).2)
 rw [hX,<-hXl] at h81
 generalize A9 (X.length+1) [] X=R at hr hh h81
 refine goX_call (R:=fun v σ'=>R.2=true/\v=.ref σ1.length/\∃ τ,σ'=hSt σ1 R.1 τ) (ws:=[y]) (Ax rfl) (?_:_\/_) ?_
 ·rcases h81 with ⟨v,σ',h1,h2⟩ | ⟨kk,σ',⟨h1,h2,τ,h3⟩,h4⟩
  ·exact .inl ⟨v,σ',h1,FN.more h2 (Nat.le_trans (by decide) hC)⟩
  ·refine .inr ⟨kk,σ',?_,FXA.more h4 (Nat.add_le_add_right (Nat.le_trans (by decide) hC) 3)⟩
   rw [h1,h3,List.append_assoc]
   refine kR _ nt nm ?_
   rw [h2] at hr
   exact Nat.lt_of_le_of_ne lev_len (of_decide_eq_false hr.symm)
 rintro _ _ ⟨hR,rfl,τ,rfl⟩
 have nr:¬ Rng X:=fun q=>by
  rw [hR] at hr
  have e:(EL X).length=X.length:=of_decide_eq_true hr.symm
  exact Nat.ne_of_lt (show (EL X).length < X.length from q) e
 let σ2:Aa:=hSt σ1 R.1 τ
 let N:V:=.d (dl (nms X))
 let ord:=Ep (EM X) X
 have hkk:σ2[k]? = some (oBy hs):=Bh AD
 have hNv:∀ {σ'},Ag σ' N=some ((nms X).map vs):=fun {σ'}=>by rw [D6]; rfl
 have h8:FN 3 8 [N,.ref σ1.length] σ2 (.d (dl (nms ord))) σ2:=fn_ordered (H:=EM X) (cs:=X) (h:=R.1) (by rw [hXl]; exact hl) ndX hNv hSt_at fun c hc=>by rw [hh]; exact lev_all nr hc
 let C':=C.know 8 (.d (dl (nms ord))) (fun xs σ'=>xs=[N,.ref σ1.length]/\σ'=σ2) fun xs σ' q=>by rw [q.1,q.2]; exact FN.more h8 hC
 have hsub:∀ c∈ord,∃ a∈hs,a.2=c/\Al (byT hs) c.1=some a.1:=fun c hc=>by
  have hc:c∈X:=(C8 _ _).mem_iff.mp hc
  rw [<-hX] at hc
  obtain ⟨a,ha,rfl⟩:=List.mem_map.mp hc
  exact ⟨a,ha,rfl,by_get nd ha⟩
 let vO:Ch->V:=fun c=>(Al (byT hs) c.1).getD (vi 0)
 have hlist:(ev C'.O (.bi .list (.cons (.var 1) .nil))).v [some y,some (.ref k),z2,z3,some (.ref σ1.length),none,none] σ2=some N:=by
  refine Bc (xs:=[.ref k]) (Ax rfl) ?_
  show (keysO σ2[k]?).bind mkL=_
  rw [hkk]
  show (if ((Cw Tx id (byT hs)).all fun p=>decide (p.1.length<=line))=true then some (vss ((Cw Tx id (byT hs)).map (·.1))) else none).bind mkL=_
  rw [if_pos (List.all_eq_true.mpr fun p hp=>by
   obtain ⟨q,hq,rfl⟩:=List.mem_map.mp hp
   obtain ⟨a,ha,rfl⟩:=List.mem_map.mp hq
   exact decide_eq_true (by show (Tx a.2.1).length<=line; rw [Tx_len]; exact Nat.le_trans (hd a ha).1 (by decide)))]
  rw [show vss ((Cw Tx id (byT hs)).map (·.1))=((nms X).map fun t=>PyData.str (Tx t)).map V.d by
   rw [<-hn]; show (((Cw Tx id (byT hs)).map (·.1)).map fun s=>V.d (.str s))=_
   unfold Cw; simp only [List.map_map]; rfl]
  exact FS _ (by rw [List.length_map,<-hn,List.length_map]; exact Nat.le_trans (Nat.le_of_lt hl) (by decide))
 have hnl:C'.nl (.comp (.sub (.var 1) (.var 6)) [6] (.fcall 8 (.cons (.bi .list (.cons (.var 1) .nil)) (.cons (.var 4) .nil))) .nil) [some y,some (.ref k),z2,z3,some (.ref σ1.length),none,none] σ2=some (ord.map vO):=by
  refine (BR (O:=C'.O) (t:=6) (l:=ord) (fun c=>vs c.1) (fun _=>true) vO (CO (y:=.d (dl (nms ord))) (FW (BB hlist rfl) (know_eq ⟨rfl,rfl⟩)) (by show some (((nms ord).map fun t=>PyData.str (Tx t)).map V.d)=_; rw [List.map_map,List.map_map]; rfl) rfl) (by rw [(C8 _ _).length_eq,hXl]; exact Nat.le_trans (Nat.le_of_lt hl) (by decide)) (fun _ _=>rfl) (fun c hc _=>Ak (x:=.ref k) (y:=vs c.1) rfl rfl (sub_dS hkk ?_))).trans ?_
  ·obtain ⟨a,_,_,e⟩:=hsub c hc
   rw [CX id Fb]
   show Option.map id (Al (byT hs) c.1)=some (vO c)
   rw [show vO c=a.1 by show (Al (byT hs) c.1).getD (vi 0)=_; rw [e]; rfl,e]; rfl
  ·rw [Cf]
 refine .inl (go_compT (C:=C') hnl ?_)
 have e3:σ2++[.list (ord.map vO)]=σ++([oBy hs]++(oT4 R.1::τ++[.list (ord.map vO)])):=by
  show (σ++[oBy hs])++(oT4 R.1::τ)++[.list (ord.map vO)]=_
  rw [List.append_assoc,List.append_assoc]
 rw [e3]
 refine kO _ (.ref k) z2 z3 (.ref σ1.length) σ2.length none (ord.map fun c=>(vO c,c)) nt nm nr (by rw [List.map_map]; exact List.map_id _) (fun b hb=>?_) ?_
 ·obtain ⟨c,hc,rfl⟩:=List.mem_map.mp hb
  obtain ⟨a,ha,e1,e2⟩:=hsub c hc
  show ((Al (byT hs) c.1).getD (vi 0),c)∈hs
  rw [e2,<-e1]; exact ha
 ·rw [<-e3,List.map_map]; exact CH AD
end Mine
namespace Mine
open PySem
noncomputable def cpH (n:Nat):List Ch->List (V×Ch)
 | []=>[]
 | c::r=>(xt c n (n+1),c)::cpH (n+2) r
noncomputable def cpO:List Ch->Aa
 | []=>[]
 | c::r=>oLs c::oDs c::cpO r
theorem EV:∀ (cs:List Ch) (n:Nat),(cpH n cs).map (·.2)=cs
 | [],_=>rfl
 | c::r,n=>congrArg (c :: ·) (EV r (n+2))
theorem DV (cs:List Ch) (n:Nat):(cpH n cs).length=cs.length:=by rw [<-List.length_map (f:=fun x:V×Ch=>x.2),EV]
def Own4 (σ:Aa) (a:V×Ch):Prop:=∃ i j,a.1=xt a.2 i j/\Hnd σ a.2 i j
theorem Own4.chv {σ:Aa} {a:V×Ch} (h:Own4 σ a):ChV σ a.1 a.2:=.inr h
theorem Own4.stay {σ σ':Aa} {a:V×Ch} (h:Own4 σ a) (s:Bd σ σ'):Own4 σ' a:=by
 obtain ⟨i,j,e,H⟩:=h
 exact ⟨i,j,e,s _ _ H.l,s _ _ H.d⟩
theorem cpO_app {σ:Aa} {c:Ch} {r:List Ch}:σ++[oLs c]++[oDs c]++cpO r=σ++cpO (c::r):=by rw [List.append_assoc,List.append_assoc]; rfl
theorem len_two {σ:Aa} {a b:O}:(σ++[a]++[b]).length=σ.length+2:=by rw [List.length_append,List.length_append]; rfl
theorem EN {σ:Aa} {a:O}:(σ++[a]).length=σ.length+1:=List.length_append
theorem Gk:∀ (cs:List Ch) (σ:Aa),∀ a∈cpH σ.length cs,Own4 (σ++cpO cs) a
 | [],_,_,h=>nomatch h
 | c::r,σ,a,h=>by
  rw [<-cpO_app]
  rcases List.mem_cons.mp h with rfl | h
  ·refine ⟨σ.length,σ.length+1,rfl,Bh (Bh AD),Bh ?_⟩
   have:=AD (τ:=σ++[oLs c]) (a:=oDs c)
   rw [EN] at this; exact this
  ·exact Gk r (σ++[oLs c]++[oDs c]) a (by rw [len_two]; exact h)
theorem se_copy {C:Cfg} {i:Nat} {ρ:Af} {σ:Aa} {v:V} {c:Ch} (hv:Eu ρ i=some v) (H:ChV σ v c) (hl:c.2.1.length<=1000) (hd:c.2.2.length<=1000):SE (C.n+3) (.tup (.cons (.sub (.var i) (.cst (.int 0))) (.cons (.bi .list (.cons (.sub (.var i) (.cst (.int 1))) .nil)) (.cons (.bi .list (.cons (.sub (.var i) (.cst (.int 2))) .nil)) .nil)))) ρ σ (xt c σ.length (σ.length+1)) (σ++[oLs c]++[oDs c]):=by
 obtain ⟨l,l1,l2⟩:=H.s1
 obtain ⟨d,d1,d2⟩:=H.s2
 have n1:(ev C.O (.bi .list (.cons (.sub (.var i) (.cst (.int 1))) .nil))).nl ρ σ=some (c.2.1.map vs):=e_nlb (b:=.list) (Ax (Ak hv rfl (l1 _))) (BM l2.vs) (by rw [List.length_map]; exact Nat.le_trans hl (by decide))
 have n2:(ev C.O (.bi .list (.cons (.sub (.var i) (.cst (.int 2))) .nil))).nl ρ (σ++[oLs c])=some (c.2.2.map fun d=>.d d.data):=e_nlb (b:=.list) (Ax (Ak hv rfl (d1 _))) (BM (by rw [(d2.stay Bd.app).lst,List.map_map]; rfl)) (by rw [List.length_map]; exact Nat.le_trans hd (by decide))
 have t2:=SE.trk ((Ad C.ok _).nl n2)
 rw [EN] at t2
 exact SE.tupR (us:=[.inl (.str (Tx c.1)),.inr σ.length,.inr (σ.length+1)]) (.cons ((Ad C.ok _).v (Ak hv rfl H.s0)) (.cons (SE.trk ((Ad C.ok _).nl n1)) (.cons t2 .nil))) (show 3<=line by decide)
def Few (c:Ch):Prop:=c.1.length<=100/\c.2.1.length<=100/\c.2.2.length<=100
theorem CJ {n t:Nat} {elt:E} {kps:List (Nat×List V)} {ρ:Af} {σ:Aa} (hk:∀ σ',Bd σ σ'->Bt σ' kps)
 (he:∀ (v:V) (c:Ch) (σ':Aa),ChV σ' v c->Few c->SE n elt (Bw (AA ρ [t]) [t] v) σ' (xt c σ'.length (σ'.length+1)) (σ'++[oLs c]++[oDs c])) :
 ∀ (l:List (V×Ch)) (σ':Aa),Bd σ σ'->(∀ a∈l,ChV σ a.1 a.2/\Few a.2)->Ds n elt [t] .nil kps ρ (σ'++cpO (l.map (·.2))) (l.map (·.1)) σ' ((cpH σ'.length (l.map (·.2))).map (·.1))
 | [],σ',h,_=>⟨hk σ' h,rfl,List.append_nil _⟩
 | a::l,σ',h,hl=>by
  have h0:=hl a (.head _)
  have ih:=CJ hk he l (σ'++[oLs a.2]++[oDs a.2]) (fun k o e=>Bh (Bh (h k o e))) fun b hb=>hl b (.tail _ hb)
  rw [cpO_app,len_two] at ih
  exact ⟨hk σ' h,.inl rfl,true,σ',.nil,(fun q=>nomatch q),fun _=>⟨_,_,_,he a.1 a.2 σ' (h0.1.stay h) h0.2,rfl,ih⟩⟩
section
variable {σ:Aa} {y:V} {hs:List (V×Ch)} {X:List Ch}
def WayX (X:List Ch) (kk:Nat):Prop:=(kk=4/\Twc X)\/(kk=5/\¬ Twc X/\Msg X)\/(kk=8/\¬ Twc X/\¬ Msg X/\Rng X)
def Fine (X:List Ch):Prop:=¬ Twc X/\¬ Msg X/\¬ Rng X
noncomputable abbrev BK (X:List Ch):List Ch:=Ep (EM X) X
theorem fn_plainF (hX:hs.map (·.2)=X) (H:Hd4 σ y hs) (hl:hs.length < 64) (hd:∀ c∈X,Few c):(Fine X/\FN 4 82 [y] σ (.d (.list ((BK X).map Ch.data))) σ)\/∃ kk τ,WayX X kk/\FX 4 82 [y] σ kk (σ++τ):=by
 have hdm:∀ a∈hs,Few a.2:=fun a ha=>hd a.2 (by rw [<-hX]; exact List.mem_map_of_mem ha)
 have hk:∀ τ u z2 z3 v m z6 hs',¬ Twc X->¬ Msg X->¬ Rng X->(hs':List (V×Ch)).map (·.2)=Ep (EM X) X->(∀ a∈hs',a∈hs)->Ag (σ++τ) (.ref m)=some (hs'.map (·.1))->Ai (C0 3) (fun fl σ'=>Fine X/\EA fl=.d (.list ((BK X).map Ch.data))/\∃ τ,σ'=σ++τ) rBody [some y,some u,z2,z3,some v,some (.ref m),z6] (σ++τ):=by
  intro τ u z2 z3 v m z6 hs' n1 n2 n3 e1 e2 e3
  refine AE (v:=.d (.list ((BK X).map Ch.data))) (D7 ?_) ⟨⟨n1,n2,n3⟩,rfl,τ,rfl⟩
  have hfew:∀ a∈hs',Few a.2:=fun a ha=>hdm a (e2 a ha)
  refine (BR (O:=(C0 3).O) (t:=2) (l:=hs') (·.1) (fun _=>true) (fun a=>vc a.2) (CO (y:=.ref m) rfl e3 rfl) ?_ (fun _ _=>rfl) (fun a ha _=>?_)).trans ?_
  ·rw [<-List.length_map (f:=fun x:V×Ch=>x.2),e1,(C8 _ _).length_eq,<-hX,List.length_map]
   exact Nat.le_trans (Nat.le_of_lt hl) (by decide)
  ·have hc:ChV (σ++τ) a.1 a.2:=(H.ch a (e2 a ha)).stay Bd.app
   obtain ⟨l,l1,l2⟩:=hc.s1
   obtain ⟨d,d1,d2⟩:=hc.s2
   refine ET (xs:=[vs a.2.1,.d (dl a.2.2.1),.d (dds a.2.2.2)]) (e_r3 (Ak rfl rfl hc.s0) (Bc (Ax (Ak rfl rfl (l1 _))) ?_) (Bc (Ax (Ak rfl rfl (d1 _))) ?_)) rfl
   ·show (bmake .list (σ++τ) [l]).bind mkL=_
    rw [BM l2.lst]
    exact FS _ (by rw [List.length_map]; exact Nat.le_trans (hfew a ha).2.1 (by decide))
   ·show (bmake .list (σ++τ) [d]).bind mkL=_
    rw [BM d2.lst]
    exact FS _ (by rw [List.length_map]; exact Nat.le_trans (hfew a ha).2.2 (by decide))
  ·rw [Cf,show BK X=hs'.map (·.2) from e1.symm,List.map_map,List.map_map]; rfl
 rcases Cz.fn (C:=C0 3) (f:=82) (fn:=B7) (zs:=[y]) (σ:=σ) (R:=fun v σ'=>Fine X/\v=.d (.list ((BK X).map Ch.data))/\∃ τ,σ'=σ++τ) (K:=fun kk σ'=>WayX X kk/\∃ τ,σ'=σ++τ) (by unfold Pg; rfl) rfl (show 1<=3 by decide) (run_plain (C:=C0 3) hX (Nat.le_refl _) H hl (fun a ha=>⟨Nat.le_trans (hdm a ha).1 (by decide),Nat.le_trans (hdm a ha).2.1 (by decide)⟩) (fun τ h=>⟨.inl ⟨rfl,h⟩,τ,rfl⟩) (fun τ h1 h2=>⟨.inr (.inl ⟨rfl,h1,h2⟩),τ,rfl⟩) (fun τ h1 h2 h3=>⟨.inr (.inr ⟨rfl,h1,h2,h3⟩),τ,rfl⟩) hk) with ⟨v,σ',⟨h1,h2,τ,h3⟩,h⟩ | ⟨kk,σ',⟨h1,τ,h2⟩,h⟩
 ·rw [h2,h3] at h
  exact .inl ⟨h1,FA.seal h rfl⟩
 ·rw [h2] at h
  exact .inr ⟨kk,τ,h1,h⟩
theorem fn_plainT (hX:hs.map (·.2)=X) (H:Hd4 σ y hs) (hl:hs.length < 64) (hd:∀ c∈X,Few c) (hf:Fine X):∃ τ,FN 4 82 [y] σ (.ref (σ++τ++cpO (BK X)).length) (σ++τ++cpO (BK X)++[.list ((cpH (σ++τ).length (BK X)).map (·.1))]):=by
 have hdm:∀ a∈hs,Few a.2:=fun a ha=>hd a.2 (by rw [<-hX]; exact List.mem_map_of_mem ha)
 have hk:∀ τ u z2 z3 v m z6 hs',¬ Twc X->¬ Msg X->¬ Rng X->(hs':List (V×Ch)).map (·.2)=Ep (EM X) X->(∀ a∈hs',a∈hs)->Ag (σ++τ) (.ref m)=some (hs'.map (·.1))->Ai (C0 3) (fun fl σ'=>∃ τ,EA fl=.ref (σ++τ++cpO (BK X)).length/\σ'=σ++τ++cpO (BK X)++[.list ((cpH (σ++τ).length (BK X)).map (·.1))]) rBody [some y,some u,z2,z3,some v,some (.ref m),z6] (σ++τ):=by
  intro τ u z2 z3 v m z6 hs' n1 n2 n3 e1 e2 e3
  have hc:=CJ (n:=6) (t:=2) (elt:=.tup (.cons (.sub (.var 2) (.cst (.int 0))) (.cons (.bi .list (.cons (.sub (.var 2) (.cst (.int 1))) .nil)) (.cons (.bi .list (.cons (.sub (.var 2) (.cst (.int 2))) .nil)) .nil)))) (kps:=C4 (.ref m) (hs'.map (·.1))) (ρ:=[some y,some u,z2,z3,some v,some (.ref m),z6]) (σ:=σ++τ) (fun σ' st=>BT (Bl e3 st)) (fun w c σ' hw hc=>se_copy (C:=C0 3) rfl hw (Nat.le_trans hc.2.1 (by decide)) (Nat.le_trans hc.2.2 (by decide))) hs' (σ++τ) (fun _ _ h=>h) fun a ha=>⟨(H.ch a (e2 a ha)).stay Bd.app,hdm a (e2 a ha)⟩
  rw [e1] at hc
  exact CI (SE.trk (SL.comp (SI.lst ((Ad (C0 3).ok (.var 5)).v rfl) e3) hc (by rw [List.length_map,DV,(C8 _ _).length_eq,<-hX,List.length_map]; exact Nat.le_trans (Nat.le_of_lt hl) (by decide)))) ⟨τ,rfl,rfl⟩
 rcases Cz.fn (C:=C0 3) (f:=82) (fn:=B7) (zs:=[y]) (σ:=σ) (R:=fun v σ'=>∃ τ,v=.ref (σ++τ++cpO (BK X)).length/\σ'=σ++τ++cpO (BK X)++[.list ((cpH (σ++τ).length (BK X)).map (·.1))]) (K:=fun kk σ'=>False) (by unfold Pg; rfl) rfl (show 1<=3 by decide) (run_plain (C:=C0 3) hX (Nat.le_refl _) H hl (fun a ha=>⟨Nat.le_trans (hdm a ha).1 (by decide),Nat.le_trans (hdm a ha).2.1 (by decide)⟩) (fun τ h=>hf.1 h) (fun τ h1 h2=>hf.2.1 h2) (fun τ h1 h2 h3=>hf.2.2 h3) hk) with ⟨v,σ',⟨τ,h2,h3⟩,h⟩ | ⟨kk,σ',h1,h⟩
 ·rw [h2,h3] at h
  exact ⟨τ,h⟩
 ·exact h1.elim
open Classical in
noncomputable def ansB (X:List Ch):PyData:=if Fine X then .list ((BK X).map Ch.data) else .bool true
noncomputable abbrev ansV (X:List Ch):PyData:=.tuple [.str (Str.ofString (C7 X).1),ansB X]
theorem due_fine (h:Fine X):C7 X=("",BK X):=by unfold C7; rw [if_neg h.1,if_neg h.2.1,if_neg h.2.2]
theorem due_bad {kk:Nat} (h:WayX X kk):¬ Fine X/\(C7 X).2=[]/\((kk=4/\(C7 X).1 = "twice")\/(kk=5/\(C7 X).1 = "missing")\/(kk=8/\(C7 X).1 = "ring")):=by
 unfold C7
 rcases h with ⟨e,h⟩ | ⟨e,h1,h⟩ | ⟨e,h1,h2,h⟩
 ·rw [if_pos h]; exact ⟨fun q=>q.1 h,rfl,.inl ⟨e,rfl⟩⟩
 ·rw [if_neg h1,if_pos h]; exact ⟨fun q=>q.2.1 h,rfl,.inr (.inl ⟨e,rfl⟩)⟩
 ·rw [if_neg h1,if_neg h2,if_pos h]; exact ⟨fun q=>q.2.2 h,rfl,.inr (.inr ⟨e,rfl⟩)⟩
theorem G4 {ρ:Af} {σ:Aa} {j:Nat} (w:String) (hj:j∈DD) (hv:ρ[1]? = some (some (.exc j))):SE 2 (.tup (.cons (.cst (.str (Str.ofString w))) (.cons (.fcall 73 (.cons (.var 1) .nil)) .nil))) ρ σ (.d (.tuple [.str (Str.ofString w),.bool true])) σ:=.tup (ds:=[.str (Str.ofString w),.bool true]) (.cons (.cst _) (.cons (.fcall (.cons (.var hv) .nil) (fn_alone hj)) .nil)) (show 2<=line by decide)
theorem fn_answer (hX:hs.map (·.2)=X) (H:Hd4 σ y hs) (hl:hs.length < 64) (hd:∀ c∈X,Few c):FN 5 88 [y] σ (.d (ansV X)) σ:=by
 let C:=C0 4
 obtain ⟨v,σ',⟨h1,τ,h2⟩,h⟩:=FN.ends (C:=C) (f:=88) (fn:=Fanswer) (zs:=[y]) (σ:=σ) (R:=fun v σ'=>v=.d (ansV X)/\∃ τ,σ'=σ++τ) (by unfold Pg; rfl) rfl (show 1<=4 by decide) (by
  show Ai C _ _ [some y,none] σ
  rcases fn_plainF hX H hl hd with ⟨hf,h82⟩ | ⟨kk,τ,hw,h82⟩
  ·refine B9 (fl:=.ret (.d (ansV X))) (σ':=σ) (fun Q q=>SS.tryOk (.cons (.ret (.tup (ds:=[.str (Str.ofString ""),.list ((BK X).map Ch.data)]) (.cons (.cst _) (.cons (.fcall (.cons (.var rfl) .nil) (FA.more h82 (by decide))) .nil)) (show 2<=line by decide)) ?_))) ⟨rfl,[],(List.append_nil _).symm⟩
   show Q (.ret (.d (.tuple [_,_]))) σ
   unfold ansV at q
   rw [due_fine hf,ansB,if_pos hf] at q
   exact q
  ·obtain ⟨nf,_,hw⟩:=due_bad hw
   have hb:SXs (C.n+3) (.cons (.ret (.tup (.cons (.cst (.str (Str.ofString ""))) (.cons (.fcall 82 (.cons (.var 0) .nil)) .nil)))) .nil) [some y,none] σ kk fun ρ' σ₁=>ρ'=[some y,none]/\σ₁=σ++τ:=.head (.ret (.tup (.later (.cst _) (.here (.fcall (.cons (.var rfl) .nil) (FXA.more h82 (by decide)))))) ⟨rfl,rfl⟩)
   refine B9 (fl:=.ret (.d (ansV X))) (σ':=σ++τ) (fun Q q=>?_) ⟨rfl,τ,rfl⟩
   unfold ansV at q
   rw [ansB,if_neg nf] at q
   refine SS.tryX hb fun c g g₁ s4 x l I fl le hH=>?_
   rcases hw with ⟨rfl,e⟩ | ⟨rfl,e⟩ | ⟨rfl,e⟩
   ·rw [e] at q
    exact Et I fl (by decide) (G4 "twice" (by decide) rfl) q le hH
   ·rw [e] at q
    exact DA I fl (by decide) (by decide) rfl (fun t ht=>Et I fl (by decide) (G4 "missing" (by decide) rfl) q le ht) hH
   ·rw [e] at q
    exact DA I fl (by decide) (by decide) rfl (fun t ht=>DA I fl (by decide) (by decide) rfl (fun t ht=>Et I fl (by decide) (G4 "ring" (by decide) rfl) q le ht) ht) hH)
 rw [h1,h2] at h
 exact FA.seal h rfl
end
end Mine
namespace Mine
open PySem
theorem go_forSI {C:Cfg} {P:Fl->Aa->Prop} {r body:S} {ρ:Af} {σ σ₁:Aa} {it:E} {x:Nat} {α:Type} {l:List α} {kps:List (Nat×List V)} (w:α->V) (J:List α->Af->Aa->Prop) (hI:SI (C.n+3) it ρ σ (l.map w) kps σ₁) (hk:∀ p ρ σ,J p ρ σ->Bt σ kps) (hJ:J [] ρ σ₁)
 (hf:∀ p a q ρ σ,l=p++a::q->J p ρ σ->Ai C (fun fl σ'=>∃ ρ',fl=.next ρ'/\J (p++[a]) ρ' σ') body (ρ.set x (some (w a))) σ) (k:∀ ρ' σ',J l ρ' σ'->Ai C P r ρ' σ'):Ai C P (.cons (.for_ [x] it body) r) ρ σ:=by
 obtain ⟨ρe,σe,h1,h2⟩:=turns (C:=C) (body:=body) (ts:=[x]) w J l [] ρ σ₁ hk (fun _ _=>.inl rfl) hJ hf
 exact B9 (fl:=.next ρe) (fun Q q=>.for_ hI (h2 Q q)) (k ρe σe h1)
def LsG (σ σ':Aa) (n:Nat):Prop:=∀ (k:Nat) (ws:List V),σ[k]? = some (.list ws)->ws.length<=1000->∃ ws',σ'[k]? = some (.list ws')/\ws'.length<=1000+n
theorem LsG.set {σ σ':Aa} {n i:Nat} {ws us:List V} (h:LsG σ σ' n) (hi:σ'[i]? = some (.list ws)) (hu:us.length<=1000+(n+1)):LsG σ (σ'.set i (.list us)) (n+1):=fun k xs hk hx=>by
 by_cases e:i=k
 ·subst e
  exact ⟨us,by rw [List.getElem?_set_self (List.getElem?_eq_some_iff.mp hi).1],hu⟩
 ·obtain ⟨ws',h1,h2⟩:=h k xs hk hx
  exact ⟨ws',by rw [List.getElem?_set_ne e]; exact h1,Nat.le_succ_of_le h2⟩
theorem LsG.more {σ σ':Aa} {n m:Nat} (h:LsG σ σ' n) (hm:n<=m):LsG σ σ' m:=fun k ws hk hw=>by
 obtain ⟨ws',h1,h2⟩:=h k ws hk hw
 exact ⟨ws',h1,Nat.le_trans h2 (Nat.add_le_add_left hm _)⟩
section
variable {σ:Aa} {X:List Ch} {hs:List (V×Ch)} {kh:Nat}
theorem fn_right (hX:hs.map (·.2)=X) (hk:σ[kh]? = some (.list (hs.map (·.1)))) (ho:∀ a∈hs,Own4 σ a) (hl:hs.length < 64) (hd:∀ c∈X,Few c) (hf:Fine X):∃ σ',FN 6 89 [.ref kh,.d (.list ((BK X).map Ch.data)),.d (.list ((BK X).map Ch.data))] σ (vb true) σ':=by
 let F:V:=.d (.list ((BK X).map Ch.data))
 let C:Cfg:=(C0 5).knowF 71 (fun c:{c:Ch // Few c}=>[vc c.1,vc c.1]) (fun _=>vb true) fun c σ=>FN.more (fn_changelike c.2.2.1 c.2.2.2) (by decide)
 have k71:∀ (c:{c:Ch // Few c}) σ,C.O 71 [vc c.1,vc c.1] σ=some (vb true):=fun c σ=>knowF_eq (C:=C0 5) (fun _ _ _=>rfl) c σ
 have hdm:∀ a∈hs,Few a.2:=fun a ha=>hd a.2 (by rw [<-hX]; exact List.mem_map_of_mem ha)
 have hlX:X.length < 64:=by rw [<-hX,List.length_map]; exact hl
 have hlo:(BK X).length < 64:=by rw [(C8 _ _).length_eq]; exact hlX
 have hdo:∀ c∈BK X,Few c:=fun c hc=>hd c ((C8 _ _).mem_iff.mp hc)
 obtain ⟨v,σ',h1,h⟩:=FN.ends (C:=C) (f:=89) (fn:=Fright) (zs:=[.ref kh,F,F]) (σ:=σ) (R:=fun v σ'=>v=vb true) (by unfold Pg; rfl) rfl (show 1<=5 by decide) (by
  show Ai C _ _ [some (.ref kh),some F,some F,none,none,none,none] σ
  refine Cj (DC (p:=false) (q:=false) (CY (p:=true) (CZ (BB rfl rfl) rfl)) fun _=>(A5 (Bc (Ax rfl) D8) (Bc (Ax rfl) D8) ne_int).trans (by rw [decide_eq_true rfl]; rfl)) ?_
  have hl0:Ag σ (.ref kh)=some (hs.map (·.1)):=CH hk
  have hcp:=CJ (n:=C.n+3) (t:=4) (elt:=.fcall 17 (.cons (.var 4) .nil)) (kps:=C4 (.ref kh) (hs.map (·.1))) (ρ:=[some (.ref kh),some F,some F,none,none,none,none]) (σ:=σ) (fun σ' st=>BT (Bl hl0 st)) (fun w c σ' hw hc=>.fcall ((Ad C.ok _).row (Ax rfl)) (FA.more (EN▸fn_copy hw (Nat.le_trans hc.2.1 (by decide)) (Nat.le_trans hc.2.2 (by decide))) (by decide))) hs σ (fun _ _ h=>h) fun a ha=>⟨(ho a ha).chv,hdm a ha⟩
  rw [hX] at hcp
  let σa:Aa:=σ++cpO X++[.list ((cpH σ.length X).map (·.1))]
  have hya:Ag σa (.ref (σ++cpO X).length)=some ((cpH σ.length X).map (·.1)):=CH AD
  have Ha:Hd4 σa (.ref (σ++cpO X).length) (cpH σ.length X):=⟨hya,fun a ha=>(Gk X σ a ha).chv.stay Bd.app⟩
  obtain ⟨τ,h82⟩:=fn_plainT (EV X _) Ha (by rw [DV]; exact hlX) hd hf
  let σt:Aa:=σa++τ
  let hs2:List (V×Ch):=cpH σt.length (BK X)
  let ka:=(σt++cpO (BK X)).length
  let σb:Aa:=σt++cpO (BK X)++[.list (hs2.map (·.1))]
  have hsb:Bd σ σb:=fun k o e=>Bh (Bh (Bh (Bh (Bh e))))
  refine AS (v:=.ref ka) (σ':=σb) rfl (.fcall (.cons (SE.trk (SL.comp (SI.lst ((Ad C.ok (.var 0)).v rfl) hl0) hcp (by rw [List.length_map,DV]; exact Nat.le_trans (Nat.le_of_lt hlX) (by decide)))) .nil) (FA.more h82 (by decide))) ?_
  show Ai C _ _ [some (.ref kh),some F,some F,some (.ref ka),none,none,none] σb
  have hk1:σb[kh]? = some (.list (hs.map (·.1))):=hsb _ _ hk
  have hk2:σb[ka]? = some (.list (hs2.map (·.1))):=AD
  have hown:∀ a∈hs++hs2,Own4 σb a/\Few a.2:=fun a ha=>by
   rcases List.mem_append.mp ha with ha | ha
   ·exact ⟨(ho a ha).stay hsb,hdm a ha⟩
   ·exact ⟨(Gk (BK X) σt a ha).stay Bd.app,hdo a.2 (by rw [<-EV (BK X) σt.length]; exact List.mem_map_of_mem ha)⟩
  have hl2:hs2.length < 64:=by rw [DV]; exact hlo
  let sm:=σb.length
  refine go_forSI (l:=hs++hs2) (σ₁:=σb++[.list ((hs++hs2).map (·.1))]) (kps:=C4 (.ref sm) ((hs++hs2).map (·.1))) (·.1) (fun p ρ σ'=>(∃ z4,ρ=[some (.ref kh),some F,some F,some (.ref ka),z4,none,none])/\σ'[sm]? = some (.list ((hs++hs2).map (·.1)))/\LsG σb σ' (2 * p.length)) ?_ (fun p ρ σ' h=>BT (CH h.2.1)) ⟨⟨none,rfl⟩,AD,fun k ws e hw=>⟨ws,Bh e,Nat.le_trans hw (Nat.le_add_right _ _)⟩⟩ ?_ ?_
  ·refine SI.lst (SE.trk (SL.bin (x:=.ref kh) (y:=.ref ka) (ws:=(hs++hs2).map (·.1)) ((Ad C.ok (.var 0)).v rfl) ((Ad C.ok (.var 3)).v rfl) ?_)) (CH AD)
   rw [List.map_append]
   exact GC (CH hk1) (CH hk2) (by rw [List.length_map,List.length_map]; exact Nat.le_trans (show hs.length+hs2.length<=128 by omega) (by decide))
  ·rintro p a q ρ σ' e ⟨⟨z4,rfl⟩,hsm,hg⟩
   have hm:a∈hs++hs2:=by rw [e]; simp
   obtain ⟨⟨i,j,ea,Hn⟩,hfew⟩:=hown a hm
   have hpl:p.length < 128:=by
    have:=congrArg List.length e
    rw [List.length_append,List.length_append,List.length_cons] at this; omega
   show Ai C _ _ [some (.ref kh),some F,some F,some (.ref ka),some a.1,none,none] σ'
   rw [ea]
   obtain ⟨w1,i1,i2⟩:=hg i _ Hn.l (by rw [List.length_map]; exact Nat.le_trans hfew.2.1 (by decide))
   have hisb:i < sm:=(List.getElem?_eq_some_iff.mp Hn.l).1
   have hjsb:j < sm:=(List.getElem?_eq_some_iff.mp Hn.d).1
   refine go_clear (k:=i) (ws:=w1) (Ak rfl rfl sub_xt1) i1 ?_
   have hg1:=hg.set i1 (us:=[]) (Nat.zero_le _)
   obtain ⟨w2,j1,j2⟩:=hg1 j _ Hn.d (by rw [List.length_map]; exact Nat.le_trans hfew.2.2 (by decide))
   refine B4 (k:=j) (y:=.d (.tuple [.str (Str.ofString "cut"),.none])) (ws:=w2) (Ak rfl rfl sub_xt2) (Ax rfl) j1 (Nat.lt_of_le_of_lt (Nat.le_trans j2 (show 1000+(2 * p.length+1)<=2000 by omega)) (by decide)) (Ac ⟨_,rfl,⟨_,rfl⟩,?_,?_⟩)
   ·rw [List.getElem?_set_ne (by omega),List.getElem?_set_ne (by omega)]; exact hsm
   ·refine (hg1.set j1 ?_).more (by rw [List.length_append,List.length_singleton]; omega)
    rw [List.length_append,List.length_singleton]; omega
  ·rintro ρ σ' ⟨⟨z4,rfl⟩,hsm,hg⟩
   obtain ⟨w1,i1,i2⟩:=hg kh _ hk1 (by rw [List.length_map]; omega)
   refine go_clear (k:=kh) (ws:=w1) rfl i1 ?_
   obtain ⟨w2,j1,j2⟩:=(hg.set i1 (us:=[]) (Nat.zero_le _)) ka _ hk2 (by rw [List.length_map]; omega)
   refine go_clear (k:=ka) (ws:=w2) rfl j1 ?_
   let o:=BK X
   refine AE (Bc (Ax (x:=.d (.list (o.map fun _=>PyData.bool true))) ?_) (all_true o)) rfl
   have hit:∀ σ,(ev C.O (.zip (.var 1) (.var 2))).it [some (.ref kh),some F,some F,some (.ref ka),z4,none,none] σ=some (o.map (fun c=>V.d (.tuple [c.data,c.data])),C4 F ((o.map Ch.data).map V.d)++[]):=fun σ=>by
    show some (Gr ((o.map Ch.data).map V.d) ((o.map Ch.data).map V.d),_)=_
    rw [Gq,Go,List.map_map]; rfl
   show (((ev C.O (.zip (.var 1) (.var 2))).it _ _).bind fun q=>CK _ q.1).bind mkL=_
   rw [show (ev C.O (.zip (.var 1) (.var 2))).it _ _=_ from hit _]
   show (CK _ (o.map _)).bind mkL=_
   rw [Db (fun c:Ch=>V.d (.tuple [c.data,c.data])) (fun _=>some (vb true)) o (fun c hc=>?_),bs,List.filterMap_eq_map']
   ·rw [show (o.map fun _=>vb true)=(o.map fun _=>PyData.bool true).map V.d by rw [List.map_map]; rfl]
    exact FS _ (by rw [List.length_map]; exact Nat.le_trans (Nat.le_of_lt hlo) (by decide))
   ·show ((ev C.O (.fcall 71 (.cons (.var 5) (.cons (.var 6) .nil)))).v [some (.ref kh),some F,some F,some (.ref ka),z4,some (vc c),some (vc c)] _).bind _=_
    rw [FW (BB rfl rfl) (k71 ⟨c,hdo c hc⟩ _)]; rfl)
 rw [h1] at h
 exact ⟨σ',h⟩
end
end Mine
namespace Mine
open PySem
theorem e_lst {O:Orc} {ρ:Af} {σ:Aa} {es:E} {xs:List V} {v:V} (h:(ev O es).row ρ σ=some xs) (h2:mkL xs=some v):(ev O (.lst es)).v ρ σ=some v:=by rw [v_lst,h,bs]; exact h2
noncomputable def isPos (m:Nat):Bool:=match m with | 0=>false | _+1=>true
theorem Fv {α β:Type} (f:α->β):∀ (l:List α) (j:Nat),(l.map f).eraseIdx j=(l.eraseIdx j).map f
 | [],_=>rfl
 | _::_,0=>rfl
 | a::l,j+1=>congrArg (f a :: ·) (Fv f l j)
theorem FH {α:Type} {l:List α} {j:Nat} {c:α} (h:l[j]? = some c):(c::l.eraseIdx j).Perm l:=by
 obtain ⟨hj,rfl⟩:=List.getElem?_eq_some_iff.mp h
 have e:l=l.take j++l[j]::l.drop (j+1):=by rw [<-List.drop_eq_getElem_cons hj,List.take_append_drop]
 rw [List.eraseIdx_eq_take_drop_succ]
 conv=>rhs; rw [e]
 exact List.perm_middle.symm
section
variable {σ:Aa} {k:Nat} {X:List Ch}
theorem fn_shuffled (hk:σ[k]? = some (.list (X.map vc))) (hl:X.length < 64) (c:Int):∃ X':List Ch,X'.Perm X/\FN 3 83 [.ref k,vi c] σ (.ref (σ.length+1)) (σ++[.list [],.list (X'.map vc)]):=by
 let C:=C1 2 (Nat.le_refl _)
 have hm:∀ c k σ,C.O 10 [vi c,vi k] σ=some (vi (Bk c k)):=fun _ _ _=>rfl
 let a:=σ.length
 let St:List Ch->List Ch->Aa:=fun L R=>σ++[.list (L.map vc),.list (R.map vc)]
 have ga:∀ L R,(St L R)[a]? = some (.list (L.map vc)):=fun L R=>by
  show (σ++[O.list (L.map vc),.list (R.map vc)])[σ.length]? = _
  rw [List.getElem?_append_right (Nat.le_refl _),Nat.sub_self]; rfl
 have gb:∀ L R,(St L R)[a+1]? = some (.list (R.map vc)):=fun L R=>by
  show (σ++[O.list (L.map vc),.list (R.map vc)])[σ.length+1]? = _
  rw [List.getElem?_append_right (show σ.length<=σ.length+1 from Nat.le_succ _),Nat.add_sub_cancel_left]; rfl
 have sa:∀ L R L',(St L R).set a (.list (L'.map vc))=St L' R:=fun L R L'=>by
  show (σ++[O.list (L.map vc),.list (R.map vc)]).set σ.length _=_
  rw [List.set_append_right _ _ (Nat.le_refl _),Nat.sub_self]; rfl
 have sb:∀ L R R',(St L R).set (a+1) (.list (R'.map vc))=St L R':=fun L R R'=>by
  show (σ++[O.list (L.map vc),.list (R.map vc)]).set (σ.length+1) _=_
  rw [List.set_append_right _ _ (show σ.length<=σ.length+1 from Nat.le_succ _),Nat.add_sub_cancel_left]; rfl
 obtain ⟨v,σ',⟨X',p1,p2,p3⟩,h⟩:=FN.ends (C:=C) (f:=83) (fn:=Fshuffled) (zs:=[.ref k,vi c]) (σ:=σ) (R:=fun v σ'=>∃ X':List Ch,X'.Perm X/\v=.ref (a+1)/\σ'=St [] X') (by unfold Pg; rfl) rfl (show 1<=2 by decide) (by
  show Ai C _ _ [some (.ref k),some (vi c),none,none] σ
  refine Ck (ws:=X.map vc) (e_nlb (b:=.list) (Ax rfl) (BM (CH hk)) (by rw [List.length_map]; exact Nat.le_trans (Nat.le_of_lt hl) (by decide))) ?_
  refine Ck (ws:=[]) rfl ?_
  rw [EN,show σ++[O.list (X.map vc)]++[O.list []]=St X [] from List.append_assoc ..]
  show Ai C _ _ [some (.ref k),some (vi c),some (.ref a),some (.ref (a+1))] _
  refine go_while (fun m ρ σ'=>∃ L R,L.length=m/\(L++R).Perm X/\ρ=[some (.ref k),some (vi c),some (.ref a),some (.ref (a+1))]/\σ'=St L R) isPos X.length ⟨X,[],rfl,by rw [List.append_nil],rfl,rfl⟩ ?_ rfl ?_ ?_
  ·rintro m ρ _ ⟨L,R,rfl,hp,rfl,rfl⟩
   show (BF (St L R)[a]?).bind (fun ws=>some (!ws.isEmpty))=_
   rw [ga]
   cases L <;> rfl
  ·rintro m ρ _ ⟨L,R,hL,hp,rfl,rfl⟩ _
   have hpl:=hp.length_eq
   rw [List.length_append] at hpl
   have hi:=A0 (Bk c L.length) (j:=(L.length:Int)) (by omega)
   obtain ⟨x,hx⟩:∃ x,L[((Bk c L.length).fmod L.length).toNat]? = some x:=⟨_,List.getElem?_eq_getElem (by omega)⟩
   have hlen:Bx .len (St L R) [.ref a]=some (vi L.length):=(len_r (ga L R)).trans (by rw [List.length_map])
   have hrow:C.row (.cons (.bin .Mod (.fcall 10 (.cons (.var 1) (.cons (.bi .len (.cons (.var 2) .nil)) .nil))) (.bi .len (.cons (.var 2) .nil))) .nil) [some (.ref k),some (vi c),some (.ref a),some (.ref (a+1))] (St L R)=some [vi ((Bk c L.length).fmod L.length)]:=Ax (Ah (FW (BB rfl (Bc (Ax rfl) hlen)) (hm _ _ _)) (Bc (Ax rfl) hlen) (A2 (by omega)))
   generalize (Bk c L.length).fmod L.length=i at hi hx hrow
   have hpop:=m_popAt (σ:=St L R) (k:=a) (ws:=L.map vc) (v:=vc x) hi.1 (by rw [List.getElem?_map,hx]; rfl)
   rw [Fv,sa] at hpop
   have happ:=GL (σ:=St (L.eraseIdx i.toNat) R) (k:=a+1) (ws:=R.map vc) (x:=vc x) (by rw [List.length_map]; exact Nat.lt_of_le_of_lt (show R.length<=64 by omega) (by decide))
   rw [show R.map vc++[vc x]=(R++[x]).map vc by rw [List.map_append]; rfl,sb] at happ
   refine go_expS (v:=vnone) (σ':=St (L.eraseIdx i.toNat) (R++[x])) rfl (.lmeth (Dd rfl) slot_list_append type_list_append ((Ad C.ok (.var 3)).v rfl) (.cons (.lmeth (Dd rfl) F.slot_list_pop F.type_list_pop ((Ad C.ok (.var 2)).v rfl) ((Ad C.ok _).row hrow) (ga L R) (ga L R) hpop) .nil) (gb L R) (gb _ R) happ) (Ac ⟨_,rfl,L.eraseIdx i.toNat,R++[x],?_,?_,rfl,rfl⟩)
   ·have:=(FH hx).length_eq
    rw [List.length_cons] at this; omega
   ·refine List.Perm.trans ?_ hp
    refine List.Perm.trans ?_ (List.Perm.append_right R (FH hx))
    rw [<-List.append_assoc]
    exact List.perm_append_singleton ..
  ·rintro m' ρ _ ⟨L,R,hL,hp,rfl,rfl⟩ hm'
   cases L with
   | cons x L=>rw [<-hL] at hm'; exact tt_ hm'
   | nil=>exact AE rfl ⟨R,hp,rfl,rfl⟩)
 rw [p2,p3] at h
 exact ⟨X',p1,h⟩
def Gen4 (c:Ch):Prop:=c.1.length<=12/\c.2.1.length<=60/\c.2.2.length<=20
theorem Gen4.few {c:Ch} (h:Gen4 c):Few c:=⟨Nat.le_trans h.1 (by decide),Nat.le_trans h.2.1 (by decide),Nat.le_trans h.2.2 (by decide)⟩
theorem slr_to {ds:List PyData} {i:Int} (hk:σ[k]? = some (.list (ds.map .d))) (h0:0<=i) (hl:ds.length<=line):slice σ (.ref k) none (some i)=some (.d (.list (ds.take i.toNat))):=by
 show ((BF σ[k]?).bind fun ws=>some (BG none (some i) ws)).bind mkL=_
 rw [hk]
 show mkL (BG none (some i) (ds.map V.d))=_
 rw [<-Int.toNat_of_nonneg h0,cut_to,<-List.map_take]
 exact FS _ (Nat.le_trans (by rw [List.length_take]; exact Nat.min_le_right _ _) hl)
theorem slr_from {ds:List PyData} {i:Int} (hk:σ[k]? = some (.list (ds.map .d))) (h0:0<=i) (hl:ds.length<=line):slice σ (.ref k) (some i) none=some (.d (.list (ds.drop i.toNat))):=by
 show ((BF σ[k]?).bind fun ws=>some (BG (some i) none ws)).bind mkL=_
 rw [hk]
 show mkL (BG (some i) none (ds.map V.d))=_
 rw [<-Int.toNat_of_nonneg h0,cut_from,<-List.map_drop]
 exact FS _ (Nat.le_trans (by rw [List.length_drop]; exact Nat.sub_le _ _) hl)
theorem fn_turnedL (hk:σ[k]? = some (.list (X.map vc))) (h0:0 < X.length) (hl:X.length<=60) (hd:∀ c∈X,Gen4 c) (j:Int):∃ X':List Ch,X'.length=X.length/\(∀ c∈X',Few c)/\FN 2 84 [.ref k,vi j] σ (.ref σ.length) (σ++[.list (X'.map vc)]):=by
 let C:=C0 1
 have hkD:σ[k]? = some (.list ((X.map Ch.data).map .d)):=by rw [hk,List.map_map]; rfl
 have hlen:Bx .len σ [.ref k]=some (vi X.length):=(len_r hk).trans (by rw [List.length_map])
 have ha:=A0 j (j:=(X.length:Int)) (by omega)
 have hb:=A0 (j.fdiv 60) (j:=(X.length:Int)) (by omega)
 have hmA:∀ {ρ:Af},Eu ρ 0=some (.ref k)->Eu ρ 1=some (vi j)->C.v (.bin .Mod (.var 1) (.bi .len (.cons (.var 0) .nil))) ρ σ=some (vi (j.fmod X.length)):=fun h1 h2=>Ah h2 (Bc (Ax h1) hlen) (A2 (by omega))
 have hmB:∀ {ρ:Af},Eu ρ 0=some (.ref k)->Eu ρ 1=some (vi j)->C.v (.bin .Mod (.bin .FloorDiv (.var 1) (.cst (.int 60))) (.bi .len (.cons (.var 0) .nil))) ρ σ=some (vi ((j.fdiv 60).fmod X.length)):=fun h1 h2=>Ah (Ah h2 rfl (B2 (by decide))) (Bc (Ax h1) hlen) (A2 (by omega))
 generalize j.fmod X.length=a at ha hmA
 generalize (j.fdiv 60).fmod X.length=b at hb hmB
 obtain ⟨c,hc⟩:∃ c,X[a.toNat]? = some c:=⟨_,List.getElem?_eq_getElem (by omega)⟩
 obtain ⟨d,hdd⟩:∃ c,X[b.toNat]? = some c:=⟨_,List.getElem?_eq_getElem (by omega)⟩
 have hgc:=hd c (List.mem_of_getElem? hc)
 let ss:List Str:=(c.2.1++[d.1]).map Tx
 let ls:List (List Nat):=AZ ((met ss).map fun s=>s.cps.toList)
 have eM:((met ss).map fun s=>s.cps.toList).map Tx=met ss:=by
  rw [List.map_map]
  exact (List.map_congr_left fun s _=>DI s).trans (List.map_id _)
 have ndM:((met ss).map fun s=>s.cps.toList).Nodup:=GH.mp (by rw [eM]; exact met_nodup)
 have hls:ls.length<=61:=by
  rw [(Ce _).length_eq,List.length_map]
  refine Nat.le_trans (Ge ss) ?_
  rw [List.length_map,List.length_append,List.length_singleton]
  exact Nat.succ_le_succ hgc.2.1
 let X':List Ch:=X.take a.toNat++[(c.1,ls,c.2.2)]++X.drop (a.toNat+1)
 have hX':X'.length=X.length:=by
  rw [List.length_append,List.length_append,List.length_take,List.length_drop,List.length_singleton]; omega
 obtain ⟨v,σ',⟨h1,h2⟩,h⟩:=FN.ends (C:=C) (f:=84) (fn:=El) (zs:=[.ref k,vi j]) (σ:=σ) (R:=fun v σ'=>v=.ref σ.length/\σ'=σ++[.list (X'.map vc)]) (by unfold Pg; rfl) rfl (Nat.le_refl _) (by
  show Ai C _ _ [some (.ref k),some (vi j),none,none,none,none] σ
  refine Az (v:=vi a) (hmA rfl rfl) ?_
  refine Az (v:=vs d.1) (Ak (Ak rfl (hmB rfl rfl) (at_ref b hb.1 (by omega) hk (by rw [List.getElem?_map,hdd]; rfl))) rfl (Bv d)) ?_
  refine Az (v:=vc c) (Ak (x:=.ref k) (y:=vi a) rfl rfl (at_ref a ha.1 (by omega) hk (by rw [List.getElem?_map,hc]; rfl))) ?_
  show Ai C _ _ [some (.ref k),some (vi j),some (vi a),some (vs d.1),some (vc c),none] σ
  have hsum:C.v (.bin .Add (.sub (.var 4) (.cst (.int 1))) (.lst (.cons (.var 3) .nil))) [some (.ref k),some (vi j),some (vi a),some (vs d.1),some (vc c),none] σ=some (.d (.list ((c.2.1.map fun t=>PyData.str (Tx t))++[.str (Tx d.1)]))):=Ah (Ak rfl rfl (DL c)) rfl (b_catL _ _ (by rw [List.length_map]; exact Nat.le_trans (Nat.succ_le_succ hgc.2.1) (by decide)))
  have hset:SL 4 (.sset .sorted (.bin .Add (.sub (.var 4) (.cst (.int 1))) (.lst (.cons (.var 3) .nil)))) [some (.ref k),some (vi j),some (vi a),some (vs d.1),some (vc c),none] σ (vss (ls.map Tx)) σ:=by
   refine SL.sset (ss:=ss) ((Ad C.ok _).v hsum) ?_ ?_ ?_ ?_
   ·show some (((c.2.1.map fun t=>PyData.str (Tx t))++[PyData.str (Tx d.1)]).map V.d)=some (((c.2.1++[d.1]).map Tx).map _)
    rw [List.map_append,List.map_append,List.map_append,List.map_map,List.map_map]; rfl
   ·rw [List.length_map,List.length_append,List.length_singleton]; have:=hgc.2.1; omega
   ·rw [<-eM]; exact (Ce _).map _
   ·show (ls.map Tx).Pairwise _
    rw [List.pairwise_map]
    exact (isort_rise _ ndM).imp fun {x y} h=>by rw [Tx_lt]; exact decide_eq_false fun q=>List.lt_irrefl _ (List.lt_trans q h)
  refine AS (v:=.d (dl ls)) (σ':=σ) rfl (SE.frz (ds:=ls.map fun t=>.str (Tx t)) ?_) ?_
  ·rw [show (ls.map fun t=>PyData.str (Tx t)).map V.d=vss (ls.map Tx) by show _=(ls.map Tx).map _; rw [List.map_map,List.map_map]; rfl]; exact hset
  show Ai C _ _ [some (.ref k),some (vi j),some (vi a),some (vs d.1),some (vc c),some (.d (dl ls))] σ
  have hll:(X.map Ch.data).length<=line:=by rw [List.length_map]; exact Nat.le_trans hl (by decide)
  have e1:C.v (.slc (.var 0) .nil (.var 2)) [some (.ref k),some (vi j),some (vi a),some (vs d.1),some (vc c),some (.d (dl ls))] σ=some (.d (.list ((X.map Ch.data).take a.toNat))):=slr_to hkD ha.1 hll
  have e2:C.v (.slc (.var 0) (.bin .Add (.var 2) (.cst (.int 1))) .nil) [some (.ref k),some (vi j),some (vi a),some (vs d.1),some (vc c),some (.d (dl ls))] σ=some (.d (.list ((X.map Ch.data).drop (a+1).toNat))):=slr_from hkD (by omega) hll
  have e3:C.v (.lst (.cons (.tup (.cons (.sub (.var 4) (.cst (.int 0))) (.cons (.var 5) (.cons (.sub (.var 4) (.cst (.int 2))) .nil)))) .nil)) [some (.ref k),some (vi j),some (vi a),some (vs d.1),some (vc c),some (.d (dl ls))] σ=some (.d (.list [Ch.data (c.1,ls,c.2.2)])):=e_lst (Ax (ET (v:=vc (c.1,ls,c.2.2)) (e_r3 (Ak rfl rfl (Bv c)) rfl (Ak rfl rfl (E3 c))) rfl)) rfl
  have hlt:((X.map Ch.data).take a.toNat).length<=60:=by rw [List.length_take,List.length_map]; omega
  have hld:((X.map Ch.data).drop (a+1).toNat).length<=60:=by rw [List.length_drop,List.length_map]; omega
  have e4:=Ah e1 e3 (b_catL (σ:=σ) _ _ (Nat.le_trans (show _+1<=61 from Nat.succ_le_succ hlt) (by decide)))
  refine CI (SE.trk (ws:=X'.map vc) (SL.bin ((Ad C.ok _).v e4) ((Ad C.ok _).v e2) ?_)) ⟨rfl,rfl⟩
  have hp:=GC (σ:=σ) (x:=.d (.list ((X.map Ch.data).take a.toNat++[Ch.data (c.1,ls,c.2.2)]))) (y:=.d (.list ((X.map Ch.data).drop (a+1).toNat))) rfl rfl (by rw [List.length_map,List.length_map,List.length_append,List.length_singleton]; exact Nat.le_trans (show _<=121 by omega) (by decide))
  have e5:X'.map vc=((X.map Ch.data).take a.toNat++[Ch.data (c.1,ls,c.2.2)]).map V.d++((X.map Ch.data).drop (a+1).toNat).map V.d:=by
   rw [show (a+1).toNat=a.toNat+1 by omega,<-List.map_append,<-List.map_take,<-List.map_drop,show ([Ch.data (c.1,ls,c.2.2)]:List PyData)=[((c.1,ls,c.2.2):Ch)].map Ch.data from rfl,<-List.map_append,<-List.map_append,List.map_map]; rfl
  rw [e5]; exact hp)
 rw [h1,h2] at h
 refine ⟨X',hX',fun x hx=>?_,h⟩
 rcases List.mem_append.mp hx with hx | hx
 ·rcases List.mem_append.mp hx with hx | hx
  ·exact (hd x (List.mem_of_mem_take hx)).few
  ·rw [List.mem_singleton.mp hx]; exact ⟨hgc.few.1,Nat.le_trans hls (by decide),hgc.few.2.2⟩
 ·exact (hd x (List.mem_of_mem_drop hx)).few
end
end Mine
namespace Mine
open PySem
theorem fn_changesT (ns:List Int) (hns:ns.length<=1000):∃ cs:List Ch,cs.length<=60/\(∀ c∈cs,Gen4 c)/\FN 4 16 [.d (scD ns),vi 60] [] (.ref 0) [lcs cs,ltk cs]:=by
 obtain ⟨v,σ',⟨cs,k1,k2,k3,k6,k4,k5⟩,h⟩:=FN.ends (C:=C0 3) (f:=16) (fn:=DK) (zs:=[.d (scD ns),vi 60]) (σ:=[]) (R:=fun v σ'=>∃ cs:List Ch,(cs.length:Int)<=60/\(∀ c∈cs,GenCh c)/\FM cs/\[48]∉cs.map (·.1)/\v=.ref 0/\σ'=[lcs cs,ltk cs]) (by unfold Pg; rfl) rfl (show 1<=3 by decide) (run_changes (Nat.le_refl _) ns 60 hns (by decide) (by decide))
 rw [k4,k5] at h
 exact ⟨cs,by omega,fun c hc=>⟨((CU _).mp (k2 c hc).name).2.1,(k2 c hc).few,(k2 c hc).deeds⟩,h⟩
theorem vi2j {k l:Int} {d:PyData} (e:[V.d d,vi k]=[.d d,vi l]):k=l:=by
 injection e with _ e
 injection e with e _
 injection e with e
 injection e
theorem go_compS {C:Cfg} {P:Fl->Aa->Prop} {r:S} {ρ:Af} {σ σ₁ σ':Aa} {x:Nat} {elt it ifs:E} {ts:List Nat} {vs ws:List V} {kps:List (Nat×List V)} (h1:SI (C.n+3) it ρ σ vs kps σ₁) (h2:Ds (C.n+3) elt ts ifs kps ρ σ' vs σ₁ ws) (h3:ws.length<=line) (k:Ai C P r (ρ.set x (some (.ref σ'.length))) (σ'++[.list ws])):Ai C P (.cons (.asg x (.comp elt ts it ifs)) r) ρ σ :=
 B9 (fl:=.next (ρ.set x (some (.ref σ'.length)))) (fun Q q=>.asgC h1 h2 h3 (fun n=>n.trk) q) k
noncomputable def od1:Deed:=⟨(Str.ofString "add").cps.toList,none,some (Txt.mul (Str.ofString "x") 201).cps.toList⟩
noncomputable def od2:Deed:=⟨(Str.ofString "put").cps.toList,some ((Str.ofString "A").cps.toList,5),some (Str.ofString "\n").cps.toList⟩
noncomputable def od3:Deed:=⟨(Str.ofString "cut").cps.toList,none,none⟩
theorem od1_d:od1.data=.tuple [.str (Str.ofString "add"),.none,.str (Txt.mul (Str.ofString "x") 201)]:=by
 show PyData.tuple [.str (Tx (Str.ofString "add").cps.toList),.none,.str (Tx (Txt.mul (Str.ofString "x") 201).cps.toList)]=_
 rw [DI,DI]
theorem od2_d:od2.data=.tuple [.str (Str.ofString "put"),.tuple [.str (Str.ofString "A"),.int 5],.str (Str.ofString "\n")]:=by
 show PyData.tuple [.str (Tx (Str.ofString "put").cps.toList),.tuple [.str (Tx (Str.ofString "A").cps.toList),.int 5],.str (Tx (Str.ofString "\n").cps.toList)]=_
 rw [DI,DI,DI]
theorem od3_d:od3.data=.tuple [.str (Str.ofString "cut"),.none]:=by
 show PyData.tuple [.str (Tx (Str.ofString "cut").cps.toList),.none]=_
 rw [DI]
theorem f_isB {σ:Aa} (b:Bool):Pr2 (fun X Y=>call (A6 .isinstance) [X,Y]) (vb b) (.ty "bool") σ (vb true) σ:=f_isi rfl (by kernel_rfl) (by rw [isSubtype_type]; kernel_rfl)
theorem snap_own {σ:Aa} {a:V×Ch} (h:Own4 σ a):snap σ a.1=some (Ch.data a.2):=by
 obtain ⟨i,j,e,H⟩:=h
 rw [e]
 show ((some (PyData.str (Tx a.2.1))).bind fun x=>((lstD (BF σ[i]?)).bind fun y=>((lstD (BF σ[j]?)).bind fun z=>some [z]).bind fun xs=>some (y::xs)).bind fun xs=>some (x::xs)).bind _=_
 rw [H.l,H.d]
 show ((some (PyData.str (Tx a.2.1))).bind fun x=>(((CS (a.2.2.1.map vs)).bind fun xs=>some (PyData.list xs)).bind fun y=>(((CS (a.2.2.2.map fun d=>V.d d.data)).bind fun xs=>some (PyData.list xs)).bind fun z=>some [z]).bind fun xs=>some (y::xs)).bind fun xs=>some (x::xs)).bind _=_
 rw [D6,BX,show (a.2.2.2.map fun d=>V.d d.data)=(a.2.2.2.map Deed.data).map V.d by rw [List.map_map]; rfl,BX]; rfl
theorem snapL_own {σ:Aa}:∀ {hs:List (V×Ch)},(∀ a∈hs,Own4 σ a)->snapL σ (hs.map (·.1))=some ((hs.map (·.2)).map Ch.data)
 | [],_=>rfl
 | a::hs,h=>by
  show (snap σ a.1).bind (fun x=>(snapL σ (hs.map (·.1))).bind fun xs=>some (x::xs))=_
  rw [snap_own (h a (.head _)),bs,snapL_own fun b hb=>h b (.tail _ hb)]; rfl
theorem eqc_self (n:Nat) (c:Ch):eqN (n+4) c.data c.data=some true:=by
 refine eqp_self fun x hx=>?_
 rcases List.mem_cons.mp hx with rfl | hx
 ·rw [Gj,decide_eq_true rfl]
 rcases List.mem_cons.mp hx with rfl | hx
 ·exact eqd_self _ _
 rw [List.mem_singleton.mp hx]
 exact eql_self fun d hd=>by obtain ⟨e,_,rfl⟩:=List.mem_map.mp hd; exact eqv_self n e
theorem eqcs_self (n:Nat) (X:List Ch):eqN (n+5) (.list (X.map Ch.data)) (.list (X.map Ch.data))=some true:=eql_self fun d hd=>by obtain ⟨e,_,rfl⟩:=List.mem_map.mp hd; exact eqc_self n e
structure Ls4 (σ:Aa) (k:Nat) (X:List Ch) (n:Nat):Prop where
 at_:σ[k]? = some (.list (X.map vc))
 len:X.length<=n
 few:∀ c∈X,Few c
theorem pos_of {X:List Ch} (e:(!(X.map vc).isEmpty)=true):0 < X.length:=by cases X with | nil=>exact ff_ e | cons _ _=>exact Nat.succ_pos _
theorem run04 (ns:List Int) (hns:ns.length<=63):∃ σ',SSs 23 Flaw.body (AV Flaw [.d (.list (ns.map .int))]) [] (RetIs (vb true) σ'):=by
 obtain ⟨ns',w1,w2⟩:=fn_wide (ns.drop 6) (ns.getD 5 0) (by rw [List.length_drop]; omega)
 obtain ⟨cs,cl,c2,c4⟩:=fn_changesT ns' w1
 let C:=(C0 20).knowF 9 (fun k:{k:Int // 0<=k/\k < 1000}=>[.d (scD ns),vi k.1]) (fun k=>vi (ns.getD k.1.toNat 0)) fun k σ=>FN.more (fn_cell ns k.1 k.2.1 k.2.2) (show 2<=20 by decide)
 have o9:∀ (k:Int),0<=k->k < 1000->∀ σ,C.O 9 [.d (scD ns),vi k] σ=some (vi (ns.getD k.toNat 0)):=fun k h1 h2 σ=>knowF_eq (C:=C0 20) (arg:=fun k:{k:Int // 0<=k/\k < 1000}=>[.d (scD ns),vi k.1]) (fun a b e=>by rw [vi2j e]) ⟨k,h1,h2⟩ σ
 have hslc:∀ {ρ σ},Eu ρ 0=some (.d (scD ns))->(ev C.O (.slc (.var 0) (.cst (.int 6)) .nil)).v ρ σ=some (.d (scD (ns.drop 6))):=fun {ρ σ} h=>by
  show ((Eu ρ 0).bind fun x=>slice σ x (some 6) none)=_
  rw [h,bs,slL_fromZ (by decide) (by rw [List.length_map]; exact Nat.le_trans hns (by decide)),<-List.map_drop]; rfl
 have hcell:∀ {ρ σ} (k:Int),Eu ρ 0=some (.d (scD ns))->0<=k->k < 1000->(ev C.O (.fcall 9 (.cons (.var 0) (.cons (.cst (.int k)) .nil)))).v ρ σ=some (vi (ns.getD k.toNat 0)):=fun k h h1 h2=>FW (BB h rfl) (o9 k h1 h2 _)
 let S:V:=.d (scD ns)
 have hE:Ai C (fun fl _=>EA fl=vb true) Flaw.body (AV Flaw [.d (.list (ns.map .int))]) []:=by
  show Ai C _ _ [some S,none,none,none,none,none,none,none,none,none,none,none,none] []
  refine AS (v:=.ref 0) (σ':=[lcs cs,ltk cs]) rfl (.fcall (.cons (.fcall (.cons ((Ad C.ok _).v (hslc rfl)) (.cons ((Ad C.ok _).v (hcell 5 rfl (by decide) (by decide))) (.cons (.cst _) .nil))) (FN.more (w2 _) (show 3<=20 by decide))) (.cons (.cst _) .nil)) (FN.more c4 (show 4<=20 by decide))) ?_
  have hw:=hcell (ρ:=[some S,some (.ref 0),none,none,none,none,none,none,none,none,none,none,none]) (σ:=[lcs cs,ltk cs]) 0 rfl (by decide) (by decide)
  generalize ns.getD (0:Int).toNat 0=w at hw
  refine Az (v:=vi w) hw ?_
  let K:Nat->Option V->Option V->Option V->Af:=fun k z3 z4 z5=>[some S,some (.ref k),some (vi w),z3,z4,z5,none,none,none,none,none,none,none]
  have tv1:∀ {σ k X n z3 z4 z5},Ls4 σ k X n->C.t (.var 1) (K k z3 z4 z5) σ=some (!(X.map vc).isEmpty):=fun {σ k X n z3 z4 z5} L=>by
   show (BF σ[k]?).bind (fun ws=>some (!ws.isEmpty))=_
   rw [L.at_]; rfl
  have hlen:∀ {σ k X n},Ls4 σ k X n->Bx .len σ [.ref k]=some (vi X.length):=fun L=>(len_r L.at_).trans (by rw [List.length_map])
  refine BV (M:=fun ρ σ=>∃ k X,ρ=K k none none none/\Ls4 σ k X 60) ?_ ?_
  ·have L0:Ls4 [lcs cs,ltk cs] 0 cs 60:=⟨rfl,cl,fun c hc=>(c2 c hc).few⟩
   show Ai C _ _ (K 0 none none none) [lcs cs,ltk cs]
   refine AC (CQ (tv1 L0) fun _=>A5 (Ah rfl rfl (A2 (by decide))) rfl B1) (fun e=>?_) fun e=>Ac (Ac ⟨_,rfl,0,cs,rfl,L0⟩)
   obtain ⟨X',x1,x2,x3⟩:=fn_turnedL (σ:=[lcs cs,ltk cs]) (k:=0) rfl (pos_of (Bool.and_eq_true_iff.mp e).1) cl c2 (ns.getD (1:Int).toNat 0)
   exact AS (v:=.ref 2) (σ':=[lcs cs,ltk cs]++[.list (X'.map vc)]) rfl (.fcall ((Ad C.ok _).row (BB (x:=.ref 0) rfl (hcell 1 rfl (by decide) (by decide)))) (FN.more x3 (show 2<=20 by decide))) (Ac (Ac ⟨_,rfl,2,X',rfl,rfl,by rw [x1]; exact cl,x2⟩))
  rintro _ σ ⟨k,X,rfl,L⟩
  refine BV (M:=fun ρ σ=>∃ k X,ρ=K k none none none/\Ls4 σ k X 60) ?_ ?_
  ·refine AC (CQ (tv1 L) fun _=>A5 (Ah (Ah rfl rfl (B2 (by decide))) rfl (A2 (by decide))) rfl B1) (fun e=>?_) fun e=>Ac (Ac ⟨_,rfl,k,X,rfl,L⟩)
   have h0:=pos_of (Bool.and_eq_true_iff.mp e).1
   have hi:=A0 (ns.getD (2:Int).toNat 0) (j:=(X.length:Int)) (by omega)
   have hrow:C.row (.cons (.bin .Mod (.fcall 9 (.cons (.var 0) (.cons (.cst (.int 2)) .nil))) (.bi .len (.cons (.var 1) .nil))) .nil) (K k none none none) σ=some [vi ((ns.getD (2:Int).toNat 0).fmod X.length)]:=Ax (Ah (hcell 2 rfl (by decide) (by decide)) (Bc (Ax rfl) (hlen L)) (A2 (by omega)))
   generalize (ns.getD (2:Int).toNat 0).fmod X.length=i at hi hrow
   obtain ⟨x,hx⟩:∃ x,X[i.toNat]? = some x:=⟨_,List.getElem?_eq_getElem (by omega)⟩
   refine go_lmeth (k:=k) (ws:=X.map vc) F.slot_list_pop F.type_list_pop rfl hrow L.at_ (m_popAt (v:=vc x) hi.1 (by rw [List.getElem?_map,hx]; rfl)) rfl (Ac (Ac ⟨_,rfl,k,X.eraseIdx i.toNat,rfl,?_,Nat.le_trans (List.length_eraseIdx_le _ _) L.len,fun c hc=>L.few c (List.mem_of_mem_eraseIdx hc)⟩))
   rw [Fv,List.getElem?_set_self (List.getElem?_eq_some_iff.mp L.at_).1]
  rintro _ σ ⟨k,X,rfl,L⟩
  refine BV (M:=fun ρ σ=>∃ k X z3,ρ=K k z3 none none/\Ls4 σ k X 61) ?_ ?_
  ·refine AC (CQ (tv1 L) fun _=>A5 (Ah (Ah rfl rfl (B2 (by decide))) rfl (A2 (by decide))) rfl B1) (fun e=>?_) fun e=>Ac (Ac ⟨_,rfl,k,X,none,rfl,L.at_,Nat.le_succ_of_le L.len,L.few⟩)
   have h0:=pos_of (Bool.and_eq_true_iff.mp e).1
   have hi:=A0 (ns.getD (3:Int).toNat 0) (j:=(X.length:Int)) (by omega)
   have hrow:C.v (.bin .Mod (.fcall 9 (.cons (.var 0) (.cons (.cst (.int 3)) .nil))) (.bi .len (.cons (.var 1) .nil))) (K k none none none) σ=some (vi ((ns.getD (3:Int).toNat 0).fmod X.length)):=Ah (hcell 3 rfl (by decide) (by decide)) (Bc (Ax rfl) (hlen L)) (A2 (by omega))
   generalize (ns.getD (3:Int).toNat 0).fmod X.length=i at hi hrow
   have hlX:=L.len
   obtain ⟨x,hx⟩:∃ x,X[i.toNat]? = some x:=⟨_,List.getElem?_eq_getElem (by omega)⟩
   refine Az (v:=vc x) (Ak (x:=.ref k) rfl hrow (at_ref i hi.1 (by omega) L.at_ (by rw [List.getElem?_map,hx]; rfl))) ?_
   show Ai C _ _ (K k (some (vc x)) none none) σ
   have hl:C.v (.lst (.cons (.tup (.cons (.sub (.var 3) (.cst (.int 0))) (.cons (.lst .nil) (.cons (.lst .nil) .nil)))) .nil)) (K k (some (vc x)) none none) σ=some (.d (.list [Ch.data (x.1,[],[])])):=e_lst (Ax (ET (v:=vc (x.1,[],[])) (e_r3 (Ak (x:=vc x) rfl rfl (Bv x)) rfl rfl) rfl)) rfl
   refine AS (v:=.ref σ.length) (σ':=σ++[.list ((X++[(x.1,[],[])]).map vc)]) rfl (SE.trk (SL.bin (x:=.ref k) ((Ad C.ok (.var 1)).v rfl) ((Ad C.ok _).v hl) ?_)) (Ac (Ac ⟨_,rfl,σ.length,X++[(x.1,[],[])],some (vc x),rfl,AD,?_,fun c hc=>?_⟩))
   ·rw [List.map_append]
    exact GC (CH L.at_) rfl (by rw [List.length_map]; exact Nat.le_trans (Nat.succ_le_succ L.len) (by decide))
   ·rw [List.length_append,List.length_singleton]; exact Nat.succ_le_succ L.len
   ·rcases List.mem_append.mp hc with hc | hc
    ·exact L.few c hc
    ·rw [List.mem_singleton.mp hc]; exact ⟨(L.few x (List.mem_of_getElem? hx)).1,Nat.zero_le _,Nat.zero_le _⟩
  rintro _ σ ⟨k,X,z3,rfl,L⟩
  refine BV (M:=fun ρ σ=>∃ k X z3 z4 z5,ρ=K k z3 z4 z5/\Ls4 σ k X 61) ?_ ?_
  ·refine AC (CQ (tv1 L) fun _=>A5 (Ah (Ah rfl rfl (B2 (by decide))) rfl (A2 (by decide))) rfl B1) (fun e=>?_) fun e=>Ac (Ac ⟨_,rfl,k,X,z3,none,none,rfl,L⟩)
   have h0:=pos_of (Bool.and_eq_true_iff.mp e).1
   have hi:=A0 ((ns.getD (3:Int).toNat 0).fdiv 60) (j:=(X.length:Int)) (by omega)
   have hrow:C.v (.bin .Mod (.bin .FloorDiv (.fcall 9 (.cons (.var 0) (.cons (.cst (.int 3)) .nil))) (.cst (.int 60))) (.bi .len (.cons (.var 1) .nil))) (K k z3 none none) σ=some (vi (((ns.getD (3:Int).toNat 0).fdiv 60).fmod X.length)):=Ah (Ah (hcell 3 rfl (by decide) (by decide)) rfl (B2 (by decide))) (Bc (Ax rfl) (hlen L)) (A2 (by omega))
   generalize ((ns.getD (3:Int).toNat 0).fdiv 60).fmod X.length=i at hi hrow
   have hlX:=L.len
   obtain ⟨x,hx⟩:∃ x,X[i.toNat]? = some x:=⟨_,List.getElem?_eq_getElem (by omega)⟩
   refine Az (v:=vi i) hrow ?_
   have hj:=A0 (w.fdiv 1296) (j:=9) (by decide)
   have hjv:C.v (.bin .Add (.cst (.int 1)) (.bin .Mod (.bin .FloorDiv (.var 2) (.cst (.int 1296))) (.cst (.int 9)))) (K k z3 (some (vi i)) none) σ=some (vi (1+(w.fdiv 1296).fmod 9)):=Ah rfl (Ah (Ah rfl rfl (B2 (by decide))) rfl (A2 (by decide))) rfl
   generalize (w.fdiv 1296).fmod 9=j at hj hjv
   let od:List Deed:=[od1,od2,od3]
   let ods:List Deed:=(List.replicate (1+j).toNat od).flatten
   have hol:ods.length<=27:=by
    rw [List.length_flatten,List.map_replicate,List.sum_replicate_nat]
    show (1+j).toNat * 3<=27
    omega
   refine AS (v:=.d (dds ods)) (σ':=σ) rfl (SE.frz (ds:=ods.map Deed.data) ?_) ?_
   ·have hb:SE (C.n+3) (.lst (.cons (.tup (.cons (.cst (.str (Str.ofString "add"))) (.cons (.cst .none) (.cons (.bin .Mult (.cst (.str (Str.ofString "x"))) (.cst (.int 201))) .nil)))) (.cons (.tup (.cons (.cst (.str (Str.ofString "put"))) (.cons (.tup (.cons (.cst (.str (Str.ofString "A"))) (.cons (.cst (.int 5)) .nil))) (.cons (.cst (.str (Str.ofString "\n"))) .nil)))) (.cons (.tup (.cons (.cst (.str (Str.ofString "cut"))) (.cons (.cst .none) .nil))) .nil)))) (K k z3 (some (vi i)) none) σ (.d (.list (od.map Deed.data))) σ:=by
     have s1:SE (C.n+3) (.tup (.cons (.cst (.str (Str.ofString "add"))) (.cons (.cst .none) (.cons (.bin .Mult (.cst (.str (Str.ofString "x"))) (.cst (.int 201))) .nil)))) (K k z3 (some (vi i)) none) σ (.d od1.data) σ:=by
      rw [od1_d]
      exact .tup (ds:=[.str (Str.ofString "add"),.none,.str (Txt.mul (Str.ofString "x") 201)]) (.cons (.cst _) (.cons (.cst _) (.cons (.bin (.cst _) (.cst _) (p_mulS (by decide) (by decide) (by decide))) .nil))) (show 3<=line by decide)
     have s2:C.v (.tup (.cons (.cst (.str (Str.ofString "put"))) (.cons (.tup (.cons (.cst (.str (Str.ofString "A"))) (.cons (.cst (.int 5)) .nil))) (.cons (.cst (.str (Str.ofString "\n"))) .nil)))) (K k z3 (some (vi i)) none) σ=some (.d od2.data):=by rw [od2_d]; rfl
     have s3:C.v (.tup (.cons (.cst (.str (Str.ofString "cut"))) (.cons (.cst .none) .nil))) (K k z3 (some (vi i)) none) σ=some (.d od3.data):=by rw [od3_d]; rfl
     exact SE.frz (SL.lst (ws:=[.d od1.data,.d od2.data,.d od3.data]) (.cons s1 (.cons ((Ad C.ok _).v s2) (.cons ((Ad C.ok _).v s3) .nil))) (show 3<=line by decide))
    have hm:=SL.bin (op:=.Mult) hb ((Ad C.ok _).v hjv) (p_rep (ws:=(od.map Deed.data).map V.d) rfl (by omega) (by omega) (show 3<=1000 by decide))
    rw [show ((List.replicate (1+j).toNat ((od.map Deed.data).map V.d)).flatten)=(ods.map Deed.data).map V.d by rw [List.map_flatten,List.map_flatten,List.map_replicate,List.map_replicate]] at hm
    exact hm
   show Ai C _ _ (K k z3 (some (vi i)) (some (.d (dds ods)))) σ
   have hxv:C.v (.sub (.var 1) (.var 4)) (K k z3 (some (vi i)) (some (.d (dds ods)))) σ=some (vc x):=Ak (x:=.ref k) (y:=vi i) rfl rfl (at_ref i hi.1 (by omega) L.at_ (by rw [List.getElem?_map,hx]; rfl))
   refine go_setL (z:=vc (x.1,x.2.1,ods)) (k:=k) (j:=i) (ws:=X.map vc) (ET (e_r3 (Ak hxv rfl (Bv x)) (Ak hxv rfl (DL x)) rfl) rfl) rfl rfl L.at_ hi.1 (by rw [List.length_map]; exact hi.2) (Ac (Ac ⟨_,rfl,k,X.set i.toNat (x.1,x.2.1,ods),_,_,_,rfl,?_,by rw [List.length_set]; exact L.len,fun c hc=>?_⟩))
   ·rw [List.getElem?_set_self (List.getElem?_eq_some_iff.mp L.at_).1,List.map_set]
   ·have hfx:=L.few x (List.mem_of_getElem? hx)
    rcases List.mem_or_eq_of_mem_set hc with hc | rfl
    ·exact L.few c hc
    ·exact ⟨hfx.1,hfx.2.1,Nat.le_trans hol (by decide)⟩
  rintro _ σ ⟨k,X,z3,z4,z5,rfl,L⟩
  refine BV (M:=fun ρ σ=>∃ k X z3 z4 z5,ρ=K k z3 z4 z5/\Ls4 σ k X 61) ?_ ?_
  ·refine AC (A5 (Ah (Ah rfl rfl (B2 (by decide))) rfl (A2 (by decide))) rfl c_gt) (fun e=>?_) fun e=>Ac (Ac ⟨_,rfl,k,X,z3,z4,z5,rfl,L⟩)
   obtain ⟨X',x1,x2⟩:=fn_shuffled L.at_ (by have:=L.len; omega) (ns.getD (4:Int).toNat 0)
   refine AS (v:=.ref (σ.length+1)) (σ':=σ++[.list [],.list (X'.map vc)]) rfl (.fcall ((Ad C.ok _).row (BB (x:=.ref k) rfl (hcell 4 rfl (by decide) (by decide)))) (FN.more x2 (show 3<=20 by decide))) (Ac (Ac ⟨_,rfl,σ.length+1,X',z3,z4,z5,rfl,?_,by rw [x1.length_eq]; exact L.len,fun c hc=>L.few c (x1.mem_iff.mp hc)⟩))
   rw [List.getElem?_append_right (show σ.length<=σ.length+1 from Nat.le_succ _),Nat.add_sub_cancel_left]; rfl
  rintro _ σ ⟨k,X,z3,z4,z5,rfl,L⟩
  have hX64:X.length < 64:=by have:=L.len; omega
  have hl0:Ag σ (.ref k)=some (X.map vc):=CH L.at_
  let hs0:List (V×Ch):=X.map fun c=>(vc c,c)
  have e1:hs0.map (·.1)=X.map vc:=by rw [List.map_map]; rfl
  have e2:hs0.map (·.2)=X:=by rw [List.map_map]; exact List.map_id _
  have hcp:=CJ (n:=C.n+3) (t:=7) (elt:=.fcall 17 (.cons (.var 7) .nil)) (kps:=C4 (.ref k) (X.map vc)) (ρ:=K k z3 z4 z5) (σ:=σ) (fun σ' st=>BT (Bl hl0 st)) (fun w c σ' hw hc=>.fcall ((Ad C.ok _).row (Ax rfl)) (FA.more (EN▸fn_copy hw (Nat.le_trans hc.2.1 (by decide)) (Nat.le_trans hc.2.2 (by decide))) (show 2+3<=20+3 by decide))) hs0 σ (fun _ _ h=>h) fun a ha=>by
   obtain ⟨c,hc,rfl⟩:=List.mem_map.mp ha
   exact ⟨.inl rfl,L.few c hc⟩
  rw [e1,e2] at hcp
  let hs:=cpH σ.length X
  let kh:=(σ++cpO X).length
  let σa:Aa:=σ++cpO X++[.list (hs.map (·.1))]
  refine go_compS (SI.lst ((Ad C.ok (.var 1)).v rfl) hl0) hcp (by rw [List.length_map,DV]; exact Nat.le_trans (Nat.le_of_lt hX64) (by decide)) ?_
  have hX:hs.map (·.2)=X:=EV X _
  have hkh:σa[kh]? = some (.list (hs.map (·.1))):=AD
  have ho:∀ a∈hs,Own4 σa a:=fun a ha=>(Gk X σ a ha).stay Bd.app
  have H:Hd4 σa (.ref kh) hs:=⟨CH hkh,fun a ha=>(ho a ha).chv⟩
  have hlh:hs.length < 64:=by rw [DV]; exact hX64
  have hy:Ag σa (.ref k)=some (X.map vc):=Bl hl0 fun _ _ h=>Bh (Bh h)
  have H0:Hd4 σa (.ref k) hs0:=⟨by rw [e1]; exact hy,fun p hp=>by obtain ⟨c,_,rfl⟩:=List.mem_map.mp hp; exact .inl rfl⟩
  have hl10:∀ c∈X,c.2.1.length<=1000:=fun c hc=>Nat.le_trans (L.few c hc).2.1 (by decide)
  have sw:∀ {f:Nat} {es:E} {K:Kx} {ex:Expr},IsE (.fcall f es) K ex->∀ ts k p env,swappedStores [.Tuple ts k p] ex env=pure none:=fun {f es K ex} hc ts k p env=>hc (fun ex=>swappedStores [.Tuple ts k p] ex env=pure none) (by intros; rfl)
  let A:V:=.d (ansB X)
  let wd:V:=.d (.str (Str.ofString (C7 X).1))
  let dd:V:=.d (.list ((C7 X).2.map Ch.data))
  refine go_unp (.fcall ((Ad C.ok _).row (Ax (x:=.ref kh) rfl)) (FN.more (fn_answer hX H hlh L.few) (show 5<=20 by decide))) sw (vs:=[wd,A]) rfl rfl ?_
  refine go_unp (.fcall ((Ad C.ok _).row (Ax (x:=.ref k) rfl)) (FN.more (fn_due hy hX64 hl10) (show 3<=20 by decide))) sw (vs:=[wd,dd]) rfl rfl ?_
  have hkp:=fn_keeps H (Nat.le_trans (Nat.le_of_lt hlh) (by decide))
  rw [hX] at hkp
  refine AS (v:=vb (AT [] X)) (σ':=σa) rfl (.fcall ((Ad C.ok _).row (Ax (x:=.ref kh) rfl)) (FN.more hkp (show 2<=20 by decide))) ?_
  let B:V:=vb (AT [] X)
  let ρE:Af:=[some S,some (.ref k),some (vi w),z3,z4,z5,some (.ref kh),none,some wd,some A,some wd,some dd,some B]
  show Ai C _ _ ρE σa
  have hkt:=fn_kept H0 (by rw [List.length_map]; omega) fun p hp=>by obtain ⟨c,hc,rfl⟩:=List.mem_map.mp hp; exact hl10 c hc
  rw [e2] at hkt
  have st:ST (C.n+3) (.bop .Or (.cons (.not (.bi .isinstance (.cons (.var 12) (.cons (.ty "bool") .nil)))) (.cons (.cmp .NotEq (.var 12) (.fcall 85 (.cons (.var 1) .nil))) (.cons (.cmp .NotEq (.var 6) (.var 1)) (.cons (.cmp .NotEq (.var 8) (.var 10)) .nil))))) ρE σa false σa:=by
   refine .bop (.cons (t:=false) (.not (t:=true) (ST.plain (fun hc=>Gw _ rfl hc) (SE.bi2 (x:=B) (y:=.ty "bool") (.cons (.var rfl) (.cons .ty .nil)) (f_isB _)) (Cn rfl))) (fun q=>nomatch q) fun _=>?_)
   refine .cons (t:=false) (.cmp (x:=B) (y:=B) (.var rfl) (.fcall (.cons (.var rfl) .nil) (FN.more hkt (show 2<=20 by decide))) (CC (op:=.NotEq) ?_)) (fun q=>nomatch q) fun _=>?_
   ·show Dt (eqN AK (.bool (AT [] X)) (.bool (AT [] X)))=some false
    cases AT [] X <;> rfl
   refine .cons (t:=false) (.cmp (x:=.ref kh) (y:=.ref k) (.var rfl) (.var rfl) (p_neL (ws:=hs.map (·.1)) (xs:=X.map Ch.data) (d:=.list (X.map Ch.data)) (b:=true) (CH hkh) (by rw [snapL_own ho,hX]) ?_ (eqcs_self 35 X))) (fun q=>nomatch q) fun _=>?_
   ·show lstD (Ag σa (.ref k))=_
    rw [hy]
    show (CS (X.map vc)).bind _=_
    rw [show X.map vc=(X.map Ch.data).map V.d by rw [List.map_map]; rfl,BX]; rfl
   refine .cons (t:=false) (.cmp (x:=wd) (y:=wd) (.var rfl) (.var rfl) (CC (op:=.NotEq) ?_)) (fun q=>nomatch q) fun _=>.nil
   show Dt (some (Str.ofString (C7 X).1 == Str.ofString (C7 X).1))=some false
   rw [beq_self_eq_true]; rfl
  refine go_passS st ?_
  by_cases hf:Fine X
  ·have hd:C7 X=("",BK X):=due_fine hf
   obtain ⟨σ',hR⟩:=fn_right hX hkh ho hlh L.few hf
   refine Cj (A5 (x:=wd) (y:=.d (.str (Str.ofString ""))) rfl rfl ?_) ?_
   ·show Dt (some (Str.ofString (C7 X).1 == Str.ofString ""))=some false
    rw [hd]; rfl
   refine CI (v:=vb true) (σ':=σ') (.fcall ((Ad C.ok _).row (e_r3 (x:=.ref kh) (y:=A) (z:=dd) rfl rfl rfl)) ?_) rfl
   have eA:A=.d (.list ((BK X).map Ch.data)):=by show V.d (ansB X)=_; rw [ansB,if_pos hf]
   have eD:dd=.d (.list ((BK X).map Ch.data)):=by show V.d (.list ((C7 X).2.map Ch.data))=_; rw [hd]
   rw [eA,eD]
   exact FN.more hR (show 6<=20 by decide)
  ·have hne:(Str.ofString (C7 X).1 == Str.ofString "")=false:=by
    unfold C7
    by_cases h1:Twc X
    ·rw [if_pos h1]; rfl
    by_cases h2:Msg X
    ·rw [if_neg h1,if_pos h2]; rfl
    by_cases h3:Rng X
    ·rw [if_neg h1,if_neg h2,if_pos h3]; rfl
    exact absurd ⟨h1,h2,h3⟩ hf
   refine AC (t:=true) (A5 (x:=wd) (y:=.d (.str (Str.ofString ""))) rfl rfl ?_) (fun _=>AE (v:=A) rfl ?_) fun e=>tt_ e
   ·show Dt (some (Str.ofString (C7 X).1 == Str.ofString ""))=some true
    rw [hne]; rfl
   ·show V.d (ansB X)=_
    rw [ansB,if_neg hf]
 obtain ⟨fl,σ',h1,h2⟩:=hE
 refine ⟨σ',SSs.mono (fun f s e=>?_) h2⟩
 rw [e.1,e.2]
 cases fl with
 | next _=>exact ⟨h1.symm,rfl⟩
 | ret _=>exact ⟨h1.symm,rfl⟩
end Mine
open PySem PySem.W PyProof.Rows
set_option tactic.hygienic true in
set_option backward.match.sparseCases true in
set_option genInjectivity true in
set_option maxRecDepth 100000 in
set_option maxHeartbeats 8000000 in
theorem PySem.Challenge.cw_uf010019_04_holds : PySem.Challenge.rw_uf010019_04.Holds := by
 refine holds_law Mine.said04 fun said=>?_
 refine W.holds_open (q:=Mine.view04) (loose:=[]) (Xt:=Mine.xt04) (XP:=Mine.XP04) (Yf:=Hook.obs Mine.hook04) (Ya:=Hook.val Mine.hook04) (YP:=Hook.says Mine.hook04) (N:=5300) Mine.left04 (Hook.of Mine.hook04) (Hook.keeps Mine.hook04) Mine.xt04_of Mine.XP04.keeps (by rfl) (by rfl) (by rfl) (fun s e=>recFacts_of (Bool.and_eq_true_iff.mp (Bool.and_eq_true_iff.mp e).1).2) (by rfl) said (by decide +kernel) ⟨rfl,rfl,rfl,rfl,rfl,by decide +kernel⟩ ?hw ?hc
 case hw=>w_witness2
 intro w s₀ s₁ mg mb G Y fa o pm cd doc dV kV ho hd hcd hD hmg hg args vals as hpre hlay hrd hwl hlo
 have AP:=(Ground.X G).2
 obtain ⟨K,KX,KC⟩:=Y
 refine Ground.open G ?_
 intro T B D TE TW
 clear hd hcd hD ho
 wrow_args hpre hlay hrd hwl hlo
 rename_i sc _ _ _ _ _ _ _ l vs _ hL _ _ _ hI _ hlen _
 refine Mine.law04 Mine.run04 (w:=w) T AP KX KC hmg hL hI (by omega) ?_
 intro s' hk hgens hos
 refine ⟨.inl ⟨.bool true,.bool true,[],rfl,?_,.bool true,?_,?_⟩,hk,hos,?_⟩
 ·intro cls; rfl
 ·wrow_post
 ·exact fun _=>⟨List.nodup_nil,fun a h=>by cases h⟩
 ·exact AllBare.of_eq (hgens.trans hg)