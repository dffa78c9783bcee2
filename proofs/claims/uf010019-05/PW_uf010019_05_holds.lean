import PyProof.Rows.All
import Wide.Line
import Wide.Tac
import Wide.Loose
import Open.Line
import OpenK.KWalk
import KE.KIsAll
import KE.KNest
import PyProof.TupleKey
import PyProof.DictFindH
import PyProof.Ns1
import PyProof.StrWalks
import PyProof.Rows.TopObj
import PyProof.Rows.PlainObj
import PyProof.Rows.PlainNoArg
import PyProof.Rows.PlainEq
import PyProof.ObjNew
import PyProof.ListStr
import PyProof.InstStoreFacts
import PyProof.DictWalks
import KE.KMinKey
import PyProof.ReprRoads
import PyProof.ReprLen
import PyProof.StrLawsRepr
import PyProof.RaisesMany
import PyProof.RulesAs
import PyProof.TupleIter
import PyProof.WalksMore
import PySem.Challenge.RW_uf010019_05
set_option Elab.async false
set_option autoImplicit false
set_option genSizeOf false
set_option bootstrap.genMatcherCode false
set_option linter.all false
set_option tactic.hygienic false
set_option genInjectivity false
set_option genCtorIdx false
set_option backward.match.sparseCases false
namespace Mine
set_option tactic.hygienic true
set_option maxRecDepth 100000
open PySem PySem.W PyProof.Rows
noncomputable def view05:Program:={ PySem.Challenge.pw_uf010019_05 with main:={ PySem.Challenge.pw_uf010019_05.main with body:=PySem.Challenge.pw_uf010019_05.main.body.filter fun st=>match st with | .Assign [.Name x _] _ _=>x != Str.ofString "__name__" | _=>true } }
noncomputable def fragAt (as:List Addr) (h:Heap):Frag:=as.filterMap fun a=>(h.get? a).map fun o=>(a,o)
theorem fragAt_in (as:List Addr) (h:Heap):(fragAt as h).In h:=by
 intro a o e
 unfold fragAt at e
 induction as with
 | nil=>cases e
 | cons b l ih =>
  rw [List.filterMap_cons] at e
  cases hb:h.get? b with
  | none=>rw [hb] at e; exact ih e
  | some ob =>
   rw [hb] at e
   simp only [Option.map_some,List.lookup_cons] at e
   split at e
   ·rename_i he
    have:a=b:=by simpa using he
    rw [this,hb]; exact e
   ·exact ih e
noncomputable def W05:Nat->Value
 | 0=>.type "ValueError"
 | 1=>.ref 31
 | 2=>.ref 44
 | 3=>.ref 56
 | 4=>.ref 68
 | 5=>.ref 80
 | 6=>.ref 92
 | 7=>.ref 104
 | 8=>.ref 116
 | _=>.ref 128
noncomputable def cn05:List (Nat×Str):=[(2,Str.ofString "BadChange"),(5,Str.ofString "Missing"),(6,Str.ofString "NoLine"),(9,Str.ofString "NoNote"),(3,Str.ofString "NotLeaned"),(7,Str.ofString "Other"),(8,Str.ofString "Ring"),(4,Str.ofString "Twice"),(1,Str.ofString "WeaveError")]
noncomputable def isSome (a b:Option Bool):Bool:=match a,b with | some x,some y=>x == y | _,_=>false
theorem Fm {a:Option Bool} {b:Bool} (h:isSome a (some b)=true):a=some b:=by
 cases a with
 | none=>cases h
 | some x=>rw [beq_iff_eq.mp (show (x == b)=true from h)]
noncomputable def isVal (a:Option (Option Value)) (b:Option Value):Bool:=match a,b with | some (some x),some y=>x == y | some none,none=>true | _,_=>false
theorem G8 {a:Option (Option Value)} {b:Option Value} (h:isVal a b=true):a=some b:=by
 cases a with
 | none=>cases b <;> cases h
 | some x=>cases x with
  | none=>cases b with
   | none=>rfl
   | some y=>cases h
  | some x=>cases b with
   | none=>cases h
   | some y=>rw [beq_iff_eq.mp (show (x == y)=true from h)]
noncomputable def isBI (v:Value) (s:String):Bool:=match v with | .builtin x=>x == s | _=>false
theorem isBI_eq {v:Value} {s:String} (h:isBI v s=true):v=.builtin s:=by
 cases v with
 | builtin x=>rw [beq_iff_eq.mp (show (x == s)=true from h)]
 | _=>exact (Bool.false_ne_true h).elim
noncomputable def isBind (o:Option Builtin.ObjectAttr.Found):Bool:=match o with | some f=>(match f with | .bind g a=>isBI g "getset_descriptor.__get__" && isBI a "object.__class__" | _=>false) | none=>false
theorem isBind_eq {o:Option Builtin.ObjectAttr.Found} (h:isBind o=true):o=some (.bind (.builtin "getset_descriptor.__get__") (.builtin "object.__class__")):=by
 cases o with
 | none=>exact (Bool.false_ne_true h).elim
 | some f=>cases f with
  | bind g a =>
   have h:=(Bool.and_eq_true _ _).mp (show (isBI g "getset_descriptor.__get__" && isBI a "object.__class__")=true from h)
   rw [isBI_eq h.1,isBI_eq h.2]
  | _=>exact (Bool.false_ne_true h).elim
noncomputable def excOk (K:Frag) (D:Addr):Bool :=
 isVal (findIn K (.ref D) "__getattribute__") (some (.builtin "BaseException.__getattribute__"))&&isVal (findIn K (.ref D) "__getattr__") none &&
 isBind (findObj K D none "__class__") &&
 isSome (mroIn K D (.type "object")) (some true)&&isSome (mroIn K D (.type "BaseException")) (some true)&&(clsIn K D).isSome
noncomputable def chkTop (W:Nat->Value) (cn:List (Nat×Str)) (cs:List Nat) (ps:List (Nat×Nat)) (K:Frag):Bool :=
 cn.all (fun e=>isVal (nsIn K mainGlobals e.2) (some (W e.1))) &&
 cs.all (fun c=>(match W c with | .ref D=>excOk K D | _=>false)) &&
 ps.all fun p=>isSome (kitOne K (W p.1) (W p.2)) (some (p.1 == p.2||p.2 == 1||p.2 == 0))
noncomputable def ps05:List (Nat×Nat):=[(5,0),(5,1),(5,2),(5,3),(5,4),(5,5),(5,6),(5,7),(5,8),(5,9)]
noncomputable def hookOf (as:List Addr) (chk:Frag->Bool):Hook :=
 ⟨Bool,fun s=>chk (fragAt as s.heap),fun _=>true,fun _ h=>∃ K:Frag,K.In h/\chk K=true,fun _ s e=>⟨_,fragAt_in as s.heap,e⟩,fun _ _ _ ⟨K,hK,e⟩ hk=>⟨K,fun a o q=>hk a o (hK a o q),e⟩⟩
noncomputable def hook05:Hook:=hookOf (List.range 140) (chkTop W05 cn05 [5] ps05)
noncomputable def xt05 (s:Shared):Bool:=xlAt view05 [] s&&recOk (RowW.records (OpenRow.toRowW (PySem.Challenge.rw_uf010019_05.row))) s
theorem comb {α β1 β2 β3 β4 β5 β6 β7 β8:Type} {o:Option α} {f1:α->β1} {f2:α->β2} {f3:α->β3} {f4:α->β4} {f5:α->β5} {f6:α->β6} {f7:α->β7} {f8:α->β8} {b1:β1} {b2:β2} {b3:β3} {b4:β4} {b5:β5} {b6:β6} {b7:β7} {b8:β8} (h₁:o.map (fun s=>(f1 s,f2 s))=some (b1,b2)) (h2:o.map f3=some b3) (h3:o.map (fun s=>(f4 s,f5 s,f6 s))=some (b4,b5,b6)) (h4:o.map f7=some b7) (h5:o.map f8=some b8):o.map (fun s=>((f1 s,f2 s,f3 s,f4 s,f5 s,f6 s,f7 s),f8 s))=some ((b1,b2,b3,b4,b5,b6,b7),b8):=by
 cases o with
 | none=>cases h2
 | some s =>
  obtain ⟨e₁,e2⟩:=Prod.mk.inj (Option.some.inj h₁)
  obtain ⟨e4,e5⟩:=Prod.mk.inj (Option.some.inj h3)
  obtain ⟨e5,e6⟩:=Prod.mk.inj e5
  have e3:=Option.some.inj h2
  have e7:=Option.some.inj h4
  have e8:=Option.some.inj h5
  show some ((f1 s,f2 s,f3 s,f4 s,f5 s,f6 s,f7 s),f8 s)=_
  rw [e₁,e2,e3,e4,e5,e6,e7,e8]
theorem left05a:∀ w,(openEnds treeTable PySem.Challenge.rw_uf010019_05.row.toRowW.prog w 5300).map (fun s=>(seen ((recsOf view05).map (·.name)) (ownsOf view05) [] { s with gens:=#[] },s.heap.bltView))=some (expectedOf view05,bltViewBooted):=by
 intro w; kernel_rfl
theorem left05b:∀ w,(openEnds treeTable PySem.Challenge.rw_uf010019_05.row.toRowW.prog w 5300).map (fun s=>s.heap.keysOk (looseW view05 []) ((recsOf view05).map (·.name)) ((litsOf view05).map (·.1)) ((clssOf view05 (looseW view05 [])).map (·.name))&&s.heap.accountedOkI (importedModules PySem.Challenge.rw_uf010019_05.row.toRowW.prog.main.body)&&s.heap.isNs mainGlobals&&s.heap.isNs builtinsNs&&tablesOk view05 s.heap&&xt05 s&&(s.gens.size == 0))=some true:=by
 intro w; kernel_rfl
theorem left05c:∀ w,(openEnds treeTable PySem.Challenge.rw_uf010019_05.row.toRowW.prog w 5300).map (fun s=>(tabsOk view05 s,pinSeenD view05 (drecsOf view05) s,plainSeenE view05 (looseW view05 []) s))=some (true,pinGoodD (drecsOf view05),plainGoodE view05 (looseW view05 [])):=by
 intro w; kernel_rfl
theorem left05d:∀ w,(openEnds treeTable PySem.Challenge.rw_uf010019_05.row.toRowW.prog w 5300).map (fun s=>(plainSeenD view05 [] s,wideSeen view05 s,clsSeenW view05 [] s))=some (plainGoodD view05 [],wideGood view05,clsGoodW view05 []):=by
 intro w; kernel_rfl
theorem left05e:∀ w,(openEnds treeTable PySem.Challenge.rw_uf010019_05.row.toRowW.prog w 5300).map (fun s=>Hook.obs hook05 s)=some (Hook.val hook05 w):=by
 intro w; kernel_rfl
theorem left05:LeftO PySem.Challenge.rw_uf010019_05.row.toRowW.prog view05 [] xt05 (Hook.obs hook05) (Hook.val hook05) 5300:=fun w=>by
 have h:=comb (left05a w) (left05b w) (left05c w) (left05d w) (left05e w)
 exact h
theorem said05:PySem.Challenge.rw_uf010019_05.wellSaid=true:=by kernel_rfl
end Mine
namespace Mine
set_option tactic.hygienic true
set_option backward.match.sparseCases true
set_option genInjectivity true
open PySem
section
variable {prog:Program} {w:World} {A:Around} {E:Value->Shared->Prop} {s:Shared}
theorem GQ {a:Str} {b:Int} {t u:Tok} {Q:Bool->Shared->Prop} (h:Q false s):wpAny (model prog w) A (eqBool (.str a t) (.int b u)) Q E s:=by
 unfold eqBool
 refine wpAny_holding ?_
 rw [if_neg (show ¬ ((Value.str a t == Value.int b u)=true) from fun q=>nomatch eq_of_beq q)]
 show wpAny _ _ (compareOp .Eq (.str a t) (.int b u)>>=fun r=>truthOfDropped r) Q E s
 exact wpAny_bind (EqMixed.eq_str_int (wpAny_truthy_bool h))
theorem GR {a:Str} {b:Int} {t u:Tok} {Q:Bool->Shared->Prop} (h:Q false s):wpAny (model prog w) A (eqBool (.int b u) (.str a t)) Q E s:=by
 unfold eqBool
 refine wpAny_holding ?_
 rw [if_neg (show ¬ ((Value.int b u == Value.str a t)=true) from fun q=>nomatch eq_of_beq q)]
 show wpAny _ _ (compareOp .Eq (.int b u) (.str a t)>>=fun r=>truthOfDropped r) Q E s
 exact wpAny_bind (EqMixed.eq_int_str (wpAny_truthy_bool h))
end
noncomputable def BD (prog:Program) (w:World):KeyKind prog w (Str ⊕ Int) where
 is:=fun k v=>match k with | .inl x=>Value.isStrOf x v | .inr i=>Value.isInt i v
 hash:=fun k=>match k with | .inl x=>hashStr w x | .inr i=>hashInt i
 inj:=fun v a b ha hb=>by
  cases a with
  | inl x =>
   obtain ⟨t,rfl⟩:=Value.isStrOf_shape ha
   cases b with
   | inl y=>exact congrArg _ (Value.isStrOf_inj _ _ _ ha hb)
   | inr j=>obtain ⟨t',e⟩:=Value.isInt_shape hb; cases e
  | inr i =>
   obtain ⟨t,rfl⟩:=Value.isInt_shape ha
   cases b with
   | inl y=>obtain ⟨t',e⟩:=Value.isStrOf_shape hb; cases e
   | inr j=>exact congrArg _ (Value.isInt_inj _ _ _ ha hb)
 byValue:=fun k v h=>by
  cases k with
  | inl x=>obtain ⟨t,rfl⟩:=Value.isStrOf_shape h; rfl
  | inr i=>obtain ⟨t,rfl⟩:=Value.isInt_shape h; rfl
 pyHash:=fun {A E s k v Q} hv h=>by
  cases k with
  | inl x=>obtain ⟨t,rfl⟩:=Value.isStrOf_shape hv; exact wpAny_pyHash_str h
  | inr i=>obtain ⟨t,rfl⟩:=Value.isInt_shape hv; exact wpAny_pyHash_int h
 eqBool:=fun {A E s a b u v Q} hu hv h=>by
  cases a with
  | inl x =>
   obtain ⟨t,rfl⟩:=Value.isStrOf_shape hu
   cases b with
   | inl y=>obtain ⟨t',rfl⟩:=Value.isStrOf_shape hv; exact wpAny_eqBool_str (by simpa using h)
   | inr j=>obtain ⟨t',rfl⟩:=Value.isInt_shape hv; exact GQ (by simpa using h)
  | inr i =>
   obtain ⟨t,rfl⟩:=Value.isInt_shape hu
   cases b with
   | inl y=>obtain ⟨t',rfl⟩:=Value.isStrOf_shape hv; exact GR (by simpa using h)
   | inr j=>obtain ⟨t',rfl⟩:=Value.isInt_shape hv; rw [show decide ((Sum.inr i:Str ⊕ Int)=Sum.inr j)=decide (i=j) by simp] at h; exact wpAny_eqBool_int h
 «strs»:=fun k x t v h=>by
  cases k with
  | inl y=>exact (strKind prog w).«strs» y x t v h
  | inr i=>obtain ⟨t',e⟩:=Value.isInt_shape h; cases e
end Mine
namespace Mine
open PySem
set_option genCtorIdx true in
inductive V where
 | d (x:PyData)
 | ref (k:Nat)
 | tup (ws:List (PyData ⊕ Nat))
 | ty (t:String)
 | obj (ks:List Nat)
 | pr (x y:V)
 | exc (k:Nat)
 | ecl (k:Nat)
set_option genCtorIdx true in
inductive O where
 | list (vs:List V)
 | dictS (kvs:List (Str×PyData))
 | dictP (kvs:List ((Str×Int)×PyData))
noncomputable abbrev Ab:=List O
noncomputable abbrev Ag:=List (Option V)
noncomputable def line:Nat:=16777216
section
variable {α β:Type} {a b:α} {l:List α} {P:Prop}
theorem Ac (h:none=some a):P:=nomatch h
theorem FS (h:some a=none):P:=nomatch h
theorem ff_ (h:false=true):P:=nomatch h
theorem tt_ (h:true=false):P:=nomatch h
theorem cons_ne (h:a::l=[]):P:=nomatch h
theorem BK {m n:Nat} (h:m=n) (e:Nat.beq m n=false):P:=by rw [h,Nat.beq_refl] at e; cases e
theorem Al {o:Option α} (h:o=none) (e:o=some a):P:=Ac (h.symm.trans e)
theorem Av {o:Option α} (h:o=some a) (e:o=some b):a=b:=Option.some.inj (h.symm.trans e)
theorem Aa {o:Option α} {f:α->Option β} {y:β} (h:o.bind f=some y):∃ x,o=some x/\f x=some y:=by
 cases o with
 | none=>exact Ac h
 | some x=>exact ⟨x,rfl,h⟩
theorem AG {c:Prop} [Decidable c] (h:(if c then some a else none)=some b):c/\a=b:=by
 by_cases hc:c
 ·rw [if_pos hc] at h; exact ⟨hc,Option.some.inj h⟩
 ·rw [if_neg hc] at h; exact Ac h
end
structure Top where
 prog:Program
 w:World
 h0:Heap
 fn:Nat->Option Addr
 tabs:List (Addr×Str)
 gens:Array GenState
 os:OsState
 cls:Addr
 exc:Nat->Option Addr
structure G where
 fz:Addr->Option Obj
 hid:Addr->Option Obj
 mu:List Addr
def B7 (fz:Addr->Option Obj) (cl:String) (x:Value) (P:List Value->Prop) (n:Nat):Prop :=
 ∀ R_:Value->Prop,(∀ (a:Addr) (o:Obj) (vs:Array Value) (m:Nat),fz a=some o->o.cls=.type cl->o.data=.seq vs m->P vs.toList->n<=line->R_ (.ref a))->R_ x
mutual
noncomputable def Ax (fz:Addr->Option Obj):PyData->Value->Prop
 | .none,x=>x=.none
 | .bool b,x=>x=.bool b
 | .int i,x=>∃ t,x=.int i t
 | .str s,x=>∃ t,x=.str s t/\s.length<=line
 | .list ds,x=>B7 fz "list" x (fun vs=>RepDs fz ds vs) ds.length
 | .tuple ds,x=>B7 fz "tuple" x (fun vs=>RepDs fz ds vs) ds.length
 | .dict _,_=>False
noncomputable def RepDs (fz:Addr->Option Obj):List PyData->List Value->Prop
 | [],[]=>True
 | d::ds,v::vs=>Ax fz d v/\RepDs fz ds vs
 | _,_=>False
end
noncomputable def Aq {α β:Type} (R:α->β->Prop):List α->List β->Prop
 | [],[]=>True
 | a::as,b::bs=>R a b/\Aq R as bs
 | _,_=>False
section
variable {α β:Type} {R S:α->β->Prop}
theorem Aq.mono (h:∀ a b,R a b->S a b):∀ {as:List α} {bs:List β},Aq R as bs->Aq S as bs
 | [],[],_=>trivial
 | _::_,_::_,x=>⟨h _ _ x.1,Aq.mono h x.2⟩
 | [],_::_,x=>x
 | _::_,[],x=>x
theorem Aq.length:∀ {as:List α} {bs:List β},Aq R as bs->as.length=bs.length
 | [],[],_=>rfl
 | _::_,_::_,x=>congrArg (· + 1) (Aq.length x.2)
 | [],_::_,x=>x.elim
 | _::_,[],x=>x.elim
theorem Aq.get:∀ {as:List α} {bs:List β},Aq R as bs->∀ {k:Nat} {a:α},as[k]? = some a->∃ b,bs[k]? = some b/\R a b
 | _::_,b::_,x,0,_,e=>⟨b,rfl,Option.some.inj e▸x.1⟩
 | _::_,_::_,x,k+1,a,e=>Aq.get x.2 (k:=k) (a:=a) e
 | [],[],_,_,_,e=>Ac e
 | [],_::_,x,_,_,_=>x.elim
 | _::_,[],x,_,_,_=>x.elim
theorem Aq.append:∀ {as as':List α} {bs bs':List β},Aq R as bs->Aq R as' bs'->Aq R (as++as') (bs++bs')
 | [],_,[],_,_,y=>y
 | _::_,_,_::_,_,x,y=>⟨x.1,Aq.append x.2 y⟩
 | [],_,_::_,_,x,_=>x.elim
 | _::_,_,[],_,x,_=>x.elim
theorem Aq.drop:∀ (n:Nat) {as:List α} {bs:List β},Aq R as bs->Aq R (as.drop n) (bs.drop n)
 | 0,_,_,h=>h
 | _+1,[],[],_=>trivial
 | n+1,_::_,_::_,h=>Aq.drop n h.2
 | _+1,[],_::_,h=>h.elim
 | _+1,_::_,[],h=>h.elim
theorem Aq.take:∀ (n:Nat) {as:List α} {bs:List β},Aq R as bs->Aq R (as.take n) (bs.take n)
 | 0,_,_,_=>trivial
 | _+1,[],[],_=>trivial
 | n+1,_::_,_::_,h=>⟨h.1,Aq.take n h.2⟩
 | _+1,[],_::_,h=>h.elim
 | _+1,_::_,[],h=>h.elim
theorem Aq.cons {a:α} {as:List α} {bs:List β} (h:Aq R (a::as) bs):∃ b r,bs=b::r/\R a b/\Aq R as r:=by
 cases bs with
 | nil=>exact h.elim
 | cons b r=>exact ⟨b,r,rfl,h.1,h.2⟩
theorem Aq.nil {bs:List β} (h:Aq R [] bs):bs=[]:=by
 cases bs with
 | nil=>rfl
 | cons b r=>exact h.elim
theorem Aq.one {a:α} {bs:List β} (h:Aq R [a] bs):∃ b,bs=[b]/\R a b:=by
 obtain ⟨b,r,e,h1,h2⟩:=h.cons
 exact ⟨b,by rw [e,h2.nil],h1⟩
theorem Aq.two {a a':α} {bs:List β} (h:Aq R [a,a'] bs):∃ b b',bs=[b,b']/\R a b/\R a' b':=by
 obtain ⟨b,r,e,h1,h2⟩:=h.cons
 obtain ⟨b',e',h3⟩:=h2.one
 exact ⟨b,b',by rw [e,e'],h1,h3⟩
end
noncomputable def Fw (g:G):PyData ⊕ Nat->Value->Prop
 | .inl x,v=>Ax g.fz x v
 | .inr k,v=>∃ a,g.mu[k]? = some a/\v=.ref a
noncomputable def Ca:List Str:=[Str.ofString "held",Str.ofString "grounds",Str.ofString "heights"]
def Ns1F (f:Addr->Option Obj) (a:Addr) (m:Str->Option Value):Prop:=∃ o es ep,f a=some o/\o.data=.dict es ep/\StrKeys es/\UniqKeys es/\∀ name,nsFind es name=m name
def ObjIs (T:Top) (g:G) (v:Value) (ks:List Nat):Prop :=
 ∀ R_:Value->Prop,(∀ (a d:Addr) (o:Obj) (mA:Str->Option Value),g.fz a=some o->o.cls=.ref T.cls->(∀ c,o.data≠.cls c)->o.dict=some d->d≠a->Ns1F g.fz d mA->(∀ nm,nm∉Ca->mA nm=none)->Aq (fun (k:Nat) (nm:Str)=>∃ a,g.mu[k]? = some a/\mA nm=some (.ref a)) ks Ca->R_ (.ref a))->R_ v
def ExcIs (T:Top) (fz:Addr->Option Obj) (v:Value) (k:Nat):Prop :=
 ∀ R_:Value->Prop,(∀ (e D:Addr) (o:Obj) (vs:Array Value),fz e=some o->T.exc k=some D->o.cls=.ref D->o.dict=none->o.data=.fields vs->R_ (.ref e))->R_ v
noncomputable def Ak (T:Top) (g:G):V->Value->Prop
 | .d x,v=>Ax g.fz x v
 | .ref k,v=>∃ a,g.mu[k]? = some a/\v=.ref a
 | .tup ws,v=>B7 g.fz "tuple" v (fun xs=>Aq (Fw g) ws xs) ws.length
 | .ty t,v=>v=.type t
 | .obj ks,v=>ObjIs T g v ks
 | .pr x y,v=>B7 g.fz "tuple" v (fun xs=>∃ a b,xs=[a,b]/\Ak T g x a/\Ak T g y b) 2
 | .exc k,v=>ExcIs T g.fz v k
 | .ecl k,v=>∃ a,T.exc k=some a/\v=.ref a
def ListIs (o:Obj) (P:List Value->Prop) (n:Nat):Prop :=
 ∀ R_:Obj->Prop,(∀ (xs:Array Value) (m:Nat),P xs.toList->n<=line->R_ { cls:=.type "list",dict:=none,data:=.seq xs m,slots:=#[] })->R_ o
def TabS (T:Top) (fz:Addr->Option Obj) (o:Obj) (kvs:List (Str×PyData)):Prop :=
 ∀ R_:Prop,(∀ (es:Array DictEntry) (ep:Nat) (ws:List (Str×Value)),o.ExactDict->o.data=.dict es ep->KeysOf (strKind T.prog T.w) es->Pairs (strKind T.prog T.w) es.toList ws->(ws.map (·.1)).Nodup->Aq (fun (d:Str×PyData) (v:Str×Value)=>d.1=v.1/\Ax fz d.2 v.2) kvs ws->kvs.length<=line->R_)->R_
noncomputable def FM (k:Str×Int):List (Str ⊕ Int):=[.inl k.1,.inr k.2]
def TabP (T:Top) (fz:Addr->Option Obj) (o:Obj) (kvs:List ((Str×Int)×PyData)):Prop :=
 ∀ R_:Prop,(∀ (es:Array DictEntry) (ep:Nat) (ws:List (List (Str ⊕ Int)×Addr×Value)),o.ExactDict->o.data=.dict es ep->es.toList=ws.map (entryOfKey (tupleKind (BD T.prog T.w)))->(ws.map (·.1)).Nodup ->
  Aq (fun (d:(Str×Int)×PyData) (v:List (Str ⊕ Int)×Addr×Value)=>FM d.1=v.1/\Ax fz (.tuple [.str d.1.1,.int d.1.2]) (.ref v.2.1)/\Ax fz d.2 v.2.2) kvs ws->kvs.length<=line->R_)->R_
noncomputable def CK (T:Top) (g:G):O->Obj->Prop
 | .list vs,o=>ListIs o (fun xs=>Aq (Ak T g) vs xs) vs.length
 | .dictS kvs,o=>TabS T g.fz o kvs
 | .dictP kvs,o=>TabP T g.fz o kvs
def FzLe (f f':Addr->Option Obj):Prop:=∀ a o,f a=some o->f' a=some o
structure G.up (g g':G):Prop where
 fz:FzLe g.fz g'.fz
 mu:∀ (k:Nat) (a:Addr),g.mu[k]? = some a->g'.mu[k]? = some a
structure G.le (own:List Addr) (g g':G):Prop extends G.up g g' where
 hid:∀ a,a∉own->g'.hid a=g.hid a
theorem G.up.refl (g:G):G.up g g:=⟨fun _ _ e=>e,fun _ _ e=>e⟩
theorem G.up.trans {g g' g'':G} (x:G.up g g') (y:G.up g' g''):G.up g g'':=⟨fun a o e=>y.fz a o (x.fz a o e),fun k a e=>y.mu k a (x.mu k a e)⟩
theorem G.le.refl (own:List Addr) (g:G):G.le own g g:=⟨.refl g,fun _ _=>rfl⟩
theorem G.le.trans {own:List Addr} {g g' g'':G} (x:G.le own g g') (y:G.le own g' g''):G.le own g g'':=⟨x.toup.trans y.toup,fun a h=>(y.hid a h).trans (x.hid a h)⟩
theorem G.le.toO {own:List Addr} {g g':G} (x:G.le [] g g'):G.le own g g':=⟨x.toup,fun a _=>x.hid a List.not_mem_nil⟩
theorem B7.mono {f f':Addr->Option Obj} {cl:String} {x:Value} {P P':List Value->Prop} {n:Nat} (h:FzLe f f') (hp:∀ vs,P vs->P' vs) (r:B7 f cl x P n):B7 f' cl x P' n :=
 fun R_ k=>r R_ fun a o vs m hf hc hd hr hl=>k a o vs m (h a o hf) hc hd (hp _ hr) hl
mutual
theorem Ax.mono {f f':Addr->Option Obj} (h:FzLe f f'):∀ (d:PyData) (v:Value),Ax f d v->Ax f' d v
 | .none,_,x=>x
 | .bool _,_,x=>x
 | .int _,_,x=>x
 | .str _,_,x=>x
 | .list ds,_,x=>B7.mono h (fun vs=>RepDs.mono h ds vs) x
 | .tuple ds,_,x=>B7.mono h (fun vs=>RepDs.mono h ds vs) x
 | .dict _,_,x=>x
theorem RepDs.mono {f f':Addr->Option Obj} (h:FzLe f f'):∀ (ds:List PyData) (vs:List Value),RepDs f ds vs->RepDs f' ds vs
 | [],[],_=>trivial
 | d::ds,v::vs,x=>⟨Ax.mono h d v x.1,RepDs.mono h ds vs x.2⟩
 | [],_::_,x=>x
 | _::_,[],x=>x
end
theorem RepDs.all {f:Addr->Option Obj}:∀ {ds:List PyData} {vs:List Value},RepDs f ds vs->Aq (Ax f) ds vs
 | [],[],_=>trivial
 | _::_,_::_,x=>⟨x.1,RepDs.all x.2⟩
 | [],_::_,x=>x.elim
 | _::_,[],x=>x.elim
theorem RepDs.of {f:Addr->Option Obj}:∀ {ds:List PyData} {vs:List Value},Aq (Ax f) ds vs->RepDs f ds vs
 | [],[],_=>trivial
 | _::_,_::_,x=>⟨x.1,RepDs.of x.2⟩
 | [],_::_,x=>x.elim
 | _::_,[],x=>x.elim
theorem Ns1F.to {f f':Addr->Option Obj} {a:Addr} {m:Str->Option Value} (x:Ns1F f a m) (h:FzLe f f'):Ns1F f' a m:=x.imp fun o x=>x.imp fun _ x=>x.imp fun _ x=>⟨h a o x.1,x.2⟩
section
variable {T:Top} {g g':G}
theorem Fw.mono (h:G.up g g'):∀ (w:PyData ⊕ Nat) (v:Value),Fw g w v->Fw g' w v
 | .inl x,v,r=>Ax.mono h.fz x v r
 | .inr k,v,r=>by obtain ⟨a,e,q⟩:=r; exact ⟨a,h.mu k a e,q⟩
theorem Ak.mono (h:G.up g g'):∀ (w:V) (v:Value),Ak T g w v->Ak T g' w v
 | .d x,v,r=>Ax.mono h.fz x v r
 | .ref k,v,r=>by obtain ⟨a,e,q⟩:=r; exact ⟨a,h.mu k a e,q⟩
 | .tup ws,v,r=>B7.mono h.fz (fun vs=>Aq.mono (Fw.mono h)) r
 | .ty _,_,r=>r
 | .obj ks,v,r=>fun R_ k=>r R_ fun a d o mA h1 h2 h3 h4 h5 h6 h7 h8=>k a d o mA (h.fz _ _ h1) h2 h3 h4 h5 (h6.to h.fz) h7 (Aq.mono (fun _ _=>fun ⟨a,e,q⟩=>⟨a,h.mu _ a e,q⟩) h8)
 | .pr x y,v,r=>B7.mono h.fz (fun vs=>fun ⟨a,b,e,h1,h2⟩=>⟨a,b,e,Ak.mono h x a h1,Ak.mono h y b h2⟩) r
 | .exc k,v,r=>fun R_ kk=>r R_ fun e D o vs h1 h2 h3 h4 h5=>kk e D o vs (h.fz _ _ h1) h2 h3 h4 h5
 | .ecl _,_,r=>r
noncomputable abbrev Ao (T:Top) (g:G):List V->List Value->Prop:=Aq (Ak T g)
theorem Ao.mono (h:G.up g g') {ws:List V} {vs:List Value} (r:Ao T g ws vs):Ao T g' ws vs:=Aq.mono (Ak.mono h) r
theorem Ak.eta {hd:Addr->Option Obj} {w:V} {v:Value} (r:Ak T g w v):Ak T ⟨g.fz,hd,g.mu⟩ w v:=Ak.mono (g:=g) (g':=⟨g.fz,hd,g.mu⟩) ⟨fun _ _ e=>e,fun _ _ e=>e⟩ w v r
theorem Ao.eta {hd:Addr->Option Obj} {ws:List V} {vs:List Value} (r:Ao T g ws vs):Ao T ⟨g.fz,hd,g.mu⟩ ws vs:=Aq.mono (fun _ _=>Ak.eta) r
theorem CK.mono (h:G.up g g'):∀ (o:O) (x:Obj),CK T g o x->CK T g' o x
 | .list vs,_,r=>fun R_ k=>r R_ fun xs m hr hl=>k xs m (Ao.mono h hr) hl
 | .dictS kvs,_,r=>fun R_ k=>r R_ fun es ep ws ho hd hk hp hn hr hl=>k es ep ws ho hd hk hp hn (Aq.mono (fun d v r=>⟨r.1,Ax.mono h.fz _ _ r.2⟩) hr) hl
 | .dictP kvs,_,r=>fun R_ k=>r R_ fun es ep ws ho hd he hn hr hl=>k es ep ws ho hd he hn (Aq.mono (fun d v r=>⟨r.1,Ax.mono h.fz _ _ r.2.1,Ax.mono h.fz _ _ r.2.2⟩) hr) hl
theorem Ao.ofD:∀ {ds:List PyData} {vs:List Value},RepDs g.fz ds vs->Ao T g (ds.map .d) vs
 | [],[],_=>trivial
 | _::_,_::_,x=>⟨x.1,Ao.ofD x.2⟩
 | [],_::_,x=>x.elim
 | _::_,[],x=>x.elim
theorem Ao.toD:∀ {ds:List PyData} {vs:List Value},Ao T g (ds.map .d) vs->RepDs g.fz ds vs
 | [],[],_=>trivial
 | _::_,_::_,x=>⟨x.1,Ao.toD x.2⟩
 | [],_::_,x=>x.elim
 | _::_,[],x=>x.elim
end
def TabIs (g:G) (h:Heap) (t:Addr) (q:Str):Prop :=
 ∀ R_:Prop,(∀ ps:Array Value,g.fz t=none->g.hid t=none->t∉g.mu->h.get? t=some { cls:=.none,data:=.fields ps } -> TriplesOk ps.toList ->
  (∀ pos cv,codeAmong pos ps.toList=some cv->∃ c o vs u,cv=.ref c/\g.fz c=some o/\o.data=.fields vs/\vs[1]? = some (.str q u))->R_)->R_
noncomputable def frC:Value:=.type "#frame"
def Hd (h:Heap) (a:Addr) (o:Obj):Prop:=∃ o',h.get? a=some o'/\o'.data=o.data/\(o.cls≠frC->o'=o)
theorem Hd.of {h:Heap} {a:Addr} {o:Obj} (e:h.get? a=some o):Hd h a o:=⟨o,e,rfl,fun _=>rfl⟩
theorem Hd.keep {h h':Heap} {a:Addr} {o:Obj} (x:Hd h a o) (k:∀ o,h.get? a=some o->h'.get? a=some o):Hd h' a o:=x.imp fun _ x=>⟨k _ x.1,x.2⟩
theorem Hd.ex {h:Heap} {a:Addr} {o:Obj} (x:Hd h a o) (n:o.cls≠frC):h.get? a=some o:=let ⟨_,e,_,q⟩:=x; q n▸e
noncomputable def frO (o:Obj):Obj:={ o with cls:=frC }
theorem Hd.fr {h:Heap} {a:Addr} {o:Obj} (e:h.get? a=some o):Hd h a (frO o):=⟨o,e,rfl,fun q=>absurd rfl q⟩
theorem AC {o:Obj} {t:String} (h:o.cls=.type t) (n:(t == "#frame")=false):o.cls≠frC:=fun q=>Bool.false_ne_true (n.symm.trans (beq_iff_eq.mpr (Value.type.inj (h.symm.trans q))))
structure Has (T:Top) (g:G) (σ:Ab) (s:Shared):Prop where
 fz:∀ a o,g.fz a=some o->s.heap.get? a=some o
 hd:∀ a o,g.hid a=some o->Hd s.heap a o
 len:g.mu.length=σ.length
 nd:g.mu.Nodup
 ap:∀ a,a∈g.mu->g.fz a=none
 ah:∀ a o,g.hid a=some o->g.fz a=none/\a∉g.mu
 ob:∀ (k:Nat) (a:Addr) (o:O),g.mu[k]? = some a->σ[k]? = some o->∀ R_:Prop,(∀ x,s.heap.get? a=some x->CK T g o x->R_)->R_
 base:∀ a o,T.h0.get? a=some o->g.fz a=some o
 tb:∀ t q,(t,q)∈T.tabs->TabIs g s.heap t q
 gens:s.gens=T.gens
 os:s.os=T.os
def B9 (T:Top) (own:List Addr) (g:G) (σ':Ab) (R:G->Prop) (s':Shared):Prop:=∀ R_:Prop,(∀ g',G.le own g g'->Has T g' σ' s'->R g'->R_)->R_
theorem B9.mk {T:Top} {own:List Addr} {g:G} {σ':Ab} {R:G->Prop} {s':Shared} (g':G) (le:G.le own g g') (h:Has T g' σ' s') (r:R g'):B9 T own g σ' R s':=fun _ k=>k g' le h r
theorem B9.after {T:Top} {own:List Addr} {g g₁:G} {σ':Ab} {R:G->Prop} {s':Shared} (le:G.le own g g₁) (h:B9 T own g₁ σ' R s'):B9 T own g σ' R s':=fun R_ k=>h R_ fun g' l a r=>k g' (le.trans l) a r
end Mine
namespace Mine
open PySem
theorem AN (h:Heap):h.get? h.objs.size=none:=Heap.get?_none_of_le (Nat.le_refl _)
theorem A8:line=sizeLine:=by unfold sizeLine; rfl
structure Cz (T:Top) (g:G) (a:Addr):Prop where
 fz:g.fz a=none
 hid:g.hid a=none
 mu:a∉g.mu
 tab:∀ q,(a,q)∉T.tabs
section
variable {T:Top} {own:List Addr} {g g':G} {σ σ':Ab} {s s':Shared} {a:Addr} {o:Obj}
theorem Has.muAlive (H:Has T g σ s) (h:a∈g.mu):∃ o,s.heap.get? a=some o:=by
 obtain ⟨k,hk,e⟩:=List.mem_iff_getElem.mp h
 have hσ:k < σ.length:=H.len▸hk
 exact H.ob k a σ[k] (by rw [List.getElem?_eq_getElem hk,e]) (List.getElem?_eq_getElem hσ) _ fun x hx _=>⟨x,hx⟩
theorem CY {α:Type} {o:Option α} (h:∀ a,o=some a->False):o=none:=by
 cases o with
 | none=>rfl
 | some a=>exact (h a rfl).elim
theorem TabIs.at {h:Heap} {t:Addr} {q:Str} (x:TabIs g h t q):∃ o,h.get? t=some o:=x _ fun _ _ _ _ ho _ _=>⟨_,ho⟩
theorem Has.free (H:Has T g σ s) (h:s.heap.get? a=none):Cz T g a :=
 ⟨CY fun o e=>Al h (H.fz a o e),CY fun o e=>let ⟨_,q,_⟩:=H.hd a o e; Al h q,fun q=>by obtain ⟨o,e⟩:=H.muAlive q; exact Al h e,fun q m=>by obtain ⟨o,e⟩:=(H.tb _ _ m).at; exact Al h e⟩
theorem Has.hidTab (H:Has T g σ s) (e:g.hid a=some o) (q:Str):(a,q)∉T.tabs:=fun m=>H.tb _ _ m _ fun _ _ h2 _ _ _ _=>Al h2 e
theorem Has.re (H:Has T g σ s) (hd:Addr->Option Obj) (hh:∀ a o,hd a=some o->Hd s'.heap a o/\g.fz a=none/\a∉g.mu/\∀ q,(a,q)∉T.tabs)
 (kf:∀ b o,g.fz b=some o->s.heap.get? b=some o->s'.heap.get? b=some o) (km:∀ b o,b∈g.mu->s.heap.get? b=some o->s'.heap.get? b=some o) (kt:∀ t q o,(t,q)∈T.tabs->s.heap.get? t=some o->s'.heap.get? t=some o)
 (hg:s'.gens=s.gens) (ho:s'.os=s.os):Has T ⟨g.fz,hd,g.mu⟩ σ s':=by
 have up:G.up g ⟨g.fz,hd,g.mu⟩:=⟨fun _ _ e=>e,fun _ _ e=>e⟩
 refine ⟨fun a o e=>kf a o e (H.fz a o e),fun a o e=>(hh a o e).1,H.len,H.nd,H.ap,fun a o e=>⟨(hh a o e).2.1,(hh a o e).2.2.1⟩,fun k a o e1 e2 R_ r=>H.ob k a o e1 e2 R_ fun x h1 h2=>r x (km a x (List.mem_of_getElem? e1) h1) (CK.mono up _ _ h2),H.base,
  fun t q m R_ r=>H.tb t q m R_ fun ps h1 h2 h3 h4 h5 h6=>r ps h1 (CY fun o e=>(hh _ o e).2.2.2 q m) h3 (kt t q _ m h4) h5 h6,hg.trans H.gens,ho.trans H.os⟩
theorem Has.keep (H:Has T g σ s) (k:∀ b o,s.heap.get? b=some o->s'.heap.get? b=some o) (hg:s'.gens=s.gens:=by rfl) (ho:s'.os=s.os:=by rfl):Has T g σ s' :=
 H.re g.hid (fun a o e=>⟨(H.hd a o e).keep (k _),(H.ah a o e).1,(H.ah a o e).2,H.hidTab e⟩) (fun b o _ e=>k b o e) (fun b o _ e=>k b o e) (fun t q o _ e=>k _ o e) hg ho
theorem Has.tok (H:Has T g σ s) (h:s'.heap=s.heap:=by rfl) (hg:s'.gens=s.gens:=by rfl) (ho:s'.os=s.os:=by rfl):Has T g σ s':=H.keep (fun b o e=>h▸e) hg ho
noncomputable def G.hide (g:G) (a:Addr) (o:Obj):G:=⟨g.fz,fun b=>if b=a then some o else g.hid b,g.mu⟩
theorem G.hide_self {g:G}:(g.hide a o).hid a=some o:=if_pos rfl
theorem G.hide_ne {g:G} {b:Addr} (h:b≠a):(g.hide a o).hid b=g.hid b:=if_neg h
theorem G.le.hide (h:a∈own):G.le own g (g.hide a o):=⟨⟨fun _ _ e=>e,fun _ _ e=>e⟩,fun b hb=>G.hide_ne fun q=>hb (q▸h)⟩
theorem Has.hideH (H:Has T g σ s) (h1:g.fz a=none) (h2:a∉g.mu) (h3:∀ q,(a,q)∉T.tabs) (k:∀ b x,b≠a->s.heap.get? b=some x->s'.heap.get? b=some x) (h:Hd s'.heap a o) (hg:s'.gens=s.gens:=by rfl) (ho:s'.os=s.os:=by rfl):Has T (g.hide a o) σ s':=by
 refine H.re _ (fun b x e=>?_) (fun b x e e'=>k b x (fun q=>Al h1 (q▸e)) e') (fun b x e e'=>k b x (fun q=>h2 (q▸e)) e') (fun t q x m e=>k _ x (fun e'=>h3 q (e'▸m)) e) hg ho
 by_cases q:b=a
 ·rw [if_pos q] at e; rw [q,<-Option.some.inj e]; exact ⟨h,h1,h2,h3⟩
 ·rw [if_neg q] at e
  exact ⟨(H.hd b x e).keep fun x=>k b x q,(H.ah b x e).1,(H.ah b x e).2,H.hidTab e⟩
theorem Has.hide (H:Has T g σ s) (h1:g.fz a=none) (h2:a∉g.mu) (h3:∀ q,(a,q)∉T.tabs) (k:∀ b x,b≠a->s.heap.get? b=some x->s'.heap.get? b=some x) (h:s'.heap.get? a=some o) (hg:s'.gens=s.gens:=by rfl) (ho:s'.os=s.os:=by rfl):Has T (g.hide a o) σ s':=H.hideH h1 h2 h3 k (.of h) hg ho
theorem Cz.hide (F:Cz T g a) (H:Has T g σ s) (h:s.heap.get? a=some o):Has T (g.hide a o) σ s:=H.hide F.fz F.mu F.tab (fun _ _ _ e=>e) h
theorem Has.rehideH {o0:Obj} (H:Has T g σ s) (e:g.hid a=some o0) (k:∀ b x,b≠a->s.heap.get? b=some x->s'.heap.get? b=some x) (h:Hd s'.heap a o) (hg:s'.gens=s.gens:=by rfl) (ho:s'.os=s.os:=by rfl):Has T (g.hide a o) σ s':=H.hideH (H.ah a _ e).1 (H.ah a _ e).2 (H.hidTab e) k h hg ho
theorem Has.rehide {o0:Obj} (H:Has T g σ s) (e:g.hid a=some o0) (k:∀ b x,b≠a->s.heap.get? b=some x->s'.heap.get? b=some x) (h:s'.heap.get? a=some o) (hg:s'.gens=s.gens:=by rfl) (ho:s'.os=s.os:=by rfl):Has T (g.hide a o) σ s' :=
 H.hide (H.ah a _ e).1 (H.ah a _ e).2 (H.hidTab e) k h hg ho
theorem Has.back {its:List Addr} (H:Has T g' σ s) (le:G.le (its++own) g g') (hn:∀ c,c∈its->g.hid c=none) (k:∀ c o,c∉its->s.heap.get? c=some o->s'.heap.get? c=some o) (hf:∀ c,c∈its->g'.fz c=none/\c∉g'.mu/\∀ q,(c,q)∉T.tabs)
 (hg:s'.gens=s.gens:=by rfl) (ho:s'.os=s.os:=by rfl):∃ hd,Has T ⟨g'.fz,hd,g'.mu⟩ σ s'/\G.le own g ⟨g'.fz,hd,g'.mu⟩/\∀ c,c∉its->hd c=g'.hid c:=by
 refine ⟨fun c=>@ite _ (c∈its) (Classical.propDecidable _) none (g'.hid c),H.re _ (fun a o e=>?_) (fun b o e e'=>k b o (fun q=>Al (hf b q).1 e) e') (fun b o e e'=>k b o (fun q=>(hf b q).2.1 e) e') (fun t q o m e=>k _ o (fun h=>(hf _ h).2.2 q m) e) hg ho,⟨⟨le.fz,le.mu⟩,fun c hc=>?_⟩,fun c hc=>if_neg hc⟩
 ·by_cases q:a∈its
  ·rw [if_pos q] at e; exact Ac e
  ·rw [if_neg q] at e
   exact ⟨(H.hd a o e).keep fun o=>k a o q,(H.ah a o e).1,(H.ah a o e).2,H.hidTab e⟩
 ·show @ite _ (c∈its) (Classical.propDecidable _) none (g'.hid c)=_
  by_cases q:c∈its
  ·rw [if_pos q,hn c q]
  ·rw [if_neg q]; exact le.hid c fun h=>(List.mem_append.mp h).elim q hc
noncomputable def G.put (g:G) (a:Addr) (o:Obj):G:=⟨fun b=>if b=a then some o else g.fz b,g.hid,g.mu⟩
theorem G.put_self {g:G}:(g.put a o).fz a=some o:=if_pos rfl
theorem G.le.put (h:g.fz a=none):G.le own g (g.put a o) :=
 ⟨⟨fun b x e=>by show (if b=a then some o else g.fz b)=some x; rw [if_neg (fun q=>by rw [q,h] at e; exact Ac e)]; exact e,fun _ _ e=>e⟩,fun _ _=>rfl⟩
theorem Cz.put (F:Cz T g a) (H:Has T g σ s) (h:s.heap.get? a=some o):Has T (g.put a o) σ s:=by
 have le:G.le [] g (g.put a o):=.put F.fz
 have ne:∀ {b:Addr},b≠a->(g.put a o).fz b=g.fz b:=fun q=>if_neg q
 refine ⟨fun b x e=>?_,H.hd,H.len,H.nd,fun b hb=>(ne fun q=>F.mu (q▸hb)).trans (H.ap b hb),fun b x e=>⟨(ne fun q=>Al F.hid (q▸e)).trans (H.ah b x e).1,(H.ah b x e).2⟩,fun k b x e1 e2 R_ r=>H.ob k b x e1 e2 R_ fun y h1 h2=>r y h1 (CK.mono le.toup _ _ h2),fun b x e=>le.fz b x (H.base b x e),fun t q m R_ r=>H.tb t q m R_ fun ps h1 h2 h3 h4 h5 h6=>r ps ((ne fun e=>F.tab q (e▸m)).trans h1) h2 h3 h4 h5 fun pos cv e=>?_,H.gens,H.os⟩
 ·by_cases q:b=a
  ·rw [q] at e ⊢; rw [<-Option.some.inj (G.put_self.symm.trans e)]; exact h
  ·rw [ne q] at e; exact H.fz b x e
 ·obtain ⟨c,o,vs,t,q1,q2,q3⟩:=h6 pos cv e
  exact ⟨c,o,vs,t,q1,le.fz _ _ q2,q3⟩
noncomputable def G.add (g:G) (a:Addr):G:=⟨g.fz,g.hid,g.mu++[a]⟩
theorem G.le.add:G.le own g (g.add a) :=
 ⟨⟨fun _ _ e=>e,fun k b e=>by show (g.mu++[a])[k]? = some b; rw [List.getElem?_append_left (List.getElem?_eq_some_iff.mp e).1]; exact e⟩,fun _ _=>rfl⟩
theorem Has.addAt (H:Has T g σ s):(g.add a).mu[σ.length]? = some a:=by
 show (g.mu++[a])[σ.length]? = some a
 rw [<-H.len,List.getElem?_append_right (Nat.le_refl _),Nat.sub_self]; rfl
theorem EA {α:Type} {l:List α} {a b:α} (h:b∈l++[a]):b∈l\/b=a:=(List.mem_append.mp h).imp id List.mem_singleton.mp
theorem Cz.add {ob:O} (F:Cz T g a) (H:Has T g σ s) (h:s.heap.get? a=some o) (hr:CK T (g.add a) ob o):Has T (g.add a) (σ++[ob]) s:=by
 refine ⟨H.fz,H.hd,by show (g.mu++[a]).length=_; rw [List.length_append,List.length_append,H.len]; rfl,?_,fun b hb=>(EA hb).elim (H.ap b) fun q=>q▸F.fz,fun b x e=>⟨(H.ah b x e).1,fun hb=>(EA hb).elim (H.ah b x e).2 fun q=>Al F.hid (q▸e)⟩,fun k b y e1 e2 R_ r=>?_,H.base,fun t q m R_ r=>H.tb t q m R_ fun ps h1 h2 h3 h4 h5 h6=>r ps h1 h2 (fun h=>(EA h).elim h3 fun e=>F.tab q (e▸m)) h4 h5 h6,H.gens,H.os⟩
 ·show (g.mu++[a]).Nodup
  exact List.nodup_append.mpr ⟨H.nd,List.nodup_cons.mpr ⟨List.not_mem_nil,List.nodup_nil⟩,fun x hx y hy q=>F.mu (List.mem_singleton.mp hy▸q▸hx)⟩
 ·have e1':(g.mu++[a])[k]? = some b:=e1
  by_cases hkl:k < σ.length
  ·rw [List.getElem?_append_left (H.len.symm▸hkl)] at e1'
   rw [List.getElem?_append_left hkl] at e2
   exact H.ob k b y e1' e2 R_ fun z h1 h2=>r z h1 (CK.mono (G.le.add (own:=[])).toup _ _ h2)
  ·have hk':k=σ.length:=by
    have:=(List.getElem?_eq_some_iff.mp e2).1
    rw [List.length_append] at this
    exact Nat.le_antisymm (Nat.le_of_lt_succ this) (Nat.le_of_not_lt hkl)
   rw [hk'] at e1 e2
   have e3:(σ++[ob])[σ.length]? = some ob:=List.getElem?_concat_length
   rw [<-Av H.addAt e1,<-Av e3 e2] at r
   exact r o h hr
theorem Has.turn {k:Nat} {ob:O} (H:Has T g σ s) (hk:g.mu[k]? = some a) (hs:∀ b x,b≠a->s.heap.get? b=some x->s'.heap.get? b=some x) (hx:s'.heap.get? a=some o) (hr:CK T g ob o) (hg:s'.gens=s.gens:=by rfl) (ho:s'.os=s.os:=by rfl):Has T g (σ.set k ob) s':=by
 have hm:a∈g.mu:=List.mem_of_getElem? hk
 refine ⟨fun b x e=>hs b x (fun q=>Al (H.ap a hm) (q▸e)) (H.fz b x e),fun b x e=>(H.hd b x e).keep fun y=>hs b y fun q=>(H.ah b x e).2 (q▸hm),by rw [List.length_set]; exact H.len,H.nd,H.ap,H.ah,fun j b y e1 e2 R_ r=>?_,H.base,fun t q m R_ r=>H.tb t q m R_ fun ps h1 h2 h3 h4 h5 h6=>r ps h1 h2 h3 (hs _ _ (fun q=>h3 (q▸hm)) h4) h5 h6,hg.trans H.gens,ho.trans H.os⟩
 ·by_cases q:j=k
  ·rw [q] at e1 e2
   have hkl:k < σ.length:=H.len▸(List.getElem?_eq_some_iff.mp hk).1
   rw [<-Av hk e1,<-Av (List.getElem?_set_self hkl) e2] at r
   exact r o hx hr
  ·rw [List.getElem?_set_ne (fun h=>q h.symm)] at e2
   refine H.ob j b y e1 e2 R_ fun z h1 h2=>r z (hs b z (fun q'=>q ?_) h1) h2
   obtain ⟨l1,m1⟩:=List.getElem?_eq_some_iff.mp e1
   obtain ⟨l2,m2⟩:=List.getElem?_eq_some_iff.mp hk
   exact (List.getElem_inj H.nd).mp (m1.trans (q'.trans m2.symm))
end
end Mine
namespace Mine
open PySem
set_option genCtorIdx true in
inductive Meth where
 | append | join | index | insert | pop | extend | remove | clear | get
set_option genCtorIdx true in
inductive Bi where
 | len | sorted | min | isinstance | str | all | any | list | max | ord | int | repr
inductive E where
 | cst (x:PyData)
 | var (i:Nat)
 | ty (t:String)
 | glb (x:PyData)
 | bin (op:Operator) (a b:E)
 | neg (a:E)
 | not (a:E)
 | bop (op:BoolOp) (es:E)
 | cmp (op:CmpOp) (a b:E)
 | nil
 | cons (a r:E)
 | tup (es:E)
 | lst (es:E)
 | dct
 | sub (a i:E)
 | slc (a lo hi:E)
 | bi (b:Bi) (es:E)
 | maxd (a z:E)
 | sortr (a:E)
 | sortk (rev:Bool) (a:E) (i:Nat) (key:E)
 | fcall (f:Nat) (es:E)
 | meth (m:Meth) (o es:E)
 | attr (nm:Str) (o:E)
 | mcall (nm:Str) (o es:E)
 | new
 | comp (elt:E) (ts:List Nat) (it ifs:E)
 | range (es:E)
 | zip (a b:E)
 | enum (a:E)
 | glx (k:Nat)
inductive S where
 | any
 | nil
 | cons (s r:S)
 | asg (x:Nat) (e:E)
 | unp (xs:List Nat) (e:E)
 | swp (xs:List Nat) (es:E)
 | set (o i v:E)
 | exp (e:E)
 | ite (c:E) (a b:S)
 | for_ (ts:List Nat) (it:E) (body:S)
 | while_ (c:E) (body:S)
 | ret (e:E)
 | setd (x:Nat) (nm:Str)
 | swl (i j l:Nat) (es:E)
 | rse (k:Nat) (es:E)
 | try_ (b:S) (k:Nat) (h:S)
 | tryAs (b:S) (hs:List (Nat×Nat×E))
 | sw2 (i j:Nat) (es:E)
set_option genCtorIdx true in
inductive GV where
 | fn (f:Nat)
 | bi (b:Bi)
 | ty (t:String)
 | cst (x:PyData)
 | cls
 | exc (k:Nat)
structure Kx where
 vars:List Str
 names:List (Str×NameKind)
 wr:List Str
 gl:Str->Option GV
 lam:Option (Addr×Str)
noncomputable def Kx.kd (K:Kx) (n:Str) (k:NameKind):Bool:=decide (K.names.lookup n=some k)
noncomputable def Kx.isVar (K:Kx) (n:Str):Bool:=(K.kd n .local||(K.kd n .cell||K.kd n .free)) && !(n == ("__debug__" : Str)) && !(n == ("__classdict__" : Str))
noncomputable def Kx.isGl (K:Kx) (n:Str):Bool:=K.kd n .globalImplicit && !(n == ("__debug__" : Str))
noncomputable def Kx.canWr (K:Kx) (i:Nat) (n:Str):Bool:=decide (K.vars[i]? = some n)&&K.wr.contains n&&(K.kd n .local||K.kd n .cell)
theorem Kx.kd_eq {K:Kx} {n:Str} {k:NameKind} (h:K.kd n k=true):K.names.lookup n=some k:=of_decide_eq_true h
noncomputable def Kx.isAt (K:Kx) (i:Nat) (n:Str):Bool:=match K.vars[i]? with | some m=>m == n | none=>false
noncomputable def toC (x:PyData):Const:=match x with | .bool b=>.bool b | .int i=>.int i | .str t=>.str t | _=>.none
noncomputable def cOk (x:PyData):Bool:=match x with | .none=>true | .bool _=>true | .int _=>true | .str t=>decide (t.cps.size<=16777216) | _=>false
noncomputable def Fs (x y:PyData):Bool :=
 match x with
 | .int a=>(match y with | .int b=>a == b | _=>false)
 | .str a=>(match y with | .str b=>a == b | _=>false)
 | _=>false
noncomputable def gvIs (v w:GV):Bool :=
 match v with
 | .fn f=>(match w with | .fn f'=>f == f' | _=>false)
 | .bi f=>(match w with | .bi f'=>Nat.beq f.ctorIdx f'.ctorIdx | _=>false)
 | .ty f=>(match w with | .ty f'=>f == f' | _=>false)
 | .cst x=>(match w with | .cst y=>Fs x y | _=>false)
 | .cls=>(match w with | .cls=>true | _=>false)
 | .exc f=>(match w with | .exc f'=>f == f' | _=>false)
noncomputable def Ed (K:Kx) (v:GV) (n:Str):Bool:=K.isGl n&&(match K.gl n with | some w=>gvIs w v | none=>false)
noncomputable def D5:Meth->String
 | .append => "append" | .join => "join" | .index => "index" | .insert => "insert" | .pop => "pop" | .extend => "extend" | .remove => "remove" | .clear => "clear" | .get => "get"
noncomputable def B1 (e:E):Bool:=match e with | .comp _ _ _ _=>true | _=>false
noncomputable def Cq (env:List (Str×NameKind)) (names:List (Str×NameKind)):List (Str×NameKind) :=
 names.map fun (n,k)=>if (k == .free&&env.lookup n == some .cell) then (n,.cell) else (n,k)
noncomputable def nameOk (K:Kx) (ts:List Nat) (p:Str×NameKind):Bool :=
 (decide (p.2=.local)&&(p.1 == (".0" : Str)||ts.any fun i=>decide (K.vars[i]? = some p.1)))||((decide (p.2=.free)&&(K.kd p.1 .cell||K.kd p.1 .free))||decide (p.2=.globalImplicit))
noncomputable def FT (K:Kx) (ts:List Nat) (sc:Scope):Bool :=
 decide (sc.kind=.function)&&sc.names.all (nameOk K ts) &&
 sc.names.all (fun p=>decide (sc.names.lookup p.1=some p.2)) &&
 !K.vars.contains (".0" : Str) &&
 ts.all (fun i=>match K.vars[i]? with | some m=>decide (sc.names.lookup m=some .local) | none=>false)
noncomputable def Kx.sub (K:Kx) (ts:List Nat) (sc:Scope):Kx:={ K with names:=Cq K.names sc.names,wr:=ts.filterMap (fun i=>K.vars[i]?),lam:=none }
noncomputable def lnameOk (K:Kx) (nm:Str) (p:Str×NameKind):Bool :=
 (decide (p.2=.local)&&p.1 == nm)||((decide (p.2=.free)&&(K.kd p.1 .cell||K.kd p.1 .free))||decide (p.2=.globalImplicit))
noncomputable def lamOk (K:Kx) (i:Nat) (nm:Str) (sc:Scope):Bool :=
 K.lam.isSome&&(K.isAt i nm&&(decide (sc.kind=.function)&&(!sc.isGenerator&&(!sc.isCoroutine&&(sc.names.all (lnameOk K nm)&&(sc.names.all (fun p=>decide (sc.names.lookup p.1=some p.2))&&decide (sc.names.lookup nm=some .local)))))))
noncomputable def Kx.lsub (K:Kx) (nm:Str) (sc:Scope):Kx:={ K with names:=sc.names,wr:=[nm],lam:=none }
noncomputable def lamArgs (nm:Str) (ap:Pos):Arguments:=⟨[],[⟨nm,none,ap⟩],none,[],[],none,[]⟩
noncomputable def biGV (b:Bi):GV:=match b with | .str=>.ty "str" | .list=>.ty "list" | .int=>.ty "int" | b=>.bi b
def IsCst (x:PyData) (x_:Expr):Prop:=∀ R_:Expr->Prop,(∀ (k:Nat) (p:Pos),cOk x=true->R_ (.Constant (toC x) k p))->R_ x_
def IsNm (P:Str->Prop) (x_:Expr):Prop:=∀ R_:Expr->Prop,(∀ (n:Str) (p:Pos),P n->R_ (.Name n p))->R_ x_
def IsBin (op:Operator) (A B:Expr->Prop) (x_:Expr):Prop:=∀ R_:Expr->Prop,(∀ (l r:Expr) (p:Pos),A l->B r->R_ (.BinOp l op r p))->R_ x_
def IsUn (op:UnaryOp) (A:Expr->Prop) (x_:Expr):Prop:=∀ R_:Expr->Prop,(∀ (x:Expr) (p:Pos),A x->R_ (.UnaryOp op x p))->R_ x_
def IsBop (op:BoolOp) (A:List Expr->Prop) (x_:Expr):Prop:=∀ R_:Expr->Prop,(∀ (vs:List Expr) (p:Pos),A vs->R_ (.BoolOp op vs p))->R_ x_
def IsCmp (op:CmpOp) (A B:Expr->Prop) (x_:Expr):Prop:=∀ R_:Expr->Prop,(∀ (l r:Expr) (p:Pos),A l->B r->R_ (.Compare l [op] [r] p))->R_ x_
def IsTup (A:List Expr->Prop) (x_:Expr):Prop:=∀ R_:Expr->Prop,(∀ (vs:List Expr) (k:Nat) (p:Pos),A vs->R_ (.Tuple vs k p))->R_ x_
def IsLst (A:List Expr->Prop) (x_:Expr):Prop:=∀ R_:Expr->Prop,(∀ (vs:List Expr) (p:Pos),A vs->R_ (.List vs p))->R_ x_
def IsDct (x_:Expr):Prop:=∀ R_:Expr->Prop,(∀ (p:Pos),R_ (.Dict [] [] p))->R_ x_
def IsMax (P:Str->Prop) (A Z:Expr->Prop) (x_:Expr):Prop:=∀ R_:Expr->Prop,(∀ (n:Str) (np:Pos) (x y:Expr) (kp p:Pos),P n->A x->Z y->R_ (.Call (.Name n np) [x] [⟨some (Str.ofString "default"),y,kp⟩] p))->R_ x_
def IsSortR (P:Str->Prop) (A:Expr->Prop) (x_:Expr):Prop:=∀ R_:Expr->Prop,(∀ (n:Str) (np:Pos) (x:Expr) (k:Nat) (cp kp p:Pos),P n->A x->R_ (.Call (.Name n np) [x] [⟨some (Str.ofString "reverse"),.Constant (.bool true) k cp,kp⟩] p))->R_ x_
def IsSort (P:Str->Prop) (A:Expr->Prop) (B:Str->Scope->Expr->Prop) (rev:Bool) (x_:Expr):Prop:=∀ R_:Expr->Prop,(∀ (n:Str) (np:Pos) (x:Expr) (nm:Str) (ap:Pos) (b:Expr) (sc:Scope) (lp kp:Pos) (k:Nat) (cp kp' p:Pos),P n->A x->B nm sc b->R_ (.Call (.Name n np) [x] (⟨some (Str.ofString "key"),.Lambda (lamArgs nm ap) b sc lp,kp⟩::bif rev then [⟨some (Str.ofString "reverse"),.Constant (.bool true) k cp,kp'⟩] else []) p))->R_ x_
def IsSub (A B:Expr->Prop) (x_:Expr):Prop:=∀ R_:Expr->Prop,(∀ (v x:Expr) (p:Pos),A v->B x->R_ (.Subscript v x p))->R_ x_
def IsSlc (A:Expr->Prop) (B C:Option Expr->Prop) (x_:Expr):Prop:=∀ R_:Expr->Prop,(∀ (v:Expr) (l u:Option Expr) (q p:Pos),A v->B l->C u->R_ (.Subscript v (.Slice l u none q) p))->R_ x_
def Ew (P:Str->Prop) (A:List Expr->Prop) (x_:Expr):Prop:=∀ R_:Expr->Prop,(∀ (n:Str) (np:Pos) (vs:List Expr) (p:Pos),P n->A vs->R_ (.Call (.Name n np) vs [] p))->R_ x_
def IsMeth (m:Str) (A:Expr->Prop) (B:List Expr->Prop) (x_:Expr):Prop:=∀ R_:Expr->Prop,(∀ (x:Expr) (ap:Pos) (vs:List Expr) (p:Pos),A x->B vs->ap.endLine=p.line->vs.length < 20->R_ (.Call (.Attribute x m ap) vs [] p))->R_ x_
def IsAttr (m:Str) (A:Expr->Prop) (x_:Expr):Prop:=∀ R_:Expr->Prop,(∀ (x:Expr) (p:Pos),A x->R_ (.Attribute x m p))->R_ x_
def IsComp (A:Expr->Prop) (S:Scope->Prop) (P X:Scope->Expr->Prop) (F:Scope->List Expr->Prop) (x_:Expr):Prop:=∀ R_:Expr->Prop,(∀ (x t i:Expr) (cs:List Expr) (sc:Scope) (p:Pos),A i->S sc->P sc t->X sc x->F sc cs->R_ (.ListComp x [⟨t,i,cs,0⟩] sc p))->R_ x_
def IsNil {α:Type} (x_:List α):Prop:=x_=[]
def IsCons (A:Expr->Prop) (B:List Expr->Prop) (x_:List Expr):Prop:=∀ R_:List Expr->Prop,(∀ (e:Expr) (l:List Expr),A e->B l->R_ (e::l))->R_ x_
def IsNone (x_:Option Expr):Prop:=x_=none
def IsSome (A:Expr->Prop) (x_:Option Expr):Prop:=∀ R_:Option Expr->Prop,(∀ (e:Expr),A e->R_ (some e))->R_ x_
noncomputable def IsNs (K:Kx):List Nat->List Expr->Prop
 | [],l=>l=[]
 | i::r,l=>∀ R_:List Expr->Prop,(∀ (n:Str) (p:Pos) (t:List Expr),K.canWr i n=true->IsNs K r t->R_ (.Name n p::t))->R_ l
def IsT (K:Kx) (ts:List Nat) (x_:Expr):Prop:=∀ R_:List Nat->Expr->Prop,(∀ (i:Nat) (n:Str) (p:Pos),K.canWr i n=true->R_ [i] (.Name n p))->(∀ (es:List Expr) (k:Nat) (p:Pos),ts.length≠1->IsNs K ts es->R_ ts (.Tuple es k p))->R_ ts x_
noncomputable def cellAmong (K:Kx) (ts:List Expr):Bool:=ts.any fun e=>match e with | .Name n _=>!K.kd n .local | _=>false
noncomputable abbrev Kx.to (K:Kx) (v:GV) (n:Str):Prop:=K.isGl n=true/\K.gl n=some v
noncomputable def Bt (it:E):Bool:=match it with | .zip _ _=>true | .enum _=>true | _=>false
noncomputable def Fz (ts:List Nat) (it:E):Bool:=if Bt it=true then decide (ts.length≠1) else true
noncomputable def Bg (e:E):Bool:=match e with | .nil=>true | _=>false
noncomputable def Is:E->Kx->(Expr->Prop)×(List Expr->Prop)
 | .cst x,_=>(IsCst x,fun _=>False)
 | .var i,K=>(IsNm fun n=>K.isVar n=true/\K.vars[i]? = some n,fun _=>False)
 | .ty t,K=>(IsNm (K.to (.ty t)),fun _=>False)
 | .glb x,K=>(IsNm (K.to (.cst x)),fun _=>False)
 | .bin op a b,K=>(IsBin op (Is a K).1 (Is b K).1,fun _=>False)
 | .neg a,K=>(IsUn .USub (Is a K).1,fun _=>False)
 | .not a,K=>(IsUn .Not (Is a K).1,fun _=>False)
 | .bop op es,K=>(IsBop op (Is es K).2,fun _=>False)
 | .cmp op a b,K=>(IsCmp op (Is a K).1 (Is b K).1,fun _=>False)
 | .nil,_=>(fun _=>False,IsNil)
 | .cons a r,K=>(fun _=>False,IsCons (Is a K).1 (Is r K).2)
 | .tup es,K=>(IsTup (Is es K).2,fun _=>False)
 | .lst es,K=>(IsLst (Is es K).2,fun _=>False)
 | .dct,_=>(IsDct,fun _=>False)
 | .sub a i,K=>(IsSub (Is a K).1 (Is i K).1,fun _=>False)
 | .slc a lo hi,K=>(IsSlc (Is a K).1 (if Bg lo then IsNone else IsSome (Is lo K).1) (if Bg hi then IsNone else IsSome (Is hi K).1),fun _=>False)
 | .bi b es,K=>(Ew (K.to (biGV b)) (Is es K).2,fun _=>False)
 | .maxd a z,K=>(IsMax (K.to (.bi .max)) (Is a K).1 (Is z K).1,fun _=>False)
 | .sortr a,K=>(IsSortR (K.to (.bi .sorted)) (Is a K).1,fun _=>False)
 | .sortk rev a i key,K=>(IsSort (K.to (.bi .sorted)) (Is a K).1 (fun nm sc b=>lamOk K i nm sc=true/\(Is key (K.lsub nm sc)).1 b) rev,fun _=>False)
 | .fcall f es,K=>(Ew (K.to (.fn f)) (Is es K).2,fun _=>False)
 | .meth m o es,K=>(IsMeth (Str.ofString (D5 m)) (Is o K).1 (Is es K).2,fun _=>False)
 | .attr nm o,K=>(IsAttr nm (Is o K).1,fun _=>False)
 | .mcall nm o es,K=>(IsMeth nm (Is o K).1 (Is es K).2,fun _=>False)
 | .new,K=>(Ew (K.to .cls) IsNil,fun _=>False)
 | .comp elt ts it ifs,K=>(IsComp (Is it K).1 (fun sc=>FT K ts sc=true/\Fz ts it=true) (fun sc=>IsT (K.sub ts sc) ts) (fun sc=>(Is elt (K.sub ts sc)).1) (fun sc=>(Is ifs (K.sub ts sc)).2),fun _=>False)
 | .range es,K=>(Ew (K.to (.ty "range")) (Is es K).2,fun _=>False)
 | .zip a b,K=>(Ew (K.to (.ty "zip")) (IsCons (Is a K).1 (IsCons (Is b K).1 IsNil)),fun _=>False)
 | .enum a,K=>(Ew (K.to (.ty "enumerate")) (IsCons (Is a K).1 IsNil),fun _=>False)
 | .glx k,K=>(IsNm (K.to (.exc k)),fun _=>False)
noncomputable abbrev IsE (e:E) (K:Kx):Expr->Prop:=(Is e K).1
noncomputable abbrev Dt (e:E) (K:Kx):List Expr->Prop:=(Is e K).2
noncomputable def swapC (K:Kx) (n:Str) (p:Pos) (v:Expr):Bool :=
 match v with
 | .ListComp _ _ sc vp=>decide (K.names.lookup n=some .local)&&(decide (p.line=vp.line) && !(sc.names.any fun q=>q.1 == n&&(q.2 == .local||q.2 == .cell)))
 | _=>false
def IsAsg (P:Str->Prop) (A:Expr->Prop) (W:Str->Pos->Expr->Bool) (x_:Stmt):Prop:=∀ R_:Stmt->Prop,(∀ (n:Str) (p:Pos) (v:Expr) (p':Pos),P n->A v->W n p v=true->R_ (.Assign [.Name n p] v p'))->R_ x_
def IsUnp (P:List Expr->Prop) (A:Expr->Prop) (x_:Stmt):Prop:=∀ R_:Stmt->Prop,(∀ (ts:List Expr) (k:Nat) (p:Pos) (v:Expr) (p':Pos),P ts->A v->R_ (.Assign [.Tuple ts k p] v p'))->R_ x_
def IsSwp (P A:List Expr->Prop) (x_:Stmt):Prop:=∀ R_:Stmt->Prop,(∀ (ts:List Expr) (k:Nat) (p:Pos) (vs:List Expr) (k':Nat) (p' pos:Pos),P ts->A vs->R_ (.Assign [.Tuple ts k p] (.Tuple vs k' p') pos))->R_ x_
def IsSet (A B C:Expr->Prop) (x_:Stmt):Prop:=∀ R_:Stmt->Prop,(∀ (o i:Expr) (p:Pos) (v:Expr) (p':Pos),A v->B o->C i->R_ (.Assign [.Subscript o i p] v p'))->R_ x_
def IsExp (A:Expr->Prop) (x_:Stmt):Prop:=∀ R_:Stmt->Prop,(∀ (v:Expr) (p:Pos),A v->R_ (.Expr v p))->R_ x_
def IsIte (A:Expr->Prop) (B C:List Stmt->Prop) (x_:Stmt):Prop:=∀ R_:Stmt->Prop,(∀ (t:Expr) (x y:List Stmt) (p:Pos),A t->B x->C y->R_ (.If t x y p))->R_ x_
def IsFor (P A:Expr->Prop) (B:List Stmt->Prop) (x_:Stmt):Prop:=∀ R_:Stmt->Prop,(∀ (t i:Expr) (b:List Stmt) (p:Pos),P t->A i->B b->R_ (.For t i b [] p))->R_ x_
def IsWhile (A:Expr->Prop) (B:List Stmt->Prop) (x_:Stmt):Prop:=∀ R_:Stmt->Prop,(∀ (t:Expr) (b:List Stmt) (p:Pos),A t->B b->R_ (.While t b [] p))->R_ x_
def IsRet (A:Expr->Prop) (x_:Stmt):Prop:=∀ R_:Stmt->Prop,(∀ (v:Expr) (p:Pos),A v->R_ (.Return (some v) p))->R_ x_
def IsSetd (P:Str->Prop) (nm:Str) (x_:Stmt):Prop:=∀ R_:Stmt->Prop,(∀ (n:Str) (p1 p2 p3 p4:Pos),P n->R_ (.Assign [.Attribute (.Name n p1) nm p2] (.Dict [] [] p3) p4))->R_ x_
noncomputable def swlOk (K:Kx) (a b c:Str) (pa pb pc:Pos) (vs:List Expr):Bool :=
 K.kd a .local&&K.kd b .local&&K.kd c .local&&pb.line == pa.line&&pc.line == pa.line&&[a,b,c].eraseDups.length == 3&&vs.length == 3 && !vs.all (foldedForSure 8) && !vs.all (constantsAlone 8)
def IsSwl (P:Str->Str->Str->Pos->Pos->Pos->List Expr->Prop) (A:List Expr->Prop) (x_:Stmt):Prop:=∀ R_:Stmt->Prop,(∀ (a b c:Str) (pa pb pc:Pos) (k:Nat) (p:Pos) (vs:List Expr) (k':Nat) (p' pos:Pos),P a b c pa pb pc vs->A vs->R_ (.Assign [.Tuple [.Name a pa,.Name b pb,.Name c pc] k p] (.Tuple vs k' p') pos))->R_ x_
def IsRse (P:Str->Prop) (A:List Expr->Prop) (x_:Stmt):Prop:=∀ R_:Stmt->Prop,(∀ (n:Str) (np:Pos) (vs:List Expr) (cp p:Pos),P n->A vs->vs.length < 20->R_ (.Raise (some (.Call (.Name n np) vs [] cp)) none p))->R_ x_
def IsTry (P:Str->Prop) (A B:List Stmt->Prop) (x_:Stmt):Prop:=∀ R_:Stmt->Prop,(∀ (b:List Stmt) (n:Str) (np:Pos) (y:Stmt) (ys:List Stmt) (hp p:Pos),A b->P n->B (y::ys)->R_ (.Try b [.ExceptHandler (some (.Name n np)) none (y::ys) hp] [] [] p))->R_ x_
noncomputable def IsHs (K:Kx):List (Nat×Nat×E)->List ExceptHandler->Prop
 | [],l=>l=[]
 | (k,i,e)::r,l=>∀ R_:List ExceptHandler->Prop,(∀ (n:Str) (np:Pos) (m:Str) (ex:Expr) (rp hp:Pos) (t:List ExceptHandler),K.to (.exc k) n->(K.canWr i m=true/\K.kd m .local=true)->IsE e K ex->IsHs K r t->R_ (.ExceptHandler (some (.Name n np)) (some m) [.Return (some ex) rp] hp::t))->R_ l
def IsTryAs (A:List Stmt->Prop) (B:List ExceptHandler->Prop) (x_:Stmt):Prop:=∀ R_:Stmt->Prop,(∀ (b:List Stmt) (h:ExceptHandler) (hs:List ExceptHandler) (p:Pos),A b->B (h::hs)->R_ (.Try b (h::hs) [] [] p))->R_ x_
noncomputable def sw2Ok (K:Kx) (a b:Str) (pa pb:Pos) (vs:List Expr):Bool :=
 K.kd a .local&&K.kd b .local&&pb.line == pa.line&&[a,b].eraseDups.length == 2&&vs.length == 2 && !vs.all (foldedForSure 8) && !vs.all (constantsAlone 8)
def IsSw2 (P:Str->Str->Pos->Pos->List Expr->Prop) (A:List Expr->Prop) (x_:Stmt):Prop:=∀ R_:Stmt->Prop,(∀ (a b:Str) (pa pb:Pos) (k:Nat) (p:Pos) (vs:List Expr) (k':Nat) (p' pos:Pos),P a b pa pb vs->A vs->R_ (.Assign [.Tuple [.Name a pa,.Name b pb] k p] (.Tuple vs k' p') pos))->R_ x_
def IsSCons (A:Stmt->Prop) (B:List Stmt->Prop) (x_:List Stmt):Prop:=∀ R_:List Stmt->Prop,(∀ (x:Stmt) (t:List Stmt),A x->B t->R_ (x::t))->R_ x_
noncomputable def Iss:S->Kx->(Stmt->Prop)×(List Stmt->Prop)
 | .any,_=>(fun _=>True,fun _=>True)
 | .nil,_=>(fun _=>False,IsNil)
 | .cons s r,K=>(fun _=>False,IsSCons (Iss s K).1 (Iss r K).2)
 | .asg x e,K=>(IsAsg (fun n=>K.canWr x n=true) (IsE e K) (fun n p v=>bif B1 e then swapC K n p v else true),fun _=>False)
 | .unp xs e,K=>(IsUnp (IsNs K xs) (IsE e K),fun _=>False)
 | .swp xs es,K=>(IsSwp (fun ts=>IsNs K xs ts/\(cellAmong K ts=true/\xs.length=3)) (Dt es K),fun _=>False)
 | .set o i v,K=>(IsSet (IsE v K) (IsE o K) (IsE i K),fun _=>False)
 | .exp e,K=>(IsExp (IsE e K),fun _=>False)
 | .ite c a b,K=>(IsIte (IsE c K) (Iss a K).2 (Iss b K).2,fun _=>False)
 | .for_ ts it body,K=>(IsFor (fun t=>IsT K ts t/\Fz ts it=true) (IsE it K) (Iss body K).2,fun _=>False)
 | .while_ c body,K=>(IsWhile (IsE c K) (Iss body K).2,fun _=>False)
 | .ret e,K=>(IsRet (IsE e K),fun _=>False)
 | .swl i j l es,K=>(IsSwl (fun a b c pa pb pc vs=>(K.canWr i a=true/\K.canWr j b=true/\K.canWr l c=true)/\swlOk K a b c pa pb pc vs=true) (Dt es K),fun _=>False)
 | .rse k es,K=>(IsRse (K.to (.exc k)) (Dt es K),fun _=>False)
 | .try_ b k h,K=>(IsTry (K.to (.exc k)) (Iss b K).2 (Iss h K).2,fun _=>False)
 | .tryAs b hs,K=>(IsTryAs (Iss b K).2 (IsHs K hs),fun _=>False)
 | .sw2 i j es,K=>(IsSw2 (fun a b pa pb vs=>(K.canWr i a=true/\K.canWr j b=true)/\sw2Ok K a b pa pb vs=true) (Dt es K),fun _=>False)
 | .setd x nm,K=>(IsSetd (fun n=>K.kd n .local=true/\K.vars[x]? = some n/\(n == ("__debug__" : Str))=false) nm,fun _=>False)
noncomputable abbrev IsS (e:S) (K:Kx):Stmt->Prop:=(Iss e K).1
noncomputable abbrev IsSs (e:S) (K:Kx):List Stmt->Prop:=(Iss e K).2
structure Fn where
 np:Nat
 nv:Nat
 body:S
end Mine
namespace Mine
open PySem
noncomputable def Fis_name:Fn:=⟨1,2,
 (.cons (.ite (.bop .Or (.cons (.cmp .Lt (.bi .len (.cons (.var 0) .nil)) (.cst (.int 1))) (.cons (.cmp .Gt (.bi .len (.cons (.var 0) .nil)) (.glb (.int 12))) .nil)))
  (.cons (.ret (.cst (.bool false)))
   .nil)
  .nil)
  (.cons (.for_ [1] (.var 0)
   (.cons (.ite (.cmp .NotIn (.var 1) (.glb (.str (Str.ofString "abcdefghijklmnopqrstuvwxyz0123456789"))))
    (.cons (.ret (.cst (.bool false)))
     .nil)
    .nil)
    .nil))
  (.cons (.ret (.cst (.bool true)))
  .nil)))⟩
noncomputable def Fis_line:Fn:=⟨1,2,
 (.cons (.ite (.cmp .Gt (.bi .len (.cons (.var 0) .nil)) (.glb (.int 200)))
  (.cons (.ret (.cst (.bool false)))
   .nil)
  .nil)
  (.cons (.for_ [1] (.var 0)
   (.cons (.ite (.bop .Or (.cons (.cmp .Lt (.bi .ord (.cons (.var 1) .nil)) (.cst (.int 32))) (.cons (.cmp .Gt (.bi .ord (.cons (.var 1) .nil)) (.cst (.int 126))) .nil)))
    (.cons (.ret (.cst (.bool false)))
     .nil)
    .nil)
    .nil))
  (.cons (.ret (.cst (.bool true)))
  .nil)))⟩
noncomputable def EU:Fn:=⟨2,5,
 (.cons (.ite (.not (.fcall 2 (.cons (.var 0) .nil)))
  .any
  .nil)
  (.cons (.for_ [2] (.var 1)
   (.cons (.ite (.not (.fcall 2 (.cons (.var 2) .nil)))
    .any
    .nil)
    .nil))
  (.cons (.for_ [3,4] (.zip (.var 1) (.slc (.var 1) (.cst (.int 1)) .nil))
   (.cons (.ite (.cmp .GtE (.var 3) (.var 4))
    .any
    .nil)
    .nil))
  (.cons (.ite (.cmp .In (.var 0) (.var 1))
   .any
   .nil)
  .nil))))⟩
noncomputable def FH:Fn:=⟨1,1,
 (.cons (.ite (.bop .And (.cons (.cmp .NotEq (.sub (.var 0) (.cst (.int 0))) (.cst (.str (Str.ofString "add")))) (.cons (.cmp .NotEq (.sub (.var 0) (.cst (.int 0))) (.cst (.str (Str.ofString "cut")))) (.cons (.cmp .NotEq (.sub (.var 0) (.cst (.int 0))) (.cst (.str (Str.ofString "set")))) .nil))))
  .any
  .nil)
  (.cons (.ite (.bop .And (.cons (.cmp .NotEq (.sub (.var 0) (.cst (.int 0))) (.cst (.str (Str.ofString "add")))) (.cons (.cmp .Is (.sub (.var 0) (.cst (.int 1))) (.cst .none)) .nil)))
   .any
   .nil)
  (.cons (.ite (.bop .And (.cons (.cmp .NotEq (.sub (.var 0) (.cst (.int 0))) (.cst (.str (Str.ofString "cut")))) (.cons (.not (.fcall 3 (.cons (.sub (.var 0) (.cst (.int 2))) .nil))) .nil)))
   .any
   .nil)
  .nil)))⟩
noncomputable def Fcheck:Fn:=⟨1,5,
 (.cons (.swl 1 2 3 (.cons (.sub (.var 0) (.cst (.int 0))) (.cons (.sub (.var 0) (.cst (.int 1))) (.cons (.sub (.var 0) (.cst (.int 2))) .nil))))
  (.cons (.exp (.fcall 4 (.cons (.var 1) (.cons (.var 2) .nil))))
  (.cons (.ite (.cmp .Gt (.bi .len (.cons (.var 3) .nil)) (.glb (.int 20)))
   .any
   .nil)
  (.cons (.for_ [4] (.var 3)
   (.cons (.exp (.fcall 5 (.cons (.var 4) .nil)))
    .nil))
  (.cons (.for_ [4] (.var 3)
   (.cons (.ite (.bop .And (.cons (.cmp .IsNot (.sub (.var 4) (.cst (.int 1))) (.cst .none)) (.cons (.cmp .NotEq (.sub (.sub (.var 4) (.cst (.int 1))) (.cst (.int 0))) (.var 1)) (.cons (.cmp .NotIn (.sub (.sub (.var 4) (.cst (.int 1))) (.cst (.int 0))) (.var 2)) .nil))))
    .any
    .nil)
    .nil))
  .nil)))))⟩
noncomputable def Fadds_of:Fn:=⟨1,2,
 (.cons (.ret (.comp (.var 1) [1] (.sub (.var 0) (.cst (.int 2))) (.cons (.cmp .Eq (.sub (.var 1) (.cst (.int 0))) (.cst (.str (Str.ofString "add")))) .nil)))
  .nil)⟩
noncomputable def FWeave_init:Fn:=⟨1,1,
 (.cons (.setd 0 (Str.ofString "held"))
  (.cons (.setd 0 (Str.ofString "grounds"))
  (.cons (.setd 0 (Str.ofString "heights"))
  .nil)))⟩
noncomputable def Dj:Fn:=⟨2,6,
 (.cons (.exp (.fcall 6 (.cons (.var 1) .nil)))
  (.cons (.asg 2 (.sub (.var 1) (.cst (.int 0))))
  (.cons (.ite (.cmp .In (.var 2) (.attr (Str.ofString "held") (.var 0)))
   .any
   .nil)
  (.cons (.for_ [3] (.sub (.var 1) (.cst (.int 1)))
   (.cons (.ite (.cmp .NotIn (.var 3) (.attr (Str.ofString "held") (.var 0)))
    .any
    .nil)
    .nil))
  (.cons (.exp (.mcall (Str.ofString "check_marks") (.var 0) (.cons (.var 1) .nil)))
  (.cons (.set (.attr (Str.ofString "held") (.var 0)) (.var 2) (.tup (.cons (.var 2) (.cons (.bi .list (.cons (.sub (.var 1) (.cst (.int 1))) .nil)) (.cons (.bi .list (.cons (.sub (.var 1) (.cst (.int 2))) .nil)) .nil)))))
  (.cons (.asg 4 (.dct))
  (.cons (.for_ [3] (.sub (.var 1) (.cst (.int 1)))
   (.cons (.set (.var 4) (.var 3) (.cst (.bool true)))
    (.cons (.for_ [5] (.sub (.attr (Str.ofString "grounds") (.var 0)) (.var 3))
     (.cons (.set (.var 4) (.var 5) (.cst (.bool true)))
      .nil))
    .nil)))
  (.cons (.set (.attr (Str.ofString "grounds") (.var 0)) (.var 2) (.bi .sorted (.cons (.bi .list (.cons (.var 4) .nil)) .nil)))
  (.cons (.set (.attr (Str.ofString "heights") (.var 0)) (.var 2) (.bin .Add (.cst (.int 1)) (.maxd (.comp (.sub (.attr (Str.ofString "heights") (.var 0)) (.var 3)) [3] (.sub (.var 1) (.cst (.int 1))) .nil) (.neg (.cst (.int 1))))))
  .nil))))))))))⟩
noncomputable def C6:Fn:=⟨2,6,
 (.cons (.asg 2 (.cst (.int 0)))
  (.cons (.for_ [3] (.sub (.var 1) (.cst (.int 2)))
   (.cons (.asg 4 (.sub (.var 3) (.cst (.int 1))))
    (.cons (.ite (.cmp .IsNot (.var 4) (.cst .none))
     (.cons (.asg 5 (.var 2))
      (.cons (.ite (.cmp .NotEq (.sub (.var 4) (.cst (.int 0))) (.sub (.var 1) (.cst (.int 0))))
       (.cons (.asg 5 (.bi .len (.cons (.fcall 7 (.cons (.sub (.attr (Str.ofString "held") (.var 0)) (.sub (.var 4) (.cst (.int 0)))) .nil)) .nil)))
        .nil)
       .nil)
      (.cons (.ite (.bop .Or (.cons (.cmp .Lt (.sub (.var 4) (.cst (.int 1))) (.cst (.int 0))) (.cons (.cmp .GtE (.sub (.var 4) (.cst (.int 1))) (.var 5)) .nil)))
       .any
       .nil)
      .nil)))
     .nil)
    (.cons (.ite (.cmp .Eq (.sub (.var 3) (.cst (.int 0))) (.cst (.str (Str.ofString "add"))))
     (.cons (.asg 2 (.bin .Add (.var 2) (.cst (.int 1))))
      .nil)
     .nil)
    .nil))))
  .nil))⟩
noncomputable def DL:Fn:=⟨2,2,
 (.cons (.ite (.cmp .NotIn (.var 1) (.attr (Str.ofString "held") (.var 0)))
  (.cons (.rse 5 (.cons (.cst (.str (Str.ofString "no change has this name"))) .nil))
   .nil)
  .nil)
  .nil)⟩
noncomputable def DK:Fn:=⟨2,4,
 (.cons (.exp (.mcall (Str.ofString "need") (.var 0) (.cons (.var 1) .nil)))
  (.cons (.asg 2 (.bi .sorted (.cons (.bin .Add (.mcall (Str.ofString "leaning") (.var 0) (.cons (.var 1) .nil)) (.lst (.cons (.var 1) .nil))) .nil)))
  (.cons (.for_ [3] (.var 2)
   (.cons (.exp (.meth .pop (.attr (Str.ofString "held") (.var 0)) (.cons (.var 3) .nil)))
    (.cons (.exp (.meth .pop (.attr (Str.ofString "grounds") (.var 0)) (.cons (.var 3) .nil)))
    (.cons (.exp (.meth .pop (.attr (Str.ofString "heights") (.var 0)) (.cons (.var 3) .nil)))
    .nil))))
  (.cons (.ret (.var 2))
  .nil))))⟩
noncomputable def EW:Fn:=⟨1,1,
 (.cons (.ret (.bi .sorted (.cons (.bi .list (.cons (.attr (Str.ofString "held") (.var 0)) .nil)) .nil)))
  .nil)⟩
noncomputable def CN:Fn:=⟨2,3,
 (.cons (.exp (.mcall (Str.ofString "need") (.var 0) (.cons (.var 1) .nil)))
  (.cons (.asg 2 (.sub (.attr (Str.ofString "held") (.var 0)) (.var 1)))
  (.cons (.ret (.tup (.cons (.var 1) (.cons (.bi .list (.cons (.sub (.var 2) (.cst (.int 1))) .nil)) (.cons (.bi .list (.cons (.sub (.var 2) (.cst (.int 2))) .nil)) .nil)))))
  .nil)))⟩
noncomputable def CL:Fn:=⟨2,2,
 (.cons (.exp (.mcall (Str.ofString "need") (.var 0) (.cons (.var 1) .nil)))
  (.cons (.ret (.sub (.attr (Str.ofString "heights") (.var 0)) (.var 1)))
  .nil))⟩
noncomputable def CM:Fn:=⟨2,2,
 (.cons (.exp (.mcall (Str.ofString "need") (.var 0) (.cons (.var 1) .nil)))
  (.cons (.ret (.bi .list (.cons (.sub (.attr (Str.ofString "grounds") (.var 0)) (.var 1)) .nil)))
  .nil))⟩
noncomputable def C5:Fn:=⟨2,3,
 (.cons (.exp (.mcall (Str.ofString "need") (.var 0) (.cons (.var 1) .nil)))
  (.cons (.ret (.comp (.var 2) [2] (.mcall (Str.ofString "names") (.var 0) .nil) (.cons (.cmp .In (.var 1) (.sub (.attr (Str.ofString "grounds") (.var 0)) (.var 2))) .nil)))
  .nil))⟩
noncomputable def Fcell:Fn:=⟨2,2,
 (.cons (.ite (.cmp .Lt (.var 1) (.bi .len (.cons (.var 0) .nil)))
  (.cons (.ret (.sub (.var 0) (.var 1)))
   .nil)
  .nil)
  (.cons (.ret (.cst (.int 0)))
  .nil))⟩
noncomputable def Fmixed:Fn:=⟨2,2,
 (.cons (.ret (.bin .Mod (.bin .Mult (.bin .Add (.var 0) (.bin .Mult (.cst (.int 7919)) (.var 1))) (.cst (.int 48271))) (.cst (.int 2147483647))))
  .nil)⟩
noncomputable def Fname:Fn:=⟨2,7,
 (.cons (.asg 2 (.cst (.str (Str.ofString "abcdefghijklmnopqrstuvwxyz0123456789"))))
  (.cons (.asg 3 (.fcall 10 (.cons (.var 0) (.cons (.cst (.int 5)) .nil))))
  (.cons (.asg 4 (.meth .join (.cst (.str (Str.ofString ""))) (.cons (.comp (.sub (.var 2) (.bin .Mod (.fcall 10 (.cons (.var 0) (.cons (.var 5) .nil))) (.cst (.int 36)))) [5] (.range (.cons (.bin .Add (.cst (.int 1)) (.bin .Mod (.var 3) (.cst (.int 12)))) .nil)) .nil) .nil)))
  (.cons (.ite (.cmp .Eq (.bin .Mod (.var 0) (.cst (.int 8))) (.cst (.int 1)))
   (.cons (.asg 4 (.bi .str (.cons (.bin .Mod (.var 3) (.cst (.int 130))) .nil)))
    .nil)
   .nil)
  (.cons (.ite (.bop .And (.cons (.cmp .Eq (.bin .Mod (.var 0) (.cst (.int 8))) (.cst (.int 2))) (.cons (.var 1) .nil)))
   (.cons (.asg 4 (.bin .Add (.slc (.sub (.var 1) (.neg (.cst (.int 1)))) .nil (.cst (.int 11))) (.sub (.var 2) (.bin .Mod (.var 3) (.cst (.int 36))))))
    .nil)
   .nil)
  (.cons (.ite (.bop .And (.cons (.cmp .Gt (.bin .Mod (.var 0) (.cst (.int 8))) (.cst (.int 4))) (.cons (.var 1) .nil)))
   (.cons (.asg 4 (.sub (.var 1) (.bin .Mod (.var 3) (.bi .len (.cons (.var 1) .nil)))))
    (.cons (.asg 6 (.bin .Mod (.bin .FloorDiv (.var 3) (.cst (.int 60))) (.bi .len (.cons (.var 4) .nil))))
    (.cons (.asg 4 (.bin .Add (.bin .Add (.slc (.var 4) .nil (.var 6)) (.sub (.var 2) (.bin .Mod (.bin .FloorDiv (.var 3) (.cst (.int 720))) (.cst (.int 36))))) (.slc (.var 4) (.bin .Add (.var 6) (.cst (.int 1))) .nil)))
    .nil)))
   .nil)
  (.cons (.ite (.cmp .NotIn (.var 4) (.var 1))
   (.cons (.ret (.var 4))
    .nil)
   .nil)
  (.cons (.ret (.sub (.comp (.bi .str (.cons (.var 5) .nil)) [5] (.range (.cons (.bin .Add (.bi .len (.cons (.var 1) .nil)) (.cst (.int 1))) .nil)) (.cons (.cmp .NotIn (.bi .str (.cons (.var 5) .nil)) (.var 1)) .nil)) (.cst (.int 0))))
  .nil))))))))⟩
noncomputable def Fline:Fn:=⟨1,5,
 (.cons (.asg 1 (.cst (.str (Str.ofString " !\"#$&'()*+,-./0123456789:;<=>?\x40ABCDEFGHIJKLMNOPQRSTUVWXYZ[\\]^_`"))))
  (.cons (.asg 1 (.bin .Add (.var 1) (.cst (.str (Str.ofString "abcdefghijklmnopqrstuvwxyz{|}~")))))
  (.cons (.asg 2 (.bin .Mod (.var 0) (.cst (.int 4))))
  (.cons (.ite (.cmp .Eq (.bin .Mod (.bin .FloorDiv (.var 0) (.cst (.int 4))) (.cst (.int 9))) (.cst (.int 1)))
   (.cons (.asg 2 (.bin .Mod (.bin .FloorDiv (.var 0) (.cst (.int 36))) (.cst (.int 201))))
    .nil)
   .nil)
  (.cons (.asg 3 (.meth .join (.cst (.str (Str.ofString ""))) (.cons (.comp (.sub (.var 1) (.bin .Mod (.bin .Add (.bin .FloorDiv (.var 0) (.cst (.int 7))) (.bin .Mult (.var 4) (.bin .Add (.cst (.int 1)) (.bin .Mod (.var 0) (.cst (.int 5)))))) (.cst (.int 94)))) [4] (.range (.cons (.var 2) .nil)) .nil) .nil)))
  (.cons (.ite (.bop .And (.cons (.cmp .Eq (.bin .Mod (.bin .FloorDiv (.var 0) (.cst (.int 3))) (.cst (.int 8))) (.cst (.int 1))) (.cons (.cmp .Lt (.var 2) (.cst (.int 199))) .nil)))
   (.cons (.ret (.bin .Add (.bin .Add (.slc (.var 3) .nil (.cst (.int 1))) (.cst (.str (Str.ofString ": ")))) (.slc (.var 3) (.cst (.int 1)) .nil)))
    .nil)
   .nil)
  (.cons (.ret (.var 3))
  .nil)))))))⟩
noncomputable def Fleans:Fn:=⟨2,7,
 (.cons (.asg 2 (.fcall 10 (.cons (.var 0) (.cons (.cst (.int 1)) .nil))))
  (.cons (.asg 3 (.lst .nil))
  (.cons (.for_ [4,5] (.enum (.var 1))
   (.cons (.asg 6 (.bop .And (.cons (.cmp .Eq (.var 4) (.bin .Sub (.bi .len (.cons (.var 1) .nil)) (.cst (.int 1)))) (.cons (.cmp .Eq (.bin .Mod (.var 0) (.cst (.int 7))) (.cst (.int 3))) .nil))))
    (.cons (.ite (.bop .Or (.cons (.var 6) (.cons (.bop .And (.cons (.cmp .Eq (.bin .Mod (.var 2) (.bin .Add (.cst (.int 2)) (.bin .Mod (.var 0) (.cst (.int 3))))) (.cst (.int 0))) (.cons (.bop .Or (.cons (.cmp .Lt (.bi .len (.cons (.var 1) .nil)) (.cst (.int 20))) (.cons (.cmp .Eq (.bin .Mod (.var 4) (.cst (.int 7))) (.bin .Mod (.bin .FloorDiv (.var 2) (.cst (.int 4))) (.cst (.int 7)))) .nil))) .nil))) .nil)))
     (.cons (.exp (.meth .append (.var 3) (.cons (.sub (.var 5) (.cst (.int 0))) .nil)))
      .nil)
     .nil)
    (.cons (.asg 2 (.bin .FloorDiv (.var 2) (.cst (.int 3))))
    (.cons (.ite (.cmp .Lt (.var 2) (.cst (.int 100)))
     (.cons (.asg 2 (.fcall 10 (.cons (.var 0) (.cons (.bin .Add (.var 4) (.cst (.int 2))) .nil))))
      .nil)
     .nil)
    .nil)))))
  (.cons (.ret (.bi .sorted (.cons (.var 3) .nil)))
  .nil))))⟩
noncomputable def Fmarks:Fn:=⟨1,4,
 (.cons (.asg 1 (.bi .len (.cons (.comp (.var 2) [2] (.sub (.var 0) (.cst (.int 2))) (.cons (.cmp .Eq (.sub (.var 2) (.cst (.int 0))) (.cst (.str (Str.ofString "add")))) .nil)) .nil)))
  (.cons (.ret (.comp (.tup (.cons (.sub (.var 0) (.cst (.int 0))) (.cons (.var 3) .nil))) [3] (.range (.cons (.var 1) .nil)) .nil))
  .nil))⟩
noncomputable def Fdeeds:Fn:=⟨4,13,
 (.cons (.asg 4 (.lst .nil))
  (.cons (.asg 5 (.cst (.int 0)))
  (.cons (.for_ [6] (.range (.cons (.var 2) .nil))
   (.cons (.asg 7 (.bin .Add (.var 3) (.comp (.tup (.cons (.var 0) (.cons (.var 12) .nil))) [12] (.range (.cons (.var 5) .nil)) .nil)))
    (.cons (.asg 8 (.fcall 10 (.cons (.var 1) (.cons (.var 6) .nil))))
    (.cons (.asg 9 (.bin .Mod (.bin .FloorDiv (.var 8) (.cst (.int 5))) (.bin .Add (.bi .len (.cons (.var 7) .nil)) (.cst (.int 1)))))
    (.cons (.asg 10 (.fcall 12 (.cons (.bin .FloorDiv (.var 8) (.cst (.int 365))) .nil)))
    (.cons (.ite (.bop .Or (.cons (.cmp .Lt (.bin .Mod (.var 8) (.cst (.int 5))) (.cst (.int 3))) (.cons (.not (.var 7)) .nil)))
     (.cons (.asg 11 (.cst .none))
      (.cons (.ite (.cmp .Gt (.var 9) (.cst (.int 0)))
       (.cons (.asg 11 (.sub (.var 7) (.bin .Sub (.var 9) (.cst (.int 1)))))
        .nil)
       .nil)
      (.cons (.exp (.meth .append (.var 4) (.cons (.tup (.cons (.cst (.str (Str.ofString "add"))) (.cons (.var 11) (.cons (.var 10) .nil)))) .nil)))
      (.cons (.asg 5 (.bin .Add (.var 5) (.cst (.int 1))))
      .nil))))
     (.cons (.ite (.cmp .Eq (.bin .Mod (.var 8) (.cst (.int 5))) (.cst (.int 3)))
      (.cons (.exp (.meth .append (.var 4) (.cons (.tup (.cons (.cst (.str (Str.ofString "cut"))) (.cons (.sub (.var 7) (.bin .Mod (.var 9) (.bi .len (.cons (.var 7) .nil)))) .nil))) .nil)))
       .nil)
      (.cons (.exp (.meth .append (.var 4) (.cons (.tup (.cons (.cst (.str (Str.ofString "set"))) (.cons (.sub (.var 7) (.bin .Mod (.var 9) (.bi .len (.cons (.var 7) .nil)))) (.cons (.var 10) .nil)))) .nil)))
       .nil))
      .nil))
    .nil))))))
  (.cons (.ret (.var 4))
  .nil))))⟩
noncomputable def DJ:Fn:=⟨2,10,
 (.cons (.asg 2 (.lst .nil))
  (.cons (.asg 3 (.lst (.cons (.cst (.str (Str.ofString "0"))) .nil)))
  (.cons (.for_ [4] (.range (.cons (.bi .min (.cons (.bin .FloorDiv (.bi .len (.cons (.var 0) .nil)) (.cst (.int 4))) (.cons (.var 1) .nil))) .nil))
   (.cons (.asg 5 (.fcall 11 (.cons (.sub (.var 0) (.bin .Mult (.cst (.int 4)) (.var 4))) (.cons (.var 3) .nil))))
    (.cons (.exp (.meth .append (.var 3) (.cons (.var 5) .nil)))
    (.cons (.asg 6 (.fcall 13 (.cons (.sub (.var 0) (.bin .Add (.bin .Mult (.cst (.int 4)) (.var 4)) (.cst (.int 1)))) (.cons (.var 2) .nil))))
    (.cons (.asg 7 (.lst .nil))
    (.cons (.for_ [8] (.var 2)
     (.cons (.ite (.cmp .In (.sub (.var 8) (.cst (.int 0))) (.var 6))
      (.cons (.asg 7 (.bin .Add (.var 7) (.fcall 14 (.cons (.var 8) .nil))))
       .nil)
      .nil)
      .nil))
    (.cons (.asg 9 (.bin .Mod (.sub (.var 0) (.bin .Add (.bin .Mult (.cst (.int 4)) (.var 4)) (.cst (.int 3)))) (.cst (.int 5))))
    (.cons (.ite (.cmp .Eq (.bin .Mod (.bin .FloorDiv (.sub (.var 0) (.bin .Add (.bin .Mult (.cst (.int 4)) (.var 4)) (.cst (.int 3)))) (.cst (.int 5))) (.cst (.int 16))) (.cst (.int 1)))
     (.cons (.asg 9 (.bin .Sub (.cst (.int 20)) (.bin .Mod (.bin .FloorDiv (.sub (.var 0) (.bin .Add (.bin .Mult (.cst (.int 4)) (.var 4)) (.cst (.int 3)))) (.cst (.int 80))) (.cst (.int 16)))))
      .nil)
     .nil)
    (.cons (.exp (.meth .append (.var 2) (.cons (.tup (.cons (.var 5) (.cons (.var 6) (.cons (.fcall 15 (.cons (.var 5) (.cons (.sub (.var 0) (.bin .Add (.bin .Mult (.cst (.int 4)) (.var 4)) (.cst (.int 2)))) (.cons (.var 9) (.cons (.var 7) .nil))))) .nil)))) .nil)))
    .nil)))))))))
  (.cons (.ret (.var 2))
  .nil))))⟩
noncomputable def Fdeed_like:Fn:=⟨2,4,
 (.cons (.ite (.bop .Or (.cons (.not (.bi .isinstance (.cons (.var 0) (.cons (.ty "tuple") .nil)))) (.cons (.cmp .NotEq (.bi .len (.cons (.var 0) .nil)) (.bi .len (.cons (.var 1) .nil))) (.cons (.not (.bi .isinstance (.cons (.sub (.var 0) (.cst (.int 0))) (.cons (.ty "str") .nil)))) .nil))))
  (.cons (.ret (.cst (.bool false)))
   .nil)
  .nil)
  (.cons (.ite (.cmp .IsNot (.sub (.var 1) (.cst (.int 1))) (.cst .none))
   (.cons (.asg 2 (.sub (.var 0) (.cst (.int 1))))
    (.cons (.ite (.bop .Or (.cons (.not (.bi .isinstance (.cons (.var 2) (.cons (.ty "tuple") .nil)))) (.cons (.cmp .NotEq (.bi .len (.cons (.var 2) .nil)) (.cst (.int 2))) (.cons (.not (.bi .isinstance (.cons (.sub (.var 2) (.cst (.int 0))) (.cons (.ty "str") .nil)))) .nil))))
     (.cons (.ret (.cst (.bool false)))
      .nil)
     .nil)
    (.cons (.ite (.bop .Or (.cons (.not (.bi .isinstance (.cons (.sub (.var 2) (.cst (.int 1))) (.cons (.ty "int") .nil)))) (.cons (.bi .isinstance (.cons (.sub (.var 2) (.cst (.int 1))) (.cons (.ty "bool") .nil))) .nil)))
     (.cons (.ret (.cst (.bool false)))
      .nil)
     .nil)
    .nil)))
   .nil)
  (.cons (.ret (.bop .And (.cons (.bi .all (.cons (.comp (.bi .isinstance (.cons (.var 3) (.cons (.ty "str") .nil))) [3] (.slc (.var 0) (.cst (.int 2)) .nil) .nil) .nil)) (.cons (.cmp .Eq (.var 0) (.var 1)) .nil))))
  .nil)))⟩
noncomputable def EV:Fn:=⟨2,5,
 (.cons (.ite (.bop .Or (.cons (.not (.bi .isinstance (.cons (.var 0) (.cons (.ty "tuple") .nil)))) (.cons (.cmp .NotEq (.bi .len (.cons (.var 0) .nil)) (.cst (.int 3))) (.cons (.not (.bi .isinstance (.cons (.sub (.var 0) (.cst (.int 0))) (.cons (.ty "str") .nil)))) .nil))))
  (.cons (.ret (.cst (.bool false)))
   .nil)
  .nil)
  (.cons (.ite (.bop .Or (.cons (.not (.bi .isinstance (.cons (.sub (.var 0) (.cst (.int 1))) (.cons (.ty "list") .nil)))) (.cons (.not (.bi .isinstance (.cons (.sub (.var 0) (.cst (.int 2))) (.cons (.ty "list") .nil)))) .nil)))
   (.cons (.ret (.cst (.bool false)))
    .nil)
   .nil)
  (.cons (.ite (.bop .Or (.cons (.not (.bi .all (.cons (.comp (.bi .isinstance (.cons (.var 2) (.cons (.ty "str") .nil))) [2] (.sub (.var 0) (.cst (.int 1))) .nil) .nil))) (.cons (.cmp .NotEq (.bi .len (.cons (.sub (.var 0) (.cst (.int 2))) .nil)) (.bi .len (.cons (.sub (.var 1) (.cst (.int 2))) .nil))) .nil)))
   (.cons (.ret (.cst (.bool false)))
    .nil)
   .nil)
  (.cons (.ite (.bop .Or (.cons (.cmp .NotEq (.sub (.var 0) (.cst (.int 0))) (.sub (.var 1) (.cst (.int 0)))) (.cons (.cmp .NotEq (.sub (.var 0) (.cst (.int 1))) (.sub (.var 1) (.cst (.int 1)))) .nil)))
   (.cons (.ret (.cst (.bool false)))
    .nil)
   .nil)
  (.cons (.ret (.bi .all (.cons (.comp (.fcall 70 (.cons (.var 3) (.cons (.var 4) .nil))) [3,4] (.zip (.sub (.var 0) (.cst (.int 2))) (.sub (.var 1) (.cst (.int 2)))) .nil) .nil)))
  .nil)))))⟩
noncomputable def Gc:Fn:=⟨2,8,
 (.cons (.asg 2 (.bi .list (.cons (.var 0) .nil)))
  (.cons (.asg 3 (.lst .nil))
  (.cons (.asg 4 (.lst .nil))
  (.cons (.while_ (.var 2)
   (.cons (.asg 5 (.comp (.var 6) [6] (.var 2) (.cons (.bi .all (.cons (.comp (.cmp .In (.var 7) (.var 3)) [7] (.sub (.var 6) (.cst (.int 1))) .nil) .nil)) .nil)))
    (.cons (.asg 6 (.sub (.var 5) (.bin .Mod (.fcall 10 (.cons (.var 1) (.cons (.bi .len (.cons (.var 2) .nil)) .nil))) (.bi .len (.cons (.var 5) .nil)))))
    (.cons (.exp (.meth .remove (.var 2) (.cons (.var 6) .nil)))
    (.cons (.exp (.meth .append (.var 3) (.cons (.sub (.var 6) (.cst (.int 0))) .nil)))
    (.cons (.exp (.meth .append (.var 4) (.cons (.var 6) .nil)))
    .nil))))))
  (.cons (.ret (.var 4))
  .nil)))))⟩
noncomputable def Fheights:Fn:=⟨1,4,
 (.cons (.asg 1 (.dct))
  (.cons (.for_ [2] (.var 0)
   (.cons (.set (.var 1) (.sub (.var 2) (.cst (.int 0))) (.maxd (.comp (.bin .Add (.sub (.var 1) (.var 3)) (.cst (.int 1))) [3] (.sub (.var 2) (.cst (.int 1))) .nil) (.cst (.int 0))))
    .nil))
  (.cons (.ret (.var 1))
  .nil)))⟩
noncomputable def Fground:Fn:=⟨2,7,
 (.cons (.asg 2 (.dct))
  (.cons (.for_ [3] (.var 0)
   (.cons (.set (.var 2) (.sub (.var 3) (.cst (.int 0))) (.sub (.var 3) (.cst (.int 1))))
    .nil))
  (.cons (.asg 4 (.lst .nil))
  (.cons (.asg 5 (.bi .list (.cons (.var 1) .nil)))
  (.cons (.while_ (.var 5)
   (.cons (.asg 6 (.meth .pop (.var 5) .nil))
    (.cons (.ite (.cmp .NotIn (.var 6) (.var 4))
     (.cons (.exp (.meth .append (.var 4) (.cons (.var 6) .nil)))
      (.cons (.exp (.meth .extend (.var 5) (.cons (.sub (.var 2) (.var 6)) .nil)))
      .nil))
     .nil)
    .nil)))
  (.cons (.ret (.var 4))
  .nil))))))⟩
noncomputable def FG:Fn:=⟨2,3,
 (.cons (.ite (.bop .Or (.cons (.not (.bi .isinstance (.cons (.var 0) (.cons (.ty "list") .nil)))) (.cons (.cmp .NotEq (.bi .len (.cons (.var 0) .nil)) (.bi .len (.cons (.var 1) .nil))) .nil)))
  (.cons (.ret (.cst (.bool false)))
   .nil)
  .nil)
  (.cons (.ret (.bop .And (.cons (.bi .all (.cons (.comp (.bi .isinstance (.cons (.var 2) (.cons (.ty "str") .nil))) [2] (.var 0) .nil) .nil)) (.cons (.cmp .Eq (.var 0) (.var 1)) .nil))))
  .nil))⟩
noncomputable def Fwoven:Fn:=⟨1,4,
 (.cons (.asg 1 (.new))
  (.cons (.for_ [2] (.var 0)
   (.cons (.asg 3 (.tup (.cons (.sub (.var 2) (.cst (.int 0))) (.cons (.bi .list (.cons (.sub (.var 2) (.cst (.int 1))) .nil)) (.cons (.bi .list (.cons (.sub (.var 2) (.cst (.int 2))) .nil)) .nil)))))
    (.cons (.ite (.cmp .IsNot (.mcall (Str.ofString "add") (.var 1) (.cons (.var 3) .nil)) (.cst .none))
     (.cons (.ret (.cst .none))
      .nil)
     .nil)
    (.cons (.exp (.meth .clear (.sub (.var 3) (.cst (.int 1))) .nil))
    (.cons (.exp (.meth .clear (.sub (.var 3) (.cst (.int 2))) .nil))
    .nil)))))
  (.cons (.ret (.var 1))
  .nil)))⟩
noncomputable def Fasked:Fn:=⟨3,12,
 (.cons (.asg 3 (.sub (.var 2) (.cst (.int 0))))
  (.cons (.asg 4 (.bi .sorted (.cons (.fcall 28 (.cons (.var 1) (.cons (.lst (.cons (.var 3) .nil)) .nil))) .nil)))
  (.cons (.exp (.meth .remove (.var 4) (.cons (.var 3) .nil)))
  (.cons (.asg 5 (.comp (.sub (.var 6) (.cst (.int 0))) [6] (.var 1) (.cons (.bop .And (.cons (.cmp .In (.var 3) (.fcall 28 (.cons (.var 1) (.cons (.lst (.cons (.sub (.var 6) (.cst (.int 0))) .nil)) .nil)))) (.cons (.cmp .NotEq (.sub (.var 6) (.cst (.int 0))) (.var 3)) .nil))) .nil)))
  (.cons (.asg 7 (.mcall (Str.ofString "height") (.var 0) (.cons (.var 3) .nil)))
  (.cons (.ite (.bop .Or (.cons (.not (.bi .isinstance (.cons (.var 7) (.cons (.ty "int") .nil)))) (.cons (.bi .isinstance (.cons (.var 7) (.cons (.ty "bool") .nil))) (.cons (.cmp .NotEq (.var 7) (.sub (.fcall 19 (.cons (.var 1) .nil)) (.var 3))) .nil))))
   (.cons (.ret (.cst (.bool false)))
    .nil)
   .nil)
  (.cons (.asg 8 (.mcall (Str.ofString "change") (.var 0) (.cons (.var 3) .nil)))
  (.cons (.ite (.not (.fcall 71 (.cons (.var 8) (.cons (.var 2) .nil))))
   (.cons (.ret (.cst (.bool false)))
    .nil)
   .nil)
  (.cons (.exp (.meth .append (.sub (.var 8) (.cst (.int 1))) (.cons (.cst (.str (Str.ofString "a"))) .nil)))
  (.cons (.exp (.meth .append (.sub (.var 8) (.cst (.int 2))) (.cons (.tup (.cons (.cst (.str (Str.ofString "add"))) (.cons (.cst .none) (.cons (.cst (.str (Str.ofString ""))) .nil)))) .nil)))
  (.cons (.for_ [9] (.range (.cons (.cst (.int 2)) .nil))
   (.cons (.sw2 10 11 (.cons (.mcall (Str.ofString "ground") (.var 0) (.cons (.var 3) .nil)) (.cons (.mcall (Str.ofString "leaning") (.var 0) (.cons (.var 3) .nil)) .nil)))
    (.cons (.ite (.bop .Or (.cons (.not (.fcall 24 (.cons (.var 10) (.cons (.var 4) .nil)))) (.cons (.not (.fcall 24 (.cons (.var 11) (.cons (.bi .sorted (.cons (.var 5) .nil)) .nil)))) .nil)))
     (.cons (.ret (.cst (.bool false)))
      .nil)
     .nil)
    (.cons (.exp (.meth .append (.var 10) (.cons (.cst (.str (Str.ofString "a"))) .nil)))
    (.cons (.exp (.meth .clear (.var 11) .nil))
    .nil)))))
  (.cons (.ret (.cst (.bool true)))
  .nil))))))))))))⟩
noncomputable def Falone:Fn:=⟨1,3,
 (.cons (.asg 1 (.lst (.cons (.bi .isinstance (.cons (.var 0) (.cons (.glx 2) .nil))) (.cons (.bi .isinstance (.cons (.var 0) (.cons (.glx 3) .nil))) (.cons (.bi .isinstance (.cons (.var 0) (.cons (.glx 4) .nil))) (.cons (.bi .isinstance (.cons (.var 0) (.cons (.glx 5) .nil))) .nil))))))
  (.cons (.asg 1 (.bin .Add (.var 1) (.lst (.cons (.bi .isinstance (.cons (.var 0) (.cons (.glx 6) .nil))) (.cons (.bi .isinstance (.cons (.var 0) (.cons (.glx 7) .nil))) (.cons (.bi .isinstance (.cons (.var 0) (.cons (.glx 8) .nil))) (.cons (.bi .isinstance (.cons (.var 0) (.cons (.glx 9) .nil))) .nil)))))))
  (.cons (.ret (.bop .And (.cons (.cmp .Eq (.bi .len (.cons (.comp (.var 2) [2] (.var 1) (.cons (.var 2) .nil)) .nil)) (.cst (.int 1))) (.cons (.bi .isinstance (.cons (.var 0) (.cons (.glx 1) .nil))) (.cons (.bi .isinstance (.cons (.var 0) (.cons (.ty "ValueError") .nil))) .nil)))))
  .nil)))⟩
noncomputable def Frefused:Fn:=⟨3,4,
 (.cons (.tryAs
  (.cons (.ite (.cmp .Eq (.var 2) (.cst (.int 0)))
   (.cons (.exp (.mcall (Str.ofString "change") (.var 0) (.cons (.var 1) .nil)))
    .nil)
   (.cons (.ite (.cmp .Eq (.var 2) (.cst (.int 1)))
    (.cons (.exp (.mcall (Str.ofString "height") (.var 0) (.cons (.var 1) .nil)))
     .nil)
    (.cons (.ite (.cmp .Eq (.var 2) (.cst (.int 2)))
     (.cons (.exp (.mcall (Str.ofString "ground") (.var 0) (.cons (.var 1) .nil)))
      .nil)
     (.cons (.ite (.cmp .Eq (.var 2) (.cst (.int 3)))
      (.cons (.exp (.mcall (Str.ofString "leaning") (.var 0) (.cons (.var 1) .nil)))
       .nil)
      (.cons (.exp (.mcall (Str.ofString "take") (.var 0) (.cons (.var 1) .nil)))
       .nil))
      .nil))
     .nil))
    .nil))
   .nil)
  [(5,3,.fcall 73 (.cons (.var 3) .nil))])
  (.cons (.ret (.cst (.bool false)))
  .nil))⟩
noncomputable def Fheld:Fn:=⟨1,3,
 (.cons (.ret (.bi .all (.cons (.comp (.cmp .Eq (.bi .repr (.cons (.var 1) .nil)) (.var 2)) [1,2] (.var 0) .nil) .nil)))
  .nil)⟩
noncomputable def Flaw:Fn:=⟨1,12,
 (.cons (.asg 1 (.fcall 16 (.cons (.slc (.var 0) (.cst (.int 2)) .nil) (.cons (.cst (.int 12)) .nil))))
  (.cons (.asg 2 (.fcall 27 (.cons (.fcall 18 (.cons (.var 1) (.cons (.fcall 9 (.cons (.var 0) (.cons (.cst (.int 0)) .nil))) .nil))) .nil)))
  (.cons (.ite (.cmp .Is (.var 2) (.cst .none))
   (.cons (.ret (.cst (.bool false)))
    .nil)
   .nil)
  (.cons (.asg 3 (.bi .sorted (.cons (.comp (.sub (.var 4) (.cst (.int 0))) [4] (.var 1) .nil) .nil)))
  (.cons (.asg 5 (.lst .nil))
  (.cons (.for_ [4] (.var 1)
   (.cons (.for_ [6] (.lst (.cons (.mcall (Str.ofString "ground") (.var 2) (.cons (.sub (.var 4) (.cst (.int 0))) .nil)) (.cons (.mcall (Str.ofString "leaning") (.var 2) (.cons (.sub (.var 4) (.cst (.int 0))) .nil)) (.cons (.mcall (Str.ofString "change") (.var 2) (.cons (.sub (.var 4) (.cst (.int 0))) .nil)) (.cons (.mcall (Str.ofString "names") (.var 2) .nil) .nil)))))
    (.cons (.exp (.meth .append (.var 5) (.cons (.tup (.cons (.var 6) (.cons (.bi .repr (.cons (.var 6) .nil)) .nil))) .nil)))
     .nil))
    .nil))
  (.cons (.for_ [7] (.range (.cons (.cst (.int 2)) .nil))
   (.cons (.asg 8 (.mcall (Str.ofString "names") (.var 2) .nil))
    (.cons (.ite (.not (.fcall 24 (.cons (.var 8) (.cons (.var 3) .nil))))
     (.cons (.ret (.cst (.bool false)))
      .nil)
     .nil)
    (.cons (.exp (.meth .append (.var 8) (.cons (.cst (.str (Str.ofString "a"))) .nil)))
    (.cons (.for_ [4] (.var 1)
     (.cons (.ite (.not (.fcall 72 (.cons (.var 2) (.cons (.var 1) (.cons (.var 4) .nil)))))
      (.cons (.ret (.cst (.bool false)))
       .nil)
      .nil)
      .nil))
    .nil)))))
  (.cons (.asg 9 (.fcall 11 (.cons (.fcall 9 (.cons (.var 0) (.cons (.cst (.int 1)) .nil))) (.cons (.var 3) .nil))))
  (.cons (.ite (.not (.bi .all (.cons (.comp (.fcall 74 (.cons (.var 2) (.cons (.var 9) (.cons (.var 10) .nil)))) [10] (.range (.cons (.cst (.int 5)) .nil)) .nil) .nil)))
   (.cons (.ret (.cst (.bool false)))
    .nil)
   .nil)
  (.cons (.asg 11 (.tup (.cons (.var 9) (.cons (.bi .sorted (.cons (.var 3) .nil)) (.cons (.lst (.cons (.tup (.cons (.cst (.str (Str.ofString "add"))) (.cons (.cst .none) (.cons (.cst (.str (Str.ofString "x"))) .nil)))) .nil)) .nil)))))
  (.cons (.exp (.mcall (Str.ofString "add") (.var 2) (.cons (.tup (.cons (.var 9) (.cons (.bi .sorted (.cons (.var 3) .nil)) (.cons (.lst (.cons (.tup (.cons (.cst (.str (Str.ofString "add"))) (.cons (.cst .none) (.cons (.cst (.str (Str.ofString "x"))) .nil)))) .nil)) .nil)))) .nil)))
  (.cons (.ite (.bop .Or (.cons (.not (.fcall 72 (.cons (.var 2) (.cons (.bin .Add (.var 1) (.lst (.cons (.var 11) .nil))) (.cons (.var 11) .nil))))) (.cons (.cmp .NotEq (.mcall (Str.ofString "take") (.var 2) (.cons (.var 9) .nil)) (.lst (.cons (.var 9) .nil))) .nil)))
   (.cons (.ret (.cst (.bool false)))
    .nil)
   .nil)
  (.cons (.ret (.bop .And (.cons (.fcall 65 (.cons (.var 5) .nil)) (.cons (.bi .all (.cons (.comp (.fcall 74 (.cons (.var 2) (.cons (.var 9) (.cons (.var 10) .nil)))) [10] (.range (.cons (.cst (.int 5)) .nil)) .nil) .nil)) .nil))))
  .nil)))))))))))))⟩
noncomputable def DB:List (Nat×Str×Fn×List Str):=[
 (2,Str.ofString "is_name",Fis_name,[Str.ofString "thing",Str.ofString "sign"]),
 (3,Str.ofString "is_line",Fis_line,[Str.ofString "thing",Str.ofString "sign"]),
 (4,Str.ofString "check_leans",EU,[Str.ofString "name",Str.ofString "leans",Str.ofString "lean",Str.ofString "one",Str.ofString "other"]),
 (5,Str.ofString "check_deed",FH,[Str.ofString "deed"]),
 (6,Str.ofString "check",Fcheck,[Str.ofString "change",Str.ofString "name",Str.ofString "leans",Str.ofString "deeds",Str.ofString "deed"]),
 (7,Str.ofString "adds_of",Fadds_of,[Str.ofString "change",Str.ofString "deed"]),
 (9,Str.ofString "_law_cell",Fcell,[Str.ofString "_law_script",Str.ofString "_law_k"]),
 (10,Str.ofString "_law_mixed",Fmixed,[Str.ofString "_law_cell_here",Str.ofString "_law_k"]),
 (11,Str.ofString "_law_name",Fname,[Str.ofString "_law_cell_here",Str.ofString "_law_taken",Str.ofString "_law_signs",Str.ofString "_law_left",Str.ofString "_law_found",Str.ofString "_law_j",Str.ofString "_law_at"]),
 (12,Str.ofString "_law_line",Fline,[Str.ofString "_law_cell_here",Str.ofString "_law_some",Str.ofString "_law_size",Str.ofString "_law_found",Str.ofString "_law_j"]),
 (13,Str.ofString "_law_leans",Fleans,[Str.ofString "_law_cell_here",Str.ofString "_law_ahead",Str.ofString "_law_left",Str.ofString "_law_found",Str.ofString "_law_k",Str.ofString "_law_change",Str.ofString "_law_last"]),
 (14,Str.ofString "_law_marks",Fmarks,[Str.ofString "_law_change",Str.ofString "_law_many",Str.ofString "_law_deed",Str.ofString "_law_j"]),
 (15,Str.ofString "_law_deeds",Fdeeds,[Str.ofString "_law_name_here",Str.ofString "_law_cell_here",Str.ofString "_law_many",Str.ofString "_law_marks_here",Str.ofString "_law_deeds_here",Str.ofString "_law_own",Str.ofString "_law_k",Str.ofString "_law_known",Str.ofString "_law_left",Str.ofString "_law_at",Str.ofString "_law_line_here",Str.ofString "_law_mark",Str.ofString "_law_j"]),
 (16,Str.ofString "_law_changes",DJ,[Str.ofString "_law_cells",Str.ofString "_law_most",Str.ofString "_law_found",Str.ofString "_law_taken",Str.ofString "_law_k",Str.ofString "_law_name_here",Str.ofString "_law_leans_here",Str.ofString "_law_marks_here",Str.ofString "_law_change",Str.ofString "_law_many"]),
 (70,Str.ofString "_law_deed_like",Fdeed_like,[Str.ofString "_law_found",Str.ofString "_law_due",Str.ofString "_law_mark",Str.ofString "_law_one"]),
 (71,Str.ofString "_law_change_like",EV,[Str.ofString "_law_found",Str.ofString "_law_due",Str.ofString "_law_lean",Str.ofString "_law_one",Str.ofString "_law_other"]),
 (18,Str.ofString "_law_turned",Gc,[Str.ofString "_law_changes_here",Str.ofString "_law_cell_here",Str.ofString "_law_left",Str.ofString "_law_there",Str.ofString "_law_found",Str.ofString "_law_ready",Str.ofString "_law_change",Str.ofString "_law_lean"]),
 (19,Str.ofString "_law_heights",Fheights,[Str.ofString "_law_changes_here",Str.ofString "_law_found",Str.ofString "_law_change",Str.ofString "_law_lean"]),
 (28,Str.ofString "_law_ground",Fground,[Str.ofString "_law_changes_here",Str.ofString "_law_names",Str.ofString "_law_leans_here",Str.ofString "_law_change",Str.ofString "_law_found",Str.ofString "_law_waiting",Str.ofString "_law_name_here"]),
 (24,Str.ofString "_law_texts_like",FG,[Str.ofString "_law_found",Str.ofString "_law_due",Str.ofString "_law_one"]),
 (27,Str.ofString "_law_woven",Fwoven,[Str.ofString "_law_changes_here",Str.ofString "_law_weave",Str.ofString "_law_change",Str.ofString "_law_handed"]),
 (72,Str.ofString "_law_asked",Fasked,[Str.ofString "_law_weave",Str.ofString "_law_changes_here",Str.ofString "_law_change",Str.ofString "_law_name_here",Str.ofString "_law_ground_here",Str.ofString "_law_leaning",Str.ofString "_law_one",Str.ofString "_law_height",Str.ofString "_law_told",Str.ofString "_law_turn",Str.ofString "_law_some",Str.ofString "_law_others"]),
 (73,Str.ofString "_law_alone",Falone,[Str.ofString "_law_e",Str.ofString "_law_some",Str.ofString "_law_one"]),
 (74,Str.ofString "_law_refused",Frefused,[Str.ofString "_law_weave",Str.ofString "_law_name_here",Str.ofString "_law_way",Str.ofString "_law_e"]),
 (65,Str.ofString "_law_held",Fheld,[Str.ofString "_law_held_here",Str.ofString "_law_one",Str.ofString "_law_other"]),
 (34,Str.ofString "law",Flaw,[Str.ofString "_law_script",Str.ofString "_law_changes_here",Str.ofString "_law_weave",Str.ofString "_law_names",Str.ofString "_law_change",Str.ofString "_law_held_here",Str.ofString "_law_some",Str.ofString "_law_turn",Str.ofString "_law_found",Str.ofString "_law_other",Str.ofString "_law_way",Str.ofString "_law_more"])]
noncomputable def CP:List (Nat×Str×Fn×List Str):=[
 (35,Str.ofString "__init__",FWeave_init,[Str.ofString "self"]),
 (36,Str.ofString "add",Dj,[Str.ofString "self",Str.ofString "change",Str.ofString "name",Str.ofString "lean",Str.ofString "ground",Str.ofString "other"]),
 (37,Str.ofString "check_marks",C6,[Str.ofString "self",Str.ofString "change",Str.ofString "own",Str.ofString "deed",Str.ofString "mark",Str.ofString "many"]),
 (38,Str.ofString "need",DL,[Str.ofString "self",Str.ofString "name"]),
 (39,Str.ofString "take",DK,[Str.ofString "self",Str.ofString "name",Str.ofString "out",Str.ofString "one"]),
 (40,Str.ofString "names",EW,[Str.ofString "self"]),
 (41,Str.ofString "change",CN,[Str.ofString "self",Str.ofString "name",Str.ofString "held"]),
 (42,Str.ofString "height",CL,[Str.ofString "self",Str.ofString "name"]),
 (43,Str.ofString "ground",CM,[Str.ofString "self",Str.ofString "name"]),
 (44,Str.ofString "leaning",C5,[Str.ofString "self",Str.ofString "name",Str.ofString "one"])]
noncomputable def glsP:List (Str×GV):=[
 (Str.ofString "is_name",.fn 2),
 (Str.ofString "is_line",.fn 3),
 (Str.ofString "check_leans",.fn 4),
 (Str.ofString "check_deed",.fn 5),
 (Str.ofString "check",.fn 6),
 (Str.ofString "adds_of",.fn 7),
 (Str.ofString "_law_cell",.fn 9),
 (Str.ofString "_law_mixed",.fn 10),
 (Str.ofString "_law_name",.fn 11),
 (Str.ofString "_law_line",.fn 12),
 (Str.ofString "_law_leans",.fn 13),
 (Str.ofString "_law_marks",.fn 14),
 (Str.ofString "_law_deeds",.fn 15),
 (Str.ofString "_law_changes",.fn 16),
 (Str.ofString "_law_deed_like",.fn 70),
 (Str.ofString "_law_change_like",.fn 71),
 (Str.ofString "_law_turned",.fn 18),
 (Str.ofString "_law_heights",.fn 19),
 (Str.ofString "_law_ground",.fn 28),
 (Str.ofString "_law_texts_like",.fn 24),
 (Str.ofString "_law_woven",.fn 27),
 (Str.ofString "_law_asked",.fn 72),
 (Str.ofString "_law_alone",.fn 73),
 (Str.ofString "_law_refused",.fn 74),
 (Str.ofString "_law_held",.fn 65),
 (Str.ofString "BadChange",.exc 2),
 (Str.ofString "MOST_DEEDS",.cst (.int 20)),
 (Str.ofString "MOST_LINE",.cst (.int 200)),
 (Str.ofString "MOST_NAME",.cst (.int 12)),
 (Str.ofString "Missing",.exc 5),
 (Str.ofString "NAME_SIGNS",.cst (.str (Str.ofString "abcdefghijklmnopqrstuvwxyz0123456789"))),
 (Str.ofString "NoLine",.exc 6),
 (Str.ofString "NoNote",.exc 9),
 (Str.ofString "NotLeaned",.exc 3),
 (Str.ofString "Other",.exc 7),
 (Str.ofString "Ring",.exc 8),
 (Str.ofString "Twice",.exc 4),
 (Str.ofString "ValueError",.ty "ValueError"),
 (Str.ofString "Weave",.cls),
 (Str.ofString "WeaveError",.exc 1),
 (Str.ofString "all",.bi .all),
 (Str.ofString "bool",.ty "bool"),
 (Str.ofString "enumerate",.ty "enumerate"),
 (Str.ofString "int",.ty "int"),
 (Str.ofString "isinstance",.bi .isinstance),
 (Str.ofString "len",.bi .len),
 (Str.ofString "list",.ty "list"),
 (Str.ofString "max",.bi .max),
 (Str.ofString "min",.bi .min),
 (Str.ofString "ord",.bi .ord),
 (Str.ofString "range",.ty "range"),
 (Str.ofString "repr",.bi .repr),
 (Str.ofString "sorted",.bi .sorted),
 (Str.ofString "str",.ty "str"),
 (Str.ofString "tuple",.ty "tuple"),
 (Str.ofString "zip",.ty "zip")]
noncomputable def excP:List (Nat×Str):=[(2,Str.ofString "BadChange"),(5,Str.ofString "Missing"),(6,Str.ofString "NoLine"),(9,Str.ofString "NoNote"),(3,Str.ofString "NotLeaned"),(7,Str.ofString "Other"),(8,Str.ofString "Ring"),(4,Str.ofString "Twice"),(1,Str.ofString "WeaveError")]
noncomputable def cauP:List Nat:=[5]
@[irreducible] noncomputable def Pg (f:Nat):Option Fn:=((DB++CP).find? fun x=>Nat.beq x.1 f).map (·.2.2.1)
@[irreducible] noncomputable def glP (n:Str):Option GV:=glsP.lookup n
@[irreducible] noncomputable def mtP (n:Str):Option Nat:=(CP.find? fun x=>x.2.1 == n).map (·.1)
end Mine
namespace Mine
open PySem PySem.Calls
structure TopOk (T:Top):Prop where
 nolimit:T.h0.NoLimit
 seer:T.h0.NoSeer
 tree:T.prog.given.tree=none
 mods:∃ o,T.h0.get? sysModules=some o
 tf:∀ t q q',(t,q)∈T.tabs->(t,q')∈T.tabs->q=q'
noncomputable def A7:Bi->Value
 | .len=>.builtin "len"
 | .sorted=>.builtin "sorted"
 | .min=>.builtin "min"
 | .isinstance=>.builtin "isinstance"
 | .str=>.type "str"
 | .all=>.builtin "all"
 | .any=>.builtin "any"
 | .max=>.builtin "max"
 | .list=>.type "list"
 | .ord=>.builtin "ord"
 | .int=>.type "int"
 | .repr=>.builtin "repr"
noncomputable def GVal (T:Top):GV->Value->Prop
 | .fn f,x=>∃ a,T.fn f=some a/\x=.ref a
 | .bi b,x=>x=A7 b
 | .ty t,x=>x=.type t
 | .cst d,x=>Ax T.h0.get? d x
 | .cls,x=>x=.ref T.cls
 | .exc k,x=>∃ a,T.exc k=some a/\x=.ref a
structure Ready (T:Top) (gl:Str->Option GV):Prop where
 ok:TopOk T
 fnob:∀ f a,T.fn f=some a->∃ o fd,T.h0.get? a=some o/\o.data=.func fd
 ns:∃ mg mb,T.h0.Ns mainGlobals mg/\T.h0.Ns builtinsNs mb/\(∀ n v,gl n=some v->∃ x,GVal T v x/\(mg n=some x\/(mg n=none/\mb n=some x))) ∧
  ∃ bm ob,mg "__builtins__" = some (.ref bm)/\bm≠builtinsNs/\T.h0.get? bm=some ob/\ob.cls=.type "module"/\ob.dict=some builtinsNs/\ob.data=.plain
structure FnIs (T:Top) (gl:Str->Option GV) (fn:Fn) (a:Addr) (fd:FuncData) (body:List Stmt) (o:Obj) (vars:List Str) (lam:Option (Addr×Str)):Prop where
 ob:T.h0.get? a=some o
 data:o.data=.func fd
 code:T.h0.CodeRec fd.code fd.qualname
 bd:fd.body=.stmts body
 clo:fd.closure=[]
 glob:fd.globals=mainGlobals
 blt:fd.builtins=builtinsNs
 kind:fd.scope.kind=.function
 gen:fd.scope.isGenerator=false
 cor:fd.scope.isCoroutine=false
 nd:vars.Nodup
 bind:∀ vals:List Value,vals.length=fn.np->bindArgs fd ⟨vals,[]⟩=pure ((vars.take fn.np).zip vals)
 par:∀ n,n∈vars.take fn.np->fd.scope.names.lookup n=some .local\/fd.scope.names.lookup n=some .cell
 nof:∀ p,p∈fd.scope.names->p.2≠.free
 is:IsSs fn.body ⟨vars,fd.scope.names,vars,gl,lam⟩ body
 lam:∀ t q,lam=some (t,q)->(t,q)∈T.tabs/\(fd.qualname++(".<locals>." : Str))++("<lambda>" : Str)=q/\∃ c,fd.code=.ref c/\W.CodeHd T.h0 c t
def FnOk (T:Top) (gl:Str->Option GV) (fn:Fn) (a:Addr):Prop:=∀ R_:Prop,(∀ fd body o vars lam,FnIs T gl fn a fd body o vars lam->R_)->R_
structure ClsNs (T:Top) (mN:Str->Option Value):Prop where
 ga:mN "__getattribute__" = none
 ge:mN "__getattr__" = none
 se:mN "__setattr__" = none
 att:∀ nm,nm∈Ca->mN nm=none
 mt:∀ nm f,mtP nm=some f->nm∉Ca/\∃ a o,T.fn f=some a/\mN nm=some (.ref a)/\T.h0.get? a=some o/\o.cls=.type "function"
def ExcC (T:Top) (C:Addr):Prop:=∃ (x:Str) (bm:List Value) (newId B initId:String) (mg:Str->Option Value),PyProof.Rows.OwnCls x C bm newId mg T.h0/\ExcBaseFacts B newId initId bm
def XcV (T:Top) (k:Nat) (w:Value):Prop:=bif Nat.beq k 0 then w=.type "ValueError" else ∃ a,T.exc k=some a/\w=.ref a
noncomputable def Bp (c k:Nat):Bool:=Nat.beq c k||(Nat.beq k 1||Nat.beq k 0)
def IsiOk (T:Top):Prop:=∀ (c k:Nat) (D:Addr) (w:Value),c∈cauP->k < 10->T.exc c=some D->XcV T k w->∀ (A:Around) (Q:Value->Shared->Prop) (E:Value->Shared->Prop) (s:Shared) (e:Addr) (o:Obj) (vs:Array Value),(∀ b o,T.h0.get? b=some o->s.heap.get? b=some o)->s.heap.get? e=some o->o.cls=.ref D->o.dict=none->o.data=.fields vs->(∀ tk,Q (.bool (Bp c k)) { s with toks:=tk })->wpAny (model T.prog T.w) A (call (.builtin "isinstance") [.ref e,w]) Q E s
structure ProgOk (T:Top):Prop extends Ready T glP where
 fns:∀ f fn a,Pg f=some fn->T.fn f=some a->FnOk T glP fn a
 cls:∃ N mN,PyProof.Rows.ClsAt T.h0 T.cls N mN/\ClsNs T mN
 excs:∀ k C,T.exc k=some C->ExcC T C
 isi:IsiOk T
structure Ar where
 T:Top
 fe:List Env
 A:Around
noncomputable abbrev Ar.wp {α:Type} (r:Ar) (m:Sem α) (Q:α->Shared->Prop) (s:Shared):Prop:=wpAny (model r.T.prog r.T.w) r.A m Q (fun _ _=>False) s
structure TopFr (e:Env):Prop where
 kind:e.scope.kind≠.module
 gen:e.scope.isGenerator=false
 cor:e.scope.isCoroutine=false
 blt:e.builtins=builtinsNs
 glob:e.globals=mainGlobals
inductive HExc (g:G) (hd:Option Value):Prop
 | mk (b:Addr) (o:Obj) (vs:Array Value) (h1:hd=some (.ref b)) (h2:g.fz b=some o) (h3:o.data=.fields vs/\vs[2]? = some .none):HExc g hd
def HOk (n:Nat) (g:G) (A:Around):Prop:=(A.handled=none\/(n < 3/\HExc g A.handled))/\A.guards=some []
theorem HOk.none {n:Nat} {g:G} {A:Around} (h:HOk n g A) (hn:3<=n):A.handled=none:=h.1.elim id fun q=>absurd q.1 (Nat.not_lt.mpr hn)
theorem HOk.less {n m:Nat} {g:G} {A:Around} (h:HOk n g A) (hm:m<=n):HOk m g A:=⟨h.1.imp id fun q=>⟨Nat.lt_of_le_of_lt hm q.1,q.2⟩,h.2⟩
def Bx (g:G) (fe:List Env):Prop:=∀ e,e∈fe->TopFr e/\∃ L o es ep,e.frame=some L/\g.hid L=some o/\o.cls=frC/\o.data=.dict es ep
theorem Bx.mono {g g':G} {fe:List Env} (x:Bx g fe) (h:∀ a,g'.hid a=g.hid a):Bx g' fe:=fun e he=>⟨(x e he).1,by obtain ⟨L,o,es,ep,h1,h2,h3⟩:=(x e he).2; exact ⟨L,o,es,ep,h1,(h L).trans h2,h3⟩⟩
theorem Bx.hideF {g:G} {fe:List Env} {a:Addr} {o:Obj} {es:Array DictEntry} {ep:Nat} (x:Bx g fe) (h:o.cls=frC) (d:o.data=.dict es ep):Bx (g.hide a o) fe:=fun e he=>⟨(x e he).1,by
 obtain ⟨L,o',es',ep',h1,h2,h3⟩:=(x e he).2
 by_cases q:L=a
 ·exact ⟨L,o,es,ep,h1,if_pos q,h,d⟩
 ·exact ⟨L,o',es',ep',h1,(if_neg q).trans h2,h3⟩⟩
structure At (n:Nat) (r:Ar) (g:G) (σ:Ab) (s:Shared):Prop where
 ok:ProgOk r.T
 frames:r.A.frames=some r.fe
 top:∃ e l,r.fe=e::l/\TopFr e
 depth:r.A.depth+n<=600
 units:r.A.units+100 * n<=9000
 hh:HOk n g r.A
 frs:Bx g r.fe
 has:Has r.T g σ s
theorem HOk.mono {n:Nat} {g g':G} {A:Around} (h:HOk n g A) (le:G.up g g'):HOk n g' A:=⟨h.1.imp id fun q=>⟨q.1,by obtain ⟨b,o,vs,h1,h2,h3⟩:=q.2; exact ⟨b,o,vs,h1,le.fz _ _ h2,h3⟩⟩,h.2⟩
section
variable {n m:Nat} {r:Ar} {g g':G} {σ σ':Ab} {s s':Shared} {own:List Addr}
theorem At.step (x:At n r g σ s) (le:G.le [] g g') (h:Has r.T g' σ' s'):At n r g' σ' s':=⟨x.ok,x.frames,x.top,x.depth,x.units,x.hh.mono le.toup,x.frs.mono fun a=>le.hid a List.not_mem_nil,h⟩
theorem At.stepF (x:At n r g σ s) (le:G.up g g') (f:Bx g' r.fe) (h:Has r.T g' σ' s'):At n r g' σ' s':=⟨x.ok,x.frames,x.top,x.depth,x.units,x.hh.mono le,f,h⟩
theorem At.less (x:At n r g σ s) (h:m<=n):At m r g σ s:=⟨x.ok,x.frames,x.top,Nat.le_trans (Nat.add_le_add_left h _) x.depth,Nat.le_trans (Nat.add_le_add_left (Nat.mul_le_mul_left _ h) _) x.units,x.hh.less h,x.frs,x.has⟩
theorem At.nolimit (x:At n r g σ s):s.heap.NoLimit:=x.ok.ok.nolimit.keeps fun b o e=>x.has.fz b o (x.has.base b o e)
theorem At.pylong (x:At n r g σ s):PylongRoom (model r.T.prog r.T.w) r.A s:=by
 obtain ⟨e,l,hf,t⟩:=x.top
 exact PylongRoom.of x.nolimit (Nat.lt_of_le_of_lt (Nat.add_le_add_right (Nat.le_trans (Nat.le_add_right _ _) x.depth) 100) (show 600+100 < 1000 by decide)) (SeerAt.of (x.ok.ok.seer.keeps fun b o e=>x.has.fz b o (x.has.base b o e)) x.ok.ok.tree (hf▸x.frames) t.gen t.cor t.blt t.glob)
theorem At.room (x:At n r g σ s):r.A.units+41 < cLine:=Nat.lt_of_le_of_lt (Nat.add_le_add_right (Nat.le_trans (Nat.le_add_right _ _) x.units) 41) (show 9000+41 < 9900 by decide)
end
noncomputable abbrev Ans (r:Ar) (g:G) (v:V) (σ':Ab) (x:Value) (s':Shared):Prop:=B9 r.T [] g σ' (fun g'=>Ak r.T g' v x) s'
def Pr1 (m:Value->Sem Value) (x:V) (σ:Ab) (v:V) (σ':Ab) (k:Nat:=0):Prop :=
 ∀ (r:Ar) (g:G) (s:Shared) (X:Value),At k r g σ s->Ak r.T g x X->r.wp (m X) (Ans r g v σ') s
def Pr2 (m:Value->Value->Sem Value) (x y:V) (σ:Ab) (v:V) (σ':Ab) (k:Nat:=0):Prop :=
 ∀ (r:Ar) (g:G) (s:Shared) (X Y:Value),At k r g σ s->Ak r.T g x X->Ak r.T g y Y->r.wp (m X Y) (Ans r g v σ') s
def PrL (m:List Value->Sem Value) (xs:List V) (σ:Ab) (v:V) (σ':Ab) (k:Nat:=0):Prop :=
 ∀ (r:Ar) (g:G) (s:Shared) (Xs:List Value),At k r g σ s->Ao r.T g xs Xs->r.wp (m Xs) (Ans r g v σ') s
theorem Pr1.up {m:Value->Sem Value} {x v:V} {σ σ':Ab} {k:Nat} (h:Pr1 m x σ v σ'):Pr1 m x σ v σ' k:=fun r g s X A=>h r g s X (A.less (Nat.zero_le _))
theorem Pr2.up {m:Value->Value->Sem Value} {x y v:V} {σ σ':Ab} {k:Nat} (h:Pr2 m x y σ v σ'):Pr2 m x y σ v σ' k:=fun r g s X Y A=>h r g s X Y (A.less (Nat.zero_le _))
def FA (n f:Nat) (xs:List V) (σ:Ab) (v:V) (σ':Ab):Prop :=
 ∀ (r:Ar) (g:G) (s:Shared) (a:Addr) (Xs:List Value),r.T.fn f=some a->At n r g σ s->Ao r.T g xs Xs->r.wp (call (.ref a) Xs) (Ans r g v σ') s
noncomputable abbrev FN (n f:Nat) (xs:List V) (σ:Ab) (v:V) (σ':Ab):Prop:=FA (n+3) f xs σ v σ'
def NsF (f:Addr->Option Obj) (a:Addr) (m:Str->Option Value):Prop:=∃ o es ep,f a=some o/\o.data=.dict es ep/\StrKeys es/\∀ name,nsFind es name=m name
def Ek (f:Addr->Option Obj) (c:Addr) (v:Option Value):Prop:=∃ o,f c=some o/\o.data=.cell v
structure Cx extends Ar where
 K:Kx
 env:Env
 own:List Addr
structure FR (n:Nat) (c:Cx):Prop where
 rd:Ready c.T c.K.gl
 names:c.env.scope.names=c.K.names
 kind:c.env.scope.kind=.function
 glob:c.env.globals=mainGlobals
 blt:c.env.builtins=builtinsNs
 hfr:∃ e l,c.fe=e::l/\c.env.frame=e.frame
 cinj:∀ m m' a,c.env.cells.lookup m=some a->c.env.cells.lookup m'=some a->m=m'
 nd:c.K.vars.Nodup
 oloc:c.env.locals∈c.own
 ocell:∀ m,m∈c.K.wr->∀ a,c.env.kindOf m=some .cell->c.env.cells.lookup m=some a->a∈c.own
 lamc:∀ t q,c.K.lam=some (t,q)->1<=n/\(t,q)∈c.T.tabs/\c.env.qual++("<lambda>" : Str)=q/\∃ a,c.env.code=.ref a/\W.CodeHd c.T.h0 a t
structure Loc (c:Cx) (ρ:Ag) (g:G):Prop where
 ns:∀ R_:Prop,(∀ m,NsF g.hid c.env.locals m->(∀ (i:Nat) (nm:Str) (v:V),c.K.vars[i]? = some nm->ρ[i]? = some (some v)->c.env.kindOf nm=some .local->∃ x,m nm=some x/\Ak c.T g v x)->R_)->R_
 ce:∀ nm,c.env.kindOf nm=some .cell\/c.env.kindOf nm=some .free->∀ R_:Prop,(∀ a u,c.env.cells.lookup nm=some a->Ek g.hid a u->(∀ (i:Nat) (v:V),c.K.vars[i]? = some nm->ρ[i]? = some (some v)->∃ x,u=some x/\Ak c.T g v x)->R_)->R_
 ow:∀ a,a∈c.own->g.hid a≠none
structure Inv (n:Nat) (c:Cx) (ρ:Ag) (g:G) (σ:Ab) (s:Shared):Prop extends At n c.toAr g σ s where
 cx:FR n c
 loc:Loc c ρ g
def SE (n:Nat) (e:E) (ρ:Ag) (σ:Ab) (v:V) (σ':Ab):Prop :=
 ∀ (c:Cx) (g:G) (s:Shared) (ex:Expr),IsE e c.K ex->Inv n c ρ g σ s->c.wp (eval ex c.env) (Ans c.toAr g v σ') s
def ST (n:Nat) (e:E) (ρ:Ag) (σ:Ab) (b:Bool) (σ':Ab):Prop :=
 ∀ (c:Cx) (g:G) (s:Shared) (ex:Expr),IsE e c.K ex->Inv n c ρ g σ s->c.wp (isTrue ex c.env (eval ex c.env)) (fun x s'=>B9 c.T [] g σ' (fun _=>x=b) s') s
def SEs (n:Nat) (e:E) (ρ:Ag) (σ:Ab) (vs:List V) (σ':Ab):Prop :=
 ∀ (c:Cx) (g:G) (s:Shared) (xs:List Expr) (pos:Pos),Dt e c.K xs->Inv n c ρ g σ s->c.wp (spliced (backTo pos (starEach xs c.env))) (fun xs s'=>B9 c.T [] g σ' (fun g'=>Ao c.T g' vs xs) s') s
set_option genCtorIdx true in
inductive Fl where
 | next (ρ:Ag)
 | ret (v:V)
def AW (n:Nat) (c:Cx) (g:G) (Q:Fl->Ab->Prop) (f:Flow) (s':Shared):Prop :=
 ∀ R_:Flow->Prop,(∀ (ρ:Ag) (σ':Ab) (g':G),Q (.next ρ) σ'->G.le c.own g g'->Inv n c ρ g' σ' s'->R_ .next) ->
  (∀ (v:V) (x:Value) (σ':Ab) (g':G),Q (.ret v) σ'->G.le c.own g g'->Has c.T g' σ' s'->(∀ a,a∈c.own->g'.hid a≠none)->Ak c.T g' v x->R_ (.ret x))->R_ f
def SS (n:Nat) (st:S) (ρ:Ag) (σ:Ab) (Q:Fl->Ab->Prop):Prop :=
 ∀ (c:Cx) (g:G) (s:Shared) (x:Stmt),IsS st c.K x->Inv n c ρ g σ s->c.wp (exec x c.env) (AW n c g Q) s
def SSs (n:Nat) (st:S) (ρ:Ag) (σ:Ab) (Q:Fl->Ab->Prop):Prop :=
 ∀ (c:Cx) (g:G) (s:Shared) (xs:List Stmt),IsSs st c.K xs->Inv n c ρ g σ s->c.wp (execs xs c.env) (AW n c g Q) s
section
variable {n:Nat} {c:Cx} {ρ ρ':Ag} {g g':G} {σ σ':Ab} {s s':Shared}
theorem NsF.to {f f':Addr->Option Obj} {a:Addr} {m:Str->Option Value} (x:NsF f a m) (h:∀ o,f a=some o->f' a=some o):NsF f' a m:=x.imp fun o x=>x.imp fun _ x=>x.imp fun _ x=>⟨h o x.1,x.2⟩
theorem Ek.to {f f':Addr->Option Obj} {a:Addr} {u:Option Value} (x:Ek f a u) (h:∀ o,f a=some o->f' a=some o):Ek f' a u:=x.imp fun o x=>⟨h o x.1,x.2⟩
theorem Has.ns {T:Top} {a:Addr} {m:Str->Option Value} (H:Has T g σ s) (h:NsF g.hid a m):NsF s.heap.get? a m:=by
 obtain ⟨o,es,ep,e,d,k⟩:=h
 obtain ⟨o',e',d',_⟩:=H.hd a o e
 exact ⟨o',es,ep,e',d'.trans d,k⟩
theorem Has.cell {T:Top} {a:Addr} {u:Option Value} (H:Has T g σ s) (h:Ek g.hid a u):Ek s.heap.get? a u:=by
 obtain ⟨o,e,d⟩:=h
 obtain ⟨o',e',d',_⟩:=H.hd a o e
 exact ⟨o',e',d'.trans d⟩
theorem Bx.hideC {fe:List Env} {a:Addr} {o:Obj} {u:Option Value} (x:Bx g fe) (h:Ek g.hid a u):Bx (g.hide a o) fe:=fun e he=>⟨(x e he).1,by
 obtain ⟨L,o',es',ep',h1,h2,h3,h4⟩:=(x e he).2
 obtain ⟨o2,e2,d2⟩:=h
 refine ⟨L,o',es',ep',h1,(if_neg fun q=>?_).trans h2,h3,h4⟩
 rw [q,e2] at h2
 rw [Option.some.inj h2,h4] at d2
 cases d2⟩
theorem BB {T:Top} {v:V} {o:Option Value} (up:G.up g g') (h:∃ x,o=some x/\Ak T g v x):∃ x,o=some x/\Ak T g' v x:=h.imp fun _ h=>⟨h.1,Ak.mono up _ _ h.2⟩
theorem Loc.step (x:Loc c ρ g) (up:G.up g g') (hd:∀ a,g'.hid a=g.hid a):Loc c ρ g' :=
 ⟨fun R_ k=>x.ns R_ fun m h1 h2=>k m (h1.to fun o e=>(hd _).trans e) fun i nm v e1 e2 e3=>BB up (h2 i nm v e1 e2 e3),
  fun nm hk R_ k=>x.ce nm hk R_ fun a u h1 h2 h3=>k a u h1 (h2.to fun o e=>(hd _).trans e) fun i v e1 e2=>BB up (h3 i v e1 e2),fun a h=>hd a▸x.ow a h⟩
theorem Inv.step (x:Inv n c ρ g σ s) (le:G.le [] g g') (h:Has c.T g' σ' s'):Inv n c ρ g' σ' s':=⟨x.toAt.step le h,x.cx,x.loc.step le.toup fun a=>le.hid a List.not_mem_nil⟩
theorem Inv.at0 (x:Inv n c ρ g σ s):At 0 c.toAr g σ s:=x.toAt.less (Nat.zero_le _)
theorem B9.refl {T:Top} {own:List Addr} {R:G->Prop} (h:Has T g σ s) (r:R g):B9 T own g σ R s:=.mk g (.refl _ _) h r
theorem Bd {α β:Type} {r:Ar} {g:G} {σ₁:Ab} {s:Shared} {R:α->G->Prop} {m:Sem α} {k:α->Sem β} {Q:β->Shared->Prop} (h:r.wp m (fun x s'=>B9 r.T [] g σ₁ (R x) s') s)
 (hk:∀ x g₁ s₁,G.le [] g g₁->Has r.T g₁ σ₁ s₁->R x g₁->r.wp (k x) Q s₁):r.wp (m>>=k) Q s :=
 wpAny_bind (wpAny_mono h (fun x s' p=>p _ fun g' le hs hr=>hk x g' s' le hs hr) fun _ _ h=>h)
theorem AY {α:Type} {r:Ar} {g g₁:G} {σ':Ab} {s:Shared} {R:α->G->Prop} {m:Sem α} (le:G.le [] g g₁) (h:r.wp m (fun x s'=>B9 r.T [] g₁ σ' (R x) s') s):r.wp m (fun x s'=>B9 r.T [] g σ' (R x) s') s :=
 wpAny_mono h (fun _ _ p=>p.after le) fun _ _ h=>h
theorem ans_tok {r:Ar} {m:Sem Value} {v:V} (a:Has r.T g σ s) (h:∀ Q:Value->Shared->Prop,(∀ x k,Ak r.T g v x->Q x { s with toks:=k })->wpAny (model r.T.prog r.T.w) r.A m Q (fun _ _=>False) s):r.wp m (Ans r g v σ) s :=
 h _ fun x k rx=>.refl a.tok rx
end
end Mine
namespace Mine
open PySem PySem.Calls
noncomputable abbrev vi (i:Int):V:=.d (.int i)
noncomputable abbrev vb (b:Bool):V:=.d (.bool b)
def Tr (σ:Ab) (v:V) (b:Bool):Prop:=∀ (r:Ar) (g:G) (s:Shared) (X:Value),At 0 r g σ s->Ak r.T g v X->r.wp (truthy X) (fun x s'=>B9 r.T [] g σ (fun _=>x=b) s') s
section
variable {n:Nat} {c:Cx} {ρ:Ag} {g g':G} {σ σ₁ σ₂ σ₃:Ab} {s s':Shared} {e a b:E} {x y v:V}
theorem AB {env:Env} {K:Kx} (h:env.scope.names=K.names) (nm:Str):env.kindOf nm=K.names.lookup nm:=by unfold Env.kindOf; rw [h]
theorem isVar_kind {env:Env} {K:Kx} (h:env.scope.names=K.names) {nm:Str} (hv:K.isVar nm=true) :
 (env.kindOf nm=some .local\/env.kindOf nm=some .cell\/env.kindOf nm=some .free)/\(nm == ("__debug__" : Str))=false/\(nm == ("__classdict__" : Str))=false:=by
 rw [AB h]
 unfold Kx.isVar at hv
 simp only [Bool.and_eq_true,Bool.not_eq_true',Bool.or_eq_true] at hv
 exact ⟨hv.1.1.imp Kx.kd_eq (Or.imp Kx.kd_eq Kx.kd_eq),hv.1.2,hv.2⟩
theorem isGl_kind {env:Env} {K:Kx} (h:env.scope.names=K.names) {nm:Str} (hv:K.isGl nm=true):env.kindOf nm=some .globalImplicit/\(nm == ("__debug__" : Str))=false:=by
 rw [AB h]
 unfold Kx.isGl at hv
 simp only [Bool.and_eq_true,Bool.not_eq_true'] at hv
 exact ⟨Kx.kd_eq hv.1,hv.2⟩
theorem Inv.base (I:Inv n c ρ g σ s):∀ b o,c.T.h0.get? b=some o->s.heap.get? b=some o:=fun b o e=>I.has.fz b o (I.has.base b o e)
theorem BQ {A':Around} {p:Pos} {nm:Str} {v:GV} {Q:Value->Shared->Prop} {E:Value->Shared->Prop} (I:Inv n c ρ g σ s) (hv:c.K.to v nm) (h:∀ x,GVal c.T v x->Q x s):wpAny (model c.T.prog c.T.w) A' (eval (.Name nm p) c.env) Q E s:=by
 obtain ⟨mg,mb,hg,hb,ht,_⟩:=I.cx.rd.ns
 obtain ⟨hk,hd⟩:=isGl_kind I.cx.names hv.1
 have hg':s.heap.Ns c.env.globals mg:=by rw [I.cx.glob]; exact hg.keeps I.base
 obtain ⟨x,hx,h1⟩:=ht nm v hv.2
 refine Name_function_global I.cx.kind hk ?_ hd
 rcases h1 with h1 | ⟨h1,h2⟩
 ·exact loadGlobal_global hg' h1 (h x hx)
 ·exact loadGlobal_builtin hg' h1 (by rw [I.cx.blt]; exact hb.keeps I.base) h2 (h x hx)
theorem cst_is {x:PyData} {r:Ar} {m:Nat} {p:Pos} {env:Env} (a:Has r.T g σ s) (hc:cOk x=true):r.wp (eval (.Constant (toC x) m p) env) (Ans r g (.d x) σ) s:=by
 refine ans_tok a fun Q h=>?_
 cases x with
 | none=>exact wpAny_Constant_none (h _ s.toks rfl)
 | bool b=>exact wpAny_Constant_bool (h _ s.toks rfl)
 | int b=>exact wpAny_Constant_int (h _ _ ⟨s.toks,rfl⟩)
 | str b=>exact wpAny_Constant_str (h _ _ ⟨s.toks,rfl,of_decide_eq_true hc⟩)
 | _=>exact ff_ hc
theorem SE.cst (x:PyData):SE n (.cst x) ρ σ (.d x) σ:=fun c g s ex hc I=>hc (fun ex=>c.wp (eval ex c.env) (Ans c.toAr g (.d x) σ) s) fun m p hc=>cst_is I.has hc
theorem SE.var {i:Nat} (hv:ρ[i]? = some (some v)):SE n (.var i) ρ σ v σ:=by
 refine fun c g s ex hc I=>hc (fun ex=>c.wp (eval ex c.env) (Ans c.toAr g v σ) s) fun nm p h=>?_
 have hq:=isVar_kind I.cx.names h.1
 refine wpAny_Name ?_ hq.2.1
 rcases hq.1 with hk | hk
 ·refine I.loc.ns _ fun m hm hs=>?_
  obtain ⟨x,e,r⟩:=hs i nm v h.2 hv hk
  exact wpAny_loadName_local I.cx.kind hk (I.has.ns hm) e (.refl I.has r)
 ·refine I.loc.ce nm hk _ fun a u e hu hs=>?_
  obtain ⟨x,rfl,r⟩:=hs i v h.2 hv
  rcases hk with hk | hk
  ·exact wpAny_loadName_cell I.cx.kind hk e (I.has.cell hu) (.refl I.has r)
  ·exact wpAny_loadName_free I.cx.kind hk e (I.has.cell hu) (.refl I.has r) hq.2.2
theorem SE.ty {t:String}:SE n (.ty t) ρ σ (.ty t) σ:=fun c g s ex hc I=>hc (fun ex=>c.wp (eval ex c.env) (Ans c.toAr g (.ty t) σ) s) fun nm p hc=>BQ I hc fun x r=>.refl I.has r
theorem SE.glb {x:PyData}:SE n (.glb x) ρ σ (.d x) σ:=fun c g s ex hc I=>hc (fun ex=>c.wp (eval ex c.env) (Ans c.toAr g (.d x) σ) s) fun nm p hc=>BQ I hc fun x r=>.refl I.has (Ax.mono I.has.base _ _ r)
theorem AD {α:Type} {r:Ar} {m m':Sem α} {Q:α->Shared->Prop} (e:m=m') (h:r.wp m' Q s):r.wp m Q s:=e▸h
theorem Bj {α:Type} {ex:Expr} {Q:α->Shared->Prop} {k:Value->Sem α} (ha:SE n a ρ σ x σ₁) (h1:IsE a c.K ex) (I:Inv n c ρ g σ s) (hk:∀ X g₁ s₁,G.le [] g g₁->Inv n c ρ g₁ σ₁ s₁->Ak c.T g₁ x X->c.wp (k X) Q s₁):c.wp (eval ex c.env>>=k) Q s :=
 Bd (ha c g s ex h1 I) fun X g₁ s₁ le a r=>hk X g₁ s₁ le (I.step le a) r
theorem Du {α:Type} {l r:Expr} {Q:α->Shared->Prop} {k:Value->Value->Sem α} (ha:SE n a ρ σ x σ₁) (hb:SE n b ρ σ₁ y σ₂) (h1:IsE a c.K l) (h2:IsE b c.K r) (I:Inv n c ρ g σ s)
 (hk:∀ X Y g₁ s₁,G.le [] g g₁->Inv n c ρ g₁ σ₂ s₁->Ak c.T g₁ x X->Ak c.T g₁ y Y->c.wp (k X Y) Q s₁):c.wp (eval l c.env>>=fun X=>holding [X] (eval r c.env)>>=fun Y=>k X Y) Q s :=
 Bj ha h1 I fun X g₁ s₁ le1 I1 r1=>Bd (wpAny_holding (hb c g₁ s₁ r h2 I1)) fun Y g2 s2 le2 a2 r2=>hk X Y g2 s2 (le1.trans le2) (I1.step le2 a2) (Ak.mono le2.toup _ _ r1) r2
theorem SE.bin {op:Operator} (ha:SE n a ρ σ x σ₁) (hb:SE n b ρ σ₁ y σ₂) (h:Pr2 (binaryOp op) x y σ₂ v σ₃):SE n (.bin op a b) ρ σ v σ₃:=by
 refine fun c g s ex hc I=>hc (fun ex=>c.wp (eval ex c.env) (Ans c.toAr g v σ₃) s) fun l r p h1 h2=>?_
 exact AD (arm_eval_BinOp ..) (Du ha hb h1 h2 I fun X Y g2 s2 le I2 r1 r2=>wpAny_bind (wpAny_standAt (wpAny_operating (AY le (h c.toAr g2 s2 X Y I2.at0 r1 r2)))))
theorem SE.neg {i:Int} (ha:SE n a ρ σ (vi i) σ₁):SE n (.neg a) ρ σ (vi (-i)) σ₁:=by
 refine fun c g s ex hc I=>hc (fun ex=>c.wp (eval ex c.env) (Ans c.toAr g (vi (-i)) σ₁) s) fun z p hc=>?_
 refine AD (arm_eval_UnaryOp ..) (Bj ha hc I fun X g₁ s₁ le I1 r1=>wpAny_bind (wpAny_standAt (wpAny_holding ?_)))
 obtain ⟨t,rfl⟩:=r1
 exact AY le (ans_tok (r:=c.toAr) I1.has fun Q h=>P.neg_int (h _ _ ⟨_,rfl⟩))
theorem not_is {X:Value}:unaryOp .Not X=holding [X] (truthy X>>=fun b=>pure (Value.bool (!b))):=by unfold unaryOp; rfl
theorem SE.not {t:Bool} (ha:SE n a ρ σ x σ₁) (ht:Tr σ₁ x t):SE n (.not a) ρ σ (vb !t) σ₁:=by
 refine fun c g s ex hc I=>hc (fun ex=>c.wp (eval ex c.env) (Ans c.toAr g (vb !t) σ₁) s) fun z p hc=>?_
 exact AD (arm_eval_UnaryOp ..) (Bj ha hc I fun X g₁ s₁ le1 I1 r1=>wpAny_bind (wpAny_standAt (wpAny_holding (AD not_is (wpAny_holding (Bd (ht c.toAr g₁ s₁ X I1.at0 r1) fun b g2 s2 le2 a2 r2=>wpAny_pure (.mk g2 (le1.trans le2) a2 (congrArg (fun b=>Value.bool (!b)) r2))))))))
theorem ST.not {t:Bool} (ha:ST n a ρ σ t σ₁):ST n (.not a) ρ σ (!t) σ₁:=by
 exact fun c g s ex hc I=>hc (fun ex=>c.wp (isTrue ex c.env (eval ex c.env)) (fun x s'=>B9 c.T [] g σ₁ (fun _=>x = !t) s') s) fun z p hc =>
  AD (arm_isTrue_UnaryOp ..) (Bd (ha c g s z hc I) fun b g₁ s₁ le1 a1 r1=>wpAny_pure (.mk g₁ le1 a1 (congrArg Bool.not r1)))
structure Plain (x:Expr):Prop where
 star:∀ env r,starEach (x::r) env=(false,eval x env)::starEach r env
 marks:∀ op t,markedBehindIn op x t=t
 fold:∀ env y,foldedSetIterable x env y=pure y
theorem BC (e:E) {K:Kx} {ex:Expr} (h:IsE e K ex):Plain ex:=by
 cases e with
 | nil=>exact h.elim
 | cons _ _=>exact h.elim
 | _=>exact h Plain (by intros; exact ⟨fun _ _=>rfl,fun _ _=>rfl,fun _ _=>rfl⟩)
theorem Ey (e:E) {K:Kx} {ex:Expr} (hp:B1 e=false) (h:IsE e K ex) (t:Option Expr) (l:Nat) (env:Env):swapsWith ex t l env=pure false:=by
 cases e with
 | nil=>exact h.elim
 | cons _ _=>exact h.elim
 | comp _ _ _ _=>exact tt_ hp
 | _=>exact h (fun ex=>swapsWith ex t l env=pure false) (by intros; rfl)
theorem tr_bool {t:Bool}:Tr σ (vb t) t:=fun r g s X A h=>by
 obtain rfl:X=.bool t:=h
 exact wpAny_truthy_bool (.refl A.has rfl)
theorem cmp_arm {l r:Expr} {op:CmpOp} {p:Pos} {env:Env} (h:Plain r):eval (.Compare l [op] [r] p) env=(eval l env>>=fun X=>holding [X] (eval r env)>>=fun Y=>standAt p>>=fun _=>operate [X,Y] (compareOp op X Y)):=by
 rw [arm_eval_Compare]
 show (eval l env>>=fun X=>holding [X] (markedBehindIn op r (eval r env))>>=_)=_
 rw [h.marks]
theorem cmpT_arm {l r:Expr} {op:CmpOp} {p:Pos} {env:Env} {w:Sem Value} (h:Plain r):isTrue (.Compare l [op] [r] p) env w=(eval l env>>=fun X=>holding [X] (eval r env)>>=fun Y=>standAt p>>=fun _=>operate [X,Y] (compareOp op X Y)>>=fun z=>holding [z] (truthy z)):=by
 rw [arm_isTrue_Compare]
 show (eval l env>>=fun X=>holding [X] (markedBehindIn op r (eval r env))>>=_)=_
 rw [h.marks]
theorem SE.cmp {op:CmpOp} (ha:SE n a ρ σ x σ₁) (hb:SE n b ρ σ₁ y σ₂) (h:Pr2 (compareOp op) x y σ₂ v σ₃):SE n (.cmp op a b) ρ σ v σ₃:=by
 refine fun c g s ex hc I=>hc (fun ex=>c.wp (eval ex c.env) (Ans c.toAr g v σ₃) s) fun l r p h1 h2=>?_
 exact AD (cmp_arm (BC b h2)) (Du ha hb h1 h2 I fun X Y g2 s2 le I2 r1 r2=>wpAny_bind (wpAny_standAt (wpAny_operating (AY le (h c.toAr g2 s2 X Y I2.at0 r1 r2)))))
theorem ST.cmp {op:CmpOp} {t:Bool} (ha:SE n a ρ σ x σ₁) (hb:SE n b ρ σ₁ y σ₂) (h:Pr2 (compareOp op) x y σ₂ (vb t) σ₃):ST n (.cmp op a b) ρ σ t σ₃:=by
 refine fun c g s ex hc I=>hc (fun ex=>c.wp (isTrue ex c.env (eval ex c.env)) (fun x s'=>B9 c.T [] g σ₃ (fun _=>x=t) s') s) fun l r p h1 h2=>?_
 exact AD (cmpT_arm (BC b h2)) (Du ha hb h1 h2 I fun X Y g2 s2 le2 I2 r1 r2=>wpAny_bind (wpAny_standAt (Bd (r:=c.toAr) (wpAny_operating (h c.toAr g2 s2 X Y I2.at0 r1 r2)) fun z g3 s3 le3 a3 r3=>wpAny_holding
  (AY (le2.trans le3) (tr_bool c.toAr g3 s3 z (I2.step le3 a3).at0 r3)))))
theorem ST.plain {t:Bool} (hp:∀ {K:Kx} {ex:Expr},IsE e K ex->∀ env w,isTrue ex env w=(w>>=fun v=>standAt ex.pos>>=fun _=>holding [v] (truthy v))) (h:SE n e ρ σ x σ₁) (ht:Tr σ₁ x t):ST n e ρ σ t σ₁:=by
 intro c g s ex hc I
 exact AD (hp hc c.env _) (Bj h hc I fun X g₁ s₁ le I1 r1=>wpAny_bind (wpAny_standAt (wpAny_holding (AY le (ht c.toAr g₁ s₁ X I1.at0 r1)))))
theorem SEs.nil:SEs n .nil ρ σ [] σ:=by
 intro c g s xs pos hc I
 obtain rfl:xs=[]:=hc
 exact spliced_nil (.refl I.has trivial)
theorem SEs.cons {xs:List V} (h1:SE n a ρ σ x σ₁) (h2:SEs n b ρ σ₁ xs σ₂):SEs n (.cons a b) ρ σ (x::xs) σ₂:=by
 refine fun c g s l pos hc I=>hc (fun l=>c.wp (spliced (backTo pos (starEach l c.env))) (fun Xs s'=>B9 c.T [] g σ₂ (fun g'=>Ao c.T g' (x::xs) Xs) s') s) fun z l c1 c3=>?_
 rw [(BC a c1).star]
 refine spliced_cons (wpAny_mono (h1 c g s z c1 I) (fun X s₁ p=>p _ fun g₁ le1 a1 r1=>?_) fun _ _ h=>h)
 exact wpAny_mono (h2 c g₁ s₁ l pos c3 (I.step le1 a1)) (fun Xs s2 p=>p _ fun g2 le2 a2 r2=>.mk g2 (le1.trans le2) a2 ⟨Ak.mono le2.toup _ _ r1,r2⟩) fun _ _ h=>h
def SB (n:Nat) (op:BoolOp) (e:E) (ρ:Ag) (σ:Ab) (v:V) (σ':Ab):Prop :=
 ∀ (c:Cx) (g:G) (s:Shared) (xs:List Expr) (pos:Pos),Dt e c.K xs->Inv n c ρ g σ s->c.wp (boolOp pos op (evalEach xs c.env)) (Ans c.toAr g v σ') s
def SBt (n:Nat) (op:BoolOp) (e:E) (ρ:Ag) (σ:Ab) (b:Bool) (σ':Ab):Prop :=
 ∀ (c:Cx) (g:G) (s:Shared) (xs:List Expr),Dt e c.K xs->Inv n c ρ g σ s->c.wp (allTrue op xs c.env) (fun x s'=>B9 c.T [] g σ' (fun _=>x=b) s') s
noncomputable def BS (op:BoolOp):Bool:=match op with | .And=>false | .Or=>true
variable {op:BoolOp} {r:E}
theorem SB.one (h:SE n a ρ σ x σ₁):SB n op (.cons a .nil) ρ σ x σ₁ :=
 fun c g s xs pos hc I=>hc (fun xs=>c.wp (boolOp pos op (evalEach xs c.env)) (Ans c.toAr g x σ₁) s) fun z l c1 c3=>by
  obtain rfl:l=[]:=c3
  exact h c g s z c1 I
set_option backward.match.sparseCases true in
theorem boolOp_cons (pos:Pos) (op:BoolOp) (x y:Sem Value) (r:List (Sem Value)):boolOp pos op (x::y::r)=(x>>=fun v=>standAt pos>>=fun _=>holding [v] (truthy v)>>=fun t=>if t=BS op then pure v else boolOp pos op (y::r)):=by
 rw [boolOp]
 ·congr 1; funext v; congr 1; funext _; congr 1; funext t
  cases op <;> cases t <;> rfl
 ·intro q; exact cons_ne q
theorem row_cons (r:E) {K:Kx} {l:List Expr} (hn:Bg r=false) (h:Dt r K l):∃ y l',l=y::l':=by
 cases r with
 | nil=>exact tt_ hn
 | cons a b=>exact h (fun l=>∃ y l',l=y::l') fun y l _ _=>⟨y,l,rfl⟩
 | _=>exact h.elim
theorem SB.more {t:Bool} (hr:Bg r=false) (h:SE n a ρ σ x σ₁) (ht:Tr σ₁ x t) (hs:t=BS op->v=x/\σ₂=σ₁) (hg:t≠BS op->SB n op r ρ σ₁ v σ₂):SB n op (.cons a r) ρ σ v σ₂:=by
 refine fun c g s xs pos hc I=>hc (fun xs=>c.wp (boolOp pos op (evalEach xs c.env)) (Ans c.toAr g v σ₂) s) fun z l c1 hl=>?_
 have k:c.wp (eval z c.env>>=fun v=>standAt pos>>=fun _=>holding [v] (truthy v)>>=fun t=>if t=BS op then pure v else boolOp pos op (evalEach l c.env)) (Ans c.toAr g v σ₂) s:=by
  refine Bj h c1 I fun X g₁ s₁ le1 I1 r1=>wpAny_bind (wpAny_standAt (Bd (wpAny_holding (ht c.toAr g₁ s₁ X I1.at0 r1)) fun b' g2 s2 le2 a2 r2=>?_))
  obtain rfl:b'=t:=r2
  by_cases q:b'=BS op
  ·exact AD (if_pos q) (wpAny_pure (.mk g2 (le1.trans le2) ((hs q).2▸a2) ((hs q).1▸Ak.mono le2.toup _ _ r1)))
  ·exact AD (if_neg q) (AY (le1.trans le2) (hg q c g2 s2 _ pos hl (I1.step le2 a2)))
 obtain ⟨y,l',rfl⟩:=row_cons r hr hl
 exact AD (boolOp_cons ..) k
theorem SE.bop (h:SB n op e ρ σ v σ₁):SE n (.bop op e) ρ σ v σ₁:=fun c g s ex hc I=>hc (fun ex=>c.wp (eval ex c.env) (Ans c.toAr g v σ₁) s) fun vs p h1=>AD (arm_eval_BoolOp ..) (h c g s vs p h1 I)
theorem allTrue_arm {op:BoolOp} {z:Expr} {l:List Expr} {env:Env}:allTrue op (z::l) env=(isTrue z env (eval z env)>>=fun t=>if t=BS op then pure t else allTrue op l env):=by
 rw [arm_allTrue_cons]
 congr 1; funext t
 cases op <;> cases t <;> rfl
theorem SBt.nil:SBt n op .nil ρ σ (!BS op) σ:=by
 intro c g s xs hc I
 obtain rfl:xs=[]:=hc
 exact AD (by cases op <;> rfl) (wpAny_pure (.refl I.has rfl))
theorem SBt.cons {t q:Bool} (h:ST n a ρ σ t σ₁) (hs:t=BS op->q=t/\σ₂=σ₁) (hg:t≠BS op->SBt n op r ρ σ₁ q σ₂):SBt n op (.cons a r) ρ σ q σ₂:=by
 refine fun c g s xs hc I=>hc (fun xs=>c.wp (allTrue op xs c.env) (fun x s'=>B9 c.T [] g σ₂ (fun _=>x=q) s') s) fun z l c1 hl=>?_
 refine AD allTrue_arm (Bd (h c g s z c1 I) fun b' g₁ s₁ le1 a1 r1=>?_)
 obtain rfl:b'=t:=r1
 by_cases e:b'=BS op
 ·exact AD (if_pos e) (wpAny_pure (.mk g₁ le1 ((hs e).2▸a1) (hs e).1.symm))
 ·exact AD (if_neg e) (AY le1 (hg e c g₁ s₁ l hl (I.step le1 a1)))
theorem ST.bop {t:Bool} (h:SBt n op e ρ σ t σ₁):ST n (.bop op e) ρ σ t σ₁ :=
 fun c g s ex hc I=>hc (fun ex=>c.wp (isTrue ex c.env (eval ex c.env)) (fun x s'=>B9 c.T [] g σ₁ (fun _=>x=t) s') s) fun vs p h1=>AD (arm_isTrue_BoolOp ..) (h c g s vs h1 I)
end
end Mine
namespace Mine
open PySem PySem.Calls PySem.SeqAt
theorem Fj {n:Nat} (h:n<=line):n < 9223372036854775808:=Nat.lt_of_le_of_lt h (by decide)
noncomputable def GP (a b:PyData):Option Bool :=
 match a with
 | .none=>(match b with | .none=>some true | .str _=>some false | .tuple _=>some false | _=>none)
 | .bool x=>(match b with | .bool y=>some (x == y) | _=>none)
 | .int x=>(match b with | .int y=>some (x == y) | _=>none)
 | .str x=>(match b with | .str y=>some (x == y) | .none=>some false | _=>none)
 | .tuple _=>(match b with | .none=>some false | _=>none)
 | _=>none
noncomputable def CB (f:PyData->PyData->Option Bool):List PyData->List PyData->Option Bool
 | [],ys=>(match ys with | []=>some true | _::_=>some false)
 | x::xs,ys=>(match ys with
  | []=>some false
  | y::ys=>(f x y).bind fun a=>(CB f xs ys).bind fun b=>some (a&&b))
noncomputable def eqSeq (f:PyData->PyData->Option Bool) (a b:PyData):Option Bool :=
 match a with
 | .list xs=>(match b with | .list ys=>if xs.length=ys.length then CB f xs ys else some false | _=>none)
 | .tuple xs=>(match b with | .tuple ys=>CB f xs ys | _=>GP a b)
 | _=>GP a b
noncomputable def eqN:Nat->PyData->PyData->Option Bool
 | 0,a,b=>GP a b
 | n+1,a,b=>eqSeq (eqN n) a b
noncomputable def A2:Nat:=40
noncomputable def tagD:PyData->Nat
 | .none=>0 | .bool _=>1 | .int _=>2 | .str _=>3 | .list _=>4 | .tuple _=>5 | .dict _=>6
noncomputable def tagV (f:Addr->Option Obj):Value->Nat
 | .none=>0 | .bool _=>1 | .int _ _=>2 | .str _ _=>3
 | .ref a=>(match f a with | some o=>if o.cls == .type "list" then 4 else 5 | none=>7)
 | _=>7
theorem EX {f:Addr->Option Obj} {d:PyData} {x:Value} (h:Ax f d x):tagV f x=tagD d:=by
 cases d with
 | none=>exact congrArg (tagV f) h
 | bool b=>exact congrArg (tagV f) h
 | int i=>exact h.elim fun t h=>congrArg (tagV f) h
 | str s=>exact h.elim fun t h=>congrArg (tagV f) h.1
 | list xs=>exact h (fun x=>tagV f x=4) fun a o vs m hf hc _ _ _=>by show (match f a with | some o=>_ | none=>_)=_; rw [hf]; exact if_pos (by rw [hc]; rfl)
 | tuple xs=>exact h (fun x=>tagV f x=5) fun a o vs m hf hc _ _ _=>by show (match f a with | some o=>_ | none=>_)=_; rw [hf]; exact if_neg (by rw [hc]; decide)
 | dict es=>exact h.elim
theorem seqIs_inj {f:Addr->Option Obj} {cl:String} {x:Value} {P Q:List Value->Prop} {n m:Nat} {α:Prop} (k:∀ vs,P vs->Q vs->α) (h:B7 f cl x P n) (h':B7 f cl x Q m):α:=by
 refine h (fun x=>B7 f cl x Q m->α) (fun a o vs n e2 _ e4 e5 _ h'=>?_) h'
 refine h' (fun y=>y=.ref a->α) (fun a' o' vs' n' e2' _ e4' e5' _ e=>?_) rfl
 obtain rfl:=Av e2 (show f a=some o' from (PySem.Value.ref.inj e)▸e2')
 rw [e4] at e4'; cases e4'
 exact k _ e5 e5'
mutual
theorem Ax.inj {f:Addr->Option Obj}:∀ (d d':PyData) (x:Value),tagD d'=tagD d->Ax f d x->Ax f d' x->d=d'
 | .none,d',x,t,h,h'=>by cases d' <;> first | rfl | exact BK t rfl
 | .bool a,d',x,t,h,h'=>by
  cases d' <;> first | exact BK t rfl | (cases (show Value.bool a=.bool _ from Eq.trans (Eq.symm h) h'); rfl)
 | .int a,d',x,t,h,h'=>by
  cases d' <;> first | exact BK t rfl | (obtain ⟨_,h⟩:=h; obtain ⟨_,h'⟩:=h'; cases h.symm.trans h'; rfl)
 | .str a,d',x,t,h,h'=>by
  cases d' <;> first | exact BK t rfl | (obtain ⟨_,h,_⟩:=h; obtain ⟨_,h',_⟩:=h'; cases h.symm.trans h'; rfl)
 | .list xs,d',x,t,h,h'=>by
  cases d' <;> first | exact BK t rfl | exact congrArg _ (seqIs_inj (RepDs.inj xs _) h h')
 | .tuple xs,d',x,t,h,h'=>by
  cases d' <;> first | exact BK t rfl | exact congrArg _ (seqIs_inj (RepDs.inj xs _) h h')
 | .dict _,_,_,_,h,_=>h.elim
theorem RepDs.inj {f:Addr->Option Obj}:∀ (ds ds':List PyData) (xs:List Value),RepDs f ds xs->RepDs f ds' xs->ds=ds'
 | [],[],_,_,_=>rfl
 | d::ds,d'::ds',x::xs,h,h'=>by rw [Ax.inj d d' x ((EX h'.1).symm.trans (EX h.1)) h.1 h'.1,RepDs.inj ds ds' xs h.2 h'.2]
 | [],_::_,[],_,h=>h.elim
 | [],_::_,_::_,h,_=>h.elim
 | _::_,[],[],h,_=>h.elim
 | _::_,[],_::_,_,h=>h.elim
 | _::_,_::_,[],h,_=>h.elim
end
theorem GO {f:PyData->PyData->Option Bool} (hf:∀ d b,f d d=some b->b=true) (l:List PyData):∀ (b:Bool),CB f l l=some b->b=true:=by
 induction l with
 | nil=>exact fun b h=>(Option.some.inj h).symm
 | cons x xs ih =>
  intro b h
  obtain ⟨c,e,h⟩:=Aa h
  obtain ⟨c',e',h⟩:=Aa h
  rw [<-Option.some.inj h,hf x c e,ih c' e']; rfl
theorem F8 (d:PyData) (b:Bool) (h:GP d d=some b):b=true:=by
 cases d with
 | none=>exact (Option.some.inj h).symm
 | bool x=>rw [<-Option.some.inj h]; exact beq_self_eq_true x
 | int x=>rw [<-Option.some.inj h]; exact beq_self_eq_true x
 | str x=>rw [<-Option.some.inj h]; exact beq_self_eq_true x
 | _=>exact Ac h
theorem eqN_self (n:Nat):∀ (d:PyData) (b:Bool),eqN n d d=some b->b=true:=by
 induction n with
 | zero=>exact F8
 | succ n ih =>
  intro d b h
  have hl:=F8 d b
  cases d with
  | list xs =>
   have h:(if xs.length=xs.length then CB (eqN n) xs xs else some false)=some b:=h
   rw [if_pos rfl] at h
   exact GO ih xs b h
  | tuple xs=>exact GO ih xs b h
  | _=>exact hl h
section
variable {A:Around} {s:Shared}
structure Fy (A:Around) (s:Shared) (x y:Value) (b:Bool):Prop where
 eq:EqAt A s x y b
 rc:RcAt A s x y b
 ne:RcNeAt A s x y (!b)
theorem eqNs_items {n:Nat} {A:Around} (ih:∀ (d d':PyData) (x x':Value) (b:Bool),Ax s.heap.get? d x->Ax s.heap.get? d' x'->eqN n d d'=some b->Fy A s x x' b) (ds:List PyData) :
 ∀ (ds':List PyData) (xs xs':List Value) (b:Bool),Aq (Ax s.heap.get?) ds xs->Aq (Ax s.heap.get?) ds' xs'->CB (eqN n) ds ds'=some b ->
  ∃ e:Nat->Bool,(∀ j x x',xs[j]? = some x->xs'[j]? = some x'->EqAt A s x x' (e j))/\b=((List.range (min xs.length xs'.length)).all e&&xs.length == xs'.length):=by
 induction ds with
 | nil =>
  intro ds' xs xs' b r r' h
  rw [r.nil]
  refine ⟨fun _=>true,fun j x x' h=>Ac h,?_⟩
  rw [<-r'.length]
  cases ds' <;> exact (Option.some.inj h).symm
 | cons d ds ihl =>
  intro ds' xs xs' b r r' h
  obtain ⟨x,xs,rfl,r1,r2⟩:=r.cons
  cases ds' with
  | nil =>
   rw [r'.nil]
   exact ⟨fun _=>true,fun j x x' _ h=>Ac h,(Option.some.inj h).symm⟩
  | cons d' ds' =>
   obtain ⟨x',xs',rfl,r1',r2'⟩:=r'.cons
   obtain ⟨c,e,h⟩:=Aa h
   obtain ⟨c',e',h⟩:=Aa h
   obtain ⟨f,h1,h2⟩:=ihl ds' xs xs' c' r2 r2' e'
   refine ⟨fun j=>if j=0 then c else f (j-1),fun j y y' hy hy'=>?_,?_⟩
   ·cases j with
    | zero=>rw [<-Option.some.inj hy,<-Option.some.inj hy']; exact (ih d d' x x' c r1 r1' e).eq
    | succ j=>exact h1 j y y' hy hy'
   ·rw [<-Option.some.inj h,h2,List.length_cons,List.length_cons,Nat.add_min_add_right,List.range_succ_eq_map,List.all_cons,List.all_map]
    simp [Function.comp_def,Bool.and_assoc]
theorem Fq {d d':PyData} {x x':Value} {b:Bool} (hu:A.units < cLine) (r:Ax s.heap.get? d x) (r':Ax s.heap.get? d' x') (h:GP d d'=some b):Fy A s x x' b:=by
 have tn:∀ ds x,Ax s.heap.get? (.tuple ds) x->Fy A s .none x false/\Fy A s x .none false:=fun ds x r=>r (fun x=>Fy A s .none x false/\Fy A s x .none false) fun a o vs k q1 q2 q3 q4 _ =>
  ⟨⟨EqAt.none_tuple ⟨_,q1,q2,_,q3⟩ hu,RcAt.none_tuple ⟨_,q1,q2,_,q3⟩ hu,RcNeAt.none_tuple ⟨_,q1,q2,_,q3⟩ hu⟩,EqAt.tuple_none ⟨_,q1,q2,_,q3⟩ hu,RcAt.tuple_none ⟨_,q1,q2,_,q3⟩ hu,RcNeAt.tuple_none ⟨_,q1,q2,_,q3⟩ hu⟩
 cases d with
 | none =>
  obtain rfl:x=.none:=r
  cases d' with
  | none=>obtain rfl:x'=.none:=r'; rw [<-Option.some.inj h]; exact ⟨EqAt.same _,RcAt.none_none,RcNeAt.none_none⟩
  | str _=>obtain ⟨t,rfl,_⟩:=r'; rw [<-Option.some.inj h]; exact ⟨EqAt.none_str _ _,RcAt.none_str _ _,RcNeAt.none_str _ _⟩
  | tuple _=>rw [<-Option.some.inj h]; exact (tn _ _ r').1
  | _=>exact Ac h
 | bool a=>cases d' with
  | bool c=>obtain rfl:x=.bool a:=r; obtain rfl:x'=.bool c:=r'; rw [<-Option.some.inj h]; exact ⟨EqAt.bool_bool _ _,RcAt.bool_bool _ _,RcNeAt.bool_bool _ _⟩
  | _=>exact Ac h
 | int a=>cases d' with
  | int c=>obtain ⟨t,rfl⟩:=r; obtain ⟨t',rfl⟩:=r'; rw [<-Option.some.inj h]; exact ⟨EqAt.int_int _ _ _ _,RcAt.int_int _ _ _ _,RcNeAt.int_int _ _ _ _⟩
  | _=>exact Ac h
 | str a=>obtain ⟨t,rfl,_⟩:=r; cases d' with
  | none=>obtain rfl:x'=.none:=r'; rw [<-Option.some.inj h]; exact ⟨EqAt.str_none _ _,RcAt.str_none _ _,RcNeAt.str_none _ _⟩
  | str c=>obtain ⟨t',rfl,_⟩:=r'; rw [<-Option.some.inj h]; exact ⟨EqAt.str_str _ _ _ _,RcAt.str_str _ _ _ _,RcNeAt.str_str _ _ _ _⟩
  | _=>exact Ac h
 | tuple _=>cases d' with
  | none=>obtain rfl:x'=.none:=r'; rw [<-Option.some.inj h]; exact (tn _ _ r).2
  | _=>exact Ac h
 | _=>exact Ac h
theorem eq_refs {n:Nat} {d d':PyData} {a a':Addr} {b:Bool} (rr:Ax s.heap.get? d (.ref a)) (rr':Ax s.heap.get? d' (.ref a')) (h:eqN n d d'=some b) (rc:RcAt A s (.ref a) (.ref a') b/\RcNeAt A s (.ref a) (.ref a') (!b)):Fy A s (.ref a) (.ref a') b:=by
 refine ⟨?_,rc.1,rc.2⟩
 by_cases ha:a=a'
 ·subst ha
  rw [<-Ax.inj _ _ _ ((EX rr').symm.trans (EX rr)) rr rr'] at h
  rw [eqN_self n d b h]
  exact EqAt.same _
 ·exact EqAt.of_refs ha rc.1
theorem eqN_ok (n:Nat):∀ (A:Around),A.units+n < cLine->∀ (d d':PyData) (x x':Value) (b:Bool),Ax s.heap.get? d x->Ax s.heap.get? d' x'->eqN n d d'=some b->Fy A s x x' b:=by
 induction n with
 | zero=>exact fun A hu d d' x x' b r r' h=>Fq hu r r' h
 | succ n ih =>
  intro A hu d d' x x' b r r' h
  have hu':A.units < cLine:=Nat.lt_of_le_of_lt (Nat.le_add_right _ _) hu
  have hu1:A.in1.units+n < cLine:=by show A.units+1+n < cLine; rw [Nat.add_assoc,Nat.add_comm 1]; exact hu
  have it:=eqNs_items (s:=s) (ih A.in1 hu1)
  have hL:eqSeq (eqN n) d d'=some b:=h
  cases d with
  | list ds=>cases d' with
   | list ds' =>
    refine r (fun x=>Ax s.heap.get? (.list ds) x->Fy A s x x' b) (fun a o vs k q1 q2 q3 q4 _ rr=>r' (fun x'=>Ax s.heap.get? (.list ds') x'->Fy A s (.ref a) x' b) (fun a' o' vs' k' p1 p2 p3 p4 _ rr'=>eq_refs rr rr' h ?_) r') r
    have hl:s.heap.IsList a vs:=⟨_,q1,q2,_,q3⟩
    have hl':s.heap.IsList a' vs':=⟨_,p1,p2,_,p3⟩
    have l1:ds.length=vs.size:=q4.all.length
    have l2:ds'.length=vs'.size:=p4.all.length
    have hL:(if ds.length=ds'.length then CB (eqN n) ds ds' else some false)=some b:=hL
    by_cases hsz:ds.length=ds'.length
    ·rw [if_pos hsz] at hL
     obtain ⟨e,h1,h2⟩:=it ds ds' vs.toList vs'.toList b q4.all p4.all hL
     have hsz':vs.size=vs'.size:=l1.symm.trans (hsz.trans l2)
     have hb:b=(List.range vs.size).all e:=by rw [h2]; simp [hsz']
     rw [hb]
     exact ⟨RcAt.lists hl hl' hsz' hu' fun j j1 j2=>h1 j _ _ (by simp [j1]) (by simp [j2]),RcNeAt.lists hl hl' hsz' hu' fun j j1 j2=>h1 j _ _ (by simp [j1]) (by simp [j2])⟩
    ·rw [if_neg hsz] at hL
     rw [<-Option.some.inj hL]
     have hsz':(vs.size != vs'.size)=true:=bne_iff_ne.mpr fun q=>hsz (l1.trans (q.trans l2.symm))
     exact ⟨RcAt.lists_lengths hl hl' hsz' hu',RcNeAt.lists_lengths hl hl' hsz' hu'⟩
   | _=>exact Ac hL
  | tuple ds=>cases d' with
   | tuple ds' =>
    refine r (fun x=>Ax s.heap.get? (.tuple ds) x->Fy A s x x' b) (fun a o vs k q1 q2 q3 q4 _ rr=>r' (fun x'=>Ax s.heap.get? (.tuple ds') x'->Fy A s (.ref a) x' b) (fun a' o' vs' k' p1 p2 p3 p4 _ rr'=>eq_refs rr rr' h ?_) r') r
    have hl:s.heap.IsTuple a vs:=⟨_,q1,q2,_,q3⟩
    have hl':s.heap.IsTuple a' vs':=⟨_,p1,p2,_,p3⟩
    obtain ⟨e,h1,h2⟩:=it ds ds' vs.toList vs'.toList b q4.all p4.all hL
    have hb:b=((List.range (min vs.size vs'.size)).all e&&vs.size == vs'.size):=h2
    rw [hb]
    exact ⟨RcAt.tuples hl hl' hu' fun j j1 j2=>h1 j _ _ (by simp [j1]) (by simp [j2]),RcNeAt.tuples hl hl' hu' fun j j1 j2=>h1 j _ _ (by simp [j1]) (by simp [j2])⟩
   | _=>exact Fq hu' r r' hL
  | _=>exact Fq hu' r r' hL
end
end Mine
namespace Mine
open PySem PySem.Calls PySem.SeqAt
noncomputable def wv:PyData ⊕ Nat->V:=Sum.elim .d .ref
noncomputable def CG (o:Option O):Option (List V):=match o with | some o=>(match o with | .list vs=>some vs | _=>none) | none=>none
noncomputable def As (σ:Ab) (v:V):Option (List V) :=
 match v with
 | .d x=>(match x with | .list xs=>some (xs.map .d) | _=>none)
 | .ref k=>CG σ[k]?
 | _=>none
noncomputable def BG (v:V):Option (List V) :=
 match v with
 | .d x=>(match x with | .tuple xs=>some (xs.map .d) | _=>none)
 | .tup ws=>some (ws.map wv)
 | .pr x y=>some [x,y]
 | _=>none
noncomputable def isDV (v:V):Option PyData:=match v with | .d x=>some x | _=>none
noncomputable def Dr:List V->Option (List PyData)
 | []=>some []
 | v::r=>(isDV v).bind fun x=>(Dr r).bind fun xs=>some (x::xs)
noncomputable def lstD (o:Option (List V)):Option PyData:=o.bind fun vs=>(Dr vs).bind fun xs=>some (.list xs)
noncomputable def snapW (σ:Ab):List (PyData ⊕ Nat)->Option (List PyData)
 | []=>some []
 | w::r=>(match w with | .inl x=>some x | .inr k=>lstD (CG σ[k]?)).bind fun x=>(snapW σ r).bind fun xs=>some (x::xs)
noncomputable def snap (σ:Ab) (v:V):Option PyData :=
 match v with
 | .d x=>some x
 | .ref k=>lstD (CG σ[k]?)
 | .tup ws=>(snapW σ ws).bind fun xs=>some (.tuple xs)
 | _=>none
theorem EQ {vs:List V}:∀ {xs:List PyData},Dr vs=some xs->vs=xs.map .d:=by
 induction vs with
 | nil=>exact fun h=>by rw [<-Option.some.inj h]; rfl
 | cons v vs ih =>
  intro xs h
  obtain ⟨x,e,h'⟩:=Aa h
  obtain ⟨ys,e',h''⟩:=Aa h'
  cases v with
  | d y=>rw [<-Option.some.inj h'',ih e',Option.some.inj e]; rfl
  | _=>exact Ac e
theorem BL {o:Option O} {vs:List V} (h:CG o=some vs):o=some (.list vs):=by
 cases o with
 | none=>exact Ac h
 | some o=>cases o with
  | list ws=>rw [Option.some.inj h]
  | _=>exact Ac h
section
variable {T:Top} {r:Ar} {g:G} {σ:Ab} {s:Shared} {v:V} {X:Value} {ws:List V}
theorem A9 (H:Has T g σ s) (rx:Ak T g v X) (e:As σ v=some ws) {R_:Value->Prop} (k:∀ a xs,s.heap.IsList a xs->Ao T g ws xs.toList->ws.length=xs.size->xs.size<=line->R_ (.ref a)):R_ X:=by
 cases v with
 | d y=>cases y with
  | list ds =>
   obtain rfl:ds.map .d=ws:=Option.some.inj e
   exact rx R_ fun a o vs n h1 h2 h3 h4 h5=>k a vs ⟨o,H.fz _ _ h1,h2,n,h3⟩ (.ofD h4) (Ao.ofD (T:=T) h4).length (by rw [<-Array.length_toList,<-h4.all.length]; exact h5)
  | _=>exact Ac e
 | ref j =>
  obtain ⟨a,e1,rfl⟩:=rx
  exact H.ob j a _ e1 (BL e) _ fun o ho ro=>ro (fun o=>s.heap.get? a=some o->R_ (.ref a)) (fun xs m hr hl ho=>k a xs ⟨_,ho,rfl,m,rfl⟩ hr hr.length (by rw [<-Array.length_toList,<-hr.length]; exact hl)) ho
 | _=>exact Ac e
theorem Fw.wv {xs:List Value} {ws:List (PyData ⊕ Nat)} (h:Aq (Fw g) ws xs):Ao T g (ws.map wv) xs:=by
 induction ws generalizing xs with
 | nil=>rw [h.nil]; exact trivial
 | cons w ws ih =>
  obtain ⟨x,xs,rfl,h1,h2⟩:=h.cons
  exact ⟨by cases w <;> exact h1,ih h2⟩
theorem Cm (H:Has T g σ s) (rx:Ak T g v X) (e:BG v=some ws) {R_:Value->Prop} (k:∀ a xs,s.heap.IsTuple a xs->Ao T g ws xs.toList->ws.length=xs.size->xs.size<=line->R_ (.ref a)):R_ X:=by
 cases v with
 | d y=>cases y with
  | tuple ds =>
   obtain rfl:ds.map .d=ws:=Option.some.inj e
   exact rx R_ fun a o vs n h1 h2 h3 h4 h5=>k a vs ⟨o,H.fz _ _ h1,h2,n,h3⟩ (.ofD h4) (Ao.ofD (T:=T) h4).length (by rw [<-Array.length_toList,<-h4.all.length]; exact h5)
  | _=>exact Ac e
 | tup us =>
  obtain rfl:us.map wv=ws:=Option.some.inj e
  exact rx R_ fun a o vs n h1 h2 h3 h4 h5=>k a vs ⟨o,H.fz _ _ h1,h2,n,h3⟩ (Fw.wv h4) (Fw.wv (T:=T) h4).length (by rw [<-Array.length_toList,<-h4.length]; exact h5)
 | pr x y =>
  obtain rfl:[x,y]=ws:=Option.some.inj e
  exact rx R_ fun a o vs n h1 h2 h3 h4 h5=>by
   obtain ⟨a',b',e4,r1,r2⟩:=h4
   exact k a vs ⟨o,H.fz _ _ h1,h2,n,h3⟩ (e4▸⟨r1,r2,trivial⟩) (by rw [<-Array.length_toList,e4]; rfl) (by rw [<-Array.length_toList,e4]; exact h5)
 | _=>exact Ac e
theorem lstD_rep (H:Has T g σ s) {k:Nat} {d:PyData} (rx:Ak T g (.ref k) X) (e:lstD (CG σ[k]?)=some d):Ax s.heap.get? d X:=by
 obtain ⟨ws,e1,e⟩:=Aa e
 obtain ⟨xs,e2,e⟩:=Aa e
 rw [<-Option.some.inj e]
 rw [EQ e2] at e1
 refine A9 (v:=.ref k) H rx e1 fun a vs hL hr hl hs=>?_
 obtain ⟨o,ho,hc,n,hd⟩:=hL
 exact fun R_ kk=>kk a o vs n ho hc hd (RepDs.mono H.fz _ _ (Ao.toD hr)) (by rw [<-List.length_map (f:=V.d),hl]; exact hs)
theorem Dz (H:Has T g σ s) {d:PyData} (rx:Ak T g v X) (e:snap σ v=some d):Ax s.heap.get? d X:=by
 cases v with
 | d y=>rw [<-Option.some.inj e]; exact Ax.mono H.fz _ _ rx
 | ref k=>exact lstD_rep H rx e
 | tup ws =>
  obtain ⟨xs,e,e'⟩:=Aa e
  rw [<-Option.some.inj e']
  have key:∀ {ws:List (PyData ⊕ Nat)} {xs:List PyData} {vs:List Value},Aq (Fw g) ws vs->snapW σ ws=some xs->Aq (Ax s.heap.get?) xs vs:=by
   intro ws
   induction ws with
   | nil=>intro xs vs h e; rw [h.nil,<-Option.some.inj e]; exact trivial
   | cons w ws ih =>
    intro xs vs h e
    obtain ⟨v,vs,rfl,h1,h2⟩:=h.cons
    obtain ⟨x,e1,e⟩:=Aa e
    obtain ⟨ys,e2,e⟩:=Aa e
    rw [<-Option.some.inj e]
    refine ⟨?_,ih h2 e2⟩
    cases w with
    | inl y=>rw [<-Option.some.inj e1]; exact Ax.mono H.fz _ _ h1
    | inr k=>exact lstD_rep (T:=T) (k:=k) H h1 e1
  exact rx _ fun a o vs n h1 h2 h3 h4 h5 R_ kk=>kk a o vs n (H.fz _ _ h1) h2 h3 (.of (key h4 e)) (by rw [(key h4 e).length,<-h4.length]; exact h5)
 | _=>exact Ac e
end
section
variable {σ:Ab} {x y v:V} {i j:Int} {d d':PyData} {b:Bool}
theorem tr_none:Tr σ (.d .none) false:=fun r g s X A h=>by
 obtain rfl:X=.none:=h
 exact PyProof.Rows.truthy_none (.refl A.has rfl)
theorem tr_int:Tr σ (vi i) (i != 0):=fun r g s X A h=>by
 obtain ⟨t,rfl⟩:=h
 exact P.truthy_int (.refl A.has rfl)
theorem tr_str {t:Str}:Tr σ (.d (.str t)) (t.cps.size != 0):=fun r g s X A h=>by
 obtain ⟨k,rfl,hl⟩:=h
 refine P.truthy_str (Int.not_le.mpr (Int.ofNat_lt.mpr (Fj hl))) (.refl A.has.tok ?_)
 show ((t.cps.size:Int) != 0)=(t.cps.size != 0)
 cases t.cps.size <;> rfl
theorem arr_empty {α:Type} {ws:List V} {xs:Array α} (h:ws.length=xs.size):(!xs.isEmpty) = !ws.isEmpty:=by
 cases ws with
 | nil=>rw [Array.size_eq_zero_iff.mp h.symm]; rfl
 | cons w ws =>
  have:xs≠#[]:=fun q=>by rw [q] at h; exact BK h rfl
  rw [show xs.isEmpty=false by simpa using this]; rfl
theorem tr_list {ws:List V} (e:As σ v=some ws):Tr σ v (!ws.isEmpty):=fun r g s X A h =>
 A9 A.has h e (R_:=fun X=>r.wp (truthy X) (fun x s'=>B9 r.T [] g σ (fun _=>x = !ws.isEmpty) s') s) fun a xs hL hr hl hs=>wpAny_truthy_list hL (Int.ofNat_lt.mpr (Fj hs)) (.refl A.has.tok (arr_empty hl))
theorem tr_tup {ws:List V} (e:BG v=some ws):Tr σ v (!ws.isEmpty):=fun r g s X A h =>
 Cm A.has h e (R_:=fun X=>r.wp (truthy X) (fun x s'=>B9 r.T [] g σ (fun _=>x = !ws.isEmpty) s') s) fun a xs hL hr hl hs=>PyProof.Rows.truthy_tuple hL (Int.ofNat_lt.mpr (Fj hs)) (.refl A.has.tok (arr_empty hl))
noncomputable def small (i:Int):Bool:=decide (-9223372036854775808 < i)&&decide (i < 9223372036854775808)
theorem Dv {m:Value->Value->Sem Value} {f:Int->Int->Int} (h:∀ (r:Ar) (g:G) (s:Shared) (t u:Tok),At 0 r g σ s->∀ Q:Value->Shared->Prop,(∀ t k,Q (.int (f i j) t) { s with toks:=k })->wpAny (model r.T.prog r.T.w) r.A (m (.int i t) (.int j u)) Q (fun _ _=>False) s):Pr2 m (vi i) (vi j) σ (vi (f i j)) σ:=fun r g s X Y A hx hy=>by
 obtain ⟨t,rfl⟩:=hx
 obtain ⟨u,rfl⟩:=hy
 exact h r g s t u A _ fun t k=>.refl A.has.tok ⟨t,rfl⟩
theorem p_add:Pr2 (binaryOp .Add) (vi i) (vi j) σ (vi (i+j)) σ:=Dv fun r g s t u A Q h=>P.add_int (h _ _)
theorem p_sub:Pr2 (binaryOp .Sub) (vi i) (vi j) σ (vi (i-j)) σ:=Dv fun r g s t u A Q h=>P.sub_int (h _ _)
theorem p_div (hj:j≠0):Pr2 (binaryOp .FloorDiv) (vi i) (vi j) σ (vi (i.fdiv j)) σ:=Dv fun r g s t u A Q h=>PyProof.Rows.floordiv_int hj (h _ _) (Or.inr A.pylong)
theorem p_mod (hj:j≠0):Pr2 (binaryOp .Mod) (vi i) (vi j) σ (vi (i.fmod j)) σ:=Dv fun r g s t u A Q h=>PyProof.Rows.mod_int' hj (h _ _)
theorem Gj {i:Int} (h:small i=true):Builtin.Int.intBits i<=64:=by
 have h:=Bool.and_eq_true_iff.mp h
 exact intBits_le_64 (by have:=of_decide_eq_true h.1; lia) (by have:=of_decide_eq_true h.2; lia)
theorem p_mul (hs:(small i||small j)=true):Pr2 (binaryOp .Mult) (vi i) (vi j) σ (vi (i * j)) σ:=Dv fun r g s t u A Q h=>P.mul_int (h _ _) ((Bool.or_eq_true_iff.mp hs).elim (fun h=>IntMulOk.of_left (Gj h)) fun h=>IntMulOk.of_right (Gj h))
theorem p_cat {a b:Str} (hl:a.length+b.length<=line):Pr2 (binaryOp .Add) (.d (.str a)) (.d (.str b)) σ (.d (.str (a++b))) σ:=fun r g s X Y A hx hy=>by
 obtain ⟨t,rfl,_⟩:=hx
 obtain ⟨u,rfl,_⟩:=hy
 exact SB.add (fun t' k=>.refl A.has.tok ⟨_,rfl,by rw [Str.length_append]; exact hl⟩) (A8▸hl)
theorem E8 {m:Value->Value->Sem Value} (h:∀ (r:Ar) (g:G) (s:Shared) (X Y:Value),At 0 r g σ s->Ak r.T g x X->Ak r.T g y Y->∀ Q:Value->Shared->Prop,Q (.bool b) s->wpAny (model r.T.prog r.T.w) r.A (m X Y) Q (fun _ _=>False) s):Pr2 m x y σ (vb b) σ :=
 fun r g s X Y A hx hy=>h r g s X Y A hx hy _ (.refl A.has rfl)
theorem eq_ok {r:Ar} {g:G} {s:Shared} {X Y:Value} (A:At 0 r g σ s) (hx:Ak r.T g x X) (hy:Ak r.T g y Y) (h1:snap σ x=some d) (h2:snap σ y=some d') (h:eqN A2 d d'=some b):Fy r.A s X Y b :=
 eqN_ok A2 r.A (Nat.lt_of_succ_lt A.room) d d' X Y b (Dz A.has hx h1) (Dz A.has hy h2) h
theorem p_eq (h1:snap σ x=some d) (h2:snap σ y=some d') (h:eqN A2 d d'=some b):Pr2 (compareOp .Eq) x y σ (vb b) σ:=E8 fun r g s X Y A hx hy Q q=>(eq_ok A hx hy h1 h2 h).rc _ _ _ Q q
theorem p_ne (h1:snap σ x=some d) (h2:snap σ y=some d') (h:eqN A2 d d'=some b):Pr2 (compareOp .NotEq) x y σ (vb !b) σ:=E8 fun r g s X Y A hx hy Q q=>(eq_ok A hx hy h1 h2 h).ne _ _ _ Q q
noncomputable def DC (h:Heap) (d:PyData) (v:Value):Bool:=@decide (∃ d',Ax h.get? d' v/\eqN A2 d' d=some true) (Classical.propDecidable _)
theorem eqTo_of {h:Heap} {d d':PyData} {v:Value} {b:Bool} (r:Ax h.get? d' v) (e:eqN A2 d' d=some b):DC h d v=b:=by
 unfold DC
 cases b with
 | true=>exact @decide_eq_true _ (Classical.propDecidable _) ⟨d',r,e⟩
 | false =>
  refine @decide_eq_false _ (Classical.propDecidable _) ?_
  intro q
  obtain ⟨d'',r',e'⟩:=q
  rw [Ax.inj _ _ _ ((EX r).symm.trans (EX r')) r' r,e] at e'
  exact ff_ (Option.some.inj e')
noncomputable def inD (x:PyData):List PyData->Option Bool
 | []=>some false
 | y::r=>(eqN A2 y x).bind fun a=>(inD x r).bind fun b=>some (a||b)
theorem inD_ok {A:Around} {s:Shared} {Y:Value} (hu:A.units+A2 < cLine) (r:Ax s.heap.get? d Y):∀ {ds:List PyData} {xs:List Value} {b:Bool},Aq (Ax s.heap.get?) ds xs->inD d ds=some b ->
 (∀ x,x∈xs->EqAt A s x Y (DC s.heap d x))/\b=xs.any (DC s.heap d):=by
 intro ds
 induction ds with
 | nil=>intro xs b h e; rw [h.nil]; exact ⟨fun x h=>(nomatch h),(Option.some.inj e).symm⟩
 | cons z ds ih =>
  intro xs b h e
  obtain ⟨x,xs,rfl,h1,h2⟩:=h.cons
  obtain ⟨c,e1,e⟩:=Aa e
  obtain ⟨c',e2,e⟩:=Aa e
  obtain ⟨h3,h4⟩:=ih h2 e2
  have h5:=eqTo_of h1 e1
  refine ⟨fun w hw=>(List.mem_cons.mp hw).elim (fun q=>?_) (h3 w),by rw [List.any_cons,h5,<-h4,Option.some.inj e]⟩
  rw [q,h5]; exact (eqN_ok (s:=s) A2 A hu z d x Y c h1 r e1).eq
theorem in_seq {ds:List PyData} (h1:snap σ x=some d) (h2:snap σ y=some (.list ds)\/snap σ y=some (.tuple ds)) (h:inD d ds=some b):Pr2 (compareOp .In) x y σ (vb b) σ/\Pr2 (compareOp .NotIn) x y σ (vb !b) σ:=by
 have key:∀ {op:CmpOp} {c:Bool},(∀ (r:Ar) (s:Shared) (X:Value) (a:Addr) (vs:Array Value),(s.heap.IsList a vs\/s.heap.IsTuple a vs)->(∀ z,z∈vs->EqAt r.A.in1 s z X (DC s.heap d z))->b=vs.any (DC s.heap d)->∀ Q:Value->Shared->Prop,Q (.bool c) s->wpAny (model r.T.prog r.T.w) r.A (compareOp op X (.ref a)) Q (fun _ _=>False) s)->Pr2 (compareOp op) x y σ (vb c) σ:=fun k =>
  E8 fun r g s X Y A hx hy Q q=>by
   have hX:=Dz A.has hx h1
   have hu:r.A.in1.units+A2 < cLine:=A.room
   rcases h2 with h2 | h2
   ·exact Dz A.has hy h2 (fun Y=>wpAny _ r.A (compareOp _ X Y) Q _ s) fun a o vs n p1 p2 p3 p4 _=>by
     obtain ⟨q1,q2⟩:=inD_ok hu hX p4.all h
     exact k r s X a vs (.inl ⟨o,p1,p2,n,p3⟩) (fun z hz=>q1 z (Array.mem_toList_iff.mpr hz)) (q2.trans (by simp)) Q q
   ·exact Dz A.has hy h2 (fun Y=>wpAny _ r.A (compareOp _ X Y) Q _ s) fun a o vs n p1 p2 p3 p4 _=>by
     obtain ⟨q1,q2⟩:=inD_ok hu hX p4.all h
     exact k r s X a vs (.inr ⟨o,p1,p2,n,p3⟩) (fun z hz=>q1 z (Array.mem_toList_iff.mpr hz)) (q2.trans (by simp)) Q q
 exact ⟨key fun r s X a vs hL hz e Q q=>hL.elim (fun hL=>in_listAt (DC s.heap d) hL hz (e▸q)) fun hL=>in_tupleAt (DC s.heap d) hL hz (e▸q),
  key fun r s X a vs hL hz e Q q=>hL.elim (fun hL=>notIn_listAt (DC s.heap d) hL hz (e▸q)) fun hL=>notIn_tupleAt (DC s.heap d) hL hz (e▸q)⟩
end
end Mine
namespace Mine
open PySem PySem.Calls PySem.SeqAt
def B0 (r:Ar) (g:G) (σ':Ab) (ws:List V) (x:Value) (s':Shared):Prop :=
 ∀ R_:Value->Prop,(∀ (g':G) (a:Addr) (xs:Array Value) (m:Nat),G.le [] g g'->Has r.T g' σ' s'->Cz r.T g' a->s'.heap.get? a=some { cls:=.type "list",dict:=none,data:=.seq xs m,slots:=#[] } -> Ao r.T g' ws xs.toList->ws.length<=line->R_ (.ref a))->R_ x
def SL (n:Nat) (e:E) (ρ:Ag) (σ:Ab) (ws:List V) (σ':Ab):Prop :=
 ∀ (c:Cx) (g:G) (s:Shared) (ex:Expr),IsE e c.K ex->Inv n c ρ g σ s->c.wp (eval ex c.env) (B0 c.toAr g σ' ws) s
def PrN1 (m:Value->Sem Value) (x:V) (σ:Ab) (ws:List V) (k:Nat:=0):Prop :=
 ∀ (r:Ar) (g:G) (s:Shared) (X:Value),At k r g σ s->Ak r.T g x X->r.wp (m X) (B0 r g σ ws) s
theorem PrN1.up {m:Value->Sem Value} {x:V} {σ:Ab} {ws:List V} {k:Nat} (h:PrN1 m x σ ws):PrN1 m x σ ws k:=fun r g s X A=>h r g s X (A.less (Nat.zero_le _))
def PrN2 (m:Value->Value->Sem Value) (x y:V) (σ:Ab) (ws:List V):Prop :=
 ∀ (r:Ar) (g:G) (s:Shared) (X Y:Value),At 0 r g σ s->Ak r.T g x X->Ak r.T g y Y->r.wp (m X Y) (B0 r g σ ws) s
section
variable {n:Nat} {r:Ar} {c:Cx} {ρ:Ag} {g g' g₁:G} {σ σ' σ₁ σ₂ σ₃:Ab} {s s':Shared} {e a b:E} {x y v:V} {ws us:List V} {X:Value} {ds:List PyData}
theorem B0.frz (h:B0 r g σ' (ds.map .d) X s'):Ans r g (.d (.list ds)) σ' X s' :=
 h (fun X=>Ans r g (.d (.list ds)) σ' X s') fun g' a xs m le H F ho hr hl=>.mk (g'.put a _) (le.trans (.put F.fz)) (F.put H ho) fun R_ k=>k a _ xs m G.put_self rfl rfl (RepDs.mono (G.le.put (own:=[]) F.fz).fz _ _ (Ao.toD hr)) (by rw [<-List.length_map (f:=V.d)]; exact hl)
theorem B0.trk (h:B0 r g σ' ws X s'):Ans r g (.ref σ'.length) (σ'++[.list ws]) X s' :=
 h (fun X=>Ans r g (.ref σ'.length) (σ'++[.list ws]) X s') fun g' a xs m le H F ho hr hl=>.mk (g'.add a) (le.trans .add) (F.add (ob:=.list ws) H ho fun R_ k=>k xs m (Ao.mono (G.le.add (own:=[])).toup hr) hl) ⟨a,H.addAt,rfl⟩
theorem B0.after (le:G.le [] g g₁) (h:B0 r g₁ σ' ws X s'):B0 r g σ' ws X s':=fun R_ k=>h R_ fun g' a xs m l=>k g' a xs m (le.trans l)
theorem SE.frz (h:SL n e ρ σ (ds.map .d) σ'):SE n e ρ σ (.d (.list ds)) σ':=fun c g s ex hc I=>wpAny_mono (h c g s ex hc I) (fun _ _ p=>p.frz) fun _ _ h=>h
theorem SE.trk (h:SL n e ρ σ ws σ'):SE n e ρ σ (.ref σ'.length) (σ'++[.list ws]):=fun c g s ex hc I=>wpAny_mono (h c g s ex hc I) (fun _ _ p=>p.trk) fun _ _ h=>h
theorem B0.made {l:Addr} {xs:Array Value} {m:Nat} (H:Has r.T g σ s) (k:∀ b o,s.heap.get? b=some o->s'.heap.get? b=some o) (hn:s.heap.get? l=none) (ho:s'.heap.get? l=some { cls:=.type "list",dict:=none,data:=.seq xs m,slots:=#[] }) (hr:Ao r.T g ws xs.toList) (hl:ws.length<=line)
 (hg:s'.gens=s.gens:=by rfl) (hos:s'.os=s.os:=by rfl):B0 r g σ ws (.ref l) s' :=
 fun R_ kk=>kk g l xs m (.refl _ _) (H.keep k hg hos) (H.free hn) ho hr hl
theorem B0.push {xs:Array Value} {m:Nat} (H:Has r.T g σ s) (hr:Ao r.T g ws xs.toList) (hl:ws.length<=line):B0 r g σ ws (.ref s.heap.objs.size) { s with heap:=s.heap.push { cls:=.type "list",dict:=none,data:=.seq xs m,slots:=#[] } } :=
 .made H (fun b o e=>Heap.get?_push_of_some _ e) (AN _) (Heap.get?_push_size _ rfl) hr hl
theorem SL.lst (h:SEs n a ρ σ ws σ₁) (hl:ws.length<=line):SL n (.lst a) ρ σ ws σ₁:=fun c g s ex hc I=>hc (fun ex=>c.wp (eval ex c.env) (B0 c.toAr g σ₁ ws) s) fun vs p hc=>AD (arm_eval_List ..) (wpAny_bind (wpAny_standAt
 (Bd (h c g s vs p hc I) fun xs g₁ s₁ le a1 r1=>wpAny_newList ((B0.push (r:=c.toAr) a1 (by rw [List.toList_toArray]; exact r1) hl).after le) (by rw [<-r1.length,<-A8]; exact hl))))
theorem SL.bin {op:Operator} (ha:SE n a ρ σ x σ₁) (hb:SE n b ρ σ₁ y σ₂) (h:PrN2 (binaryOp op) x y σ₂ ws):SL n (.bin op a b) ρ σ ws σ₂:=by
 refine fun c g s ex hc I=>hc (fun ex=>c.wp (eval ex c.env) (B0 c.toAr g σ₂ ws) s) fun l r p h1 h2=>?_
 exact AD (arm_eval_BinOp ..) (Du ha hb h1 h2 I fun X Y g2 s2 le I2 r1 r2=>wpAny_bind (wpAny_standAt (wpAny_operating (wpAny_mono (h c.toAr g2 s2 X Y I2.at0 r1 r2) (fun _ _ p=>p.after le) fun _ _ h=>h))))
theorem G1 {h:Heap} {a:Addr} {xs:Array Value} (x:h.IsList a xs):∃ n dd sl,h.get? a=some { cls:=.type "list",dict:=dd,data:=.seq xs n,slots:=sl }:=by
 obtain ⟨⟨c,dd,data,sl⟩,ho,hc,n,hd⟩:=x
 simp only at hc hd
 subst hc hd
 exact ⟨n,dd,sl,ho⟩
theorem p_catL (h1:As σ x=some ws) (h2:As σ y=some us) (hl:ws.length+us.length<=line):PrN2 (binaryOp .Add) x y σ (ws++us):=fun r g s X Y A hx hy =>
 A9 A.has hx h1 (R_:=fun X=>r.wp (binaryOp .Add X Y) (B0 r g σ (ws++us)) s) fun la ia ha1 ha2 ha3 _=>A9 A.has hy h2 (R_:=fun Y=>r.wp (binaryOp .Add (.ref la) Y) (B0 r g σ (ws++us)) s) fun lb ib hb1 hb2 hb3 _=>by
  obtain ⟨n1,d1,s1,o1⟩:=G1 ha1
  obtain ⟨n2,d2,s2,o2⟩:=G1 hb1
  refine concat_meets ⟨_,o1,rfl⟩ ⟨_,o2,rfl⟩ noFill_list_add seq_list_add PySem.F.slot_list_add PySem.F.entry_list_add (PySem.F.args_list_add_2 _ _) (PyProof.Rows.list_addW la lb ia ib n1 n2 d1 d2 s1 s2 (by rw [<-ha3,<-hb3,<-A8]; exact hl)) ⟨o1,o2,?_⟩
  exact .push A.has (by rw [Array.toList_append]; exact ha2.append hb2) (by rw [List.length_append]; exact hl)
theorem tup_put {o:Obj} {xs:Array Value} {m:Nat} {l:Addr} (H:Has r.T g σ s) (F:Cz r.T g l) (ho:s.heap.get? l=some o) (hc:o.cls=.type "tuple") (hd:o.data=.seq xs m) (hr:Aq (Ax g.fz) ds xs.toList) (hl:ds.length<=line):Ans r g (.d (.tuple ds)) σ (.ref l) s :=
 .mk (g.put l o) (.put F.fz) (F.put H ho) fun R_ k=>k l o xs m G.put_self hc hd (.of (hr.mono fun _ _=>Ax.mono (G.le.put (own:=[]) F.fz).fz _ _)) hl
theorem toDs {xs:List Value} (h:Ao r.T g (ds.map .d) xs):Aq (Ax g.fz) ds xs:=(Ao.toD h).all
theorem SE.tup (h:SEs n a ρ σ (ds.map .d) σ₁) (hl:ds.length<=line):SE n (.tup a) ρ σ (.d (.tuple ds)) σ₁:=fun c g s ex hc I=>hc (fun ex=>c.wp (eval ex c.env) (Ans c.toAr g (.d (.tuple ds)) σ₁) s) fun vs k p hc=>AD (arm_eval_Tuple ..) (wpAny_bind (wpAny_standAt
 (Bd (h c g s vs p hc I) fun xs g₁ s₁ le a1 r1=>wpAny_newTuple (B9.after le (tup_put (r:=c.toAr) (a1.keep fun b o e=>Heap.get?_push_of_some _ e) (a1.free (AN _)) (Heap.get?_push_size _ rfl) rfl rfl (by rw [List.toList_toArray]; exact toDs (r:=c.toAr) r1) hl)) (by rw [<-r1.length,<-A8,List.length_map]; exact hl))))
end
end Mine
namespace Mine
open PySem PySem.Calls PySem.SeqAt
def PrG (x y:V) (σ:Ab) (v:V):Prop :=
 ∀ (r:Ar) (g:G) (s:Shared) (X Y:Value),At 0 r g σ s->Ak r.T g x X->Ak r.T g y Y->∀ R_:Prop,(∀ Ty id,s.TypeIs X Ty->typeLookup (.type Ty) "__getitem__" = pure (some (.builtin id))->r.wp (getItem X Y) (Ans r g v σ) s->R_)->R_
noncomputable def chr1 (c:Nat):Str:=⟨#[c]⟩
noncomputable def BH {α:Type} (lo hi:Option Int) (xs:List α):List α :=
 (xs.drop (lo.elim 0 (clipAt xs.length))).take (hi.elim xs.length (clipAt xs.length)-lo.elim 0 (clipAt xs.length))
noncomputable def cutS (lo hi:Option Int) (x:Str):Str:=⟨(BH lo hi x.cps.toList).toArray⟩
section
variable {n:Nat} {r:Ar} {c:Cx} {ρ:Ag} {g g' g₁:G} {σ σ' σ₁ σ₂ σ₃:Ab} {s s':Shared} {e a b:E} {x y v:V} {ws us:List V} {X:Value} {ds:List PyData}
theorem slice_is (slice:Expr) (x i:Value):∃ ws,subscripted slice false x i=operate ws (getItem x i):=by
 cases slice with
 | Slice _ _ c _=>cases c <;> exact ⟨_,rfl⟩
 | _=>exact ⟨_,rfl⟩
theorem sub_tail {value slice:Expr} {x i:Value} {Ty id:String} {Q:Value->Shared->Prop} (hT:s.TypeIs x Ty) (hl:typeLookup (.type Ty) "__getitem__" = pure (some (.builtin id)))
 (h:r.wp (getItem x i) Q s):r.wp (getitemInPython x>>=fun p=>subscripted slice p x i>>=fun v=>letTemporaryGo value x v>>=fun _=>pure v) Q s:=by
 rw [getitemInPython_of_ne hT.not_modules]
 refine wpAny_bind (wpAny_bind (wpAny_specialOf hT hl (wpAny_pure (wpAny_bind ?_))))
 obtain ⟨ws,hs⟩:=slice_is slice x i
 exact AD hs (wpAny_operating (wpAny_mono h (fun v s3 h3=>wpAny_bind (wpAny_letTemporaryGo (wpAny_pure h3))) fun _ _ y=>y))
theorem SE.sub (ha:SE n a ρ σ x σ₁) (hb:SE n b ρ σ₁ y σ₂) (h:PrG x y σ₂ v):SE n (.sub a b) ρ σ v σ₂:=by
 refine fun c g s ex hc I=>hc (fun ex=>c.wp (eval ex c.env) (Ans c.toAr g v σ₂) s) fun l r p h1 h2=>?_
 exact AD (arm_eval_Subscript ..) (Du ha hb h1 h2 I fun X Y g2 s2 le I2 r1 r2=>wpAny_bind (wpAny_standAt (h c.toAr g2 s2 X Y I2.at0 r1 r2 _ fun Ty id hT hl w=>sub_tail (r:=c.toAr) hT hl (AY le w))))
theorem D0 {i:Int} (h:small i=true):-(2 ^ 63)<=i/\i < 2 ^ 63:=by
 have h:=Bool.and_eq_true_iff.mp h
 exact ⟨Int.le_of_lt (of_decide_eq_true h.1),of_decide_eq_true h.2⟩
theorem FJ {k:Int} {n j:Nat} (h:seqIndex? k n=some j) (h0:0<=k):k.toNat=j:=by
 unfold seqIndex? at h
 rw [if_neg (Int.not_lt.mpr h0)] at h
 exact (AG h).2
theorem E2 {k:Int} {n j:Nat} (h:seqIndex? k n=some j) (h0:k < 0):(k+n).toNat=j/\-(n:Int)<=k:=by
 unfold seqIndex? at h
 rw [if_pos h0] at h
 have h:=AG h
 have q:=of_decide_eq_true (Bool.and_eq_true_iff.mp h.1).1
 exact ⟨h.2,by lia⟩
variable {k:Int} {j:Nat}
theorem g_list (h:As σ x=some ws) (hk:small k=true) (hj:seqIndex? k ws.length=some j) (hv:ws[j]? = some v):PrG x (vi k) σ v:=fun r g s X Y A hx hy=>by
 obtain ⟨t,rfl⟩:=hy
 refine A9 A.has hx h (R_:=fun X=>∀ R_:Prop,(∀ Ty id,s.TypeIs X Ty->typeLookup (.type Ty) "__getitem__" = pure (some (.builtin id))->r.wp (getItem X (.int k t)) (Ans r g v σ) s->R_)->R_) fun l xs hL hr hl _ R_ kk=>?_
 obtain ⟨w,hw,rw'⟩:=hr.get hv
 have hw:xs[j]? = some w:=Array.getElem?_toList.symm.trans hw
 obtain ⟨o,ho,hc,_⟩:=id hL
 refine kk "list" _ ⟨o,ho,hc⟩ slot_list_getitem.lookup ?_
 by_cases h0:0<=k
 ·exact wpAny_getItem_list hL h0 (D0 hk).2 (by rw [FJ hj h0]; exact hw) (.refl A.has rw')
 ·obtain ⟨q1,q2⟩:=E2 hj (Int.not_le.mp h0)
  exact wpAny_getItem_list_neg hL (Int.not_le.mp h0) (hl▸q2) (D0 hk).1 (by rw [<-hl,q1]; exact hw) (.refl A.has rw')
theorem g_tup (h:BG x=some ws) (hk:small k=true) (hj:seqIndex? k ws.length=some j) (hv:ws[j]? = some v):PrG x (vi k) σ v:=fun r g s X Y A hx hy=>by
 obtain ⟨t,rfl⟩:=hy
 refine Cm A.has hx h (R_:=fun X=>∀ R_:Prop,(∀ Ty id,s.TypeIs X Ty->typeLookup (.type Ty) "__getitem__" = pure (some (.builtin id))->r.wp (getItem X (.int k t)) (Ans r g v σ) s->R_)->R_) fun l xs hL hr hl _ R_ kk=>?_
 obtain ⟨w,hw,rw'⟩:=hr.get hv
 have hw:xs[j]? = some w:=Array.getElem?_toList.symm.trans hw
 obtain ⟨o,ho,hc,_⟩:=id hL
 exact kk "tuple" _ ⟨o,ho,hc⟩ F.slot_tuple_getitem.lookup (PyProof.Rows.getItem_tuple hL (D0 hk).1 (D0 hk).2 (by rw [<-hl]; exact hj) hw (.refl A.has rw'))
theorem chr1_len (c:Nat):(chr1 c).length<=line:=by show 1<=line; exact Nat.succ_pos _
theorem g_str {z:Str} {ch:Nat} (hk:small k=true) (hc:Txt.charAt z k=some ch):PrG (.d (.str z)) (vi k) σ (.d (.str (chr1 ch))):=fun r g s X Y A hx hy R_ kk=>by
 obtain ⟨t,rfl,_⟩:=hx
 obtain ⟨u,rfl⟩:=hy
 refine kk "str" _ (typeIs_str _ _ _) F.slot_str_getitem.lookup (SB.getItem ?_ (by rw [hc]; rfl) (.refl A.has.tok ⟨s.toks,?_,chr1_len ch⟩))
 ·unfold fitsSsize; simp; have:=D0 hk; lia
 ·unfold Txt.item; rw [hc]; rfl
def SO (n:Nat) (e:E) (ρ:Ag) (σ:Ab) (l:Option Int) (σ':Ab):Prop :=
 ∀ (c:Cx) (g:G) (s:Shared) (x:Option Expr),(if Bg e then IsNone else IsSome (IsE e c.K)) x->Inv n c ρ g σ s->c.wp (valueOrNone (evalOpt x c.env)) (fun X s'=>B9 c.T [] g σ' (fun _=>∃ p:Option (Int×Tok),X=partValue p/\p.map (·.1)=l) s') s
theorem SO.none:SO n .nil ρ σ none σ:=fun c g s x hc I=>by
 obtain rfl:x=Option.none:=hc
 exact wpAny_pure (.refl I.has ⟨Option.none,rfl,rfl⟩)
theorem SO.some {i:Int} (h0:Bg e=false) (h:SE n e ρ σ (vi i) σ'):SO n e ρ σ (some i) σ':=fun c g s x hc I=>by
 rw [h0] at hc
 refine hc (fun x=>c.wp (valueOrNone (evalOpt x c.env)) (fun X s'=>B9 c.T [] g σ' (fun _=>∃ p:Option (Int×Tok),X=partValue p/\p.map (·.1)=Option.some i) s') s) fun ex hc=>?_
 exact wpAny_mono (h c g s ex hc I) (fun X s' p=>p _ fun g' le H r=>.mk g' le H (r.elim fun t r=>⟨Option.some (i,t),r,rfl⟩)) fun _ _ h=>h
def PrC (x:V) (σ:Ab) (lo hi:Option Int) (Q:Ar->G->Value->Shared->Prop):Prop :=
 ∀ (r:Ar) (g:G) (s:Shared) (X:Value) (sl:Addr) (q1 q2:Option (Int×Tok)),At 0 r g σ s->Ak r.T g x X->s.heap.IsSliceOf sl (partValue q1) (partValue q2) .none->q1.map (·.1)=lo->q2.map (·.1)=hi ->
  ∀ R_:Prop,(∀ Ty id,s.TypeIs X Ty->typeLookup (.type Ty) "__getitem__" = pure (some (.builtin id))->r.wp (getItem X (.ref sl)) (Q r g) s->R_)->R_
theorem slc_then {lo hi:E} {l h:Option Int} {Q:Ar->G->Value->Shared->Prop} (up:∀ {r:Ar} {g g₁:G} {X:Value} {s':Shared},G.le [] g g₁->Q r g₁ X s'->Q r g X s') (ha:SE n a ρ σ x σ₁) (hl:SO n lo ρ σ₁ l σ₂) (hh:SO n hi ρ σ₂ h σ₃) (hx:PrC x σ₃ l h Q) {ex:Expr} (hc:IsE (.slc a lo hi) c.K ex) (I:Inv n c ρ g σ s):c.wp (eval ex c.env) (Q c.toAr g) s:=by
 refine hc (fun ex=>c.wp (eval ex c.env) (Q c.toAr g) s) fun v l u p p' h1 h2 h3=>?_
 rw [arm_eval_Subscript,arm_eval_Slice]
 refine Bj ha h1 I fun X g₁ s₁ le1 I1 r1=>wpAny_bind (wpAny_holding (Bd (r:=c.toAr) (hl c g₁ s₁ l h2 I1) fun lv g2 s2 le2 a2 r2=>?_))
 have I2:=I1.step le2 a2
 refine Bd (r:=c.toAr) (wpAny_holding (hh c g2 s2 u h3 I2)) fun uv g3 s3 le3 a3 r3=>wpAny_bind (wpAny_holding (wpAny_pure (wpAny_newObj_type (wpAny_bind (wpAny_standAt ?_)))))
 obtain ⟨q1,rfl,e1⟩:=r2
 obtain ⟨q2,rfl,e2⟩:=r3
 have I3:=I2.step le3 a3
 have I4:=I3.step (.refl _ _) (a3.keep (s':={ s3 with heap:=s3.heap.push { cls:=.type "slice",data:=.fields #[partValue q1,partValue q2,.none] } }) fun b o e=>Heap.get?_push_of_some _ e)
 refine hx c.toAr g3 _ X _ q1 q2 I4.at0 (Ak.mono (le2.trans le3).toup _ _ r1) (Heap.IsSliceOf.new s3.heap _ _ .none) e1 e2 _ fun Ty id hT hk w=>sub_tail (r:=c.toAr) hT hk (wpAny_mono w (fun _ _ p=>up (le1.trans (le2.trans le3)) p) fun _ _ h=>h)
theorem SL.slc {lo hi:E} {l h:Option Int} (ha:SE n a ρ σ x σ₁) (hl:SO n lo ρ σ₁ l σ₂) (hh:SO n hi ρ σ₂ h σ₃) (hx:PrC x σ₃ l h fun r g=>B0 r g σ₃ ws):SL n (.slc a lo hi) ρ σ ws σ₃:=fun c g s ex hc I=>slc_then (Q:=fun r g=>B0 r g σ₃ ws) (fun le p=>p.after le) ha hl hh hx hc I
theorem SE.slc {lo hi:E} {l h:Option Int} (ha:SE n a ρ σ x σ₁) (hl:SO n lo ρ σ₁ l σ₂) (hh:SO n hi ρ σ₂ h σ₃) (hx:PrC x σ₃ l h fun r g=>Ans r g v σ₃):SE n (.slc a lo hi) ρ σ v σ₃:=fun c g s ex hc I=>slc_then (Q:=fun r g=>Ans r g v σ₃) (fun le p=>B9.after le p) ha hl hh hx hc I
theorem part_is {q:Option (Int×Tok)} {l:Option Int} (h:q.map (·.1)=l):IsPart (partValue q) l:=by
 cases q with
 | none=>exact h▸.none
 | some p=>exact h▸.int _ _
theorem c_list {lo hi:Option Int} (h:As σ x=some ws):PrC x σ lo hi fun r g=>B0 r g σ (BH lo hi ws):=fun r g s X sl q1 q2 A hx hs e1 e2 =>
 A9 A.has hx h (R_:=fun X=>∀ R_:Prop,(∀ Ty id,s.TypeIs X Ty->typeLookup (.type Ty) "__getitem__" = pure (some (.builtin id))->r.wp (getItem X (.ref sl)) (B0 r g σ (BH lo hi ws)) s->R_)->R_) fun l xs hL hr hl hsz R_ kk=>by
  obtain ⟨o,ho,hc,_⟩:=id hL
  refine kk "list" _ ⟨o,ho,hc⟩ slot_list_getitem.lookup (wpAny_getItem_list_slice hL hs (part_is e1) (part_is e2) .none (by simp) (.push A.has ?_ ?_) (A8▸hsz))
  ·rw [slicePick_plain]
   unfold BH
   rw [hl]
   exact (hr.drop _).take _
  ·exact Nat.le_trans ((List.take_sublist _ _).trans (List.drop_sublist _ _)).length_le (hl▸hsz)
end
end Mine
namespace Mine
open PySem PySem.Calls PySem.SeqAt
section
variable {n:Nat} {r:Ar} {c:Cx} {ρ:Ag} {g g' g₁:G} {σ σ' σ₁ σ₂ σ₃:Ab} {s s':Shared} {e a b:E} {x y v:V} {ws us:List V} {X:Value} {ds:List PyData}
theorem clipAt_le (n:Nat) (i:Int):clipAt n i<=n:=Int.toNat_le.mpr (Int.max_le.mpr ⟨Int.natCast_nonneg n,Int.min_le_right _ _⟩)
theorem strSlice_eq (lo hi:Option Int) (x:Str):Txt.slice x lo hi=cutS lo hi x:=by
 have e:Builtin.Str.strSliceIndices lo hi 1 x.length=sliceRange (sliceBounds lo hi none x.length).1 (sliceBounds lo hi none x.length).2.1 1:=by
  unfold Builtin.Str.strSliceIndices
  cases lo <;> cases hi <;> simp [sliceBounds]
 have e2:(Builtin.Str.strSliceIndices lo hi 1 x.length).filterMap (x.cps[·]?)=BH lo hi x.cps.toList:=by
  rw [e,sliceBounds_plain]
  simp only [sliceRange_one,pick_run]
  unfold BH
  simp [Str.length]
 unfold Txt.slice cutS
 split
 ·rename_i q
  have q2:=eq_of_beq (Bool.and_eq_true_iff.mp q).2
  have l1:(BH lo hi x.cps.toList).length=x.length:=by
   have hb:hi.elim x.length (clipAt x.length)<=x.length:=by
    cases hi with
    | none=>exact Nat.le_refl _
    | some i=>exact clipAt_le _ _
   rw [e,sliceBounds_plain] at q2
   simp only [sliceRange_one,List.length_map,List.length_range] at q2
   unfold BH
   have hx:x.cps.toList.length=x.length:=Array.length_toList
   rw [hx,List.length_take,List.length_drop,hx,q2]
   exact Nat.min_eq_left (Nat.le_trans (Nat.le_of_eq q2.symm) (Nat.sub_le_sub_right hb _))
  have l2:BH lo hi x.cps.toList=x.cps.toList:=((List.take_sublist _ _).trans (List.drop_sublist _ _)).eq_of_length (l1.trans Array.length_toList.symm)
  rw [l2]
 ·rw [e2]
theorem cutS_len (lo hi:Option Int) (x:Str):(cutS lo hi x).length<=x.length:=by
 show ((BH lo hi x.cps.toList).toArray).size<=x.cps.size
 rw [List.size_toArray,<-Array.length_toList]
 exact ((List.take_sublist _ _).trans (List.drop_sublist _ _)).length_le
theorem c_str {lo hi:Option Int} {z:Str}:PrC (.d (.str z)) σ lo hi fun r g=>Ans r g (.d (.str (cutS lo hi z))) σ:=fun r g s X sl q1 q2 A hx hs e1 e2 R_ kk=>by
 obtain ⟨t,rfl,hl⟩:=hx
 refine kk "str" _ (typeIs_str _ _ _) F.slot_str_getitem.lookup (wpAny_getItem_str_slice (l:=q1) (u:=q2) (st:=none) hs rfl ?_)
 have e:(if (((none:Option (Int×Tok)).map (·.1)).getD 1 == 1&&(slicePicked z q1 q2 none).length == z.length)=true then z else ⟨((slicePicked z q1 q2 none).filterMap (z.cps[·]?)).toArray⟩)=cutS (q1.map (·.1)) (q2.map (·.1)) z:=strSlice_eq _ _ _
 unfold sliceMade
 refine post_val_or_str ?_
 rw [e,e1,e2]
 exact ⟨Nat.le_trans (cutS_len _ _ _) (A8▸hl),fun t' k=>.refl A.has.tok ⟨t',rfl,Nat.le_trans (cutS_len _ _ _) hl⟩⟩
theorem c_tup {k:Nat} {xs:List PyData} (h1:1<=k) (h2:k<=xs.length):PrC (.d (.tuple xs)) σ (some (k:Int)) none fun r g=>Ans r g (.d (.tuple (xs.drop k))) σ:=fun r g s X sl q1 q2 A hx hs e1 e2=>by
 refine hx (fun X=>∀ R_:Prop,(∀ Ty id,s.TypeIs X Ty->typeLookup (.type Ty) "__getitem__" = pure (some (.builtin id))->r.wp (getItem X (.ref sl)) (Ans r g (.d (.tuple (xs.drop k))) σ) s->R_)->R_) fun l o vs m ho hc hd hr hl R_ kk=>?_
 have ho':=A.has.fz _ _ ho
 have hn:xs.length=vs.size:=hr.all.length
 refine kk "tuple" _ ⟨o,ho',hc⟩ F.slot_tuple_getitem.lookup ?_
 cases q1 with
 | none=>exact Ac e1
 | some q1=>cases q2 with
 | some _=>exact FS e2
 | none =>
  obtain ⟨i,t⟩:=q1
  obtain rfl:i=(k:Int):=Option.some.inj e1
  have hlen:(xs.drop k).length<=line:=Nat.le_trans (List.drop_sublist _ _).length_le hl
  refine PyProof.Rows.getItem_tuple_from (u:=t) ⟨o,ho',hc,m,hd⟩ hs h1 (hn▸h2) ?_ (by rw [<-A8,<-hn]; exact hl)
  exact tup_put (A.has.keep fun b o e=>Heap.get?_push_of_some _ e) (A.has.free (AN _)) (Heap.get?_push_size _ rfl) rfl rfl (hr.all.drop k) hlen
theorem B5 {es:E} {K:Kx} {xs:List Expr} (pos:Pos) (env:Env) (h:Dt es K xs):(backTo pos (starEach xs env)).any (·.1)=false:=by
 induction es generalizing xs with
 | nil=>rw [show xs=[] from h]; rfl
 | cons e es _ ih=>exact h (fun xs=>(backTo pos (starEach xs env)).any (·.1)=false) fun x l h1 h3=>by rw [(BC e h1).star]; exact ih h3
 | _=>exact h.elim
theorem BN {es:E} {K:Kx} {xs:List Expr} {pos:Pos} {env:Env} {f:Value} {Q:Args->Shared->Prop} (hc:Dt es K xs) (h:r.wp (spliced (backTo pos (starEach xs env))) (fun vs s'=>Q ⟨vs,[]⟩ s') s):r.wp (evalArgs f true (backTo pos (starEach xs env)) []) Q s:=by
 cases es with
 | nil =>
  obtain rfl:xs=[]:=hc
  have e2:evalArgs f true (backTo pos (starEach [] env)) []=pure ⟨[],[]⟩:=by first | rfl | (unfold evalArgs; rfl)
  exact AD e2 fun Γ p hΓ=>h Γ p hΓ
 | cons e es=>exact hc (fun xs=>r.wp (spliced (backTo pos (starEach xs env))) (fun vs s'=>Q ⟨vs,[]⟩ s') s->r.wp (evalArgs f true (backTo pos (starEach xs env)) []) Q s) (fun x l h1 h3 h=>by rw [(BC e h1).star] at h ⊢; exact evalArgs_plain h) h
 | _=>exact hc.elim
theorem biVal_cases (b:Bi) {P:Value->Prop} (h1:∀ id,P (.builtin id)) (h2:∀ t,P (.type t)):P (A7 b):=by cases b <;> first | exact h1 _ | exact h2 _
theorem biGV_val {T:Top} {b:Bi} {x:Value} (h:GVal T (biGV b) x):x=A7 b:=by cases b <;> exact h
theorem bi_then {b:Bi} {Q:Ar->G->Value->Shared->Prop} (up:∀ {r:Ar} {g g₁:G} {X:Value} {s':Shared},G.le [] g g₁->Q r g₁ X s'->Q r g X s') (h:SEs n a ρ σ ws σ₁) (hx:∀ (r:Ar) (g:G) (s:Shared) (Xs:List Value),At n r g σ₁ s->Ao r.T g ws Xs->r.wp (call (A7 b) Xs) (Q r g) s) {ex:Expr} (hc:IsE (.bi b a) c.K ex) (I:Inv n c ρ g σ s):c.wp (eval ex c.env) (Q c.toAr g) s:=by
 refine hc (fun ex=>c.wp (eval ex c.env) (Q c.toAr g) s) fun nm np vs p h1 h2=>?_
 refine PyProof.Rows.Call_Name rfl (BQ I h1 fun x hv=>?_)
 obtain rfl:=biGV_val hv
 have k:c.wp (evalArgs (A7 b) true (backTo p (starEach vs c.env)) []) (fun a s₁=>wpAny (model c.T.prog c.T.w) c.A (call (A7 b) a.pos a.kw) (Q c.toAr g) (fun _ _=>False) s₁) s :=
  BN (r:=c.toAr) h2 (wpAny_mono (h c g s vs p h2 I) (fun Xs s₁ p=>p _ fun g₁ le a1 r1=>wpAny_mono (hx c.toAr g₁ s₁ Xs (I.step le a1).toAt r1) (fun _ _ p=>up le p) fun _ _ h=>h) fun _ _ h=>h)
 exact biVal_cases b (P:=fun f=>c.wp (evalArgs f true (backTo p (starEach vs c.env)) []) (fun a s₁=>wpAny (model c.T.prog c.T.w) c.A (call f a.pos a.kw) (Q c.toAr g) (fun _ _=>False) s₁) s->c.wp (callWith p f [] (backTo p (starEach vs c.env)) []) (Q c.toAr g) s)
  (fun id k=>callWith_builtin (B5 _ _ h2) k) (fun t k=>PyProof.Rows.callWith_type (B5 _ _ h2) k) k
theorem SE.bi {b:Bi} (h:SEs n a ρ σ ws σ₁) (hx:PrL (fun Xs=>call (A7 b) Xs) ws σ₁ v σ₂ n):SE n (.bi b a) ρ σ v σ₂:=fun c g s ex hc I=>bi_then (Q:=fun r g=>Ans r g v σ₂) (fun le p=>B9.after le p) h hx hc I
theorem SL.bi {b:Bi} (h:SEs n a ρ σ ws σ₁) (hx:∀ (r:Ar) (g:G) (s:Shared) (Xs:List Value),At n r g σ₁ s->Ao r.T g ws Xs->r.wp (call (A7 b) Xs) (B0 r g σ₁ us) s):SL n (.bi b a) ρ σ us σ₁:=fun c g s ex hc I=>bi_then (Q:=fun r g=>B0 r g σ₁ us) (fun le p=>p.after le) h hx hc I
theorem SE.bi1 {b:Bi} {k:Nat} (h:SEs n a ρ σ [x] σ₁) (hx:Pr1 (fun X=>call (A7 b) [X]) x σ₁ v σ₂ k) (hk:k<=n:=by exact Nat.zero_le _):SE n (.bi b a) ρ σ v σ₂:=SE.bi h fun r g s Xs A R=>by
 obtain ⟨X,rfl,rx⟩:=R.one
 exact hx r g s X (A.less hk) rx
theorem SE.bi2 {f:Bi} {k:Nat} (h:SEs n a ρ σ [x,y] σ₂) (hx:Pr2 (fun X Y=>call (A7 f) [X,Y]) x y σ₂ v σ₃ k) (hk:k<=n:=by exact Nat.zero_le _):SE n (.bi f a) ρ σ v σ₃:=SE.bi h fun r g s Xs A R=>by
 obtain ⟨X,Y,rfl,rx,ry⟩:=R.two
 exact hx r g s X Y (A.less hk) rx ry
theorem SL.bi1 {b:Bi} {k:Nat} (h:SEs n a ρ σ [x] σ₁) (hx:PrN1 (fun X=>call (A7 b) [X]) x σ₁ ws k) (hk:k<=n:=by exact Nat.zero_le _):SL n (.bi b a) ρ σ ws σ₁:=SL.bi h fun r g s Xs A R=>by
 obtain ⟨X,rfl,rx⟩:=R.one
 exact hx r g s X (A.less hk) rx
end
end Mine
namespace Mine
open PySem PySem.Calls PySem.SeqAt
noncomputable def strOf (n:Int):Str:=Str.ofString (toString n)
noncomputable def AU (a b:Str):Bool:=decide (a.cps.toList < b.cps.toList)
theorem ltStr_trans {a b c:Str} (h:AU a b=true) (h':AU b c=true):AU a c=true:=decide_eq_true (List.lt_trans (of_decide_eq_true h) (of_decide_eq_true h'))
theorem F4 {a b:Str} (h:AU a b=false) (h':AU b a=false):a=b:=by
 have:a.cps.toList=b.cps.toList:=List.le_antisymm (List.not_lt.mp (of_decide_eq_false h')) (List.not_lt.mp (of_decide_eq_false h))
 cases a; cases b; exact congrArg _ (Array.toList_inj.mp this)
theorem leStr_trans {a b c:Str} (h:AU b a=false) (h':AU c b=false):AU c a=false:=by
 cases e:AU c a with
 | false=>rfl
 | true=>cases e':AU a b with
  | true=>exact tt_ ((ltStr_trans e e').symm.trans h')
  | false=>rw [F4 e' h] at e; exact tt_ (e.symm.trans h')
def Di (l:List Str):Prop:=l.Pairwise fun a b=>AU b a=false
theorem rising_unique {l:List Str}:∀ {l':List Str},Di l->Di l'->l.Perm l'->l=l':=by
 induction l with
 | nil=>exact fun _ _ p=>(List.nil_perm.mp p).symm
 | cons x r ih =>
  intro l' h h' p
  cases l' with
  | nil=>exact absurd (List.perm_nil.mp p) (List.cons_ne_nil _ _)
  | cons y r' =>
   obtain ⟨h1,h2⟩:=List.pairwise_cons.mp h
   obtain ⟨h1',h2'⟩:=List.pairwise_cons.mp h'
   have e:x=y:=(List.mem_cons.mp (p.mem_iff.mpr (List.mem_cons_self ..))).elim (fun q=>q.symm) fun q=>(List.mem_cons.mp (p.mem_iff.mp (List.mem_cons_self ..))).elim id fun q'=>F4 (h1' x q') (h1 y q)
   subst e
   rw [ih h2 h2' (List.Perm.cons_inv p)]
theorem E4 (l:List Str):∀ (p:Str),PyProof.Rows.risingS p l=true->Di (p::l):=by
 induction l with
 | nil=>exact fun p _=>List.pairwise_singleton ..
 | cons x r ih =>
  intro p h
  have h:=Bool.and_eq_true_iff.mp h
  have h0:AU x p=false:=by have:=h.1; rw [Bool.not_eq_true',PyProof.Rows.ltCps_eq] at this; exact this
  have h2:=ih x h.2
  exact List.pairwise_cons.mpr ⟨fun z hz=>(List.mem_cons.mp hz).elim (fun q=>q▸h0) fun hz=>leStr_trans h0 ((List.pairwise_cons.mp h2).1 z hz),h2⟩
theorem E3 {l:List Str} (h:PyProof.Rows.sortedS l=true):Di l:=by
 cases l with
 | nil=>exact List.Pairwise.nil
 | cons x r=>exact E4 r x h
section
variable {σ:Ab} {x y v:V} {i j:Int} {ws:List V} {t:String} {T:Top} {g:G}
noncomputable abbrev vss (ss:List Str):List V:=ss.map fun y=>.d (.str y)
theorem strs_rep {ss:List Str}:∀ {xs:List Value},Ao T g (vss ss) xs->PyProof.Rows.StrsAre xs ss/\∀ y∈ss,y.length<=line:=by
 induction ss with
 | nil=>intro xs h; rw [h.nil]; exact ⟨.nil,fun _ h=>(nomatch h)⟩
 | cons s ss ih =>
  intro xs h
  obtain ⟨x,xs,rfl,⟨t,rfl,hl⟩,h2⟩:=h.cons
  exact ⟨.cons s t (ih h2).1,fun z hz=>(List.mem_cons.mp hz).elim (fun q=>q▸hl) ((ih h2).2 z)⟩
theorem rep_strs {xs:List Value} {ss:List Str} (h:PyProof.Rows.StrsAre xs ss) (hl:∀ y∈ss,y.length<=line):Ao T g (vss ss) xs:=by
 induction h with
 | nil=>exact trivial
 | cons y t h ih=>exact ⟨⟨t,rfl,hl y (List.mem_cons_self ..)⟩,ih fun z hz=>hl z (List.mem_cons_of_mem _ hz)⟩
theorem f_sorted {ss ss':List Str} (h:As σ x=some (vss ss)) (hl:ss.length < 64) (hp:ss'.Perm ss) (hs:Di ss'):PrN1 (fun X=>call (A7 .sorted) [X]) x σ (vss ss'):=fun r g s X A hx =>
 A9 A.has hx h (R_:=fun X=>r.wp (call (.builtin "sorted") [X]) (B0 r g σ (vss ss')) s) fun a ys hL hr hn _=>by
  obtain ⟨h1,h2⟩:=strs_rep hr
  have hlen:ys.toList.length < 64:=by rw [<-hr.length,List.length_map]; exact hl
  refine PyProof.Rows.sorted_strs (vs:=ys.toList) hL h1 hlen fun out out' a1 a2 a3=>?_
  obtain rfl:out'=ss':=rising_unique (E3 a3) hs (a2.trans hp.symm)
  obtain ⟨k,hk⟩:=PyProof.Rows.sortedAll_at s.heap ys.toList out
  exact .made A.has (fun b o e=>PyProof.Rows.sortedAll_old e) (Heap.get?_none_of_le (Nat.le_succ _)) hk (rep_strs a1 fun z hz=>h2 z (a2.mem_iff.mp hz)) (by rw [List.length_map,hp.length_eq]; exact Nat.le_trans (Nat.le_of_lt hl) (by decide))
theorem f_len (h:As σ x=some ws):Pr1 (fun X=>call (A7 .len) [X]) x σ (vi ws.length) σ:=fun r g s X A hx =>
 A9 A.has hx h (R_:=fun X=>r.wp (call (.builtin "len") [X]) (Ans r g (vi ws.length) σ) s) fun a ys hL hr hn hs=>PyProof.Rows.len_list hL (Int.ofNat_lt.mpr (Fj hs)) (.refl A.has.tok ⟨_,by rw [hn]⟩)
theorem f_lenT (h:BG x=some ws):Pr1 (fun X=>call (A7 .len) [X]) x σ (vi ws.length) σ:=fun r g s X A hx =>
 Cm A.has hx h (R_:=fun X=>r.wp (call (.builtin "len") [X]) (Ans r g (vi ws.length) σ) s) fun a ys hL hr hn hs=>PyProof.Rows.len_tuple hL (Int.ofNat_lt.mpr (Fj hs)) (.refl A.has.tok ⟨_,by rw [hn]⟩)
theorem f_lenS {z:Str}:Pr1 (fun X=>call (A7 .len) [X]) (.d (.str z)) σ (vi z.cps.size) σ:=fun r g s X A hx=>by
 obtain ⟨t,rfl,hl⟩:=hx
 exact P.len_str (Int.not_le.mpr (Int.ofNat_lt.mpr (Fj hl))) (.refl A.has.tok ⟨_,rfl⟩)
theorem f_str (hi:i.natAbs < 1000000000000):Pr1 (fun X=>call (A7 .str) [X]) (vi i) σ (.d (.str (strOf i))) σ:=fun r g s X A hx=>by
 obtain ⟨t,rfl⟩:=hx
 refine P.str_of_int ?_ (.refl A.has.tok ⟨_,rfl,?_⟩)
 ·by_cases h0:i.natAbs=0
  ·rw [h0]; decide
  ·exact Nat.lt_trans ((Nat.log2_lt (k:=40) h0).mpr (Nat.lt_trans hi (by decide))) (by decide)
 ·show (Str.ofString (toString i)).length<=line
  rw [ofString_length]
  exact Nat.le_trans (int_text_length_le10 (a:=i) (k:=12) (by decide) hi) (by decide)
theorem f_min:Pr2 (fun X Y=>call (A7 .min) [X,Y]) (vi i) (vi j) σ (vi (if j < i then j else i)) σ 3:=fun r g s X Y A hx hy=>by
 obtain ⟨t,rfl⟩:=hx
 obtain ⟨u,rfl⟩:=hy
 refine min_two_ints (A.hh.none (Nat.le_refl _)) fun h' tk hk=>.refl (A.has.keep hk) ?_
 by_cases q:j < i
 ·rw [if_pos q,if_pos q]; exact ⟨u,rfl⟩
 ·rw [if_neg q,if_neg q]; exact ⟨t,rfl⟩
theorem f_list (h:As σ x=some ws):PrN1 (fun X=>call (A7 .list) [X]) x σ ws:=fun r g s X A hx =>
 A9 A.has hx h (R_:=fun X=>r.wp (call (.type "list") [X]) (B0 r g σ ws) s) fun a ys hL hr hn hs=>by
  obtain ⟨o,ho,hc,m,hd⟩:=hL
  exact PySem.call_list_seq (hsz:=A8▸hs) a (.inl rfl) ho hc hd fun h' c' hk hD=>.made A.has hk (AN _) hD hr (hn▸hs)
theorem f_ord {ch:Nat}:Pr1 (fun X=>call (A7 .ord) [X]) (.d (.str (chr1 ch))) σ (vi ch) σ:=fun r g s X A hx=>by
 obtain ⟨t,rfl,_⟩:=hx
 exact P.ord_of_char (.refl A.has.tok ⟨_,rfl⟩)
noncomputable abbrev vbs (bs:List Bool):List V:=bs.map fun b=>.d (.bool b)
theorem bools_rep {bs:List Bool}:∀ {xs:List Value},Ao T g (vbs bs) xs->xs=bs.map Value.bool:=by
 induction bs with
 | nil=>exact fun h=>h.nil
 | cons b bs ih =>
  intro xs h
  obtain ⟨x,xs,rfl,h1,h2⟩:=h.cons
  rw [ih h2,show x=.bool b from h1]; rfl
theorem range_bs (bs:List Bool):(List.range bs.length).map (fun i=>bs[i]?.getD false)=bs:=by
 induction bs with
 | nil=>rfl
 | cons b bs ih=>rw [List.length_cons,List.range_succ_eq_map,List.map_cons,List.map_map]; exact congrArg (b :: ·) ih
theorem bools_walk {r:Ar} {s:Shared} {X:Value} {bs:List Bool} {Q:Value->Shared->Prop} {f:List Nat->(Nat->Bool)->Bool} {q:Bool} (A:At 3 r g σ s) (h:As σ x=some (vbs bs)) (hx:Ak r.T g x X) (hq:f (List.range bs.length) (fun i=>bs[i]?.getD false)=q) (k:∀ s',Has r.T g σ s'->Q (.bool q) s') :
 wpAny (model r.T.prog r.T.w) r.A.in1 (pyIter X) (fun it s2=>∃ I fp wr n P St tr,it=.ref I/\Walks r.T.prog r.T.w r.A.in1 I fp wr n P St/\St 0 s2.heap/\TruthOf r.T.prog r.T.w r.A.in1 P tr ∧
  ∀ h' tk,(∀ b o,b∉wr->s2.heap.get? b=some o->h'.get? b=some o)->Q (.bool (f (List.range n) tr)) { s2 with heap:=h',toks:=tk }) (fun _ _=>False) s:=by
 refine (A9 A.has hx h (R_:=fun X=>wpAny (model r.T.prog r.T.w) r.A.in1 (pyIter X) _ (fun _ _=>False) s) fun a ys hL hr hn hs=>wpAny_pyIter_list hL ?_)
 have hb:=bools_rep hr
 have hsz:ys.size=bs.length:=by rw [<-hn,List.length_map]
 obtain ⟨ol,hol,hcl,nl,hdl⟩:=id hL
 refine ⟨_,_,_,_,_,_,fun i=>bs[i]?.getD false,rfl,Walks.list (A:=r.A.in1) (show r.A.in1.handled=none from A.hh.none (Nat.le_refl _)) s.heap.objs.size a (Nat.ne_of_lt (Heap.lt_size hol)) ys,⟨⟨_,Heap.get?_push_size _ rfl,rfl,rfl⟩,⟨ol,Heap.get?_push_of_some _ hol,hcl,nl,hdl⟩⟩,?_,fun h' tk hk=>?_⟩
 ·intro i w s' Q E hw hq
  have hw:ys.toList[i]? = some w:=Array.getElem?_toList.trans hw
  have hq:Q (bs[i]?.getD false) s':=hq
  rw [hb,List.getElem?_map] at hw
  cases ebi:bs[i]? with
  | none=>rw [ebi] at hw; exact Ac hw
  | some c =>
   rw [ebi] at hw hq
   rw [<-Option.some.inj hw]
   exact wpAny_truthy_bool hq
 ·rw [hsz,hq]
  exact k _ (A.has.keep fun b o e=>hk b o (fun q=>by rw [List.mem_singleton.mp q,AN] at e; exact Ac e) (Heap.get?_push_of_some _ e))
theorem f_all {bs:List Bool} (h:As σ x=some (vbs bs)):Pr1 (fun X=>call (A7 .all) [X]) x σ (vb (bs.all id)) σ 3:=fun r g s X A hx =>
 call_all_walk (bools_walk (f:=fun l t=>l.all t) A h hx (List.all_map.symm.trans (congrArg (List.all · id) (range_bs bs))) fun s' H=>.refl H rfl)
theorem f_any {bs:List Bool} (h:As σ x=some (vbs bs)):Pr1 (fun X=>call (A7 .any) [X]) x σ (vb (bs.any id)) σ 3:=fun r g s X A hx =>
 call_any_walk (bools_walk (f:=fun l t=>l.any t) A h hx (List.any_map.symm.trans (congrArg (List.any · id) (range_bs bs))) fun s' H=>.refl H rfl)
end
end Mine
namespace Mine
open PySem PySem.Calls PySem.SeqAt
section
variable {σ:Ab} {x y v:V} {i j:Int} {a b:Str}
theorem c_ints {m:Value->Value->Sem Value} {q:Bool} (h:∀ (r:Ar) (s:Shared) (t u:Tok) (Q:Value->Shared->Prop),Q (.bool q) s->wpAny (model r.T.prog r.T.w) r.A (m (.int i t) (.int j u)) Q (fun _ _=>False) s):Pr2 m (vi i) (vi j) σ (vb q) σ:=E8 fun r g s X Y A hx hy Q k=>by
 obtain ⟨t,rfl⟩:=hx
 obtain ⟨u,rfl⟩:=hy
 exact h r s t u Q k
theorem p_lt:Pr2 (compareOp .Lt) (vi i) (vi j) σ (vb (decide (i < j))) σ:=c_ints fun r s t u Q h=>P.lt_int h
theorem p_le:Pr2 (compareOp .LtE) (vi i) (vi j) σ (vb (decide (i<=j))) σ:=c_ints fun r s t u Q h=>P.le_int h
theorem p_gt:Pr2 (compareOp .Gt) (vi i) (vi j) σ (vb (decide (i > j))) σ:=c_ints fun r s t u Q h=>P.gt_int h
theorem p_ge:Pr2 (compareOp .GtE) (vi i) (vi j) σ (vb (decide (i ≥ j))) σ:=c_ints fun r s t u Q h=>P.ge_int h
theorem p_geS:Pr2 (compareOp .GtE) (.d (.str a)) (.d (.str b)) σ (vb (!AU a b)) σ:=E8 fun r g s X Y A hx hy Q k=>by
 obtain ⟨t,rfl,_⟩:=hx
 obtain ⟨u,rfl,_⟩:=hy
 exact P.ge_str k
theorem p_is:Pr2 (compareOp .Is) (.d .none) (.d .none) σ (vb true) σ/\Pr2 (compareOp .IsNot) (.d .none) (.d .none) σ (vb false) σ:=by
 constructor <;> exact E8 fun r g s X Y A hx hy Q k=>by
  obtain rfl:X=.none:=hx
  obtain rfl:Y=.none:=hy
  first | exact wpAny_is_self rfl k | exact wpAny_isNot_self rfl k
noncomputable def E9 (v:V):Bool:=match v with | .d x=>(match x with | .none=>false | .dict _=>false | _=>true) | .ty _=>false | _=>true
theorem notNone_form {T:Top} {g:G} {X:Value} (h:E9 v=true) (r:Ak T g v X):plainIs X .none=true/\X≠.none:=by
 have rf:∀ a,plainIs (.ref a) .none=true/\Value.ref a≠.none:=fun a=>⟨rfl,fun q=>nomatch q⟩
 cases v with
 | d x=>cases x with
  | none=>exact ff_ h
  | bool b=>rw [show X=.bool b from r]; exact ⟨rfl,fun q=>nomatch q⟩
  | int i=>obtain ⟨t,rfl⟩:=r; exact ⟨rfl,fun q=>nomatch q⟩
  | str z=>obtain ⟨t,rfl,_⟩:=r; exact ⟨rfl,fun q=>nomatch q⟩
  | list _=>exact r (fun X=>plainIs X .none=true/\X≠.none) fun a _ _ _ _ _ _ _ _=>rf a
  | tuple _=>exact r (fun X=>plainIs X .none=true/\X≠.none) fun a _ _ _ _ _ _ _ _=>rf a
  | dict _=>exact ff_ h
 | ref k=>obtain ⟨a,_,rfl⟩:=r; exact rf a
 | tup _=>exact r (fun X=>plainIs X .none=true/\X≠.none) fun a _ _ _ _ _ _ _ _=>rf a
 | ty _=>exact ff_ h
 | obj _=>exact r (fun X=>plainIs X .none=true/\X≠.none) fun a _ _ _ _ _ _ _ _ _ _ _=>rf a
 | pr _ _=>exact r (fun X=>plainIs X .none=true/\X≠.none) fun a _ _ _ _ _ _ _ _=>rf a
 | exc _=>exact r (fun X=>plainIs X .none=true/\X≠.none) fun a _ _ _ _ _ _ _ _=>rf a
 | ecl _=>obtain ⟨a,_,rfl⟩:=r; exact rf a
theorem p_isN (h:E9 v=true):Pr2 (compareOp .Is) v (.d .none) σ (vb false) σ/\Pr2 (compareOp .IsNot) v (.d .none) σ (vb true) σ:=by
 constructor <;> exact E8 fun r g s X Y A hx hy Q k=>by
  obtain rfl:Y=.none:=hy
  have f:=notNone_form h hx
  first | exact wpAny_is_other f.1 f.2 k | exact wpAny_isNot_other f.1 f.2 k
noncomputable def tyOf (σ:Ab) (v:V):Option String :=
 match v with
 | .d x=>(match x with | .tuple _=>some "tuple" | .list _=>some "list" | .str _=>some "str" | .int _=>some "int" | .bool _=>some "bool" | _=>none)
 | .tup _=>some "tuple"
 | .ref k=>(CG σ[k]?).bind fun _=>some "list"
 | _=>none
theorem tyOf_is {T:Top} {g:G} {s:Shared} {X:Value} {t:String} (H:Has T g σ s) (r:Ak T g v X) (h:tyOf σ v=some t):s.TypeIs X t:=by
 have sq:∀ {cl:String} {P:List Value->Prop} {n:Nat},B7 g.fz cl X P n->s.TypeIs X cl:=fun r=>r (fun X=>s.TypeIs X _) fun a o vs m hf hc _ _ _=>⟨o,H.fz _ _ hf,hc⟩
 cases v with
 | d x=>cases x with
  | bool b=>rw [show X=.bool b from r,<-Option.some.inj h]; exact typeIs_bool _ _
  | int i=>obtain ⟨u,rfl⟩:=r; rw [<-Option.some.inj h]; exact typeIs_int _ _ _
  | str z=>obtain ⟨u,rfl,_⟩:=r; rw [<-Option.some.inj h]; exact typeIs_str _ _ _
  | list _=>rw [<-Option.some.inj h]; exact sq r
  | tuple _=>rw [<-Option.some.inj h]; exact sq r
  | _=>exact Ac h
 | tup _=>rw [<-Option.some.inj h]; exact sq r
 | ref k =>
  obtain ⟨ws,e,h⟩:=Aa h
  rw [<-Option.some.inj h]
  exact A9 (v:=.ref k) H r e (R_:=fun X=>s.TypeIs X "list") fun a xs hL _ _ _=>hL.elim fun o h=>⟨o,h.1,h.2.1⟩
 | _=>exact Ac h
theorem f_isi {t:String} (h:tyOf σ v=some t) (ht:typeOf (.type t)=pure (.type "type")) (hs:isSubtype (.type t) (.type t)=pure true):Pr2 (fun X Y=>call (A7 .isinstance) [X,Y]) v (.ty t) σ (vb true) σ:=fun r g s X Y A hx hy=>by
 obtain rfl:Y=.type t:=hy
 exact call_isinstance (isinstance_true (Tx:=t) ht hs) ⟨tyOf_is A.has hx h,.refl A.has.tok rfl⟩
theorem f_isIB:Pr2 (fun X Y=>call (A7 .isinstance) [X,Y]) (vi i) (.ty "bool") σ (vb false) σ:=fun r g s X Y A hx hy=>by
 obtain rfl:Y=.type "bool" := hy
 obtain ⟨t,rfl⟩:=hx
 exact call_isinstance (isinstance_false_int (by decide) (by kernel_rfl) (by rw [isSubtype_type]; kernel_rfl)) (.refl A.has.tok rfl)
end
section
variable {κ:Type} [DecidableEq κ]
noncomputable def Az {β:Type} (kvs:List (κ×β)) (k:κ):Option β:=(kvs.find? fun p=>p.1=k).map (·.2)
noncomputable def CF {β:Type} (kvs:List (κ×β)) (k:κ) (d:β):List (κ×β) :=
 if kvs.any (fun p=>p.1=k) then kvs.map (fun p=>if p.1=k then (p.1,d) else p) else kvs++[(k,d)]
theorem put_len {β:Type} (kvs:List (κ×β)) (k:κ) (d:β):(CF kvs k d).length<=kvs.length+1:=by
 unfold CF
 by_cases e:(kvs.any fun p=>p.1=k)=true
 ·rw [if_pos e,List.length_map]; exact Nat.le_succ _
 ·rw [if_neg e,List.length_append]; exact Nat.le_refl _
theorem any_find {α:Type} (p:α->Bool) (l:List α):l.any p=(l.find? p).isSome:=by
 induction l with
 | nil=>rfl
 | cons a l ih=>rw [List.any_cons,List.find?_cons,ih]; cases p a <;> rfl
theorem GK {β ω κ':Type} [DecidableEq κ'] {R:κ×β->ω->Prop} {key:ω->κ'} {f:κ->κ'} (hf:∀ a b,f a=f b->a=b) (hR:∀ p w,R p w->f p.1=key w) (k:κ) {kvs:List (κ×β)}:∀ {ws:List ω},Aq R kvs ws ->
 (kvs.find? (fun p=>p.1=k)=none/\ws.find? (fun w=>key w=f k)=none)\/∃ p w,kvs.find? (fun p=>p.1=k)=some p/\ws.find? (fun w=>key w=f k)=some w/\R p w:=by
 induction kvs with
 | nil=>intro ws h; rw [h.nil]; exact .inl ⟨rfl,rfl⟩
 | cons p kvs ih =>
  intro ws h
  obtain ⟨w,ws,rfl,h1,h2⟩:=h.cons
  rw [List.find?_cons,List.find?_cons,<-hR p w h1]
  by_cases e:p.1=k
  ·rw [decide_eq_true e,decide_eq_true (congrArg f e)]; exact .inr ⟨p,w,rfl,rfl,h1⟩
  ·rw [decide_eq_false e,decide_eq_false fun q=>e (hf _ _ q)]; exact ih h2
theorem put_rep {β ω κ':Type} [DecidableEq κ'] {R:κ×β->ω->Prop} {key:ω->κ'} {f:κ->κ'} (hf:∀ a b,f a=f b->a=b) (hR:∀ p w,R p w->f p.1=key w) {k:κ} {d:β} {w₀:ω} {up:ω->ω} (h0:R (k,d) w₀) (hu:∀ p w,R p w->p.1=k->R (p.1,d) (up w)) {kvs:List (κ×β)} {ws:List ω} (h:Aq R kvs ws) :
 Aq R (CF kvs k d) (if (ws.find? (fun w=>key w=f k)).isSome then ws.map (fun w=>if key w=f k then up w else w) else ws++[w₀]):=by
 have hm:∀ {kvs:List (κ×β)} {ws:List ω},Aq R kvs ws->Aq R (kvs.map fun p=>if p.1=k then (p.1,d) else p) (ws.map fun w=>if key w=f k then up w else w):=by
  intro kvs
  induction kvs with
  | nil=>intro ws h; rw [h.nil]; exact trivial
  | cons p kvs ih =>
   intro ws h
   obtain ⟨w,ws,rfl,h1,h2⟩:=h.cons
   refine ⟨?_,ih h2⟩
   dsimp only
   rw [<-hR p w h1]
   by_cases e:p.1=k
   ·rw [if_pos e,if_pos (congrArg f e)]; exact hu p w h1 e
   ·rw [if_neg e,if_neg fun q=>e (hf _ _ q)]; exact h1
 unfold CF
 rw [any_find]
 rcases GK hf hR k h with ⟨e1,e2⟩ | ⟨p,w,e1,e2,_⟩
 ·rw [e1,e2]; exact h.append ⟨h0,trivial⟩
 ·rw [e1,e2]; exact hm h
end
section
variable {r:Ar} {g:G} {σ σ':Ab} {s:Shared} {k:Nat} {a b:Addr} {kvs:List (Str×PyData)} {kvp:List ((Str×Int)×PyData)} {z:Str} {q:Str×Int} {d:PyData} {v:V}
theorem At.notMods (A:At 0 r g σ s) (hk:g.mu[k]? = some a):(a == sysModules)=false:=by
 obtain ⟨o,ho⟩:=A.ok.ok.mods
 exact beq_eq_false_iff_ne.mpr fun e=>Al (A.has.ap a (List.mem_of_getElem? hk)) (e▸A.has.base _ _ ho)
noncomputable abbrev SRel (fz:Addr->Option Obj) (d:Str×PyData) (v:Str×Value):Prop:=d.1=v.1/\Ax fz d.2 v.2
noncomputable abbrev PRel (fz:Addr->Option Obj) (d:(Str×Int)×PyData) (v:List (Str ⊕ Int)×Addr×Value):Prop:=FM d.1=v.1/\Ax fz (.tuple [.str d.1.1,.int d.1.2]) (.ref v.2.1)/\Ax fz d.2 v.2.2
theorem keyP_inj (k k':Str×Int) (h:FM k=FM k'):k=k':=by
 have h1:=List.cons.inj h
 exact Prod.ext (Sum.inl.inj h1.1) (Sum.inr.inj (List.cons.inj h1.2).1)
theorem Has.dictS {T:Top} (H:Has T g σ s) (hk:g.mu[k]? = some a) (hσ:σ[k]? = some (.dictS kvs)) {R_:Prop} (kk:∀ ws,s.heap.DictOf (strKind T.prog T.w) a ws->Aq (SRel g.fz) kvs ws->R_):R_ :=
 H.ob k a _ hk hσ R_ fun x hx r=>r R_ fun es ep ws ho hd hk' hp hn hr hl=>kk ws ⟨x,es,ep,hx,ho,hd,hk',hp,hn⟩ hr
theorem E7 {T:Top} (H:Has T g σ s) (r:Ax g.fz (.tuple [.str q.1,.int q.2]) (.ref b)):IsTupleKey (BD T.prog T.w) s.heap (FM q) b:=by
 refine r (fun x=>x=.ref b->IsTupleKey (BD T.prog T.w) s.heap (FM q) b) (fun a o vs m hf hc hd hr _ e=>?_) rfl
 obtain rfl:a=b:=Value.ref.inj e
 refine ⟨o,vs,m,H.fz _ _ hf,hc,hd,?_⟩
 obtain ⟨x,y,e,⟨t,rfl,_⟩,⟨t',rfl⟩⟩:=hr.all.two
 rw [e]
 exact .cons (strKind_is T.prog T.w q.1 t) (.cons (show Value.isInt q.2 (.int q.2 t')=true by simp [Value.isInt]) .nil)
theorem Has.dictP {T:Top} (H:Has T g σ s) (hk:g.mu[k]? = some a) (hσ:σ[k]? = some (.dictP kvp)) {R_:Prop} (kk:∀ ws,s.heap.DictOfH (tupleKind (BD T.prog T.w)) a ws->Aq (PRel g.fz) kvp ws->R_):R_ :=
 H.ob k a _ hk hσ R_ fun x hx r=>r R_ fun es ep ws ho hd he hn hr hl=>kk ws ⟨x,es,ep,hx,ho,hd,he,(by
  have key:∀ {kvp:List ((Str×Int)×PyData)} {ws:List (List (Str ⊕ Int)×Addr×Value)},Aq (PRel g.fz) kvp ws->∀ x∈ws,IsTupleKey (BD T.prog T.w) s.heap x.1 x.2.1:=by
   intro kvp
   induction kvp with
   | nil=>intro ws h x hx; rw [h.nil] at hx; exact nomatch hx
   | cons p kvp ih =>
    intro ws h x hx
    obtain ⟨w,ws,rfl,h1,h2⟩:=h.cons
    exact (List.mem_cons.mp hx).elim (fun e=>by rw [e,<-h1.1]; exact E7 H h1.2.1) (ih h2 x)
  exact key hr),hn⟩ hr
theorem GB {ws:List (Str×Value)} {fz:Addr->Option Obj} (h:Aq (SRel fz) kvs ws) (z:Str):(Az kvs z=none/\valueAt ws z=none)\/∃ d v,Az kvs z=some d/\valueAt ws z=some v/\Ax fz d v:=by
 rcases GK (f:=id) (key:=fun w:Str×Value=>w.1) (fun _ _ h=>h) (fun _ _ h=>h.1) z h with ⟨e1,e2⟩ | ⟨p,w,e1,e2,r⟩
 ·exact .inl ⟨congrArg (Option.map _) e1,congrArg (Option.map _) e2⟩
 ·exact .inr ⟨p.2,w.2,congrArg (Option.map _) e1,congrArg (Option.map _) e2,r.2⟩
theorem GC {ws:List (List (Str ⊕ Int)×Addr×Value)} {fz:Addr->Option Obj} (h:Aq (PRel fz) kvp ws) (q:Str×Int):(Az kvp q=none/\atKey ws (FM q)=none)\/∃ d v,Az kvp q=some d/\atKey ws (FM q)=some v/\Ax fz d v.2:=by
 rcases GK (f:=FM) (key:=fun w:List (Str ⊕ Int)×Addr×Value=>w.1) keyP_inj (fun _ _ h=>h.1) q h with ⟨e1,e2⟩ | ⟨p,w,e1,e2,r⟩
 ·exact .inl ⟨congrArg (Option.map _) e1,congrArg (Option.map _) e2⟩
 ·exact .inr ⟨p.2,w.2,congrArg (Option.map _) e1,congrArg (Option.map _) e2,r.2.2⟩
theorem p_inS (hσ:σ[k]? = some (.dictS kvs)):Pr2 (compareOp .In) (.d (.str z)) (.ref k) σ (vb (Az kvs z).isSome) σ/\Pr2 (compareOp .NotIn) (.d (.str z)) (.ref k) σ (vb !(Az kvs z).isSome) σ:=by
 have key:∀ {op:CmpOp} {f:Bool->Bool},(∀ (r:Ar) (s:Shared) (a:Addr) (t:Tok) (ws:List (Str×Value)) (Q:Value->Shared->Prop),(a == sysModules)=false->s.heap.DictOf (strKind r.T.prog r.T.w) a ws->(∀ tk,Q (.bool (f (valueAt ws z).isSome)) { s with toks:=tk })->wpAny (model r.T.prog r.T.w) r.A (compareOp op (.str z t) (.ref a)) Q (fun _ _=>False) s)->Pr2 (compareOp op) (.d (.str z)) (.ref k) σ (vb (f (Az kvs z).isSome)) σ:=fun h r g s X Y A hx hy=>by
  obtain ⟨t,rfl,_⟩:=hx
  obtain ⟨a,hk,rfl⟩:=hy
  refine A.has.dictS hk hσ fun ws hD hr=>h r s a t ws _ (A.notMods hk) hD fun tk=>.refl A.has.tok ?_
  rcases GB hr z with ⟨e1,e2⟩ | ⟨d,v,e1,e2,_⟩ <;> rw [e1,e2] <;> rfl
 exact ⟨key (f:=id) fun r s a t ws Q hm hD h=>wpAny_in_of (k:=z) (strKind_is _ _ z t) hm hD.mapOf (h _),key (f:=not) fun r s a t ws Q hm hD h=>wpAny_notIn_of (k:=z) (strKind_is _ _ z t) hm hD.mapOf (h _)⟩
noncomputable abbrev vp (q:Str×Int):V:=.d (.tuple [.str q.1,.int q.2])
theorem pair_at {X:Value} {T:Top} (h:Ak T g (vp q) X) {R_:Value->Prop} (k:∀ b,Ax g.fz (.tuple [.str q.1,.int q.2]) (.ref b)->R_ (.ref b)):R_ X :=
 h (fun X=>Ak T g (vp q) X->R_ X) (fun a _ _ _ _ _ _ _ _ h=>k a h) h
theorem p_inP (hσ:σ[k]? = some (.dictP kvp)):Pr2 (compareOp .In) (vp q) (.ref k) σ (vb (Az kvp q).isSome) σ/\Pr2 (compareOp .NotIn) (vp q) (.ref k) σ (vb !(Az kvp q).isSome) σ:=by
 have key:∀ {op:CmpOp} {f:Bool->Bool},(∀ (r:Ar) (s:Shared) (a b:Addr) (ws:List (List (Str ⊕ Int)×Addr×Value)) (Q:Value->Shared->Prop),r.A.in1.units < cLine->(a == sysModules)=false->s.heap.DictOfH (tupleKind (BD r.T.prog r.T.w)) a ws->IsTupleKey (BD r.T.prog r.T.w) s.heap (FM q) b->(∀ tk,Q (.bool (f (atKey ws (FM q)).isSome)) { s with toks:=tk })->wpAny (model r.T.prog r.T.w) r.A (compareOp op (.ref b) (.ref a)) Q (fun _ _=>False) s)->Pr2 (compareOp op) (vp q) (.ref k) σ (vb (f (Az kvp q).isSome)) σ:=fun h r g s X Y A hx hy=>by
  obtain ⟨a,hk,rfl⟩:=hy
  refine pair_at hx (R_:=fun X=>r.wp (compareOp _ X (.ref a)) (Ans r g _ σ) s) fun b hb=>A.has.dictP hk hσ fun ws hD hr=>h r s a b ws _ (Nat.lt_of_le_of_lt (Nat.le_add_right _ 40) A.room) (A.notMods hk) hD (E7 A.has hb) fun tk=>.refl A.has.tok ?_
  rcases GC hr q with ⟨e1,e2⟩ | ⟨d,v,e1,e2,_⟩ <;> rw [e1,e2] <;> rfl
 exact ⟨key (f:=id) fun r s a b ws Q hu hm hD hb h=>wpAny_in_heap (knd:=tupleKind (BD r.T.prog r.T.w)) hu hb hm hD (h _),key (f:=not) fun r s a b ws Q hu hm hD hb h=>PyProof.Rows.wpAny_notIn_heap (knd:=tupleKind (BD r.T.prog r.T.w)) hu hb hm hD (h _)⟩
theorem DY {r:Ar} {a:Addr} {ob:O} (A:At 0 r g σ s) (hk:g.mu[k]? = some a) (hσ:σ[k]? = some ob) (h:∀ vs,ob≠.list vs):s.TypeIs (.ref a) "dict" :=
 A.has.ob k a _ hk hσ _ fun x hx rx=>by
  cases ob with
  | list vs=>exact absurd rfl (h vs)
  | dictS _=>exact rx _ fun _ _ _ ho _ _ _ _ _ _=>⟨x,hx,ho.1⟩
  | dictP _=>exact rx _ fun _ _ _ ho _ _ _ _ _=>⟨x,hx,ho.1⟩
theorem g_dictS (hσ:σ[k]? = some (.dictS kvs)) (hd:Az kvs z=some d):PrG (.ref k) (.d (.str z)) σ (.d d):=fun r g s X Y A hx hy R_ kk=>by
 obtain ⟨a,hk,rfl⟩:=hx
 obtain ⟨t,rfl,_⟩:=hy
 refine kk "dict" _ (DY A hk hσ fun _ q=>nomatch q) slot_dict_getitem.lookup (A.has.dictS hk hσ fun ws hD hr=>?_)
 rcases GB hr z with ⟨e1,_⟩ | ⟨d',v,e1,e2,rv⟩
 ·exact Al e1 hd
 ·rw [Av hd e1]; exact wpAny_getItem_of (k:=z) (strKind_is _ _ z t) hD.mapOf e2 (.refl A.has.tok rv)
theorem g_dictP (hσ:σ[k]? = some (.dictP kvp)) (hd:Az kvp q=some d):PrG (.ref k) (vp q) σ (.d d):=fun r g s X Y A hx hy R_ kk=>by
 obtain ⟨a,hk,rfl⟩:=hx
 refine kk "dict" _ (DY A hk hσ fun _ q=>nomatch q) slot_dict_getitem.lookup (pair_at hy (R_:=fun Y=>r.wp (getItem (.ref a) Y) (Ans r g (.d d) σ) s) fun b hb=>A.has.dictP hk hσ fun ws hD hr=>?_)
 rcases GC hr q with ⟨e1,_⟩ | ⟨d',v,e1,e2,rv⟩
 ·exact Al e1 hd
 ·rw [Av hd e1]; exact wpAny_getItem_heap (knd:=tupleKind (BD r.T.prog r.T.w)) (Nat.lt_of_le_of_lt (Nat.le_add_right _ 40) A.room) (E7 A.has hb) hD e2 (.refl A.has.tok rv)
end
end Mine
namespace Mine
open PySem PySem.Calls PySem.SeqAt
noncomputable abbrev lObj (xs:Array Value) (m:Nat):Obj:={ cls:=.type "list",dict:=none,data:=.seq xs m,slots:=#[] }
noncomputable abbrev A4:V:=.d .none
section
variable {n:Nat} {T:Top} {r:Ar} {c:Cx} {ρ:Ag} {g g' g₁:G} {σ σ' σ₁ σ₂ σ₃:Ab} {s s':Shared} {e a b:E} {x y v:V} {ws us:List V} {X:Value} {ds:List PyData} {k:Nat} {l:Addr}
theorem Has.lst (H:Has T g σ s) (hk:g.mu[k]? = some l) (hσ:σ[k]? = some (.list ws)) {R_:Prop} (kk:∀ xs m,s.heap.get? l=some (lObj xs m)->Ao T g ws xs.toList->ws.length=xs.size->ws.length<=line->R_):R_ :=
 H.ob k l _ hk hσ R_ fun o ho ro=>ro (fun o=>s.heap.get? l=some o->R_) (fun xs m hr hl ho=>kk xs m ho hr hr.length hl) ho
theorem Has.relst {xs:Array Value} {m:Nat} (H:Has T g σ s) (hk:g.mu[k]? = some l) (hs:∀ b x,b≠l->s.heap.get? b=some x->s'.heap.get? b=some x) (ho:s'.heap.get? l=some (lObj xs m)) (hr:Ao T g us xs.toList) (hl:us.length<=line) (hg:s'.gens=s.gens:=by rfl) (hos:s'.os=s.os:=by rfl):Has T g (σ.set k (.list us)) s' :=
 H.turn (ob:=.list us) hk hs ho (fun R_ kk=>kk xs m hr hl) hg hos
theorem upd_ne {h:Heap} {f:Obj->Obj}:∀ b x,b≠l->h.get? b=some x->(h.update l f).get? b=some x:=fun b x hb e=>(Heap.get?_update_other _ _ (Ne.symm hb)).trans e
theorem Has.upd {xs:Array Value} {m:Nat} {f:Array Value->Array Value} {tk:Nat} (H:Has T g σ s) (hk:g.mu[k]? = some l) (ho:s.heap.get? l=some (lObj xs m)) (hr:Ao T g us (f xs).toList) (hl:us.length<=line):Has T g (σ.set k (.list us)) { s with heap:=s.heap.update l (Obj.mapSeq f),toks:=tk } :=
 H.relst hk upd_ne (Heap.get?_update_self _ ho rfl) hr hl
def PrM (id:String) (k:Nat) (ws us:List V) (σ:Ab) (v:V) (σ':Ab):Prop :=
 ∀ (r:Ar) (g:G) (s:Shared) (l:Addr) (xs:Array Value) (m:Nat) (Ys:List Value),At 0 r g σ s->g.mu[k]? = some l->s.heap.get? l=some (lObj xs m)->Ao r.T g ws xs.toList->ws.length=xs.size->ws.length<=line->Ao r.T g us Ys->r.wp (call (.builtin id) (.ref l::Ys)) (Ans r g v σ') s
theorem m_append (hl:ws.length < line):PrM "list.append" k ws [x] σ A4 (σ.set k (.list (ws++[x]))):=fun r g s l xs m Ys A hk ho hr hn _ hy=>by
 obtain ⟨Y,rfl,ry⟩:=hy.one
 refine wpAny_list_append_plain ⟨m,ho⟩ (fun h' hp hs=>?_) (by rw [<-hn,<-A8]; exact Nat.le_of_lt hl)
 obtain ⟨m',ho'⟩:=hp
 exact .refl (A.has.relst hk (fun b x hb e=>(hs.2 b hb).trans e) ho' (by rw [Array.toList_push]; exact hr.append ⟨ry,trivial⟩) (by rw [List.length_append]; exact Nat.succ_le_of_lt hl)) rfl
theorem m_clear:PrM "list.clear" k ws [] σ A4 (σ.set k (.list [])):=fun r g s l xs m Ys A hk ho hr hn hl hy=>by
 rw [hy.nil]
 exact call_meets F.slot_list_clear ⟨_,ho,rfl⟩ F.entry_list_clear (F.args_list_clear_1 _) (AutoSeq1.list_clear_list_0 l xs m (by rw [<-hn,<-A8]; exact hl)) ⟨ho,.refl (A.has.upd (us:=[]) hk ho trivial (Nat.zero_le _)) rfl⟩
theorem Aq.erase {α β:Type} {R:α->β->Prop} {as:List α} {bs:List β} (h:Aq R as bs) (j:Nat):Aq R (as.eraseIdx j) (bs.eraseIdx j):=by
 rw [List.eraseIdx_eq_take_drop_succ,List.eraseIdx_eq_take_drop_succ]; exact (h.take j).append (h.drop (j+1))
theorem m_pop (hv:ws[ws.length-1]? = some v):PrM "list.pop" k ws [] σ v (σ.set k (.list (ws.eraseIdx (ws.length-1)))):=fun r g s l xs m Ys A hk ho hr hn hl hy=>by
 rw [hy.nil]
 obtain ⟨Y,hY,ry⟩:=hr.get hv
 refine call_meets F.slot_list_pop ⟨_,ho,rfl⟩ F.entry_list_pop (F.args_list_pop_1 _) (MeetsSeq.list_pop_last l xs m Y (by rw [<-hn]; exact Array.getElem?_toList.symm.trans hY) (by rw [<-hn,<-A8]; exact hl)) ⟨ho,.refl (A.has.upd hk ho ?_ ?_) ry⟩
 ·rw [hn,show (xs.eraseIdxIfInBounds (xs.size-1)).toList=xs.toList.eraseIdx (xs.size-1) by simp]; exact hr.erase _
 ·exact Nat.le_trans (List.length_eraseIdx_le _ _) hl
noncomputable def FO (x:PyData):List PyData->Option Nat
 | []=>none
 | y::r=>(eqN A2 y x).bind fun b=>bif b then some 0 else (FO x r).bind fun j=>some (j+1)
theorem idx_ok {h:Heap} {d:PyData}:∀ {xs:List Value} {j:Nat},Aq (Ax h.get?) ds xs->FO d ds=some j->∃ (hj:j < xs.length),DC h d xs[j]=true/\∀ (m:Nat) (hm:m < xs.length),m < j->DC h d xs[m]=false:=by
 induction ds with
 | nil=>exact fun _ h=>Ac h
 | cons z ds ih =>
  intro xs j hr e0
  obtain ⟨x,xs,rfl,h1,h2⟩:=hr.cons
  obtain ⟨b,e,e0⟩:=Aa e0
  have h0:=eqTo_of h1 e
  cases b with
  | true =>
   obtain rfl:0=j:=Option.some.inj e0
   exact ⟨Nat.succ_pos _,h0,fun m _ hm=>absurd hm (Nat.not_lt_zero m)⟩
  | false =>
   obtain ⟨j',e2,e3⟩:=Aa e0
   obtain rfl:j' + 1=j:=Option.some.inj e3
   obtain ⟨q1,q2,q3⟩:=ih h2 e2
   refine ⟨Nat.succ_lt_succ q1,q2,fun m hm hj=>?_⟩
   cases m with
   | zero=>exact h0
   | succ m=>exact q3 m (Nat.lt_of_succ_lt_succ hm) (Nat.lt_of_succ_lt_succ hj)
theorem idx_at {d:PyData} {q:Bool} {j:Nat} {xs:Array Value} {Y:Value} (A:At 0 r g σ s) (hr:Ao r.T g (ds.map .d) xs.toList) (hy:Ax g.fz d Y) (h1:inD d ds=some q) (h2:FO d ds=some j) {R_:Prop}
 (kk:∀ (hj:j < xs.size),(∀ z,z∈xs->EqAt r.A.in1 s z Y (DC s.heap d z))->DC s.heap d xs[j]=true->(∀ m (hm:m < xs.size),m < j->DC s.heap d xs[m]=false)->R_):R_:=by
 have hd:=(toDs hr).mono fun _ _=>Ax.mono A.has.fz _ _
 obtain ⟨h4,_⟩:=inD_ok (A:=r.A.in1) A.room (Ax.mono A.has.fz _ _ hy) hd h1
 obtain ⟨q1,q2,q3⟩:=idx_ok hd h2
 exact kk q1 (fun z hz=>h4 z (Array.mem_toList_iff.mpr hz)) q2 fun m hm hj=>q3 m hm hj
theorem m_index {d:PyData} {q:Bool} {j:Nat} (h1:inD d ds=some q) (h2:FO d ds=some j):PrM "list.index" k (ds.map .d) [.d d] σ (vi j) σ:=fun r g s l xs m Ys A hk ho hr hn hl hy=>by
 obtain ⟨Y,rfl,ry⟩:=hy.one
 refine idx_at A hr ry h1 h2 fun hj hz q1 q2=>?_
 have hj':(j:Int) < 2 ^ 63-1:=Int.lt_of_lt_of_le (Int.ofNat_lt.mpr (Nat.lt_of_lt_of_le hj (hn▸hl))) (by decide)
 exact call_meets F.slot_list_index ⟨_,ho,rfl⟩ F.entry_list_index (F.args_list_index_2 _ _) (list_indexAt l xs m none #[] Y (DC s.heap d) j hj hj' q1 q2) ⟨ho,hz,.refl A.has.tok ⟨_,rfl⟩⟩
end
end Mine
namespace Mine
open PySem PySem.Calls PySem.SeqAt
theorem extend_any (l:Addr) (items:Array Value) (n:Nat) (b:Addr) (items2:Array Value) (n2:Nat) (dd:Option Addr) (sl:Array (Option Value)) (hs0:¬(!items.isEmpty&&Builtin.List.listTooLong (items.size+items2.size))=true) (hs1:items.size<=sizeLine) (hs2:(items++items2).size<=sizeLine+1) :
 Meets (Builtin.«list.extend» ⟨[.ref l,.ref b],[]⟩) (fun _ R s=>s.heap.get? l=some { cls:=.type "list",dict:=none,data:=.seq items n,slots:=#[] }/\s.heap.get? b=some { cls:=.type "list",dict:=dd,data:=.seq items2 n2,slots:=sl }/\R (.ok (.ret Value.none)) { s with heap:=s.heap.update l (Obj.mapSeq fun x=>x++items2),toks:=s.toks }) :=
 .of_wp fun prog w A R s h=>by
  obtain ⟨hp,g,d,tk,os⟩:=s
  obtain ⟨hl,hb,h⟩:=h
  have f1:=AutoSeq1.sub_list_list
  wp_walk using (wpAny_updateSeq hl rfl (hz:=hs1) (_hz':=hs2)),AutoSeq1.wpAny_loadPart' hl,AutoSeq1.wpAny_loadPart' hb
  exact ⟨_,rfl,h⟩
open MeetsSeq in
theorem remove_loopAt (l:Addr) (items:Array Value) (n:Nat) (x:Value) (e:Value->Bool) (j:Nat) (hj:j < items.size) (hit:e items[j]=true) (hs1:items.size<=sizeLine) (k:Nat) :
 ∀ i:Nat,j-i=k->i<=j->(∀ m (hm:m < items.size),i<=m->m < j->e items[m]=false)->Meets (Builtin.«list.remove.loop» ⟨[.ref l,x,rawInt i],[]⟩)
  (fun A R s=>s.heap.get? l=some { cls:=.type "list",dict:=none,data:=.seq items n,slots:=#[] }/\(∀ y,y∈items->EqAt A.in1 s y x (e y))/\R (.ok (.ret .none)) { s with heap:=s.heap.update l (Obj.mapSeq fun xs=>xs.eraseIdxIfInBounds j) }):=by
 induction k with
 | zero =>
  intro i hk hij hno prog w A R s h
  obtain ⟨hp,g,d,tk,os⟩:=s; obtain ⟨hl,he,h⟩:=h
  have hij':i=j:=Nat.le_antisymm hij (Nat.le_of_sub_eq_zero hk)
  subst hij'
  wp_walk using AutoSeq1.wpAny_loadPart' hl
  have hi:items[((i:Nat):Int).toNat]? = some items[i]:=by simp [hj]
  rw [hi]
  refine wpAny_bind (he _ (Array.getElem_mem hj) prog w _ _ ?_)
  rw [hit]
  have hz':(items.eraseIdxIfInBounds i).size<=sizeLine+1:=Nat.le_trans (size_erased items _) (Nat.le_succ_of_le hs1)
  wp_walk using (wpAny_updateSeq hl rfl (hz:=hs1) (_hz':=hz')),AutoSeq1.wpAny_loadPart' hl
  exact h
 | succ k ih =>
  intro i hk hij hno prog w A R s h
  obtain ⟨hp,g,d,tk,os⟩:=s; obtain ⟨hl,he,h⟩:=h
  have hlt:i < items.size:=by omega
  wp_walk using AutoSeq1.wpAny_loadPart' hl
  have hi:items[((i:Nat):Int).toNat]? = some items[i]:=by simp [hlt]
  have hc:((i:Int)+1)=((i+1:Nat):Int):=by push_cast; rfl
  rw [hi]
  refine wpAny_bind (he _ (Array.getElem_mem hlt) prog w _ _ ?_)
  rw [hno i hlt (Nat.le_refl _) (by omega)]
  wp_walk
  rw [hc]
  exact ⟨plainId_quiet plain_remove_loop _,codeAny_builtin entry_remove_loop (by
   rw [Around.under_plainId plain_remove_loop _]
   exact ih (i+1) (by omega) (by omega) (fun m hm h1 h2=>hno m hm (by omega) h2) prog w A R _ ⟨hl,he,h⟩)⟩
open MeetsSeq in
theorem list_removeAt (l:Addr) (items:Array Value) (n:Nat) (x:Value) (e:Value->Bool) (j:Nat) (hj:j < items.size) (hit:e items[j]=true) (hno:∀ m (hm:m < items.size),m < j->e items[m]=false) (hs1:items.size<=sizeLine) :
 Meets (Builtin.«list.remove» ⟨[.ref l,x],[]⟩)
  (fun A R s=>s.heap.get? l=some { cls:=.type "list",dict:=none,data:=.seq items n,slots:=#[] }/\(∀ y,y∈items->EqAt A.in1 s y x (e y))/\R (.ok (.ret .none)) { s with heap:=s.heap.update l (Obj.mapSeq fun xs=>xs.eraseIdxIfInBounds j) }):=by
 intro prog w A R s h
 obtain ⟨hp,g,d,tk,os⟩:=s; obtain ⟨hl,he,h⟩:=h
 wp_walk using AutoSeq1.wpAny_loadPart' hl
 exact ⟨plainId_quiet plain_remove_loop _,codeAny_builtin entry_remove_loop (by
  rw [Around.under_plainId plain_remove_loop _]
  exact remove_loopAt l items n x e j hj hit hs1 _ 0 rfl (Nat.zero_le _) (fun m hm _ h2=>hno m hm h2) prog w A R _ ⟨hl,he,h⟩)⟩
section
variable {n:Nat} {T:Top} {r:Ar} {c:Cx} {ρ:Ag} {g g' g₁:G} {σ σ' σ₁ σ₂ σ₃:Ab} {s s':Shared} {e a b:E} {x y v:V} {ws us:List V} {X:Value} {ds:List PyData} {k:Nat} {l:Addr}
theorem m_remove {d:PyData} {q:Bool} {j:Nat} (h1:inD d ds=some q) (h2:FO d ds=some j):PrM "list.remove" k (ds.map .d) [.d d] σ A4 (σ.set k (.list ((ds.map .d).eraseIdx j))):=fun r g s l xs m Ys A hk ho hr hn hl hy=>by
 obtain ⟨Y,rfl,ry⟩:=hy.one
 refine idx_at A hr ry h1 h2 fun hj hz q1 q2=>?_
 refine call_meets F.slot_list_remove ⟨_,ho,rfl⟩ F.entry_list_remove (F.args_list_remove_2 _ _) (list_removeAt l xs m Y (DC s.heap d) j hj q1 q2 (by rw [<-hn,<-A8]; exact hl)) ⟨ho,hz,.refl (A.has.upd hk ho ?_ ?_) rfl⟩
 ·rw [show (xs.eraseIdxIfInBounds j).toList=xs.toList.eraseIdx j by simp]; exact hr.erase _
 ·exact Nat.le_trans (List.length_eraseIdx_le _ _) hl
theorem m_extend (h:As σ x=some us) (hl:ws.length+us.length<=line):PrM "list.extend" k ws [x] σ A4 (σ.set k (.list (ws++us))):=fun r g s l xs m Ys A hk ho hr hn hlw hy=>by
 obtain ⟨Y,rfl,ry⟩:=hy.one
 refine A9 A.has ry h (R_:=fun Y=>r.wp (call (.builtin "list.extend") [.ref l,Y]) (Ans r g A4 (σ.set k (.list (ws++us)))) s) fun b zs hL hz hzn _=>?_
 obtain ⟨n2,d2,s2,ho2⟩:=G1 hL
 have hz2:xs.size+zs.size<=sizeLine:=by rw [<-hn,<-hzn,<-A8]; exact hl
 refine call_meets F.slot_list_extend ⟨_,ho,rfl⟩ F.entry_list_extend (F.args_list_extend_2 _ _) (extend_any l xs m b zs n2 d2 s2 ?_ (Nat.le_trans (Nat.le_add_right _ _) hz2) (by rw [Array.size_append]; exact Nat.le_succ_of_le hz2)) ⟨ho,ho2,.refl (A.has.upd hk ho ?_ ?_) rfl⟩
 ·rw [show Builtin.List.listTooLong (xs.size+zs.size)=false from decide_eq_false (Nat.not_lt.mpr hz2),Bool.and_false]; exact Bool.false_ne_true
 ·rw [Array.toList_append]; exact hr.append hz
 ·rw [List.length_append]; exact hl
def Dq (e:E):Prop:=∀ {K:Kx} {ex:Expr},IsE e K ex->∀ nm env w,attributeBase ex nm env w=w
theorem Au {i:Nat}:Dq (.var i):=fun h nm env w=>h (fun ex=>attributeBase ex nm env w=w) fun _ _ _=>rfl
theorem basic_cst {d:PyData}:Dq (.cst d):=fun h nm env w=>h (fun ex=>attributeBase ex nm env w=w) fun _ _ _=>rfl
theorem basic_sub:Dq (.sub a b):=fun h nm env w=>h (fun ex=>attributeBase ex nm env w=w) fun _ _ _ _ _=>rfl
theorem basic_attr {z:Str}:Dq (.attr z a):=fun h nm env w=>h (fun ex=>attributeBase ex nm env w=w) fun _ _ _=>rfl
theorem SE.meth {m:Meth} {Ty id:String} (hb0:Dq a) (pa:PlainAttrs Ty) (slot:Slot Ty (Str.ofString (D5 m)) id) (ty:typeOf (.builtin id)=pure (.type "method_descriptor")) (ha:SE n a ρ σ x σ₁) (hb:SEs n b ρ σ₁ ws σ₂)
 (hT:∀ (r:Ar) (g:G) (s:Shared) (X:Value),At 0 r g σ₁ s->Ak r.T g x X->s.TypeIs X Ty/\∀ l,X=.ref l->∃ o,s.heap.get? l=some o/\o.dict=none)
 (h:∀ (r:Ar) (g:G) (s:Shared) (X:Value) (Ys:List Value),At 0 r g σ₂ s->Ak r.T g x X->Ao r.T g ws Ys->r.wp (call (.builtin id) (X::Ys)) (Ans r g v σ₃) s):SE n (.meth m a b) ρ σ v σ₃:=by
 refine fun c g s ex hc I=>hc (fun ex=>c.wp (eval ex c.env) (Ans c.toAr g v σ₃) s) fun z ap vs p h1 h2 h3 h4=>?_
 refine wpAny_Call_method_lateS (hb0 h1 _ _ _) ?_ (decide_eq_true h3) (wpAny_mono (ha c g s z h1 I) (fun X s₁ p1=>p1 _ fun g₁ le1 a1 r1=>?_) fun _ _ h=>h)
 ·have e:=B5 p c.env h2
  rw [List.any_eq_false] at e
  exact (Bool.and_eq_true _ _).mpr ⟨(Bool.and_eq_true _ _).mpr ⟨List.all_eq_true.mpr fun x hx=>by simpa using e x hx,rfl⟩,decide_eq_true (Nat.lt_trans h4 (by decide))⟩
 ·have I1:=I.step le1 a1
  have t:=hT c.toAr g₁ s₁ X I1.at0 r1
  exact ⟨Ty,id,pa,slot,ty,t.1,t.2,callWith_builtin (B5 _ _ h2) (BN (r:=c.toAr) h2 (wpAny_mono (hb c g₁ s₁ vs p h2 I1) (fun Ys s2 p2=>p2 _ fun g2 le2 a2 r2=>AY (r:=c.toAr) (le1.trans le2) (h c.toAr g2 s2 X Ys (I1.step le2 a2).at0 (Ak.mono le2.toup _ _ r1) r2)) fun _ _ h=>h))⟩
theorem SE.lmeth {m:Meth} {id:String} (hb0:Dq a) (slot:Slot "list" (Str.ofString (D5 m)) id) (ty:typeOf (.builtin id)=pure (.type "method_descriptor")) (ha:SE n a ρ σ (.ref k) σ₁) (hb:SEs n b ρ σ₁ us σ₂) (h0:σ₁[k]? = some (.list ws)) (h1:σ₂[k]? = some (.list ws)) (h:PrM id k ws us σ₂ v σ₃):SE n (.meth m a b) ρ σ v σ₃:=by
 refine SE.meth hb0 F.plainAttrs_list slot ty ha hb (fun r g s X A hx=>?_) fun r g s X Ys A hx hy=>?_
 ·obtain ⟨l,hk,rfl⟩:=hx
  exact A.has.lst hk h0 fun xs m ho _ _ _=>⟨⟨_,ho,rfl⟩,fun l' q=>Value.ref.inj q▸⟨_,ho,rfl⟩⟩
 ·obtain ⟨l,hk,rfl⟩:=hx
  exact A.has.lst hk h1 fun xs m ho hr hn hl=>h r g s l xs m Ys A hk ho hr hn hl hy
theorem strs_pairs {zs:List Value} {ss:List Str} (h:PyProof.Rows.StrsAre zs ss):∃ l':List (Str×Tok),strValues l'=zs/\l'.map (·.1)=ss:=by
 induction h with
 | nil=>exact ⟨[],rfl,rfl⟩
 | cons y t _ ih=>obtain ⟨l,q1,q2⟩:=ih; exact ⟨(y,t)::l,by rw [<-q1]; rfl,by rw [<-q2]; rfl⟩
theorem SE.join {z:Str} {ss:List Str} (hb0:Dq a) (hs:As σ₂ y=some (vss ss)) (hj:JoinOk z ss=true) (ha:SE n a ρ σ (.d (.str z)) σ₁) (hb:SEs n b ρ σ₁ [y] σ₂):SE n (.meth .join a b) ρ σ (.d (.str (Txt.join z ss))) σ₂:=by
 refine SE.meth hb0 F.plainAttrs_str F.slot_str_join F.type_str_join ha hb (fun r g s X A hx=>?_) fun r g s X Ys A hx hy=>?_
 ·obtain ⟨t,rfl,_⟩:=hx
  exact ⟨typeIs_str _ _ _,fun _ q=>nomatch q⟩
 ·obtain ⟨t,rfl,_⟩:=hx
  obtain ⟨Y,rfl,ry⟩:=hy.one
  refine A9 A.has ry hs (R_:=fun Y=>r.wp (call (.builtin "str.join") [.str z t,Y]) (Ans r g (.d (.str (Txt.join z ss))) σ₂) s) fun l xs hL hr _ _=>?_
  obtain ⟨l',hl1,hl2⟩:=strs_pairs (strs_rep hr).1
  exact SC.join (l:=l') (texts:=ss) (by rw [hl1]; simpa using hL) hl2 hj fun t' k=>.refl A.has.tok ⟨t',rfl,by rw [A8]; exact joinOk_length hj⟩
end
end Mine
namespace Mine
open PySem PySem.Calls PySem.SeqAt
section
variable {n:Nat} {a b:E} {ρ:Ag} {σ σ₁ σ₂:Ab} {k:Nat} {kvp:List ((Str×Int)×PyData)} {q:Str×Int} {z:V}
noncomputable def dfl (o:Option PyData) (z:V):V:=match o with | some d=>.d d | none=>z
theorem SE.getP (hb0:Dq a) (ha:SE n a ρ σ (.ref k) σ₁) (hb:SEs n b ρ σ₁ [vp q,z] σ₂) (h0:σ₁[k]? = some (.dictP kvp)) (h1:σ₂[k]? = some (.dictP kvp)):SE n (.meth .get a b) ρ σ (dfl (Az kvp q) z) σ₂:=by
 refine SE.meth hb0 F.plainAttrs_dict F.slot_dict_get F.type_dict_get ha hb (fun r g s X A hx=>?_) fun r g s X Ys A hx hy=>?_
 ·obtain ⟨c,hk,rfl⟩:=hx
  refine ⟨DY A hk h0 (fun _ q=>nomatch q),fun l e=>?_⟩
  obtain rfl:=Value.ref.inj e
  exact A.has.ob k c _ hk h0 _ fun x hx rx=>rx _ fun _ _ _ ho _ _ _ _ _=>⟨x,hx,ho.2.1⟩
 ·obtain ⟨c,hk,rfl⟩:=hx
  obtain ⟨Y,Z,rfl,ry,rz⟩:=hy.two
  refine pair_at ry (R_:=fun Y=>r.wp (call (.builtin "dict.get") [.ref c,Y,Z]) (Ans r g _ σ₂) s) fun b hb=>A.has.dictP hk h1 fun ws hD hr=>?_
  refine call_meetsIn F.slot_dict_get hD.typeIs F.entry_dict_get (F.args_dict_get_3 _ _ _) (meetsH_dict_get_default (tupleKind (BD r.T.prog r.T.w)) c b (A.notMods hk) Z) ⟨Nat.lt_of_le_of_lt (Nat.le_add_right _ 40) A.room,FM q,ws,E7 A.has hb,hD,.refl A.has.tok ?_⟩
  rcases GC hr q with ⟨e1,e2⟩ | ⟨d,v,e1,e2,rv⟩
  ·rw [e1,e2]; exact rz
  ·rw [e1,e2]; exact rv
end
end Mine
namespace Mine
open PySem PySem.Calls PySem.SeqAt
section
variable {fz:Addr->Option Obj} {h:Heap}
mutual
theorem Ax.reads (hz:∀ a o,fz a=some o->h.get? a=some o):∀ (d:PyData) (v:Value),Ax fz d v->∃ as,Reads h v d as
 | .none,v,r=>⟨[],(show v=.none from r)▸.none⟩
 | .bool b,v,r=>⟨[],(show v=.bool b from r)▸.bool b⟩
 | .int i,v,r=>let ⟨t,e⟩:=r; ⟨[],e▸.int i t⟩
 | .str s,v,r=>let ⟨t,e,_⟩:=r; ⟨[],e▸.str s t⟩
 | .list ds,v,r=>r (fun v=>∃ as,Reads h v (.list ds) as) fun a o vs m h1 h2 h3 h4 _=>let ⟨as,ra⟩:=RepDs.reads hz ds vs.toList h4; ⟨a::as,.list (hz a o h1) h2 h3 ra⟩
 | .tuple ds,v,r=>r (fun v=>∃ as,Reads h v (.tuple ds) as) fun a o vs m h1 h2 h3 h4 _=>let ⟨as,ra⟩:=RepDs.reads hz ds vs.toList h4; ⟨as,.tuple (hz a o h1) h2 h3 ra⟩
 | .dict _,_,r=>r.elim
theorem RepDs.reads (hz:∀ a o,fz a=some o->h.get? a=some o):∀ (ds:List PyData) (vs:List Value),RepDs fz ds vs->∃ as,ReadsAll h vs ds as
 | [],[],_=>⟨[],.nil⟩
 | d::ds,v::vs,r=>let ⟨as,ra⟩:=Ax.reads hz d v r.1; let ⟨bs,rb⟩:=RepDs.reads hz ds vs r.2; ⟨as++bs,.cons ra rb⟩
 | [],_::_,r=>r.elim
 | _::_,[],r=>r.elim
end
end
structure Shw (d:PyData):Prop where
 able:d.showable=true
 nod:d.hasDict=false
 dep:d.depth<=50
 len:d.shown.length<=line
noncomputable def shwB (d:PyData):Bool:=d.showable&&(!d.hasDict&&(decide (d.depth<=50)&&decide (d.shown.length<=line)))
theorem shw_iff {d:PyData}:shwB d=true ↔ Shw d:=by
 unfold shwB
 rw [Bool.and_eq_true_iff,Bool.and_eq_true_iff,Bool.and_eq_true_iff,decide_eq_true_iff,decide_eq_true_iff,Bool.not_eq_true']
 exact ⟨fun h=>⟨h.1,h.2.1,h.2.2.1,h.2.2.2⟩,fun h=>⟨h.able,h.nod,h.dep,h.len⟩⟩
noncomputable def isLT (d:PyData):Bool:=match d with | .list _=>true | .tuple _=>true | _=>false
theorem isLT_ref {fz:Addr->Option Obj} {d:PyData} {X:Value} (q:isLT d=true) (hx:Ax fz d X):∃ a,X=.ref a:=by
 cases d with
 | list ds=>exact hx (fun X=>∃ a,X=.ref a) fun a _ _ _ _ _ _ _ _=>⟨a,rfl⟩
 | tuple ds=>exact hx (fun X=>∃ a,X=.ref a) fun a _ _ _ _ _ _ _ _=>⟨a,rfl⟩
 | _=>exact ff_ q
theorem f_repr {σ:Ab} {d:PyData} (q:isLT d=true) (h:Shw d):Pr1 (fun X=>call (A7 .repr) [X]) (.d d) σ (.d (.str d.shown)) σ:=fun r g s X A hx=>by
 obtain ⟨as,R⟩:=Ax.reads A.has.fz d X hx
 obtain ⟨a,rfl⟩:=isLT_ref q hx
 have hu:r.A.units+(d.depth+1) < cLine:=Nat.lt_of_le_of_lt (Nat.add_le_add (Nat.le_trans (Nat.le_add_right _ _) A.units) (Nat.succ_le_succ h.dep)) (show 9000+51 < 9900 by decide)
 exact repr_of_reads' R h.able (PyData.noDict_hsm h.nod) A.hh.2 hu (fun _ _ e=>e) (fun h' u tk hk=>.refl (A.has.keep hk) ⟨u,rfl,h.len⟩) (A8▸h.len)
end Mine
namespace Mine
open PySem PySem.Calls
noncomputable def Gk:Ag->List Nat->List V->Ag
 | ρ,i::is,v::vs=>Gk (ρ.set i (some v)) is vs
 | ρ,_,_=>ρ
section
variable {n:Nat} {c:Cx} {ρ ρ':Ag} {g g':G} {σ σ' σ₁ σ₂ σ₃:Ab} {s s':Shared} {i:Nat} {nm:Str} {v:V} {X:Value} {Er:Value->Shared->Prop} {e a b:E} {Q:Fl->Ab->Prop}
theorem canWr_ok {env:Env} {K:Kx} (h:env.scope.names=K.names) (hc:K.canWr i nm=true):K.vars[i]? = some nm/\nm∈K.wr/\(env.kindOf nm=some .local\/env.kindOf nm=some .cell):=by
 have h1:=Bool.and_eq_true_iff.mp hc
 have h2:=Bool.and_eq_true_iff.mp h1.1
 rw [AB h]
 exact ⟨of_decide_eq_true h2.1,List.contains_iff_mem.mp h2.2,(Bool.or_eq_true_iff.mp h1.2).imp Kx.kd_eq Kx.kd_eq⟩
theorem vars_get {j:Nat} {v w:V} (h:(ρ.set i (some w))[j]? = some (some v)):(j=i/\w=v)\/(j≠i/\ρ[j]? = some (some v)):=by
 by_cases q:i=j
 ·subst q
  by_cases hl:i < ρ.length
  ·rw [List.getElem?_set_self hl] at h; exact .inl ⟨rfl,Option.some.inj (Option.some.inj h)⟩
  ·rw [List.getElem?_eq_none (by rw [List.length_set]; exact Nat.le_of_not_lt hl)] at h; exact Ac h
 ·rw [List.getElem?_set_ne q] at h
  exact .inr ⟨fun e=>q e.symm,h⟩
theorem nodup_inj {vars:List Str} (hn:vars.Nodup) {i j:Nat} {n:Str} (h1:vars[i]? = some n) (h2:vars[j]? = some n):i=j:=by
 obtain ⟨a,ha⟩:=List.getElem?_eq_some_iff.mp h1
 obtain ⟨b,hb⟩:=List.getElem?_eq_some_iff.mp h2
 exact (List.getElem_inj hn).mp (ha.trans hb.symm)
theorem Gv {f:Addr->Option Obj} {a b:Addr} {m:Str->Option Value} {u:Option Value} (hn:NsF f a m) (hc:Ek f b u):b≠a:=by
 obtain ⟨o,es,ep,ho,hd,_⟩:=hn
 obtain ⟨o',ho',hd'⟩:=hc
 intro q
 rw [q,ho] at ho'
 rw [<-Option.some.inj ho',hd] at hd'
 exact nomatch hd'
theorem DW {a b:Addr} {o:Obj} (h:g.hid a≠none):(g.hide b o).hid a≠none:=by
 show (if a=b then some o else g.hid a)≠none
 by_cases q:a=b
 ·rw [if_pos q]; exact fun q=>nomatch q
 ·rw [if_neg q]; exact h
theorem Inv.store {A':Around} {Q:Unit->Shared->Prop} (I:Inv n c ρ g σ s) (hc:c.K.canWr i nm=true) (r:Ak c.T g v X) (h:∀ g' s',G.le c.own g g'->G.up g g'->Inv n c (ρ.set i (some v)) g' σ s'->Q () s'):wpAny (model c.T.prog c.T.w) A' (storeName c.env nm X) Q Er s:=by
 obtain ⟨h1,h2,h3⟩:=canWr_ok I.cx.names hc
 refine I.loc.ns _ fun m hm hs=>?_
 have oth:∀ {j nm' w},c.K.vars[j]? = some nm'->(ρ.set i (some v))[j]? = some (some w)->(nm'=nm/\v=w)\/(nm'≠nm/\ρ[j]? = some (some w)):=fun {j nm' w} e1 e2=>(vars_get e2).imp (fun q=>⟨Av e1 (q.1▸h1),q.2⟩) fun q=>⟨fun q'=>q.1 (nodup_inj I.cx.nd e1 (q'▸h1)),q.2⟩
 rcases h3 with hk | hk
 ·refine wpAny_storeName_local hk (I.has.ns hm) (fun h' hn hb=>?_) (by rw [I.cx.kind]; rfl)
  obtain ⟨o0,_,_,e0,_⟩:=id hm
  obtain ⟨o,es,ep,ho,hd⟩:=hn
  have up:G.up g (g.hide c.env.locals (frO o)):=⟨fun _ _ e=>e,fun _ _ e=>e⟩
  refine h (g.hide c.env.locals (frO o)) _ (.hide I.cx.oloc) up ⟨I.toAt.stepF up (I.frs.hideF rfl hd.1) (I.has.rehideH e0 (fun b x q e=>(hb.2 b q).trans e) (.fr ho)),I.cx,fun R_ k=>k (fun x=>if x=nm then some X else m x) ⟨frO o,es,ep,G.hide_self,hd⟩ fun j nm' w e1 e2 e3=>?_,fun nm' hk' R_ k=>I.loc.ce nm' hk' R_ fun a u q1 q2 q3=>k a u q1 (q2.to fun o' e=>(G.hide_ne (Gv hm q2)).trans e) fun j w e1 e2=>?_,fun a ha=>DW (I.loc.ow a ha)⟩
  ·show ∃ x,(if nm'=nm then some X else m nm')=some x/\_
   rcases oth e1 e2 with ⟨q,q'⟩ | ⟨q,q'⟩
   ·rw [if_pos q,<-q']; exact ⟨X,rfl,Ak.mono up _ _ r⟩
   ·rw [if_neg q]; exact BB up (hs j nm' w e1 q' e3)
  ·rcases oth e1 e2 with ⟨q,q'⟩ | ⟨q,q'⟩
   ·rw [q,hk] at hk'; exact hk'.elim (fun q=>nomatch q) fun q=>nomatch q
   ·exact BB up (q3 j w e1 q')
 ·refine I.loc.ce nm (.inl hk) _ fun a u q1 q2 q3=>wpAny_storeName_cell I.cx.kind hk q1 (I.has.cell q2) fun h' hn hb=>?_
  obtain ⟨o0,e0,_⟩:=id q2
  obtain ⟨o,ho,hd⟩:=hn
  have up:G.up g (g.hide a o):=⟨fun _ _ e=>e,fun _ _ e=>e⟩
  refine h (g.hide a o) _ (.hide (I.cx.ocell nm h2 a hk q1)) up ⟨I.toAt.stepF up (I.frs.hideC q2) (I.has.rehide e0 (fun b x q e=>(hb.2 b q).trans e) ho),I.cx,fun R_ k=>k m (hm.to fun o' e=>(G.hide_ne (Gv hm q2).symm).trans e) fun j nm' w e1 e2 e3=>?_,fun nm' hk' R_ k=>?_,fun a ha=>DW (I.loc.ow a ha)⟩
  ·rcases oth e1 e2 with ⟨q,q'⟩ | ⟨q,q'⟩
   ·rw [q,hk] at e3; exact nomatch e3
   ·exact BB up (hs j nm' w e1 q' e3)
  ·by_cases q:nm'=nm
   ·refine k a (some X) (q▸q1) ⟨o,G.hide_self,hd⟩ fun j w e1 e2=>(oth e1 e2).elim (fun p=>p.2▸⟨X,rfl,Ak.mono up _ _ r⟩) fun p=>absurd q p.1
   ·refine I.loc.ce nm' hk' R_ fun a' u' p1 p2 p3=>k a' u' p1 (p2.to fun o' e=>(G.hide_ne fun (q':a'=a)=>q (I.cx.cinj nm' nm a (q'▸p1) q1)).trans e) fun j w e1 e2=>(oth e1 e2).elim (fun p=>absurd p.1 q) fun p=>BB up (p3 j w e1 p.2)
theorem Inv.asgn {A':Around} {p:Pos} {Q:Unit->Shared->Prop} (I:Inv n c ρ g σ s) (hc:c.K.canWr i nm=true) (r:Ak c.T g v X) (h:∀ g' s',G.le c.own g g'->G.up g g'->Inv n c (ρ.set i (some v)) g' σ s'->Q () s'):wpAny (model c.T.prog c.T.w) A' (assign (.Name nm p) c.env X) Q Er s:=by
 rw [arm_assign_Name]
 exact wpAny_bind (wpAny_standAt (wpAny_bindName (I.store hc r h)))
theorem assign_names {ts:List Nat}:∀ {es:List Expr},IsNs c.K ts es->∀ {vs:List V} {Xs:List Value} {ρ:Ag} {g:G} {s:Shared} {Q:Unit->Shared->Prop},Inv n c ρ g σ s->Ao c.T g vs Xs->vs.length=ts.length ->
 (∀ g' s',G.le c.own g g'->Inv n c (Gk ρ ts vs) g' σ s'->Q () s')->wpAny (model c.T.prog c.T.w) c.A (assignInOrder ((assignEach es c.env).map (·.2)) Xs) Q Er s:=by
 induction ts with
 | nil =>
  intro es hc vs Xs ρ g s Q I r hl h
  obtain rfl:es=[]:=hc
  obtain rfl:vs=[]:=List.length_eq_zero_iff.mp hl
  rw [r.nil]
  exact wpAny_pure (h g s (.refl _ _) I)
 | cons t ts ih =>
  intro es hc vs Xs ρ g s Q I r hl h
  cases vs with
  | nil=>exact BK hl rfl
  | cons v vs =>
   obtain ⟨X,Xs,rfl,r1,r2⟩:=r.cons
   refine hc (fun es=>wpAny (model c.T.prog c.T.w) c.A (assignInOrder ((assignEach es c.env).map (·.2)) (X::Xs)) Q Er s) fun nm p l h1 h2=>?_
   show wpAny _ _ (holding Xs (assign (.Name nm p) c.env X)>>=fun _=>assignInOrder ((assignEach l c.env).map (·.2)) Xs) _ _ _
   exact wpAny_bind (wpAny_holding (I.asgn h1 r1 fun g₁ s₁ le1 up I1=>ih h2 I1 (Ao.mono up r2) (Nat.succ.inj hl) fun g' s' le' I'=>h g' s' (le1.trans le') I'))
theorem ns_len {ts:List Nat}:∀ {es:List Expr},IsNs c.K ts es->(assignEach es c.env).length=ts.length/\(assignEach es c.env).findIdx? (·.1)=none:=by
 induction ts with
 | nil=>intro es hc; rw [show es=[] from hc]; exact ⟨rfl,rfl⟩
 | cons t ts ih =>
  intro es hc
  refine hc (fun es=>(assignEach es c.env).length=ts.length+1/\(assignEach es c.env).findIdx? (·.1)=none) fun nm p l h1 h2=>⟨congrArg (· + 1) (ih h2).1,?_⟩
  show ((false,assign (.Name nm p) c.env)::assignEach l c.env).findIdx? (·.1)=none
  rw [List.findIdx?_cons,(ih h2).2]; rfl
theorem Inv.unpack {ts:List Nat} {es:List Expr} {k:Nat} {p:Pos} {vs:List V} {Xs:Array Value} {t:Addr} {Q:Unit->Shared->Prop} (I:Inv n c ρ g σ s) (hc:IsNs c.K ts es) (ht:s.heap.IsTuple t Xs) (r:Ao c.T g vs Xs.toList) (hl:vs.length=ts.length) (hn:3<=n)
 (h:∀ g' s',G.le c.own g g'->Inv n c (Gk ρ ts vs) g' σ s'->Q () s'):wpAny (model c.T.prog c.T.w) c.A (assign (.Tuple es k p) c.env (.ref t)) Q Er s:=by
 obtain ⟨l1,l2⟩:=ns_len (c:=c) hc
 refine wpAny_assign_Tuple (I.hh.none hn) ht (by rw [l1,<-hl,r.length]; rfl) l2 fun h' he=>?_
 exact assign_names hc (I.step (.refl _ _) (I.has.keep fun b o e=>he b o (fun q=>by rw [q,AN] at e; exact Ac e) e)) r hl h
theorem SS.ret (h:SE n e ρ σ v σ') (hq:Q (.ret v) σ'):SS n (.ret e) ρ σ Q:=fun c g s x hc I=>hc (fun x=>c.wp (exec x c.env) (AW n c g Q) s) fun ex p hc=>AD (arm_exec_Return ..) (wpAny_bind (wpAny_standAt
 (Bd (h c g s ex hc I) fun X g₁ s₁ le a1 r1=>wpAny_pure fun R_ _ k2=>k2 v X σ' g₁ hq le.toO a1 (I.step le a1).loc.ow r1)))
theorem drop_any {prog:Program} {w:World} {A:Around} {s:Shared} {Q:Flow->Shared->Prop} {E:Value->Shared->Prop} {e:Expr} {p:Pos} {v:Value} (h:Q .next s):wpAny (model prog w) A (dropValue e p v) Q E s:=by
 have key:∀ a,wpAny (model prog w) A (dropValue (.List [] default) p (.ref a)) Q E s:=fun a=>by
  refine wpAny_bind (wpAny_standAt (wpAny_bind (wpAny_runValue (codeAny_builtin entry_let_go ?_))))
  unfold Builtin.«proto.let_go»
  exact wpAny_pure (wpAny_pure h)
 have key2:wpAny (model prog w) A (dropValue (.List [] default) p v) Q E s:=by
  cases v <;> first | exact wpAny_pure h | exact key _
 have to:∀ t,t=dropValue (.List [] default) p v->wpAny (model prog w) A t Q E s:=fun t e=>e▸key2
 cases e <;> first | exact wpAny_pure h | exact to _ (by kernel_rfl)
theorem SS.exp (hp:B1 e=false) (h:SE n e ρ σ v σ') (hq:Q (.next ρ) σ'):SS n (.exp e) ρ σ Q:=fun c g s x hc I=>hc (fun x=>c.wp (exec x c.env) (AW n c g Q) s) fun ex p hc=>by
 have hi:interactive c.env=false:=by unfold interactive; rw [I.cx.kind]; rfl
 rw [arm_exec_Expr]
 refine wpAny_bind (wpAny_standAt ?_)
 rw [hi]
 show c.wp (swapsWith ex none p.line c.env>>=_) _ _
 rw [Ey e hp hc,pure_bind,if_neg Bool.false_ne_true]
 exact Bj h hc I fun X g₁ s₁ le I1 r1=>drop_any fun R_ k1 _=>k1 ρ σ' g₁ hq le.toO I1
theorem SS.asg (hp:B1 e=false) (h:SE n e ρ σ v σ') (hq:Q (.next (ρ.set i (some v))) σ'):SS n (.asg i e) ρ σ Q:=fun c g s x hc I=>hc (fun x=>c.wp (exec x c.env) (AW n c g Q) s) fun nm p ex p' h1 hc _=>by
 rw [arm_exec_Assign]
 refine wpAny_bind (wpAny_standAt ?_)
 show c.wp (swapsWith ex (some (.Name nm p)) p'.line c.env>>=_) _ _
 rw [Ey e hp hc,pure_bind,if_neg Bool.false_ne_true]
 refine Bj h hc I fun X g₁ s₁ le I1 r1=>?_
 rw [show swappedStores [.Name nm p] ex c.env=pure none by unfold swappedStores; rfl,pure_bind]
 unfold assignStores
 show c.wp (assignAll X [assign (.Name nm p) c.env]>>=fun _=>pure Flow.next) _ _
 rw [show assignAll X [assign (.Name nm p) c.env]=assign (.Name nm p) c.env X by first | rfl | (unfold assignAll; rfl)]
 exact wpAny_bind (I1.asgn h1 r1 fun g2 s2 le2 _ I2=>wpAny_pure fun R_ k1 _=>k1 _ σ' g2 hq (le.toO.trans le2) I2)
end
end Mine
namespace Mine
open PySem PySem.Calls
section
variable {n:Nat} {c:Cx} {ρ ρ':Ag} {g g' g₁:G} {σ σ' σ₁ σ₂ σ₃:Ab} {s s':Shared} {i:Nat} {nm:Str} {v x y z:V} {X:Value} {e a b d:E} {Q M:Fl->Ab->Prop} {st r:S} {vs:List V} {xs:List Nat}
theorem AW.after {f:Flow} (le:G.le c.own g g₁) (h:AW n c g₁ Q f s'):AW n c g Q f s':=fun R_ k1 k2=>h R_ (fun ρ σ g' q l I=>k1 ρ σ g' q (le.trans l) I) fun v x σ g' q l H w r=>k2 v x σ g' q (le.trans l) H w r
theorem AW.elim {f:Flow} {P:Prop} (h:AW n c g Q f s') (k1:∀ ρ σ' g',f=.next->Q (.next ρ) σ'->G.le c.own g g'->Inv n c ρ g' σ' s'->P) (k2:∀ v x σ' g',f=.ret x->Q (.ret v) σ'->G.le c.own g g'->Has c.T g' σ' s'->(∀ a,a∈c.own->g'.hid a≠none)->Ak c.T g' v x->P):P :=
 h (fun f'=>f=f'->P) (fun ρ σ g' q l I e=>k1 ρ σ g' e q l I) (fun v x σ g' q l H w r e=>k2 v x σ g' e q l H w r) rfl
theorem AW.mono {f:Flow} (hm:∀ fl σ,M fl σ->Q fl σ) (h:AW n c g M f s'):AW n c g Q f s':=fun R_ k1 k2=>h R_ (fun ρ σ g' q l I=>k1 ρ σ g' (hm _ _ q) l I) fun v x σ g' q l H w r=>k2 v x σ g' (hm _ _ q) l H w r
theorem SS.mono (hm:∀ fl σ,M fl σ->Q fl σ) (h:SS n st ρ σ M):SS n st ρ σ Q:=fun c g s x hc I=>wpAny_mono (h c g s x hc I) (fun _ _ p=>p.mono hm) fun _ _ h=>h
theorem SSs.mono (hm:∀ fl σ,M fl σ->Q fl σ) (h:SSs n st ρ σ M):SSs n st ρ σ Q:=fun c g s x hc I=>wpAny_mono (h c g s x hc I) (fun _ _ p=>p.mono hm) fun _ _ h=>h
def andThen (n:Nat) (r:S) (Q:Fl->Ab->Prop) (fl:Fl) (σ:Ab):Prop:=match fl with | .next ρ=>SSs n r ρ σ Q | .ret v=>Q (.ret v) σ
theorem SSs.nil (h:Q (.next ρ) σ):SSs n .nil ρ σ Q:=fun c g s xs hc I=>by
 obtain rfl:xs=[]:=hc
 exact wpAny_execs_nil fun R_ k1 _=>k1 ρ σ g h (.refl _ _) I
theorem SSs.cons (h:SS n st ρ σ (andThen n r Q)):SSs n (.cons st r) ρ σ Q:=fun c g s xs hc I=>hc (fun xs=>c.wp (execs xs c.env) (AW n c g Q) s) fun x l h1 h2=>by
 rw [execs_cons]
 refine wpAny_bind (wpAny_mono (h c g s x h1 I) (fun f s₁ p=>p.elim (fun ρ1 σ₁ g₁ e q le I1=>?_) fun v x σ₁ g₁ e q le H w r=>?_) fun _ _ h=>h)
 ·subst e
  exact wpAny_mono (q c g₁ s₁ l h2 I1) (fun _ _ p=>p.after le) fun _ _ h=>h
 ·subst e
  exact wpAny_pure fun R_ _ k2=>k2 v x σ₁ g₁ q le H w r
theorem SS.ite {t:Bool} {p q:S} (h:ST n e ρ σ t σ₁) (h1:t=true->SSs n p ρ σ₁ Q) (h2:t=false->SSs n q ρ σ₁ Q):SS n (.ite e p q) ρ σ Q:=fun c g s x hc I=>hc (fun x=>c.wp (exec x c.env) (AW n c g Q) s) fun ex xs ys pos c1 c2 c3=>by
 refine wpAny_If (wpAny_mono (h c g s ex c1 I) (fun b s₁ p=>p _ fun g₁ le a1 e₁=>?_) fun _ _ h=>h)
 subst e₁
 cases b with
 | true=>exact wpAny_mono (h1 rfl c g₁ s₁ xs c2 (I.step le a1)) (fun _ _ p=>p.after le.toO) fun _ _ h=>h
 | false=>exact wpAny_mono (h2 rfl c g₁ s₁ ys c3 (I.step le a1)) (fun _ _ p=>p.after le.toO) fun _ _ h=>h
noncomputable def WhQ (n:Nat) (e:E) (b:S) (Q:Fl->Ab->Prop):Nat->Ag->Ab->Prop
 | 0,_,_=>False
 | k+1,ρ,σ=>∃ t σ₁,ST n e ρ σ t σ₁/\(t=false->Q (.next ρ) σ₁)/\(t=true->SSs n b ρ σ₁ fun fl σ'=>match fl with | .next ρ'=>WhQ n e b Q k ρ' σ' | .ret v=>Q (.ret v) σ')
theorem SS.while_ {k:Nat} (h:WhQ n e r Q k ρ σ):SS n (.while_ e r) ρ σ Q:=fun c g s x hc I=>hc (fun x=>c.wp (exec x c.env) (AW n c g Q) s) fun t bd p h1 h4=>by
 refine wpAny_While (codeAny_whileLoop (I:=fun k s'=>∀ R_:Prop,(∀ ρ σ g',WhQ n e r Q k ρ σ->G.le c.own g g'->Inv n c ρ g' σ s'->R_)->R_) (fun k s3 hz=>hz _ fun ρ3 σ₃ g3 w le3 I3=>?_) k fun R_ kk=>kk ρ σ g h (.refl _ _) I)
 cases k with
 | zero=>exact w.elim
 | succ k =>
  obtain ⟨q,σ4,w1,w2,w3⟩:=w
  refine wpAny_mono (w1 c g3 s3 t h1 I3) (fun b s4 p=>p _ fun g4 le4 a4 e4=>?_) fun _ _ h=>h.elim
  subst e4
  have I4:=I3.step le4 a4
  have le:=le3.trans (le4.toO (own:=c.own))
  cases b with
  | false=>exact wpAny_execs_nil fun R_ k1 _=>k1 ρ3 σ4 g4 (w2 rfl) le I4
  | true =>
   refine wpAny_mono (w3 rfl c g4 s4 bd h4 I4) (fun f s5 p=>p.elim (fun ρ5 σ5 g5 e5 q l5 I5=>?_) fun v x σ5 g5 e5 q l5 H w r5=>?_) fun _ _ h=>h.elim
   ·subst e5
    exact ⟨k,Nat.lt_succ_self k,fun R_ kk=>kk ρ5 σ5 g5 q (le.trans l5) I5⟩
   ·subst e5
    exact fun R_ _ k2=>k2 v x σ5 g5 q (le.trans l5) H w r5
def PrS (x y z:V) (σ σ':Ab):Prop :=
 ∀ (r:Ar) (g:G) (s:Shared) (X Y Z:Value),At 0 r g σ s->Ak r.T g x X->Ak r.T g y Y->Ak r.T g z Z->r.wp (setItem X Y Z) (fun _ s'=>Has r.T g σ' s') s
theorem set_arm {oe ie ve:Expr} {p p':Pos} {env:Env} (h:∀ t l,swapsWith ve t l env=pure false):exec (.Assign [.Subscript oe ie p] ve p') env=(standAt p'>>=fun _=>eval ve env>>=fun Z=>assign (.Subscript oe ie p) env Z>>=fun _=>pure Flow.next):=by
 rw [arm_exec_Assign]
 show (standAt p'>>=fun _=>swapsWith ve (some (.Subscript oe ie p)) p'.line env>>=_)=_
 rw [h]
 rfl
theorem SS.set (hp:B1 d=false) (hz:SE n d ρ σ z σ₁) (hx:SE n a ρ σ₁ x σ₂) (hy:SE n b ρ σ₂ y σ₃) (h:PrS x y z σ₃ σ') (hq:Q (.next ρ) σ'):SS n (.set a b d) ρ σ Q:=fun c g s st hc I=>hc (fun st=>c.wp (exec st c.env) (AW n c g Q) s) fun oe ie p ve p' h1 h2 h3=>by
 refine AD (set_arm fun t l=>Ey d hp h1 t l c.env) (wpAny_bind (wpAny_standAt (Bj hz h1 I fun Z g₁ s₁ le1 I1 r1=>?_)))
 rw [arm_assign_Subscript]
 refine wpAny_bind (wpAny_bind (wpAny_holding (wpAny_mono (hx c g₁ s₁ oe h2 I1) (fun X s2 p=>p _ fun g2 le2 a2 r2=>?_) fun _ _ h=>h)))
 have I2:=I1.step le2 a2
 refine wpAny_bind (wpAny_holding (wpAny_mono (hy c g2 s2 ie h3 I2) (fun Y s3 p=>p _ fun g3 le3 a3 r3=>?_) fun _ _ h=>h))
 have I3:=I2.step le3 a3
 refine wpAny_bind (wpAny_standAt (wpAny_bind (wpAny_holding (wpAny_mono (h c.toAr g3 s3 X Y Z I3.at0 (Ak.mono le3.toup _ _ r2) r3 (Ak.mono (le2.trans le3).toup _ _ r1)) (fun _ s4 a4=>wpAny_release (wpAny_pure ?_)) fun _ _ h=>h))))
 exact fun R_ k1 _=>k1 ρ σ' g3 hq (le1.trans (le2.trans le3)).toO (I3.step (.refl _ _) a4)
end
end Mine
namespace Mine
open PySem PySem.Calls
section
variable {n:Nat} {c:Cx} {ρ ρ':Ag} {g g' g₁:G} {σ σ' σ₁ σ₂ σ₃:Ab} {s s':Shared} {v x y z:V} {e a b d:E} {Q M:Fl->Ab->Prop} {ws vs:List V} {xs:List Nat} {k:Nat} {kvs:List (Str×PyData)} {kvp:List ((Str×Int)×PyData)} {w:Str} {q:Str×Int} {dd:PyData}
theorem len_of {α β:Type} {R:α->β->Prop} {as:List α} {bs:List β} (h:Aq R as bs) (hl:as.length < line):bs.length<=sizeLine:=by rw [<-h.length,<-A8]; exact Nat.le_of_lt hl
theorem s_dictS (hσ:σ[k]? = some (.dictS kvs)) (hl:kvs.length < line):PrS (.ref k) (.d (.str w)) (.d dd) σ (σ.set k (.dictS (CF kvs w dd))):=fun r g s X Y Z A hx hy hz=>by
 obtain ⟨l,hk,rfl⟩:=hx
 obtain ⟨t,rfl,_⟩:=hy
 refine A.has.dictS hk hσ fun ws hD hr=>wpAny_setItem_pairs (k:=w) (strKind_is _ _ w t) hD (fun h' hD' hs=>?_) (len_of hr hl)
 obtain ⟨x,es,ep,hx,ho,hd,hk',hp,hn⟩:=hD'
 refine A.has.turn (ob:=.dictS (CF kvs w dd)) hk (fun b x hb e=>(hs.2 b hb).trans e) hx fun R_ kk=>kk es ep _ ho hd hk' hp hn ?_ (Nat.le_trans (put_len _ _ _) hl)
 have h:=put_rep (f:=id) (key:=fun w:Str×Value=>w.1) (d:=dd) (w₀:=(w,Z)) (up:=fun p=>(p.1,Z)) (fun _ _ h=>h) (fun _ _ h=>h.1) (k:=w) ⟨rfl,hz⟩ (fun p w h e=>⟨h.1,hz⟩) hr
 rw [<-any_find] at h
 exact h
end
end Mine
namespace Mine
open PySem PySem.Calls
section
variable {n:Nat} {c:Cx} {ρ ρ':Ag} {g g' g₁:G} {σ σ' σ₁ σ₂ σ₃:Ab} {s s':Shared} {v x y z:V} {e a b d:E} {Q M:Fl->Ab->Prop} {ws vs:List V} {xs:List Nat} {k:Nat}
theorem dct_is {ob:O} (h:∀ (T:Top) (g:G),CK T g ob { cls:=.type "dict",data:=.dict #[] }):SE n .dct ρ σ (.ref σ.length) (σ++[ob]):=fun c g s ex hc I=>hc (fun ex=>c.wp (eval ex c.env) (Ans c.toAr g (.ref σ.length) (σ++[ob])) s) fun p=>wpAny_Dict_empty
 (.mk (g.add s.heap.objs.size) .add ((I.has.free (AN _)).add (ob:=ob) (I.has.keep fun b o e=>Heap.get?_push_of_some _ e) (Heap.get?_push_size _ rfl) (h _ _)) ⟨_,I.has.addAt,rfl⟩)
theorem SE.dctS:SE n .dct ρ σ (.ref σ.length) (σ++[.dictS []]):=dct_is fun T g R_ k=>by
 obtain ⟨o,es,ep,h1,h2,h3,h4,h5,h6⟩:=Heap.DictOf.new (knd:=strKind T.prog T.w) {}
 rw [Heap.get?_push_size _ rfl] at h1
 rw [<-Option.some.inj h1] at h2 h3
 exact k es ep [] h2 h3 h4 h5 h6 trivial (Nat.zero_le _)
theorem wv_rep {T:Top} {us:List (PyData ⊕ Nat)}:∀ {Xs:List Value},Ao T g (us.map wv) Xs->Aq (Fw g) us Xs:=by
 induction us with
 | nil=>intro Xs h; rw [h.nil]; exact trivial
 | cons u us ih =>
  intro Xs h
  obtain ⟨X,Xs,rfl,h1,h2⟩:=h.cons
  exact ⟨by cases u <;> exact h1,ih h2⟩
theorem SE.tupR {us:List (PyData ⊕ Nat)} (h:SEs n a ρ σ (us.map wv) σ₁) (hl:us.length<=line):SE n (.tup a) ρ σ (.tup us) σ₁:=fun c g s ex hc I=>hc (fun ex=>c.wp (eval ex c.env) (Ans c.toAr g (.tup us) σ₁) s) fun vs k p hc=>AD (arm_eval_Tuple ..) (wpAny_bind (wpAny_standAt
 (Bd (h c g s vs p hc I) fun xs g₁ s₁ le a1 r1=>wpAny_newTuple (by
  have F:=a1.free (AN _)
  have up:=(G.le.put (own:=[]) (o:={ cls:=.type "tuple",data:=.seq xs.toArray }) F.fz).toup
  exact .mk (g₁.put s₁.heap.objs.size _) (le.trans (.put F.fz)) (F.put (a1.keep fun b o e=>Heap.get?_push_of_some _ e) (Heap.get?_push_size _ rfl)) fun R_ k=>k _ _ xs.toArray _ G.put_self rfl rfl (by rw [List.toList_toArray]; exact (wv_rep r1).mono (Fw.mono up)) hl) (by rw [<-r1.length,<-A8,List.length_map]; exact hl))))
theorem SE.fcall {f:Nat} (h:SEs n a ρ σ vs σ₁) (hf:FA n f vs σ₁ v σ₂):SE n (.fcall f a) ρ σ v σ₂:=fun c g s ex hc I=>hc (fun ex=>c.wp (eval ex c.env) (Ans c.toAr g v σ₂) s) fun nm np es p h1 h2=>by
 refine PyProof.Rows.Call_Name rfl (BQ I h1 fun x hv=>?_)
 obtain ⟨l,hl,rfl⟩:=hv
 obtain ⟨o,fd,ho,hd⟩:=I.cx.rd.fnob f l hl
 refine callWith_function (o:=o) (fd:=fd) (BN (r:=c.toAr) h2 (wpAny_mono (h c g s es p h2 I) (fun Xs s₁ p=>p _ fun g₁ le a1 r1=>?_) fun _ _ h=>h))
 have I1:=I.step le a1
 exact ⟨⟨I1.base _ _ ho,hd⟩,AY (r:=c.toAr) le (hf c.toAr g₁ s₁ l Xs hl I1.toAt r1)⟩
end
end Mine
namespace Mine
open PySem PySem.Calls
def BM (σ:Ab) (kps:List (Nat×List V)):Prop:=∀ k ws,(k,ws)∈kps->σ[k]? = some (.list ws)
noncomputable def ItS (m:Nat) (T:Top) (b:Bool) (kps:List (Nat×List V)) (its:List Addr) (a:Addr):List V->G->Prop
 | [],g₀=>(∀ c,c∈its->g₀.hid c≠none)/\∀ (r:Ar) (g:G) (σ:Ab) (s:Shared),r.T=T->At m r g σ s->G.up g₀ g->(∀ c,c∈its->g.hid c=g₀.hid c)->BM σ kps->∀ Q:Option Value->Shared->Prop,
  (∀ h',(∀ c o,c∉its->s.heap.get? c=some o->h'.get? c=some o)->Q none { s with heap:=h' })->r.wp (pyNext (.ref a)) Q s
 | v::vs,g₀=>(∀ c,c∈its->g₀.hid c≠none)/\∀ (r:Ar) (g:G) (σ:Ab) (s:Shared),r.T=T->At m r g σ s->G.up g₀ g->(∀ c,c∈its->g.hid c=g₀.hid c)->BM σ kps->∀ (t:Expr) (Q:Option Value->Shared->Prop),(b=true->∃ es k p,t=.Tuple es k p) ->
  (∀ X s₁,(∀ Q':Unit->Shared->Prop,(∀ g' s',G.le its g g'->Has r.T g' σ s'->Ak r.T g' v X->ItS m T b kps its a vs g'->Q' () s')->r.wp (letOwnedTupleGo t (.ref a) X) Q' s₁)->Q (some X) s₁)->r.wp (pyNext (.ref a)) Q s
def Lsrc (T:Top) (kps:List (Nat×List V)) (l:Addr) (ws:List V) (g₀:G):Prop:=∀ (g:G) (σ:Ab) (s:Shared),Has T g σ s->G.up g₀ g->BM σ kps->∀ R_:Prop,(∀ xs,s.heap.IsList l xs->Ao T g ws xs.toList->R_)->R_
section
variable {n m:Nat} {T:Top} {r:Ar} {c:Cx} {ρ ρ':Ag} {g g' g₁:G} {σ σ' σ₁ σ₂ σ₃:Ab} {s s':Shared} {v x y z:V} {e a b d:E} {ws vs:List V} {kps:List (Nat×List V)} {its:List Addr} {it l:Addr} {q:Bool} {prog:Program} {w:World} {A:Around} {E:Value->Shared->Prop}
theorem ItS.mono (up:G.up g g') (hd:∀ c,c∈its->g'.hid c=g.hid c) (h:ItS m T q kps its it vs g):ItS m T q kps its it vs g':=by
 cases vs with
 | nil=>exact ⟨fun c hc=>(hd c hc).symm▸h.1 c hc,fun r g2 σ s hT A up' hd'=>h.2 r g2 σ s hT A (up.trans up') fun c hc=>(hd' c hc).trans (hd c hc)⟩
 | cons v vs=>exact ⟨fun c hc=>(hd c hc).symm▸h.1 c hc,fun r g2 σ s hT A up' hd'=>h.2 r g2 σ s hT A (up.trans up') fun c hc=>(hd' c hc).trans (hd c hc)⟩
theorem ItS.at (h:ItS m T q kps its it vs g):∀ c,c∈its->g.hid c≠none:=by cases vs with | nil=>exact h.1 | cons v vs=>exact h.1
theorem A3 {o:Obj} {a:Addr} (h:g.hid a=some o):g.hid a≠none:=fun q=>Al q h
theorem AA {P:Addr->Prop} (h:P it):∀ c,c∈[it]->P c:=fun c hc=>List.mem_singleton.mp hc▸h
theorem Lsrc.frozen {o:Obj} {xs:Array Value} {m:Nat} (hf:g.fz l=some o) (hc:o.cls=.type "list") (hd:o.data=.seq xs m) (hr:Ao T g ws xs.toList):Lsrc T [] l ws g:=fun g' σ s H up _ R_ k=>k xs ⟨o,H.fz _ _ (up.fz _ _ hf),hc,m,hd⟩ (Ao.mono up hr)
theorem Lsrc.tracked {k:Nat} (hk:g.mu[k]? = some l):Lsrc T [(k,ws)] l ws g:=fun g' σ s H up hq R_ kk=>H.lst (up.mu _ _ hk) (hq k ws (List.mem_singleton.mpr rfl)) fun xs m ho hr _ _=>kk xs ⟨_,ho,rfl,m,rfl⟩ hr
theorem no_rule {b c:Bool} {x y:Sem Unit} {Q:Unit->Shared->Prop} (hb:b=false) (h:wpAny (model prog w) A y Q E s):wpAny (model prog w) A (if (b&&c)=true then x else y) Q E s:=by
 rw [hb,Bool.false_and,if_neg Bool.false_ne_true]; exact h
theorem G3 {target:Expr} {a:Addr} {o:Obj} {n:String} {v:Value} {Q:Unit->Shared->Prop} (ho:s.heap.get? a=some o) (hc:o.cls=.type n)
 (hn:["enumerate","zip","dict_itemiterator","dict_reverseitemiterator","odict_iterator","itertools.zip_longest","itertools.pairwise"].contains n=false) (h:Q () s) :
 wpAny (model prog w) A (letOwnedTupleGo target (.ref a) v) Q E s:=by
 have key:∀ v:Addr,wpAny (model prog w) A (letOwnedTupleGo (.List [] default) (.ref a) (.ref v)) Q E s:=fun v=>by
  refine wpAny_bind (wpAny_load ho ?_)
  rw [hc]
  cases o.data <;> first
   | exact wpAny_pure h
   | exact no_rule hn (wpAny_pure h)
 have key2:wpAny (model prog w) A (letOwnedTupleGo (.List [] default) (.ref a) v) Q E s:=by
  cases v <;> first | exact wpAny_pure h | exact key _
 cases target <;> first | exact wpAny_pure h | exact key2
theorem FV {o o':Obj} {nm:String} {t:Expr} {X:Value} {Q':Unit->Shared->Prop} (A:At m r g σ s) (e:g.hid it=some o) (hs:Heap.SameBut it s.heap s'.heap) (ho:s'.heap.get? it=some o') (hc:o'.cls=.type nm)
 (hn:["enumerate","zip","dict_itemiterator","dict_reverseitemiterator","odict_iterator","itertools.zip_longest","itertools.pairwise"].contains nm=false) (hg:s'.gens=s.gens) (hos:s'.os=s.os)
 (k:∀ g' s',G.le [it] g g'->G.up g g'->g'.hid it=some o'->Has r.T g' σ s'->Q' () s'):r.wp (letOwnedTupleGo t (.ref it) X) Q' s' :=
 G3 ho hc hn (k (g.hide it o') s' (.hide (.head _)) ⟨fun _ _ e=>e,fun _ _ e=>e⟩ G.hide_self (A.has.rehide e (fun b x q e=>(hs.2 b q).trans e) ho hg hos))
theorem BZ {α:Type} {xs:List α} {i:Nat} {x:α} {r:List α} (h:xs.drop i=x::r):xs[i]? = some x/\xs.drop (i+1)=r:=by
 have h1:=congrArg List.head? h
 have h2:=congrArg List.tail h
 rw [List.head?_drop] at h1
 rw [List.tail_drop] at h2
 exact ⟨h1,h2⟩
theorem entry_unchain:entryFor table "proto.unchain" = some Builtin.«proto.unchain»:=entryFor_of_fast (by kernel_rfl)
theorem plain_unchain:plainId "proto.unchain" = true:=by decide +kernel
theorem raiseNew_any {α:Type} {a:Addr} {o:Obj} {vs:Array Value} {Q:α->Shared->Prop} (hH:A.handled=none\/HExc g A.handled) (fz:∀ a o,g.fz a=some o->s.heap.get? a=some o)
 (ho:s.heap.get? a=some o) (hd:o.data=.fields vs) (hs:2 < vs.size) (hn:g.fz a=none)
 (h:∀ h' o',Heap.SameBut a s.heap h'->h'.get? a=some o'->o'.cls=o.cls->E (.ref a) { s with heap:=h' }) :
 wpAny (model prog w) A (raiseNew (.ref a):Sem α) Q E s:=by
 unfold raiseNew
 refine wpAny_bind (wpAny_handled ?_)
 rcases hH with hh | ⟨b,ob,bs,hh,hb,hbd,hb2⟩
 ·rw [hh]
  exact wpAny_bind (wpAny_pure (wpAny_throw (h s.heap o (Heap.SameBut.refl ..) ho rfl)))
 ·rw [hh]
  have hne:b≠a:=fun q=>by rw [q,hn] at hb; cases hb
  have hne':((Value.ref b) != (Value.ref a))=true:=by simp [hne]
  show wpAny _ _ (if (Value.ref b != Value.ref a)=true then _ else _) _ _ _
  rw [if_pos hne']
  refine wpAny_bind (wpAny_holding (wpAny_runValue (codeAny_builtin entry_unchain ?_)))
  rw [Around.under_plainId plain_unchain]
  unfold Builtin.«proto.unchain»
  show wpAny _ _ (field (.ref b) 2>>=_) _ _ _
  refine wpAny_bind (wpAny_field (fz _ _ hb) hbd hb2 ?_)
  refine wpAny_pure ?_
  show wpAny _ _ (updateField a 2 (.ref b)>>=_) _ _ _
  refine wpAny_bind ?_
  refine wpAny_setField (s:=s) ho hd hs ?_
  exact wpAny_throw (h _ _ (Heap.SameBut.update ..) (Heap.get?_update_self _ ho (Obj.isFreed_of_fields (Obj.data_mapFields hd _))) (Obj.cls_mapFields ..))
theorem next_list_end {i:Nat} {items:Array Value} {Q:Option Value->Shared->Prop} (hH:A.handled=none\/HExc g A.handled) (fz:∀ a o,g.fz a=some o->s.heap.get? a=some o) (hn:g.fz it=none)
 (hit:s.heap.IsListIter it l i) (hl:s.heap.IsList l items) (hx:items[i]? = none)
 (hQ:∀ h',Heap.ExtBut it s.heap h'->Q none { s with heap:=h' }):wpAny (model prog w) A (pyNext (.ref it)) Q E s:=by
 obtain ⟨o,ho,hc,hd⟩:=id hit
 obtain ⟨ol,hol,_,nl,hdl⟩:=hl
 unfold pyNext
 refine wpAny_bind (wpAny_attempt (wpAny_callSpecial?_slot (name:=Str.ofString "__next__") hit.typeIs slot_listiter_next
  (wpAny_call_entry slot_listiter_next hit.typeIs entry_listiter_next ?_ (args_listiter_next _))))
 show wpAny _ _ (field (.ref it) 0>>=_) _ _ s
 refine wpAny_bind (wpAny_field ho hd (x:=.ref l) rfl ?_)
 show wpAny _ _ (if (Value.ref l == Value.none)=true then _ else _) _ _ s
 rw [if_neg (show ¬ ((Value.ref l == Value.none)=true) from Bool.false_ne_true)]
 show wpAny _ _ (field (.ref it) 1>>=_) _ _ s
 refine wpAny_bind (wpAny_field ho hd (x:=.int i 0) rfl ?_)
 show wpAny _ _ (seqItems? (.ref l)>>=_) _ _ s
 refine wpAny_bind (wpAny_seqItems hol hdl ?_)
 simp only [Int.toNat_natCast,hx]
 refine wpAny_bind (wpAny_rule (wpAny_bind (wpAny_setField ho hd (by simp) ?_)))
 show wpAny _ _ (newExc (.type "StopIteration") []>>=_) _ _ _
 refine wpAny_bind ?_
 simp only [newExc,newTuple]
 refine wpAny_bind (wpAny_newObj_type ?_ (by size_fits))
 refine wpAny_bind (m:=firstArgMember _ _) (wpAny_of_eq (a:=Value.none) (by first | rfl | (simp only [firstArgMember]; rfl)) ?_)
 refine wpAny_newObj_type ?_ (by size_fits)
 have hsz:∀ (h:Heap) (o:Obj),Heap.SameBut it s.heap h->g.fz (h.push o).objs.size=none:=fun h o hs=>by
  cases e:g.fz (h.push o).objs.size with
  | none=>rfl
  | some ob =>
   have:=Heap.lt_size (fz _ _ e)
   rw [Heap.size_push,hs.1] at this; exact absurd this (Nat.not_lt.mpr (Nat.le_succ _))
 refine raiseNew_any (g:=g) hH (fun b ob e=>Heap.get?_push_of_some _ (Heap.get?_push_of_some _ ?_)) (Heap.get?_push_size _ rfl) rfl (by simp [ownMembersOf]) (hsz _ _ ?_) fun h' o' hs' ho' hc'=>?_
 ·exact (Heap.SameBut.update ..).extBut b ob (fun q=>by rw [q,hn] at e; cases e) (fz _ _ e)
 ·exact Heap.SameBut.update ..
 ·refine wpAny_bind (wpAny_isInstance (T := "StopIteration") (b:=true) ⟨o',ho',hc'⟩ isSubtype_stop ?_)
  refine wpAny_pure (hQ _ fun b ob hb e=>?_)
  have:=Heap.lt_size e
  refine (hs'.2 b ?_).trans (Heap.ExtBut.push (Heap.ExtBut.push (Heap.SameBut.update ..).extBut _) _ b ob hb e)
  simp only [Heap.size_push,(Heap.SameBut.update ..).1]
  exact Nat.ne_of_lt (Nat.lt_succ_of_lt this)
theorem it_list (hL:Lsrc T kps l ws g):∀ {i:Nat} {g₀:G} {o:Obj},ws.drop i=vs->G.up g g₀->g₀.hid it=some o->o.cls=.type "list_iterator" -> o.data=.fields #[.ref l,.int i 0]->ItS m T false kps [it] it vs g₀:=by
 induction vs with
 | nil =>
  intro i g₀ o hv up0 e hc hd
  refine ⟨AA (A3 e),fun r g' σ s hT A up hh hk Q hQ=>?_⟩
  subst hT
  have hit:s.heap.IsListIter it l i:=⟨o,(A.has.hd _ _ ((hh it (.head _)).trans e)).ex (AC hc (by decide)),hc,hd⟩
  refine hL g' σ s A.has (up0.trans up) hk _ fun xs hl hr=>next_list_end (g:=g') (A.hh.1.imp id (·.2)) A.has.fz (A.has.ah _ _ ((hh it (.head _)).trans e)).1 hit hl ?_ fun h' he=>hQ h' fun c o hc e=>he c o (fun q=>hc (q▸.head _)) e
  exact Array.getElem?_eq_none (by rw [<-Array.length_toList,<-hr.length]; exact List.drop_eq_nil_iff.mp hv)
 | cons v vs ih =>
  intro i g₀ o hv up0 e hc hd
  refine ⟨AA (A3 e),fun r g' σ s hT A up hh hk t Q ht hQ=>?_⟩
  subst hT
  have e':=(hh it (.head _)).trans e
  have hit:s.heap.IsListIter it l i:=⟨o,(A.has.hd _ _ e').ex (AC hc (by decide)),hc,hd⟩
  obtain ⟨q1,q2⟩:=BZ hv
  refine hL g' σ s A.has (up0.trans up) hk _ fun xs hl hr=>?_
  obtain ⟨X,hX,rX⟩:=hr.get q1
  refine wpAny_pyNext_list_item hit hl (Array.getElem?_toList.symm.trans hX) fun h' it' hs=>hQ X _ fun Q' k=>?_
  obtain ⟨o',ho',hc',hd'⟩:=it'
  exact FV (s':={ s with heap:=h' }) A e' hs ho' hc' (by decide) rfl rfl fun g2 s2 le up2 e2 H=>k g2 s2 le H (Ak.mono up2 _ _ rX) (ih q2 (up0.trans (up.trans up2)) e2 hc' hd')
end
end Mine
namespace Mine
open PySem PySem.Calls
noncomputable def upV (lo:Int):Nat->List V
 | 0=>[]
 | n+1=>.d (.int lo)::upV (lo+1) n
noncomputable def F9 (k:Nat):List PyData->List V
 | []=>[]
 | x::xs=>.d (.tuple [.int k,x])::F9 (k+1) xs
noncomputable def zp (x y:V):V:=match x with | .d a=>(match y with | .d b=>.d (.tuple [a,b]) | y=>.pr (.d a) y) | x=>.pr x y
noncomputable def FI:List V->List V->List V
 | x::xs,y::ys=>zp x y::FI xs ys
 | _,_=>[]
noncomputable def El:List Nat->List V
 | []=>[]
 | c::r=>.d (.str (chr1 c))::El r
section
variable {n m₀:Nat} {T:Top} {r:Ar} {c:Cx} {ρ ρ':Ag} {g g' g₁:G} {σ σ' σ₁ σ₂ σ₃:Ab} {s s':Shared} {v x y z:V} {e a b d:E} {ws vs:List V} {kps:List (Nat×List V)} {its:List Addr} {it l:Addr} {q:Bool}
theorem Has.away (H:Has T g σ s) (hi:∀ c,c∈its->g.hid c≠none) (c:Addr) (hc:c∈its):g.fz c=none/\c∉g.mu/\∀ q,(c,q)∉T.tabs:=by
 cases e:g.hid c with
 | none=>exact absurd e (hi c hc)
 | some o=>exact ⟨(H.ah c o e).1,(H.ah c o e).2,H.hidTab e⟩
theorem Has.rehL (H:Has T g σ s) (hi:∀ c,c∈its->g.hid c≠none) (k:∀ c o,c∉its->s.heap.get? c=some o->s'.heap.get? c=some o) (hg:s'.gens=s.gens:=by rfl) (ho:s'.os=s.os:=by rfl):Has T ⟨g.fz,fun c=>if c∈its then s'.heap.get? c else g.hid c,g.mu⟩ σ s':=by
 have it:=H.away hi
 refine H.re _ (fun a o e=>?_) (fun b o e e'=>k b o (fun q=>Al (it b q).1 e) e') (fun b o e e'=>k b o (fun q=>(it b q).2.1 e) e') (fun t q o m e=>k t o (fun h=>(it t h).2.2 q m) e) hg ho
 by_cases q:a∈its
 ·rw [if_pos q] at e; exact ⟨.of e,it a q⟩
 ·rw [if_neg q] at e; exact ⟨(H.hd a o e).keep fun o=>k a o q,(H.ah a o e).1,(H.ah a o e).2,H.hidTab e⟩
theorem zp_rep {v w:V} {x y X:Value} (hx:Ak T g v x) (hy:Ak T g w y) (h:B7 g.fz "tuple" X (fun xs=>xs=[x,y]) 2):Ak T g (zp v w) X:=by
 have k:Ak T g (.pr v w) X:=B7.mono (fun _ _ e=>e) (fun vs e=>⟨x,y,e,hx,hy⟩) h
 cases v with
 | d a=>cases w with
  | d b=>exact B7.mono (P':=fun vs=>RepDs g.fz [a,b] vs) (fun _ _ e=>e) (fun vs (e:vs=[x,y])=>by rw [e]; exact ⟨hx,hy,trivial⟩) h
  | _=>exact k
 | _=>exact k
theorem pair_step {x y:Value} {v w:V} (H:Has T g σ s) (hi:∀ c,c∈its->g.hid c≠none) (k:∀ c o,c∉its->s.heap.get? c=some o->s'.heap.get? c=some o)
 (pr:s'.heap.get? s.heap.objs.size=some { cls:=.type "tuple",data:=.seq #[x,y] }) (hx:Ak T g v x) (hy:Ak T g w y) (hg:s'.gens=s.gens) (ho:s'.os=s.os) {R_:Prop}
 (kk:∀ g',G.le its g g'->G.up g g'->Has T g' σ s'->Ak T g' (zp v w) (.ref s.heap.objs.size)->(∀ c,c∈its->g'.hid c=s'.heap.get? c)->R_):R_:=by
 have F:=H.free (AN s.heap)
 have hn:s.heap.objs.size∉its:=fun q=>hi _ q F.hid
 have H1:=H.rehL (s':=s') hi k hg ho
 have F1:Cz T ⟨g.fz,fun c=>if c∈its then s'.heap.get? c else g.hid c,g.mu⟩ s.heap.objs.size:=⟨F.fz,(if_neg hn).trans F.hid,F.mu,F.tab⟩
 have up:=(G.le.put (own:=[]) (g:=⟨g.fz,fun c=>if c∈its then s'.heap.get? c else g.hid c,g.mu⟩) (o:={ cls:=.type "tuple",data:=.seq #[x,y] }) F1.fz).toup
 have up':G.up g (G.put ⟨g.fz,fun c=>if c∈its then s'.heap.get? c else g.hid c,g.mu⟩ s.heap.objs.size { cls:=.type "tuple",data:=.seq #[x,y] }):=⟨up.fz,up.mu⟩
 exact kk _ ⟨up',fun c hc=>if_neg hc⟩ up' (F1.put H1 pr) (zp_rep (Ak.mono up' _ _ hx) (Ak.mono up' _ _ hy) fun R_ k=>k _ _ #[x,y] _ G.put_self rfl rfl rfl (show 2<=line by decide)) fun c hc=>if_pos hc
theorem it_range (h3:3<=m₀):∀ {m:Nat} {lo left:Int} {g₀:G},left.toNat=m->g₀.hid it=some { cls:=.type "range_iterator",dict:=none,data:=.fields #[rawInt lo,rawInt left,rawInt 1],slots:=#[] } -> ItS m₀ T false kps [it] it (upV lo m) g₀:=by
 intro m
 induction m with
 | zero =>
  intro lo left g₀ hm e
  refine ⟨AA (A3 e),fun r g' σ s hT A up hh hk Q hQ=>?_⟩
  exact wpAny_pyNext_range_end (A.hh.none h3) ((A.has.hd _ _ ((hh it (.head _)).trans e)).ex (AC rfl (by decide))) (Int.toNat_eq_zero.mp hm) fun h' he=>hQ h' fun c o hc e=>he c o (fun q=>hc (q▸.head _)) e
 | succ m ih =>
  intro lo left g₀ hm e
  refine ⟨AA (A3 e),fun r g' σ s hT A up hh hk t Q ht hQ=>?_⟩
  have e':=(hh it (.head _)).trans e
  refine wpAny_pyNext_range_item ((A.has.hd _ _ e').ex (AC rfl (by decide))) (Int.pos_iff_toNat_pos.mpr (hm▸Nat.succ_pos m)) fun h' it' hs=>hQ _ _ fun Q' k=>?_
  exact FV (s':={ s with heap:=h',toks:=s.toks+1 }) A e' hs it' rfl (by decide) rfl rfl fun g2 s2 le up2 e2 H=>k g2 s2 le H ⟨_,rfl⟩ (ih (by rw [Int.pred_toNat,hm]; rfl) e2)
theorem it_str {z:Str} {t0:Tok} {ch:List Nat} (h3:3<=m₀) (ha:z.cps.all (· < 128)=true):∀ {i:Nat} {g₀:G} {o:Obj},z.cps.toList.drop i=ch->g₀.hid it=some o->o.cls=.type "str_ascii_iterator" -> o.data=.fields #[.str z t0,.int i 0]->ItS m₀ T false kps [it] it (El ch) g₀:=by
 induction ch with
 | nil =>
  intro i g₀ o hv e hc hd
  refine ⟨AA (A3 e),fun r g' σ s hT A up hh hk Q hQ=>?_⟩
  refine wpAny_pyNext_ascii_end (A.hh.none h3) ⟨o,(A.has.hd _ _ ((hh it (.head _)).trans e)).ex (AC hc (by decide)),hc,hd⟩ ?_ fun h' he=>hQ h' fun c o hc e=>he c o (fun q=>hc (q▸.head _)) e
  exact Array.getElem?_eq_none (by rw [<-Array.length_toList]; exact List.drop_eq_nil_iff.mp hv)
 | cons k ch ih =>
  intro i g₀ o hv e hc hd
  refine ⟨AA (A3 e),fun r g' σ s hT A up hh hk t Q ht hQ=>?_⟩
  have e':=(hh it (.head _)).trans e
  obtain ⟨q1,q2⟩:=BZ hv
  refine wpAny_pyNext_ascii_item ⟨o,(A.has.hd _ _ e').ex (AC hc (by decide)),hc,hd⟩ (Array.getElem?_toList.symm.trans q1) fun h' it' hs=>hQ _ _ fun Q' kk=>?_
  obtain ⟨o',ho',hc',hd'⟩:=it'
  exact FV (s':={ s with heap:=h',toks:=s.toks+1 }) A e' hs ho' hc' (by decide) rfl rfl fun g2 s2 le up2 e2 H=>kk g2 s2 le H ⟨_,rfl,chr1_len k⟩ (ih q2 e2 hc' hd')
theorem nhd {α:Type} {a c:α} {l:List α} (h:c∉a::l):c≠a:=fun q=>h (q▸.head _)
theorem ntl {α:Type} {a c:α} {l:List α} (h:c∉a::l):c∉l:=fun q=>h (.tail _ q)
theorem AI {α:Type} {P:α->Prop}:∀ c,c∈([]:List α)->P c:=fun _ h=>nomatch h
theorem all_cons {α:Type} {P:α->Prop} {a:α} {l:List α} (h:P a) (t:∀ c,c∈l->P c):∀ c,c∈a::l->P c:=fun c q=>(List.mem_cons.mp q).elim (fun e=>e▸h) (t c)
noncomputable abbrev G0 (l:Addr) (i:Nat) (o:Obj):Prop:=o.cls=.type "list_iterator"/\o.data=.fields #[.ref l,.int i 0]
theorem end_of {xs:Array Value} {ds:List PyData} {i:Nat} (hr:Ao T g (ds.map .d) xs.toList) (h:ds.drop i=[]):xs[i]? = none:=Array.getElem?_eq_none (by rw [<-Array.length_toList,<-hr.length,List.length_map]; exact List.drop_eq_nil_iff.mp h)
theorem item_of {xs:Array Value} {ds rest:List PyData} {d:PyData} {i:Nat} (hr:Ao T g (ds.map .d) xs.toList) (h:ds.drop i=d::rest):∃ X,xs[i]? = some X/\Ax g.fz d X:=by
 obtain ⟨X,hX,rX⟩:=hr.get (k:=i) (a:=.d d) (by rw [List.getElem?_map,(BZ h).1]; rfl)
 exact ⟨X,Array.getElem?_toList.symm.trans hX,rX⟩
theorem end_ofV {xs:Array Value} {ds:List V} {i:Nat} (hr:Ao T g ds xs.toList) (h:ds.drop i=[]):xs[i]? = none:=Array.getElem?_eq_none (by rw [<-Array.length_toList,<-hr.length]; exact List.drop_eq_nil_iff.mp h)
theorem G5 {xs:Array Value} {ds rest:List V} {d:V} {i:Nat} (hr:Ao T g ds xs.toList) (h:ds.drop i=d::rest):∃ X,xs[i]? = some X/\Ak T g d X:=by
 obtain ⟨X,hX,rX⟩:=hr.get (k:=i) (a:=d) (BZ h).1
 exact ⟨X,Array.getElem?_toList.symm.trans hX,rX⟩
theorem it_enum {ds rest:List PyData} {ea:Addr} (h3:3<=m₀) (hL:Lsrc T kps l (ds.map .d) g):∀ {i:Nat} {g₀:G} {o:Obj} {old:Value},ds.drop i=rest->G.up g g₀->ea≠it->g₀.hid ea=some { cls:=.type "enumerate",dict:=none,data:=.fields #[.none,.bool false,.ref it,rawInt i,.none,old],slots:=#[] } -> g₀.hid it=some o->G0 l i o->ItS m₀ T true kps [ea,it] ea (F9 i rest) g₀:=by
 induction rest with
 | nil =>
  intro i g₀ o old hv up0 ne e1 e2 ho
  refine ⟨all_cons (A3 e1) (all_cons (A3 e2) AI),fun r g' σ s hT A up hh hk Q hQ=>?_⟩
  subst hT
  have f1:=(A.has.hd _ _ ((hh ea (.head _)).trans e1)).ex (AC rfl (by decide))
  have f2:=(A.has.hd _ _ ((hh it (.tail _ (.head _))).trans e2)).ex (AC ho.1 (by decide))
  exact hL g' σ s A.has (up0.trans up) hk _ fun xs hl hr=>wpAny_pyNext_enum_end (A.hh.none h3) f1 ⟨o,f2,ho⟩ hl (end_of hr hv) fun h' he=>hQ h' fun c o hc e=>he c o (nhd (ntl hc)) e
 | cons d rest ih =>
  intro i g₀ o old hv up0 ne e1 e2 ho
  refine ⟨all_cons (A3 e1) (all_cons (A3 e2) AI),fun r g' σ s hT A up hh hk t Q ht hQ=>?_⟩
  subst hT
  have k1:=(hh ea (.head _)).trans e1
  have k2:=(hh it (.tail _ (.head _))).trans e2
  have f1:=(A.has.hd _ _ k1).ex (AC rfl (by decide))
  have f2:=(A.has.hd _ _ k2).ex (AC ho.1 (by decide))
  refine hL g' σ s A.has (up0.trans up) hk _ fun xs hl hr=>?_
  obtain ⟨X,hX,rX⟩:=item_of hr hv
  refine wpAny_pyNext_enum_item f1 ⟨o,f2,ho⟩ hl hX ne fun h' heo hit' pr hsz hkp=>hQ _ _ fun Q' k=>?_
  obtain ⟨es,cc,p,rfl⟩:=ht rfl
  refine wpAny_letOwnedTupleGo_enum heo fun h'' he'' hs''=>?_
  have nz:s.heap.objs.size≠ea:=fun q=>by have:=Heap.lt_size f1; rw [q] at this; exact Nat.lt_irrefl _ this
  obtain ⟨o',ho',hd'⟩:=hit'
  have ho'':h''.get? it=some o':=(hs''.2 _ (Ne.symm ne)).trans ho'
  refine pair_step (s':={ s with heap:=h'',toks:=s.toks+1 }) (its:=[ea,it]) (v:=.d (.int i)) (w:=.d d) A.has (all_cons (A3 k1) (all_cons (A3 k2) AI)) (fun c o hc e=>(hs''.2 c (nhd hc)).trans (hkp c o (nhd hc) (nhd (ntl hc)) e)) ((hs''.2 _ nz).trans pr) ⟨_,rfl⟩ rX rfl rfl fun g2 le up2 H R hd=>?_
  exact k g2 _ le H R (ih (BZ hv).2 (up0.trans (up.trans up2)) ne ((hd ea (.head _)).trans he'') ((hd it (.tail _ (.head _))).trans ho'') hd')
theorem it_zip {kps':List (Nat×List V)} {ds ds' rest:List V} {za TI TO i1 i2 l1 l2:Addr} (h3:3<=m₀) (hL1:Lsrc T kps l1 ds g) (hL2:Lsrc T kps' l2 ds' g) (D:ZipApart za TI TO i1 i2 l1 l2):∀ {rest':List V} {j1 j2:Nat} {g₀:G} {o1 o2:Obj} {a b:Value},ds.drop j1=rest->ds'.drop j2=rest'->G.up g g₀ ->
 g₀.hid za=some { cls:=.type "zip",dict:=none,data:=.fields #[.none,.bool false,.bool false,.ref TI,.ref TO],slots:=#[] } -> g₀.hid TI=some { cls:=.type "tuple",data:=.seq #[.ref i1,.ref i2] } -> g₀.hid TO=some { cls:=.type "tuple",data:=.seq #[a,b] } -> g₀.hid i1=some o1->G0 l1 j1 o1->g₀.hid i2=some o2->G0 l2 j2 o2 ->
 ItS m₀ T true (kps++kps') [za,TO,i1,i2,TI] za (FI rest rest') g₀:=by
 have fin:∀ {rest rest':List V} {j1 j2:Nat} {g₀:G} {o1 o2:Obj} {a b:Value},ds.drop j1=rest->ds'.drop j2=rest'->(rest=[]\/rest'=[])->G.up g g₀ ->
  g₀.hid za=some { cls:=.type "zip",dict:=none,data:=.fields #[.none,.bool false,.bool false,.ref TI,.ref TO],slots:=#[] } -> g₀.hid TI=some { cls:=.type "tuple",data:=.seq #[.ref i1,.ref i2] } -> g₀.hid TO=some { cls:=.type "tuple",data:=.seq #[a,b] } -> g₀.hid i1=some o1->G0 l1 j1 o1->g₀.hid i2=some o2->G0 l2 j2 o2 ->
  ItS m₀ T true (kps++kps') [za,TO,i1,i2,TI] za [] g₀:=by
  intro rest rest' j1 j2 g₀ o1 o2 a b v1 v2 hend up0 e1 e2 e3 e4 q4 e5 q5
  refine ⟨all_cons (A3 e1) (all_cons (A3 e3) (all_cons (A3 e4) (all_cons (A3 e5) (all_cons (A3 e2) AI)))),fun r g' σ s hT A up hh hk Q hQ=>?_⟩
  subst hT
  have H:=fun c hc o (e:g₀.hid c=some o)=>A.has.hd c o ((hh c hc).trans e)
  refine hL1 g' σ s A.has (up0.trans up) (fun k ws m=>hk k ws (List.mem_append_left _ m)) _ fun xs hl1 hr1=>hL2 g' σ s A.has (up0.trans up) (fun k ws m=>hk k ws (List.mem_append_right _ m)) _ fun ys hl2 hr2=>?_
  refine wpAny_pyNext_zip_end (A.hh.none h3) D ((H za (.head _) _ e1).ex (AC rfl (by decide))) ((H TI (.tail _ (.tail _ (.tail _ (.tail _ (.head _))))) _ e2).ex (AC rfl (by decide))) ((H TO (.tail _ (.head _)) _ e3).ex (AC rfl (by decide))) ⟨o1,(H i1 (.tail _ (.tail _ (.head _))) _ e4).ex (AC q4.1 (by decide)),q4⟩ ⟨o2,(H i2 (.tail _ (.tail _ (.tail _ (.head _)))) _ e5).ex (AC q5.1 (by decide)),q5⟩ hl1 hl2 (hend.imp (fun q=>end_ofV hr1 (v1.trans q)) fun q=>end_ofV hr2 (v2.trans q)) fun h' hkp=>hQ h' fun c o hc e=>hkp c o (nhd hc) (nhd (ntl hc)) (nhd (ntl (ntl hc))) (nhd (ntl (ntl (ntl hc)))) e
 induction rest with
 | nil=>intro rest' j1 j2 g₀ o1 o2 a b v1 v2; exact fin v1 v2 (.inl rfl)
 | cons d rest ih =>
  intro rest' j1 j2 g₀ o1 o2 a b v1 v2 up0 e1 e2 e3 e4 q4 e5 q5
  cases rest' with
  | nil=>exact fin v1 v2 (.inr rfl) up0 e1 e2 e3 e4 q4 e5 q5
  | cons d' rest' =>
  refine ⟨all_cons (A3 e1) (all_cons (A3 e3) (all_cons (A3 e4) (all_cons (A3 e5) (all_cons (A3 e2) AI)))),fun r g' σ s hT A up hh hk t Q ht hQ=>?_⟩
  subst hT
  have K:=fun c hc o (e:g₀.hid c=some o)=>(hh c hc).trans e
  have m1:=K za (.head _) _ e1
  have m2:=K TO (.tail _ (.head _)) _ e3
  have m3:=K i1 (.tail _ (.tail _ (.head _))) _ e4
  have m4:=K i2 (.tail _ (.tail _ (.tail _ (.head _)))) _ e5
  have m5:=K TI (.tail _ (.tail _ (.tail _ (.tail _ (.head _))))) _ e2
  refine hL1 g' σ s A.has (up0.trans up) (fun k ws m=>hk k ws (List.mem_append_left _ m)) _ fun xs hl1 hr1=>hL2 g' σ s A.has (up0.trans up) (fun k ws m=>hk k ws (List.mem_append_right _ m)) _ fun ys hl2 hr2=>?_
  obtain ⟨X,hX,rX⟩:=G5 hr1 v1
  obtain ⟨Y,hY,rY⟩:=G5 hr2 v2
  refine wpAny_pyNext_zip_item D ((A.has.hd _ _ m1).ex (AC rfl (by decide))) ((A.has.hd _ _ m5).ex (AC rfl (by decide))) ((A.has.hd _ _ m2).ex (AC rfl (by decide))) ⟨o1,(A.has.hd _ _ m3).ex (AC q4.1 (by decide)),q4⟩ ⟨o2,(A.has.hd _ _ m4).ex (AC q5.1 (by decide)),q5⟩ hl1 hl2 hX hY fun h' z' TO' t1' t2' pr hsz hkp=>hQ _ _ fun Q' k=>?_
  obtain ⟨es,cc,p,rfl⟩:=ht rfl
  refine wpAny_letOwnedTupleGo_zip z' fun h'' z'' hs''=>?_
  have nz:s.heap.objs.size≠za:=fun q=>by have:=Heap.lt_size ((A.has.hd _ _ m1).ex (AC rfl (by decide))); rw [q] at this; exact Nat.lt_irrefl _ this
  have kp:∀ c o,c≠za->c≠TO->c≠i1->c≠i2->s.heap.get? c=some o->h''.get? c=some o:=fun c o q1 q2 q3 q4 e=>(hs''.2 c q1).trans (hkp c o q1 q2 q3 q4 e)
  obtain ⟨p1,w1,w2⟩:=t1'
  obtain ⟨p2,w3,w4⟩:=t2'
  refine pair_step (s':={ s with heap:=h'' }) (its:=[za,TO,i1,i2,TI]) A.has (all_cons (A3 m1) (all_cons (A3 m2) (all_cons (A3 m3) (all_cons (A3 m4) (all_cons (A3 m5) AI))))) (fun c o hc e=>kp c o (nhd hc) (nhd (ntl hc)) (nhd (ntl (ntl hc))) (nhd (ntl (ntl (ntl hc)))) e) ((hs''.2 _ nz).trans pr) rX rY rfl rfl fun g2 le up2 H R hd=>?_
  exact k g2 _ le H R (ih (BZ v1).2 (BZ v2).2 (up0.trans (up.trans up2)) ((hd za (.head _)).trans z'') ((hd TI (.tail _ (.tail _ (.tail _ (.tail _ (.head _)))))).trans (kp TI _ D.TIz D.TITO D.TIi1 D.TIi2 ((A.has.hd _ _ m5).ex (AC rfl (by decide))))) ((hd TO (.tail _ (.head _))).trans ((hs''.2 _ D.TOz).trans TO')) ((hd i1 (.tail _ (.tail _ (.head _)))).trans ((hs''.2 _ D.i1z).trans w1)) w2 ((hd i2 (.tail _ (.tail _ (.tail _ (.head _))))).trans ((hs''.2 _ D.i2z).trans w3)) w4)
end
end Mine
namespace Mine
open PySem PySem.Calls
def Self (its:List Addr) (a:Addr) (g₀:G):Prop:=∀ (r:Ar) (g:G) (σ:Ab) (s:Shared),Has r.T g σ s->(∀ c,c∈its->g.hid c=g₀.hid c)->∀ Q:Value->Shared->Prop,Q (.ref a) s->r.wp (pyIter (.ref a)) Q s
def Made (m:Nat) (T:Top) (b:Bool) (kps:List (Nat×List V)) (vs:List V) (g:G) (σ':Ab) (x:Value) (s':Shared):Prop :=
 ∀ R_:Value->Prop,(∀ its a g',G.le its g g'->Has T g' σ' s'->(∀ c,c∈its->g.hid c=none)->ItS m T b kps its a vs g'->Self its a g'->R_ (.ref a))->R_ x
def SI (n:Nat) (e:E) (ρ:Ag) (σ:Ab) (vs:List V) (kps:List (Nat×List V)) (σ':Ab):Prop :=
 ∀ (c:Cx) (g:G) (s:Shared) (ex:Expr),IsE e c.K ex->Inv n c ρ g σ s->c.wp (eval ex c.env) (fun x s₁=>c.wp (pyIter x) (Made n c.T (Bt e) kps vs g σ') s₁) s
noncomputable def Ct (v:V) (ws:List V):List (Nat×List V):=match v with | .ref k=>[(k,ws)] | _=>[]
section
variable {n m₀:Nat} {T:Top} {r:Ar} {c:Cx} {ρ ρ':Ag} {g g' g₁:G} {σ σ' σ₁ σ₂ σ₃:Ab} {s s':Shared} {v x y z:V} {e a b d:E} {ws vs:List V} {kps:List (Nat×List V)} {its:List Addr} {it l:Addr} {q:Bool}
theorem Has.newL (H:Has T g σ s) (hn:∀ c,c∈its->s.heap.get? c=none) (k:∀ c o,s.heap.get? c=some o->s'.heap.get? c=some o) (hg:s'.gens=s.gens:=by rfl) (ho:s'.os=s.os:=by rfl):Has T ⟨g.fz,fun c=>if c∈its then s'.heap.get? c else g.hid c,g.mu⟩ σ s':=by
 refine H.re _ (fun a o e=>?_) (fun b o _ e'=>k b o e') (fun b o _ e'=>k b o e') (fun t q o _ e=>k t o e) hg ho
 by_cases q:a∈its
 ·have F:=H.free (hn a q)
  rw [if_pos q] at e; exact ⟨.of e,F.fz,F.mu,F.tab⟩
 ·rw [if_neg q] at e; exact ⟨(H.hd a o e).keep (k a),(H.ah a o e).1,(H.ah a o e).2,H.hidTab e⟩
theorem Made.new (le:G.le [] g g₁) (H:Has T g₁ σ s) (hn:∀ c,c∈its->s.heap.get? c=none) (k:∀ c o,s.heap.get? c=some o->s'.heap.get? c=some o) (hg:s'.gens=s.gens) (ho:s'.os=s.os) (h:∀ g',G.up g₁ g'->(∀ c,c∈its->g'.hid c=s'.heap.get? c)->ItS m₀ T q kps its it vs g'/\Self its it g'):Made m₀ T q kps vs g σ (.ref it) s':=fun R_ kk=>by
 have up:G.up g₁ ⟨g₁.fz,fun c=>if c∈its then s'.heap.get? c else g₁.hid c,g₁.mu⟩:=⟨fun _ _ e=>e,fun _ _ e=>e⟩
 have h:=h _ up fun c hc=>if_pos hc
 exact kk its it _ ⟨le.toup.trans up,fun c hc=>(if_neg hc).trans (le.hid c List.not_mem_nil)⟩ (H.newL hn k hg ho) (fun c hc=>(le.hid c List.not_mem_nil)▸(H.free (hn c hc)).hid) h.1 h.2
theorem EB {X:Value} (H:Has T g σ s) (rx:Ak T g v X) (e:As σ v=some ws) {R_:Value->Prop} (k:∀ l xs,s.heap.IsList l xs->Lsrc T (Ct v ws) l ws g->R_ (.ref l)):R_ X:=by
 cases v with
 | d y=>cases y with
  | list ds =>
   obtain rfl:=Option.some.inj e
   exact rx R_ fun a o vs m hf hc hd hr hl=>k a vs ⟨o,H.fz _ _ hf,hc,m,hd⟩ (.frozen hf hc hd (Ao.ofD hr))
  | _=>exact Ac e
 | ref j =>
  obtain ⟨l,hk,rfl⟩:=rx
  have L:=Lsrc.tracked (T:=T) (ws:=ws) hk
  exact A9 (v:=.ref j) H ⟨l,hk,rfl⟩ e (R_:=fun X=>X=.ref l->R_ X) (fun a xs hL hr _ _ q=>k a xs hL (Value.ref.inj q▸L)) rfl
 | _=>exact Ac e
theorem iter_list {xs:Array Value} (le:G.le [] g g₁) (H:Has r.T g₁ σ s) (hL:s.heap.IsList l xs) (L:Lsrc r.T kps l ws g₁):r.wp (pyIter (.ref l)) (Made m₀ r.T false kps ws g σ) s :=
 wpAny_pyIter_list hL (.new (its:=[s.heap.objs.size]) le H (AA (AN _)) (fun c o e=>Heap.get?_push_of_some _ e) rfl rfl fun g' up hd =>
  have e:=(hd _ (.head _)).trans (Heap.get?_push_size _ rfl)
  ⟨it_list L (i:=0) rfl up e rfl rfl,fun r' g2 σ' s2 H2 hh Q hQ=>wpAny_pyIter_listiter (l:=l) (i:=0) ⟨_,(H2.hd _ _ ((hh _ (.head _)).trans e)).ex (AC rfl (by decide)),rfl,rfl⟩ hQ⟩)
theorem SI.lst (h:SE n e ρ σ v σ₁) (hv:As σ₁ v=some ws) (hz:Bt e=false:=by rfl):SI n e ρ σ ws (Ct v ws) σ₁:=fun c g s ex hc I=>by
 rw [hz]
 exact wpAny_mono (h c g s ex hc I) (fun X s₁ p=>p _ fun g₁ le a1 r1=>EB a1 r1 hv (R_:=fun X=>c.wp (pyIter X) (Made n c.T false (Ct v ws) ws g σ₁) s₁) fun l xs hL L=>iter_list (r:=c.toAr) le a1 hL L) fun _ _ h=>h
theorem SI.str {z:Str} (hn:3<=n) (h:SE n e ρ σ (.d (.str z)) σ₁) (ha:z.cps.all (· < 128)=true) (hz:Bt e=false:=by rfl):SI n e ρ σ (El z.cps.toList) [] σ₁:=fun c g s ex hc I=>by
 rw [hz]
 refine wpAny_mono (h c g s ex hc I) (fun X s₁ p=>p _ fun g₁ le a1 r1=>?_) fun _ _ h=>h
 obtain ⟨t,rfl,_⟩:=r1
 exact wpAny_pyIter_ascii ha (.new (its:=[s₁.heap.objs.size]) le a1 (AA (AN _)) (fun c o e=>Heap.get?_push_of_some _ e) rfl rfl fun g' up hd =>
  have e:=(hd _ (.head _)).trans (Heap.get?_push_size _ rfl)
  ⟨it_str hn ha (i:=0) rfl e rfl rfl,fun r' g2 σ' s2 H2 hh Q hQ=>wpAny_pyIter_striter_ascii (x:=z) (t:=t) (i:=0) ⟨_,(H2.hd _ _ ((hh _ (.head _)).trans e)).ex (AC rfl (by decide)),rfl,rfl⟩ hQ⟩)
theorem GY {t:String} {Q:Value->Shared->Prop} {ex:Expr} (h:SEs n a ρ σ ws σ₁) (hc:Ew (c.K.to (.ty t)) (Dt a c.K) ex) (I:Inv n c ρ g σ s) (hx:∀ g₁ s₁ Xs,G.le [] g g₁->Inv n c ρ g₁ σ₁ s₁->Ao c.T g₁ ws Xs->c.wp (call (.type t) Xs) Q s₁):c.wp (eval ex c.env) Q s:=by
 refine hc (fun ex=>c.wp (eval ex c.env) Q s) fun nm np vs p h1 h2=>?_
 refine PyProof.Rows.Call_Name rfl (BQ I h1 fun x hv=>?_)
 obtain rfl:x=.type t:=hv
 exact PyProof.Rows.callWith_type (B5 _ _ h2) (BN (r:=c.toAr) h2 (wpAny_mono (h c g s vs p h2 I) (fun Xs s₁ p=>p _ fun g₁ le a1 r1=>hx g₁ s₁ Xs le (I.step le a1) r1) fun _ _ h=>h))
theorem rangeSmall {n:Int} (h1:n<=1000000) (h2:-1000000<=n):Builtin.Range.small 0 n 1=true/\(Builtin.Range.rangeSize 0 n 1).toNat=n.toNat:=by
 refine ⟨small_one (by decide) (by decide) (Int.le_trans (by decide) h2) (Int.lt_of_le_of_lt h1 (by decide)),?_⟩
 rw [rangeSize_one]
 by_cases q:(0:Int) < n
 ·rw [if_pos q,Int.sub_zero]
 ·rw [if_neg q,Int.toNat_eq_zero.mpr (Int.not_lt.mp q)]; rfl
theorem SI.range {k:Int} (hn:3<=n) (h:SEs n a ρ σ [.d (.int k)] σ₁) (h1:k<=1000000) (h2:-1000000<=k):SI n (.range a) ρ σ (upV 0 k.toNat) [] σ₁:=fun c g s ex hc I=>by
 refine GY h hc I fun g₁ s₁ Xs le I1 R=>?_
 obtain ⟨X,rfl,t,rfl⟩:=R.one
 obtain ⟨e1,e2⟩:=rangeSmall h1 h2
 refine call_range_1 (wpAny_pyIter_range (Heap.get?_push_size _ rfl) e1 (.new (its:=[_]) le (I1.has.keep (s':={ s₁ with heap:=_,toks:=s₁.toks+1+1 }) fun b o e=>Heap.get?_push_of_some _ e) (AA (AN _)) (fun c o e=>Heap.get?_push_of_some _ e) rfl rfl fun g' up hd=>?_))
 have e:=(hd _ (.head _)).trans (Heap.get?_push_size _ rfl)
 exact ⟨it_range hn e2 e,fun r' g2 σ' s2 H2 hh Q hQ=>wpAny_pyIter_rangeiter (x:=0) (left:=Builtin.Range.rangeSize 0 k 1) (step:=1) ((H2.hd _ _ ((hh _ (.head _)).trans e)).ex (AC rfl (by decide))) hQ⟩
theorem SI.enum {ds:List PyData} (hn:3<=n) (h:SE n a ρ σ v σ₁) (hv:As σ₁ v=some (ds.map .d)):SI n (.enum a) ρ σ (F9 0 ds) (Ct v (ds.map .d)) σ₁:=fun c g s ex hc I=>by
 refine GY (a:=.cons a .nil) (.cons h .nil) hc I fun g₁ s₁ Xs le I1 R=>?_
 obtain ⟨X,rfl,r1⟩:=R.one
 refine EB I1.has r1 hv (R_:=fun X=>c.wp (call (.type "enumerate") [X]) (fun x s₁=>c.wp (pyIter x) (Made n c.T true (Ct v (ds.map .d)) (F9 0 ds) g σ₁) s₁) s₁) fun l xs hL L=>call_enumerate_list hL fun h' he hi hz hk=>?_
 refine wpAny_pyIter_enum he (.new (its:=[s₁.heap.objs.size+1,s₁.heap.objs.size]) le I1.has (all_cons (Heap.get?_none_of_le (Nat.le_add_right _ 1)) (AA (AN _))) hk rfl rfl fun g' up hd=>?_)
 obtain ⟨o,ho,hl⟩:=hi
 have e:=(hd _ (.head _)).trans he
 exact ⟨it_enum hn L (i:=0) rfl up (Nat.succ_ne_self _) e ((hd _ (.tail _ (.head _))).trans ho) hl,fun r' g2 σ' s2 H2 hh Q hQ=>wpAny_pyIter_enum ((H2.hd _ _ ((hh _ (.head _)).trans e)).ex (AC rfl (by decide))) hQ⟩
theorem add_ne {m i j:Nat} (h:i≠j):m+i≠m+j:=fun q=>h (Nat.add_left_cancel q)
theorem new_ne {h:Heap} {l:Addr} {xs:Array Value} (hL:h.IsList l xs) (j:Nat):l≠h.objs.size+j:=fun q=>by
 obtain ⟨o,ho,_⟩:=hL
 rw [q,Heap.get?_none_of_le (Nat.le_add_right _ j)] at ho
 exact Ac ho
theorem SI.zip {ds ds':List V} (hn:3<=n) (h:SE n a ρ σ x σ₁) (h':SE n b ρ σ₁ y σ₂) (hx:As σ₂ x=some ds) (hy:As σ₂ y=some ds'):SI n (.zip a b) ρ σ (FI ds ds') (Ct x ds++Ct y ds') σ₂:=fun c g s ex hc I=>by
 refine GY (a:=.cons a (.cons b .nil)) (.cons h (.cons h' .nil)) hc I fun g₁ s₁ Xs le I1 R=>?_
 obtain ⟨X,Y,rfl,r1,r2⟩:=R.two
 refine EB I1.has r1 hx (R_:=fun X=>c.wp (call (.type "zip") [X,Y]) (fun x s₁=>c.wp (pyIter x) (Made n c.T true _ (FI ds ds') g σ₂) s₁) s₁) fun l xs hL L=>EB I1.has r2 hy (R_:=fun Y=>c.wp (call (.type "zip") [.ref l,Y]) (fun x s₁=>c.wp (pyIter x) (Made n c.T true _ (FI ds ds') g σ₂) s₁) s₁) fun l' ys hL' L'=>call_zip_2 hL hL' fun h' hz hTI hTO t1 t2 hsz hk=>?_
 have gone:∀ j,s₁.heap.get? (s₁.heap.objs.size+j)=none:=fun j=>Heap.get?_none_of_le (Nat.le_add_right _ _)
 refine wpAny_pyIter_zip hz (.new (its:=[s₁.heap.objs.size+4,s₁.heap.objs.size+3,s₁.heap.objs.size,s₁.heap.objs.size+1,s₁.heap.objs.size+2]) le I1.has (all_cons (gone 4) (all_cons (gone 3) (all_cons (gone 0) (all_cons (gone 1) (AA (gone 2)))))) hk rfl rfl fun g' up hd=>?_)
 have D:ZipApart (s₁.heap.objs.size+4) (s₁.heap.objs.size+2) (s₁.heap.objs.size+3) (s₁.heap.objs.size) (s₁.heap.objs.size+1) l l':=by
  constructor <;> first
   | exact new_ne hL _ | exact new_ne hL 0 | exact new_ne hL' _ | exact new_ne hL' 0 | exact add_ne (by decide) | exact add_ne (j:=0) (by decide) | exact add_ne (i:=0) (by decide)
 obtain ⟨o1,ho1,hl1⟩:=t1
 obtain ⟨o2,ho2,hl2⟩:=t2
 have e:=(hd _ (.head _)).trans hz
 exact ⟨it_zip hn L L' D (j1:=0) (j2:=0) rfl rfl up e ((hd _ (.tail _ (.tail _ (.tail _ (.tail _ (.head _)))))).trans hTI) ((hd _ (.tail _ (.head _))).trans hTO) ((hd _ (.tail _ (.tail _ (.head _)))).trans ho1) hl1 ((hd _ (.tail _ (.tail _ (.tail _ (.head _))))).trans ho2) hl2,fun r' g2 σ' s2 H2 hh Q hQ=>wpAny_pyIter_zip ((H2.hd _ _ ((hh _ (.head _)).trans e)).ex (AC rfl (by decide))) hQ⟩
end
end Mine
namespace Mine
open PySem PySem.Calls
section
variable {n m₀:Nat} {T:Top} {r:Ar} {c:Cx} {ρ:Ag} {g g' g₁:G} {σ σ₁:Ab} {s:Shared} {e:E} {vs:List V} {it l:Addr}
theorem it_tup {ol:Obj} {xs:Array Value} {ws:List V} {nn:Nat} (h3:3<=m₀) (hf:g.fz l=some ol) (hlc:ol.cls=.type "tuple") (hld:ol.data=.seq xs nn) (hr:Ao T g ws xs.toList):∀ {i:Nat} {g₀:G} {o:Obj},ws.drop i=vs->G.up g g₀->g₀.hid it=some o->o.cls=.type "tuple_iterator" -> o.data=.fields #[.ref l,.int i 0]->ItS m₀ T false [] [it] it vs g₀:=by
 induction vs with
 | nil =>
  intro i g₀ o hv up0 e hc hd
  refine ⟨AA (A3 e),fun r g' σ s hT A up hh hk Q hQ=>?_⟩
  subst hT
  refine wpAny_pyNext_tuple_end (A.hh.none h3) ⟨o,(A.has.hd _ _ ((hh it (.head _)).trans e)).ex (AC hc (by decide)),hc,hd⟩ ⟨ol,A.has.fz _ _ (up.fz _ _ (up0.fz _ _ hf)),hlc,nn,hld⟩ ?_ fun h' he=>hQ h' fun c o hc e=>he c o (fun q=>hc (q▸.head _)) e
  exact end_ofV hr hv
 | cons v vs ih =>
  intro i g₀ o hv up0 e hc hd
  refine ⟨AA (A3 e),fun r g' σ s hT A up hh hk t Q ht hQ=>?_⟩
  subst hT
  have e':=(hh it (.head _)).trans e
  obtain ⟨X,hX,rX⟩:=G5 hr hv
  refine wpAny_pyNext_tuple_item ⟨o,(A.has.hd _ _ e').ex (AC hc (by decide)),hc,hd⟩ ⟨ol,A.has.fz _ _ (up.fz _ _ (up0.fz _ _ hf)),hlc,nn,hld⟩ hX fun h' it' hs=>hQ X _ fun Q' k=>?_
  obtain ⟨o',ho',hc',hd'⟩:=it'
  exact FV (s':={ s with heap:=h' }) A e' hs ho' hc' (by decide) rfl rfl fun g2 s2 le up2 e2 H=>k g2 s2 le H (Ak.mono (up0.trans (up.trans up2)) _ _ rX) (ih (BZ hv).2 (up0.trans (up.trans up2)) e2 hc' hd')
theorem SI.tup {ds:List PyData} (hn:3<=n) (h:SE n e ρ σ (.d (.tuple ds)) σ₁) (hz:Bt e=false:=by rfl):SI n e ρ σ (ds.map .d) [] σ₁:=fun c g s ex hc I=>by
 rw [hz]
 refine wpAny_mono (h c g s ex hc I) (fun X s₁ p=>p _ fun g₁ le a1 r1=>?_) fun _ _ h=>h
 refine r1 (fun X=>c.wp (pyIter X) (Made n c.T false [] (ds.map .d) g σ₁) s₁) fun l o xs m hf hlc hld hr hl=>?_
 exact wpAny_pyIter_tuple ⟨o,a1.fz _ _ hf,hlc,m,hld⟩ (.new (its:=[s₁.heap.objs.size]) le a1 (AA (AN _)) (fun c o e=>Heap.get?_push_of_some _ e) rfl rfl fun g' up hd =>
  have e:=(hd _ (.head _)).trans (Heap.get?_push_size _ rfl)
  ⟨it_tup hn hf hlc hld (Ao.ofD hr) (i:=0) rfl up e rfl rfl,fun r' g2 σ' s2 H2 hh Q hQ=>wpAny_pyIter_tupleiter (t:=l) (i:=0) ⟨_,(H2.hd _ _ ((hh _ (.head _)).trans e)).ex (AC rfl (by decide)),rfl,rfl⟩ hQ⟩)
end
end Mine
namespace Mine
open PySem PySem.Calls
noncomputable def BF (ρ:Ag) (ts:List Nat) (v:V):Ag:=match ts with | [i]=>ρ.set i (some v) | ts=>Gk ρ ts ((BG v).getD [])
def bindOk (ts:List Nat) (v:V):Prop:=ts.length=1\/∃ vs,BG v=some vs/\vs.length=ts.length
def bindN (n:Nat) (ts:List Nat) (v:V):Prop:=ts.length=1\/(3<=n/\∃ vs,BG v=some vs/\vs.length=ts.length)
theorem bindOk.at {n:Nat} {ts:List Nat} {v:V} (h:bindOk ts v) (hn:3<=n):bindN n ts v:=h.imp id fun q=>⟨hn,q⟩
noncomputable def ForQ (n:Nat) (ts:List Nat) (b:S) (kps:List (Nat×List V)) (Q:Fl->Ab->Prop):List V->Ag->Ab->Prop
 | [],ρ,σ=>BM σ kps/\Q (.next ρ) σ
 | v::vs,ρ,σ=>BM σ kps/\bindN n ts v/\SSs n b (BF ρ ts v) σ fun fl σ'=>match fl with | .next ρ'=>ForQ n ts b kps Q vs ρ' σ' | .ret v=>Q (.ret v) σ'
section
variable {n:Nat} {T:Top} {r:Ar} {c:Cx} {ρ ρ' ρ0:Ag} {g g' g₀ g₁:G} {σ σ' σ₁ σ₂ σ₃:Ab} {s s':Shared} {v x y z:V} {e a b d it:E} {ws vs:List V} {kps:List (Nat×List V)} {its:List Addr} {ts:List Nat} {st:S} {Q:Fl->Ab->Prop}
theorem Loc.far (x0:Loc c ρ0 g₀) (hn:∀ a,a∈its->g₀.hid a=none) (x:Loc c ρ g) (le:G.le its g g'):Loc c ρ g':=by
 have h:∀ {a o},g₀.hid a=some o->g'.hid a=g.hid a:=fun e=>le.hid _ fun q=>Al (hn _ q) e
 refine ⟨fun R_ k=>x0.ns R_ fun m₀ h0 _=>x.ns R_ fun m h1 h2=>?_,fun nm hk R_ k=>x0.ce nm hk R_ fun a0 u0 q0 q1 _=>x.ce nm hk R_ fun a u h1 h2 h3=>?_,fun a ha q=>?_⟩
 ·obtain ⟨o,_,_,e,_⟩:=h0
  exact k m (h1.to fun _ e'=>(h e).trans e') fun i nm v e1 e2 e3=>BB le.toup (h2 i nm v e1 e2 e3)
 ·obtain ⟨o,e,_⟩:=q1
  obtain rfl:=Av q0 h1
  exact k a0 u h1 (h2.to fun _ e'=>(h e).trans e') fun i v e1 e2=>BB le.toup (h3 i v e1 e2)
 ·cases e:g₀.hid a with
  | none=>exact x0.ow a ha e
  | some o=>exact x.ow a ha ((h e).symm.trans q)
theorem Bx.far {fe:List Env} (f0:Bx g₀ fe) (hn:∀ a,a∈its->g₀.hid a=none) (x:Bx g fe) (le:G.le its g g'):Bx g' fe:=fun e he=>by
 obtain ⟨_,L0,o0,_,_,h1,h2,_⟩:=f0 e he
 obtain ⟨h0,L,o,es,ep,h3,h4,h5⟩:=x e he
 obtain rfl:=Av h1 h3
 exact ⟨h0,L0,o,es,ep,h3,(le.hid L0 fun q=>Al (hn L0 q) h2).trans h4,h5⟩
theorem Bx.hideN {fe:List Env} {a:Addr} {o:Obj} (x:Bx g fe) (h:g.hid a=none):Bx (g.hide a o) fe:=fun e he=>by
 obtain ⟨h0,L,o',es,ep,h1,h2,h3⟩:=x e he
 exact ⟨h0,L,o',es,ep,h1,(G.hide_ne fun q=>Al h (q▸h2)).trans h2,h3⟩
theorem Inv.far (f0:Bx g₀ c.fe) (x0:Loc c ρ0 g₀) (hn:∀ a,a∈its->g₀.hid a=none) (x:Inv n c ρ g σ s) (le:G.le its g g') (H:Has c.T g' σ' s'):Inv n c ρ g' σ' s':=⟨x.toAt.stepF le.toup (f0.far hn x.frs le) H,x.cx,x0.far hn x.loc le⟩
theorem Inv.bind {t:Expr} {X:Value} {Q:Unit->Shared->Prop} {Er:Value->Shared->Prop} (I:Inv n c ρ g σ s) (hc:IsT c.K ts t) (hb:bindN n ts v) (r:Ak c.T g v X) (h:∀ g' s',G.le c.own g g'->Inv n c (BF ρ ts v) g' σ s'->Q () s'):wpAny (model c.T.prog c.T.w) c.A (assign t c.env X) Q Er s:=by
 refine hc (fun ts t=>bindN n ts v->(∀ g' s',G.le c.own g g'->Inv n c (BF ρ ts v) g' σ s'->Q () s')->wpAny (model c.T.prog c.T.w) c.A (assign t c.env X) Q Er s) (fun i nm p h1 _ h=>I.asgn h1 r fun g' s' le _ I'=>h g' s' le I') (fun es k p h1 h2 hb h=>?_) hb h
 obtain ⟨hn,vs,e,hl⟩:=hb.resolve_left h1
 have eb:BF ρ ts v=Gk ρ ts vs:=by
  match ts,h1 with
  | [],_=>rfl
  | [_],q=>exact absurd rfl q
  | i::j::l,_=>show Gk ρ (i::j::l) ((BG v).getD [])=_; rw [e]; rfl
 rw [eb] at h
 exact Cm I.has r e (R_:=fun X=>wpAny (model c.T.prog c.T.w) c.A (assign (.Tuple es k p) c.env X) Q Er s) fun t Xs hT hr _ _=>I.unpack h2 hT hr hl hn h
theorem is_tup {t:Expr} (hc:IsT c.K ts t) (hz:Fz ts it=true) (h:Bt it=true):∃ es k p,t=.Tuple es k p :=
 hc (fun ts t=>Fz ts it=true->∃ es k p,t=.Tuple es k p) (fun i nm p _ hz=>by unfold Fz at hz; rw [if_pos h] at hz; exact absurd hz Bool.false_ne_true) (fun es k p _ _ _=>⟨es,k,p,rfl⟩) hz
theorem SS.for_ (hi:SI n it ρ σ vs kps σ₁) (h:ForQ n ts st kps Q vs ρ σ₁):SS n (.for_ ts it st) ρ σ Q:=fun c g s x hc I=>hc (fun x=>c.wp (exec x c.env) (AW n c g Q) s) fun t i bd p h1 h2 h3=>by
 refine wpAny_For (wpAny_mono (hi c g s i h2 I) (fun X s₁ h₁=>wpAny_mono h₁ (fun itv s2 p=>?_) fun _ _ h=>h) fun _ _ h=>h) ((BC it h2).fold c.env)
 refine p (fun itv=>codeAny (model c.T.prog c.T.w) c.A (.forLoop t itv bd [] c.env) _ s2) fun its a g2 le2 H2 new it2 _=>?_
 have ni:∀ a,a∈its->a∉c.own:=fun a q q'=>I.loc.ow a q' (new a q)
 have toI:∀ {g g'},G.le its g g'->G.le (its++c.own) g g':=fun le=>⟨le.toup,fun a q=>le.hid a fun h=>q (List.mem_append_left _ h)⟩
 have toO:∀ {g g'},G.le c.own g g'->G.le (its++c.own) g g':=fun le=>⟨le.toup,fun a q=>le.hid a fun h=>q (List.mem_append_right _ h)⟩
 have mono:∀ {vs g g'},G.le c.own g g'->ItS n c.T (Bt it) kps its a vs g->ItS n c.T (Bt it) kps its a vs g':=fun le h=>h.mono le.toup fun c hc=>le.hid c (ni c hc)
 refine codeAny_forLoop_any (I:=fun k s'=>∀ R_:Prop,(∀ vs ρ σ g',k=vs.length->ForQ n ts st kps Q vs ρ σ->G.le (its++c.own) g g'->Inv n c ρ g' σ s'->ItS n c.T (Bt it) kps its a vs g'->R_)->R_) (fun k s3 hz=>hz _ fun vs ρ3 σ₃ g3 hk w le3 I3 it3=>?_) vs.length
  fun R_ kk=>kk vs ρ σ₁ g2 rfl h (toI le2) (I.far I.frs I.loc new le2 H2) it2
 subst hk
 cases vs with
 | nil =>
  refine wpAny_mono (it3.2 c.toAr g3 σ₃ s3 rfl I3.toAt (.refl _) (fun _ _=>rfl) w.1 (fun r s₁=>r=none/\AW n c g Q .next s₁) fun h' hk=>⟨rfl,?_⟩) (fun r s₁ h=>by rw [h.1]; exact wpAny_execs_nil h.2) fun _ _ h=>h.elim
  obtain ⟨hd,H,le,e⟩:=I3.has.back (s':={ s3 with heap:=h' }) le3 new hk (I3.has.away it3.1)
  exact fun R_ k1 _=>k1 ρ3 σ₃ _ w.2 le (I3.far I.frs I.loc new ⟨⟨fun _ _ e=>e,fun _ _ e=>e⟩,e⟩ H)
 | cons v vs =>
  refine wpAny_mono (it3.2 c.toAr g3 σ₃ s3 rfl I3.toAt (.refl _) (fun _ _=>rfl) w.1 t (fun r s₁=>∃ X,r=some X/\∀ Q':Unit->Shared->Prop,(∀ g' s',G.le its g3 g'->Has c.T g' σ₃ s'->Ak c.T g' v X->ItS n c.T (Bt it) kps its a vs g'->Q' () s')->c.wp (letOwnedTupleGo t (.ref a) X) Q' s₁) (is_tup h1.1 h1.2) fun X s₁ k=>⟨X,rfl,k⟩) (fun r s₁ h=>?_) fun _ _ h=>h.elim
  obtain ⟨X,rfl,h⟩:=h
  refine wpAny_mono (h _ fun g4 s4 le4 H4 r4 it4=>?_) (fun _ _ h=>h) fun _ _ h=>h.elim
  refine (I3.far I.frs I.loc new le4 H4).bind h1.1 w.2.1 r4 fun g5 s5 le5 I5=>?_
  have le':=le3.trans ((toI le4).trans (toO le5))
  refine wpAny_mono (w.2.2 c g5 s5 bd h3 I5) (fun f s6 p=>p.elim (fun ρ6 σ6 g6 e6 q l6 I6=>?_) fun v x σ6 g6 e6 q l6 H w r6=>?_) fun _ _ h=>h.elim
  ·subst e6
   exact ⟨vs.length,Nat.lt_succ_self _,fun R_ kk=>kk vs ρ6 σ6 g6 rfl q (le'.trans (toO l6)) I6 (mono (le5.trans l6) it4)⟩
  ·subst e6
   obtain ⟨hd,H',le,e⟩:=H.back (s':=s6) (le'.trans (toO l6)) new (fun _ _ _ e=>e) (H.away (mono (le5.trans l6) it4).at)
   exact fun R_ _ k2=>k2 v x σ6 _ q le H' (fun a ha q=>w a ha ((e a fun q=>ni a q ha).symm.trans q)) (Ak.eta r6)
end
end Mine
namespace Mine
open PySem PySem.Calls
noncomputable def Ha (env:Env):List (Str×NameKind)->List (Str×Addr)->List (Str×Addr)
 | [],acc=>acc
 | p::r,acc=>Ha env r (if (p.2 == .free)=true then (p.1,(env.cells.lookup p.1).getD 0)::acc else acc)
noncomputable def A6:Ag->List Nat->Ag
 | ρ,[]=>ρ
 | ρ,i::ts=>A6 (ρ.set i none) ts
section
variable {α β:Type} [BEq α] [LawfulBEq α]
theorem AZ {l:List (α×β)} {a:α} {b:β} (h:l.lookup a=some b):(a,b)∈l:=by
 induction l with
 | nil=>exact Ac h
 | cons p r ih =>
  obtain ⟨x,y⟩:=p
  rw [List.lookup_cons] at h
  cases q:a == x with
  | true=>rw [q] at h; rw [eq_of_beq q,<-Option.some.inj h]; exact .head _
  | false=>rw [q] at h; exact .tail _ (ih h)
theorem D8 {l:List (α×β)} {a:α} {b:β} (h:(a,b)∈l):∃ b',l.lookup a=some b':=by
 induction l with
 | nil=>exact nomatch h
 | cons p r ih =>
  obtain ⟨x,y⟩:=p
  rw [List.lookup_cons]
  cases q:a == x with
  | true=>exact ⟨y,rfl⟩
  | false=>exact (List.mem_cons.mp h).elim (fun e=>by rw [Prod.mk.inj e |>.1,beq_self_eq_true] at q; exact tt_ q) ih
end
section
variable {env:Env} {names:List (Str×NameKind)} {acc:List (Str×Addr)} {n:Str} {c:Addr}
theorem isFree {k:NameKind} (h:(k == .free)=true):k=.free:=eq_of_beq h
theorem GZ:∀ {names:List (Str×NameKind)} {acc:List (Str×Addr)},(n,c)∈Ha env names acc->(n,c)∈acc\/((n,NameKind.free)∈names/\c=(env.cells.lookup n).getD 0)
 | [],acc,h=>.inl h
 | (m,k)::r,acc,h=>by
  rcases GZ (names:=r) h with h | h
  ·by_cases hk:(k == NameKind.free)=true
   ·rw [if_pos hk] at h
    exact (List.mem_cons.mp h).elim (fun h=>.inr ⟨by rw [isFree hk,(Prod.mk.inj h).1]; exact .head _,by rw [(Prod.mk.inj h).1]; exact (Prod.mk.inj h).2⟩) .inl
   ·rw [if_neg hk] at h; exact .inl h
  ·exact .inr ⟨.tail _ h.1,h.2⟩
theorem clOf_acc {p:Str×Addr}:∀ {names:List (Str×NameKind)} {acc:List (Str×Addr)},p∈acc->p∈Ha env names acc
 | [],_,h=>h
 | (m,k)::r,acc,h=>clOf_acc (names:=r) (by
  by_cases hk:(k == NameKind.free)=true
  ·rw [if_pos hk]; exact .tail _ h
  ·rw [if_neg hk]; exact h)
theorem clOf_has:∀ {names:List (Str×NameKind)} {acc:List (Str×Addr)},(n,NameKind.free)∈names->(n,(env.cells.lookup n).getD 0)∈Ha env names acc
 | [],_,h=>nomatch h
 | (m,k)::r,acc,h=>(List.mem_cons.mp h).elim (fun h=>clOf_acc (names:=r) (by rw [<-(Prod.mk.inj h).2,<-(Prod.mk.inj h).1]; exact .head _)) (clOf_has (names:=r))
theorem cl_look (h:(n,NameKind.free)∈names) (e:env.cells.lookup n=some c):(Ha env names []).lookup n=some c:=by
 obtain ⟨c',h'⟩:=D8 (clOf_has (env:=env) (acc:=[]) h)
 rcases GZ (AZ h') with q | q
 ·exact nomatch q
 ·rw [h',q.2,e]; rfl
theorem closureFor_eq (scope:Scope) (h:∀ n,(n,NameKind.free)∈scope.names->∃ c,env.cells.lookup n=some c):closureFor scope env=pure (Ha env scope.names []):=by
 have gen:∀ (names:List (Str×NameKind)) (acc:List (Str×Addr)),(∀ n,(n,NameKind.free)∈names->∃ c,env.cells.lookup n=some c) ->
  (forIn names acc (fun x r=>if (x.2 == NameKind.free)=true then (cellOf env x.1>>=fun c=>pure (ForInStep.yield ((x.1,c)::r))) else pure (ForInStep.yield r)):Sem (List (Str×Addr)))=pure (Ha env names acc):=by
  intro names
  induction names with
  | nil=>intro acc _; rfl
  | cons p r ih =>
   intro acc hh
   rw [List.forIn_cons]
   by_cases hk:(p.2 == NameKind.free)=true
   ·obtain ⟨c,hc⟩:=hh p.1 (isFree hk▸.head _)
    have e:cellOf env p.1=pure c:=by unfold cellOf; rw [hc]
    rw [if_pos hk,e,pure_bind,pure_bind]
    refine (ih _ fun n hn=>hh n (.tail _ hn)).trans ?_
    show _=pure (Ha env r (if (p.2 == NameKind.free)=true then _ else _))
    rw [if_pos hk,hc]; rfl
   ·rw [if_neg hk,pure_bind]
    refine (ih _ fun n hn=>hh n (.tail _ hn)).trans ?_
    show _=pure (Ha env r (if (p.2 == NameKind.free)=true then _ else _))
    rw [if_neg hk]
 have g:=gen scope.names [] h
 unfold closureFor
 rw [bind_pure]
 exact g
end
theorem CD:∀ {ts:List Nat} {ρ:Ag} {i:Nat} {v:V},(A6 ρ ts)[i]? = some (some v)->i∉ts/\ρ[i]? = some (some v)
 | [],ρ,i,v,h=>⟨List.not_mem_nil,h⟩
 | j::ts,ρ,i,v,h=>by
  obtain ⟨h1,h2⟩:=CD (ts:=ts) h
  by_cases q:j=i
  ·rw [q] at h2
   by_cases hl:i < ρ.length
   ·rw [List.getElem?_set_self hl] at h2; exact Ac (Option.some.inj h2)
   ·rw [List.getElem?_eq_none (by rw [List.length_set]; exact Nat.le_of_not_lt hl)] at h2; exact Ac h2
  ·rw [List.getElem?_set_ne q] at h2
   exact ⟨fun m=>(List.mem_cons.mp m).elim (fun e=>q e.symm) h1,h2⟩
theorem EZ:∀ {ts:List Nat} {vs:List V} {ρ:Ag} {i:Nat},i∉ts->(Gk ρ ts vs)[i]? = ρ[i]?
 | [],vs,ρ,i,h=>by cases vs <;> rfl
 | j::ts,[],ρ,i,h=>rfl
 | j::ts,w::vs,ρ,i,h=>(EZ (ts:=ts) fun q=>h (.tail _ q)).trans (List.getElem?_set_ne fun (q:j=i)=>h (q▸.head _))
theorem bindV_get {ts:List Nat} {v u:V} {ρ:Ag} {i:Nat} (h:(A6 ρ ts)[i]? = some (some u)):(BF (A6 ρ ts) ts v)[i]? = some (some u):=by
 have q:=(CD h).1
 refine Eq.trans ?_ h
 match ts,q with
 | [],_=>exact EZ List.not_mem_nil
 | [j],q=>exact List.getElem?_set_ne fun (e:j=i)=>q (e▸.head _)
 | j::k::l,q=>exact EZ q
end Mine
namespace Mine
open PySem PySem.Calls
structure FP (K:Kx) (ts:List Nat) (sc:Scope):Prop where
 kind:sc.kind=.function
 nm:∀ p,p∈sc.names->nameOk K ts p=true
 uni:∀ p,p∈sc.names->sc.names.lookup p.1=some p.2
 dot:(".0" : Str)∉K.vars
 tgt:∀ i,i∈ts->∃ m,K.vars[i]? = some m/\sc.names.lookup m=some .local
section
variable {K:Kx} {ts:List Nat} {sc:Scope} {p:Str×NameKind} {x:Str} {k:NameKind}
theorem scopeOk_ok (h:FT K ts sc=true):FP K ts sc:=by
 have h1:=Bool.and_eq_true_iff.mp h
 have h2:=Bool.and_eq_true_iff.mp h1.1
 have h3:=Bool.and_eq_true_iff.mp h2.1
 have h4:=Bool.and_eq_true_iff.mp h3.1
 refine ⟨of_decide_eq_true h4.1,List.all_eq_true.mp h4.2,fun p hp=>of_decide_eq_true (List.all_eq_true.mp h3.2 p hp),fun q=>?_,fun i hi=>?_⟩
 ·have:=h2.2
  rw [List.contains_iff_mem.mpr q] at this
  exact ff_ this
 ·have:=List.all_eq_true.mp h1.2 i hi
  cases e:K.vars[i]? with
  | none=>rw [e] at this; exact ff_ this
  | some m=>rw [e] at this; exact ⟨m,rfl,of_decide_eq_true this⟩
theorem Ff {R_:Prop} (h:nameOk K ts p=true) (k1:p.2=.local->(p.1=(".0" : Str)\/∃ i,i∈ts/\K.vars[i]? = some p.1)->R_) (k2:p.2=.free->(K.names.lookup p.1=some .cell\/K.names.lookup p.1=some .free)->R_) (k3:p.2=.globalImplicit->R_):R_:=by
 rcases Bool.or_eq_true_iff.mp h with h | h
 ·have h1:=Bool.and_eq_true_iff.mp h
  refine k1 (of_decide_eq_true h1.1) ((Bool.or_eq_true_iff.mp h1.2).imp eq_of_beq fun q=>?_)
  obtain ⟨i,hi,e⟩:=List.any_eq_true.mp q
  exact ⟨i,hi,of_decide_eq_true e⟩
 ·rcases Bool.or_eq_true_iff.mp h with h | h
  ·have h1:=Bool.and_eq_true_iff.mp h
   exact k2 (of_decide_eq_true h1.1) ((Bool.or_eq_true_iff.mp h1.2).imp Kx.kd_eq Kx.kd_eq)
  ·exact k3 (of_decide_eq_true h)
theorem Cj {R_:Prop} {a b:NameKind} (h:a=b) (e:decide (a=b)=false):R_:=by rw [decide_eq_true h] at e; exact tt_ e
theorem FP.noc (S:FP K ts sc):∀ p,p∈sc.names->p.2≠.cell:=fun p hp q=>Ff (S.nm p hp) (fun e _=>Cj (q.symm.trans e) rfl) (fun e _=>Cj (q.symm.trans e) rfl) fun e=>Cj (q.symm.trans e) rfl
theorem FP.fre (S:FP K ts sc) (h:(x,NameKind.free)∈sc.names):K.names.lookup x=some .cell\/K.names.lookup x=some .free:=Ff (S.nm _ h) (fun e _=>Cj e rfl) (fun _ q=>q) fun e=>Cj e rfl
theorem Fa {E names:List (Str×NameKind)} (h:(Cq E names).lookup x=some k):(x,k)∈names\/((x,NameKind.free)∈names/\k=.cell):=by
 obtain ⟨⟨m,k'⟩,hp,e⟩:=List.mem_map.mp (AZ h)
 have e:(if (k' == .free&&E.lookup m == some .cell)=true then (m,NameKind.cell) else (m,k'))=(x,k):=e
 by_cases q:(k' == .free&&E.lookup m == some .cell)=true
 ·rw [if_pos q] at e
  have q1:=isFree (Bool.and_eq_true_iff.mp q).1
  rw [q1,(Prod.mk.inj e).1] at hp
  exact .inr ⟨hp,(Prod.mk.inj e).2.symm⟩
 ·rw [if_neg q] at e
  rw [e] at hp
  exact .inl hp
theorem FP.loc (S:FP K ts sc) (h:(Cq K.names sc.names).lookup x=some .local):x=(".0" : Str)\/∃ i,i∈ts/\K.vars[i]? = some x:=by
 rcases Fa h with h | h
 ·exact Ff (S.nm _ h) (fun _ q=>q) (fun e _=>Cj e rfl) fun e=>Cj e rfl
 ·exact Cj h.2 rfl
theorem FP.out (S:FP K ts sc) (h:(Cq K.names sc.names).lookup x=some .cell\/(Cq K.names sc.names).lookup x=some .free):(x,NameKind.free)∈sc.names:=by
 rcases h with h | h
 ·rcases Fa h with h | h
  ·exact absurd rfl (S.noc _ h)
  ·exact h.1
 ·rcases Fa h with h | h
  ·exact h
  ·exact h.1
theorem Eg {env:Env} (hk:env.scope.kind=.function) (hn:env.scope.names=K.names):(relabel sc env).names=Cq K.names sc.names:=List.map_congr_left fun p _=>by
 obtain ⟨m,k⟩:=p
 show (if (k == .free&&env.scope.kind == .function&&env.kindOf m == some .cell)=true then (m,NameKind.cell) else (m,k))=(if (k == .free&&K.names.lookup m == some .cell)=true then (m,NameKind.cell) else (m,k))
 rw [hk,AB hn,show (ScopeKind.function == ScopeKind.function)=true from rfl,Bool.and_true]
end
noncomputable abbrev subC (c:Cx) (ts:List Nat) (sc:Scope) (C:Addr):Cx:=⟨c.toAr,c.K.sub ts sc,compEnvC sc (Ha c.env sc.names []) C c.env,[C]⟩
section
variable {n:Nat} {c:Cx} {ρ:Ag} {g:G} {ts:List Nat} {sc:Scope} {C:Addr} {x:Str}
theorem Gg (X:FR n c):(subC c ts sc C).env.kindOf x=(Cq c.K.names sc.names).lookup x:=AB (K:=c.K.sub ts sc) (Eg X.kind X.names) x
theorem Gh (S:FP c.K ts sc) (X:FR n c) (L:Loc c ρ g) (h:(x,NameKind.free)∈sc.names) {R_:Prop} (k:∀ a u,c.env.cells.lookup x=some a->(subC c ts sc C).env.cells.lookup x=some a->Ek g.hid a u->(∀ (i:Nat) (v:V),c.K.vars[i]? = some x->ρ[i]? = some (some v)->∃ x,u=some x/\Ak c.T g v x)->R_):R_ :=
 L.ce x (by rw [AB X.names]; exact S.fre h) R_ fun a u h1 h2 h3=>k a u h1 (cl_look h h1) h2 h3
theorem sub_cx (S:FP c.K ts sc) (X:FR n c) (L:Loc c ρ g):FR n (subC c ts sc C):=by
 have look:∀ m a,(subC c ts sc C).env.cells.lookup m=some a->c.env.cells.lookup m=some a:=fun m a h=>by
  rcases GZ (AZ h) with q | q
  ·exact nomatch q
  ·exact Gh (C:=C) S X L q.1 fun a' u h1 h2 _ _=>h1.trans (h2.symm.trans h)
 refine ⟨X.rd,Eg X.kind X.names,S.kind,X.glob,X.blt,X.hfr,fun m m' a h h'=>X.cinj m m' a (look m a h) (look m' a h'),X.nd,.head _,fun m hm a hk _=>?_,fun t q h=>Ac h⟩
 obtain ⟨i,hi,e⟩:=List.mem_filterMap.mp (show m∈ts.filterMap fun i=>c.K.vars[i]? from hm)
 obtain ⟨m',e',hl⟩:=S.tgt i hi
 rw [Av e' e] at hl
 rw [Gg X] at hk
 exact Cj (Av (S.uni _ (S.out (.inl hk))) hl) rfl
theorem sub_loc {o:Obj} (S:FP c.K ts sc) (X:FR n c) (L:Loc c ρ g) (hC:g.hid C=none) (hn:NsF (g.hide C o).hid C fun _=>none):Loc (subC c ts sc C) (A6 ρ ts) (g.hide C o):=by
 have up:G.up g (g.hide C o):=⟨fun _ _ e=>e,fun _ _ e=>e⟩
 refine ⟨fun R_ k=>k _ hn fun i nm v e1 e2 e3=>?_,fun nm hk R_ k=>?_,AA (A3 G.hide_self)⟩
 ·rw [Gg X] at e3
  rcases S.loc e3 with q | ⟨j,hj,q⟩
  ·exact absurd (q▸List.mem_of_getElem? e1) S.dot
  ·exact absurd (nodup_inj X.nd q e1▸hj) (CD e2).1
 ·rw [Gg X] at hk
  refine Gh (C:=C) S X L (S.out hk) fun a u h1 h2 h3 h4=>k a u h2 (h3.to fun o' e=>(G.hide_ne fun q=>Al hC (q▸e)).trans e) fun i v e1 e2=>BB up (h4 i v e1 (CD e2).2)
end
end Mine
namespace Mine
open PySem PySem.Calls
noncomputable abbrev CV (ifs:List Expr) (env:Env) (b:Bool):Sem Bool :=
 forIn ifs b fun c r=>if r=true then (isTrue c env (eval c env)>>=fun ok=>pure (ForInStep.yield ok)) else pure (ForInStep.yield r)
def TurnC (c:Cx) (target elt:Expr) (ifs:List Expr) (it acc:Value) (Dn:Shared->Prop) (v:Value) (s:Shared):Prop :=
 c.wp (letOwnedTupleGo target it v) (fun _ s₁=>c.wp (assign target c.env v) (fun _ s2=>c.wp (CV ifs c.env true) (fun ok s3=>(ok=false->Dn s3)/\(ok=true->c.wp (eval elt c.env) (fun x s4=>c.wp (call (.builtin "list.append") [acc,x]) (fun _ s5=>Dn s5) s4) s3)) s2) s₁) s
theorem compLoop_any {c:Cx} {R:Result->Shared->Prop} {s:Shared} {elt target iter:Expr} {ifs:List Expr} {scope:Scope} {pos:Pos} {it acc:Value} (I:Nat->Shared->Prop)
 (turn:∀ n s,I n s->∀ Q:Option Value->Shared->Prop,(∀ s₁,R (.ok .next) s₁->Q none s₁)->(∀ v s₁,TurnC c target elt ifs it acc (fun s'=>∃ m,m < n/\I m s') v s₁->Q (some v) s₁)->c.wp (pyNext it) Q s)
 (n:Nat) (h:I n s):codeAny (model c.T.prog c.T.w) c.A (.compLoop (.ListComp elt [⟨target,iter,ifs,0⟩] scope pos) 0 it acc c.env) R s:=by
 refine codeAny_loop rfl I (fun n s hI=>?_) n h
 show wpAny _ c.A ((compTurn (.ListComp elt [⟨target,iter,ifs,0⟩] scope pos) 0 it acc c.env).onRaise (fun x=>do noteFrame x c.env; theTreesLotGoes x)) _ _ s
 refine wpAny_noted ?_
 rw [compTurn_list]
 refine wpAny_bind (wpAny_standAt (wpAny_bind (wpAny_mono (turn n s hI _ ?_ ?_) (fun r s₁ h=>h) fun _ _ h'=>h'.elim)))
 ·exact fun s₁ h=>wpAny_pure h
 intro v s₁ h
 refine wpAny_bind (wpAny_mono h (fun _ s1' h1'=>?_) fun _ _ h'=>h'.elim)
 refine wpAny_bind (wpAny_mono h1' (fun _ s2 h2=>wpAny_bind (wpAny_mono h2 (fun ok s3 h3=>?_) fun _ _ h'=>h'.elim)) fun _ _ h'=>h'.elim)
 cases ok with
 | false=>exact wpAny_pure ⟨rfl,h3.1 rfl⟩
 | true=>exact wpAny_bind (wpAny_bind (wpAny_mono (h3.2 rfl) (fun x s4 h4=>wpAny_bind (wpAny_mono h4 (fun _ s5 h5=>wpAny_pure (wpAny_pure ⟨rfl,h5⟩)) fun _ _ h'=>h'.elim)) fun _ _ h'=>h'.elim))
def SIf (n:Nat) (e:E) (ρ:Ag) (σ:Ab) (b:Bool) (σ':Ab):Prop :=
 ∀ (c:Cx) (g:G) (s:Shared) (xs:List Expr),Dt e c.K xs->Inv n c ρ g σ s->c.wp (CV xs c.env true) (fun x s'=>B9 c.T [] g σ' (fun _=>x=b) s') s
noncomputable def Ej (n:Nat) (elt:E) (ts:List Nat) (ifs:E) (kps:List (Nat×List V)) (ρ:Ag) (σ':Ab):List V->Ab->List V->Prop
 | [],σ,ws=>BM σ kps/\ws=[]/\σ'=σ
 | v::vs,σ,ws=>BM σ kps/\bindN n ts v/\∃ t σ₁,SIf n ifs (BF (A6 ρ ts) ts v) σ t σ₁/\(t=false->Ej n elt ts ifs kps ρ σ' vs σ₁ ws)/\(t=true->∃ u us σ₂,SE n elt (BF (A6 ρ ts) ts v) σ₁ u σ₂/\ws=u::us/\Ej n elt ts ifs kps ρ σ' vs σ₂ us)
noncomputable abbrev Cb (xs:Array Value) (m:Nat):Obj:={ cls:=.type "list",dict:=none,data:=.seq xs m,slots:=#[] }
section
variable {n:Nat} {c:Cx} {ρ ρ':Ag} {g g' g₀ g₁:G} {σ σ' σ₁ σ₂:Ab} {s s':Shared} {e a b r elt ifs:E} {ws vs:List V} {kps:List (Nat×List V)} {its:List Addr} {ts:List Nat} {q:Bool}
theorem Ef (env:Env):∀ ifs:List Expr,CV ifs env false=pure false
 | []=>rfl
 | c::r=>by
  show (forIn (c::r) false _:Sem Bool)=_
  rw [List.forIn_cons,if_neg Bool.false_ne_true,pure_bind]
  exact Ef env r
theorem SIf.nil:SIf n .nil ρ σ true σ:=fun c g s xs hc I=>by
 obtain rfl:xs=[]:=hc
 exact wpAny_pure (.refl I.has rfl)
theorem if_arm {x:Expr} {l:List Expr} {env:Env}:CV (x::l) env true=(isTrue x env (eval x env)>>=fun ok=>CV l env ok):=by
 show (forIn (x::l) true _:Sem Bool)=_
 rw [List.forIn_cons,if_pos rfl,bind_assoc]
 exact bind_congr fun ok=>pure_bind _ _
theorem SIf.cons (h:ST n a ρ σ true σ₁) (h':SIf n r ρ σ₁ q σ₂):SIf n (.cons a r) ρ σ q σ₂:=fun c g s xs hc I=>hc (fun xs=>c.wp (CV xs c.env true) (fun x s'=>B9 c.T [] g σ₂ (fun _=>x=q) s') s) fun x l h1 h2=>AD if_arm
 (Bd (r:=c.toAr) (h c g s x h1 I) fun ok g₁ s₁ le a1 e=>by subst e; exact AY (r:=c.toAr) le (h' c g₁ s₁ l h2 (I.step le a1)))
theorem SIf.no (h:ST n a ρ σ false σ₁):SIf n (.cons a r) ρ σ false σ₁:=fun c g s xs hc I=>hc (fun xs=>c.wp (CV xs c.env true) (fun x s'=>B9 c.T [] g σ₁ (fun _=>x=false) s') s) fun x l h1 h2=>AD if_arm
 (Bd (r:=c.toAr) (h c g s x h1 I) fun ok g₁ s₁ le a1 e=>by subst e; exact AD (Ef _ _) (wpAny_pure (.mk g₁ le a1 rfl)))
theorem Loc.less (L:Loc c ρ g) (h:∀ (i:Nat) (v:V),ρ'[i]? = some (some v)->ρ[i]? = some (some v)):Loc c ρ' g:=⟨fun R_ k=>L.ns R_ fun m h1 h2=>k m h1 fun i nm v e1 e2 e3=>h2 i nm v e1 (h i v e2) e3,fun nm hk R_ k=>L.ce nm hk R_ fun a u h1 h2 h3=>k a u h1 h2 fun i v e1 e2=>h3 i v e1 (h i v e2),L.ow⟩
theorem comp_turns {D it:Addr} {x t i:Expr} {cs:List Expr} {sc:Scope} {pos:Pos} {m₀:Nat} {R:Result->Shared->Prop} (f0:Bx g₀ c.fe) (x0:Loc c (A6 ρ ts) g₀) (hn:∀ b,b∈D::its->g₀.hid b=none) (hD:D∉its) (h4:IsT c.K ts t) (h5:IsE elt c.K x) (h6:Dt ifs c.K cs) (ht:q=true->∃ es k p,t=.Tuple es k p) (hl:ws.length<=line)
 (fin:∀ g' s' xs m h',G.le ((D::its)++c.own) g g'->Inv n c (A6 ρ ts) g' σ' s'->ItS n c.T q kps its it [] g'->g'.hid D=some (Cb xs m)->Ao c.T g' ws xs.toList->(∀ b o,b∉its->s'.heap.get? b=some o->h'.get? b=some o)->R (.ok .next) { s' with heap:=h' })
 (hr:Ej n elt ts ifs kps ρ σ' vs σ ws) (I:Inv n c (A6 ρ ts) g σ s) (hi:ItS n c.T q kps its it vs g) (hDo:g.hid D=some (Cb #[] m₀)):codeAny (model c.T.prog c.T.w) c.A (.compLoop (.ListComp x [⟨t,i,cs,0⟩] sc pos) 0 (.ref it) (.ref D) c.env) R s:=by
 have no:∀ b,b∈D::its->b∉c.own:=fun b h h'=>x0.ow b h' (hn b h)
 have toO:∀ {g g'},G.le c.own g g'->G.le ((D::its)++c.own) g g':=fun le=>⟨le.toup,fun a q=>le.hid a fun h=>q (List.mem_append_right _ h)⟩
 have toA:∀ {g g'},G.le (D::its) g g'->G.le ((D::its)++c.own) g g':=fun le=>⟨le.toup,fun a q=>le.hid a fun h=>q (List.mem_append_left _ h)⟩
 have toI:∀ {g g'},G.le its g g'->G.le (D::its) g g':=fun le=>⟨le.toup,fun a q=>le.hid a fun h=>q (.tail _ h)⟩
 refine compLoop_any (I:=fun k s=>∀ R_:Prop,(∀ vs σ g' ys zs xs m,k=vs.length->Ej n elt ts ifs kps ρ σ' vs σ zs->ws=ys++zs->G.le ((D::its)++c.own) g g'->Inv n c (A6 ρ ts) g' σ s->ItS n c.T q kps its it vs g'->g'.hid D=some (Cb xs m)->Ao c.T g' ys xs.toList->R_)->R_) (fun k s3 hz=>hz _ fun vs σ₃ g3 ys zs xs m hk w hw le3 I3 i3 d3 r3 Q kn ks=>?_) vs.length
  fun R_ kk=>kk vs σ g [] ws #[] m₀ rfl hr rfl (.refl _ _) I hi hDo trivial
 subst hk
 cases vs with
 | nil =>
  obtain ⟨w1,rfl,rfl⟩:=w
  rw [List.append_nil] at hw
  exact i3.2 c.toAr g3 _ s3 rfl I3.toAt (.refl _) (fun _ _=>rfl) w1 Q fun h' hk=>kn _ (fin g3 s3 xs m h' le3 I3 i3 d3 (hw▸r3) hk)
 | cons v vs =>
  obtain ⟨w1,w2,t1,σ6,w3,w4,w5⟩:=w
  refine i3.2 c.toAr g3 σ₃ s3 rfl I3.toAt (.refl _) (fun _ _=>rfl) w1 t Q ht fun X s₁ k=>ks X s₁ (k _ fun g4 s4 le4 H4 r4 i4=>?_)
  refine (I3.far f0 x0 hn (toI le4) H4).bind h4 w2 r4 fun g5 s5 le5 I5=>?_
  refine wpAny_mono (w3 c g5 s5 cs h6 I5) (fun ok s6 p=>p _ fun g6 le6 a6 e6=>?_) fun _ _ h=>h
  have I6:=I5.step le6 a6
  have l56:G.le c.own g4 g6:=le5.trans le6.toO
  have d6:g6.hid D=some (Cb xs m):=(l56.hid D (no D (.head _))).trans ((le4.hid D hD).trans d3)
  have i6:ItS n c.T q kps its it vs g6:=i4.mono l56.toup fun b hb=>l56.hid b (no b (.tail _ hb))
  have L6:=le3.trans ((toA (toI le4)).trans (toO l56))
  have r6:=Ao.mono (le4.toup.trans l56.toup) r3
  have less:∀ (i:Nat) (u:V),(A6 ρ ts)[i]? = some (some u)->(BF (A6 ρ ts) ts v)[i]? = some (some u):=fun i u=>bindV_get
  subst e6
  refine ⟨fun q=>⟨vs.length,Nat.lt_succ_self _,fun R_ kk=>kk vs σ6 g6 ys zs xs m rfl (w4 q) hw L6 ⟨I6.toAt,I6.cx,I6.loc.less less⟩ i6 d6 r6⟩,fun q=>?_⟩
  obtain ⟨u,us,σ7,w6,rfl,w7⟩:=w5 q
  refine wpAny_mono (w6 c g6 s6 x h5 I6) (fun Y s7 p=>p _ fun g7 le7 a7 r7=>?_) fun _ _ h=>h
  have I7:=I6.step le7 a7
  have d7:=(le7.hid D List.not_mem_nil).trans d6
  have r8:=Ao.mono le7.toup r6
  have hz:xs.size<=sizeLine:=by
   rw [<-A8,<-Array.length_toList,<-r8.length]
   rw [hw,List.length_append] at hl
   exact Nat.le_trans (Nat.le_add_right _ _) hl
  refine wpAny_list_append_plain ⟨m,(a7.hd _ _ d7).ex (AC rfl (by decide))⟩ (fun h' hp hs=>?_) hz
  obtain ⟨m',hp⟩:=hp
  have le8:G.le (D::its) g7 (g7.hide D (Cb (xs.push Y) m')):=.hide (.head _)
  have I8:=I7.far f0 x0 hn le8 (a7.rehide (s':={ s7 with heap:=h' }) d7 (fun b x q e=>(hs.2 b q).trans e) hp)
  refine ⟨vs.length,Nat.lt_succ_self _,fun R_ kk=>kk vs σ7 _ (ys++[u]) us (xs.push Y) m' rfl w7 (by rw [List.append_assoc]; exact hw) (L6.trans (le7.toO.trans (toA le8))) ⟨I8.toAt,I8.cx,I8.loc.less less⟩ ((i6.mono le7.toup fun b _=>le7.hid b List.not_mem_nil).mono le8.toup fun b hb=>G.hide_ne fun q=>hD (q▸hb)) G.hide_self ?_⟩
  rw [Array.toList_push]
  exact (Ao.mono le8.toup r8).append ⟨Ak.mono le8.toup _ _ r7,trivial⟩
end
end Mine
namespace Mine
open PySem PySem.Calls
section
variable {n:Nat} {c:Cx} {ρ ρ':Ag} {g g' g₀ g₁:G} {σ σ' σ₁ σ₂:Ab} {s s':Shared} {e it elt ifs:E} {v:V} {ws vs:List V} {kps:List (Nat×List V)} {its:List Addr} {ts:List Nat} {q:Bool} {Q:Fl->Ab->Prop} {k:Nat}
theorem NsF.heap {T:Top} {C:Addr} {m:Str->Option Value} (H:Has T g σ s) (h:NsF g.hid C m):s.heap.Ns C m:=H.ns h
theorem comp_run {x t i:Expr} {cs:List Expr} {sc:Scope} {pos P:Pos} {use:Option (Value->Sem Unit)} {Q:Value->Shared->Prop} (hI:SI n it ρ σ vs kps σ₁) (hr:Ej n elt ts ifs kps ρ σ' vs σ₁ ws) (hl:ws.length<=line)
 (h1:IsE it c.K i) (hs:FT c.K ts sc=true) (hz:Fz ts it=true) (h4:IsT (c.K.sub ts sc) ts t) (h5:IsE elt (c.K.sub ts sc) x) (h6:Dt ifs (c.K.sub ts sc) cs) (I:Inv n c ρ g σ s)
 (fin:∀ g2 s2 D C m,G.le [C] g g2->g.hid C=none->NsF g2.hid C m->B0 c.toAr g2 σ' ws (.ref D) s2->compPost (model c.T.prog c.T.w) c.A (fun _ _=>False) use Q (.ref D) C (.ok .next) s2) :
 c.wp (comprehension (.ListComp x [⟨t,i,cs,0⟩] sc pos) sc c.env P (newList []) false (eval i c.env) use) Q s:=by
 have S:=scopeOk_ok hs
 refine wpAny_comprehension_free (use:=use) rfl ((BC it h1).fold c.env) (closureFor_eq sc fun m hm=>Gh (C:=0) S I.cx I.loc hm fun a _ e _ _ _=>⟨a,e⟩) S.kind (fun p hp hl=>by rw [S.uni p hp,hl]) ?_
 refine wpAny_mono (hI c g s i h1 I) (fun X s₁ h₁=>wpAny_mono h₁ (fun itv s2 p=>?_) fun _ _ h=>h) fun _ _ h=>h
 refine p (fun itv=>c.wp (newList []) (fun acc s3=>c.wp (newFunctionEnv sc c.env.globals (Ha c.env sc.names []) [] c.env.qual none .none (some c.env)) (fun cenv s4=>codeAny (model c.T.prog c.T.w) c.A (.compStart (.ListComp x [⟨t,i,cs,0⟩] sc pos) 0 itv acc { cenv with scope:=relabel sc c.env }) (compPost (model c.T.prog c.T.w) c.A (fun _ _=>False) use Q acc cenv.locals) s4) s3) s2) fun its a g2 le2 H2 new i2 self=>?_
 refine wpAny_newList ?_ (Nat.zero_le _)
 refine wpAny_newFunctionEnv S.noc (fun y hy=>nomatch hy) (fun h₁ hns hsb=>?_) S.kind
 have hC:s2.heap.objs.size≠(s2.heap.push (Cb #[] 0)).objs.size:=fun q=>by rw [Heap.size_push] at q; exact Nat.succ_ne_self _ q.symm
 have hC0:s2.heap.get? (s2.heap.push (Cb #[] 0)).objs.size=none:=Heap.get?_none_of_le (by rw [Heap.size_push]; exact Nat.le_succ _)
 have hD0:s2.heap.get? s2.heap.objs.size=none:=AN _
 have hD1:h₁.get? s2.heap.objs.size=some (Cb #[] 0):=(hsb.2 _ hC).trans (Heap.get?_push_of_some _ (Heap.get?_push_size _ rfl))
 have old:∀ b o,s2.heap.get? b=some o->h₁.get? b=some o:=fun b o e=>(hsb.2 b fun q=>by rw [q] at e; exact Al hC0 e).trans (Heap.get?_push_of_some _ (Heap.get?_push_of_some _ e))
 have ne:∀ {b},b∈its->∀ {d},s2.heap.get? d=none->b≠d:=fun {b} hb {d} hd q=>by
  cases e:g2.hid b with
  | none=>exact i2.at b hb e
  | some o=>obtain ⟨_,e',_⟩:=H2.hd b o e; exact Al (q▸hd) e'
 generalize (s2.heap.push (Cb #[] 0)).objs.size=C at *
 generalize s2.heap.objs.size=D at *
 obtain ⟨oC,es,ep,hCo,hCn⟩:=hns
 have FC:=H2.free hC0
 have FD:=H2.free hD0
 have nD:∀ {b},b∈its->b≠D:=fun hb=>ne hb hD0
 have nC:∀ {b},b∈its->b≠C:=fun hb=>ne hb hC0
 have hD:D∉its:=fun q=>nD q rfl
 have hgC:g.hid C=none:=(le2.hid C fun q=>nC q rfl).symm.trans FC.hid
 have hgD:g.hid D=none:=(le2.hid D hD).symm.trans FD.hid
 have H3:=FC.hide (H2.keep (s':={ s2 with heap:=h₁,toks:=s2.toks+([]:List (Str×Value)).length }) old) hCo
 have H4:=H3.hide (a:=D) FD.fz FD.mu FD.tab (fun _ _ _ e=>e) hD1
 have x0:=sub_loc (o:=oC) S I.cx I.loc hgC ⟨oC,es,ep,G.hide_self,hCn⟩
 have hn:∀ b,b∈D::its->(g.hide C oC).hid b=none:=all_cons ((G.hide_ne hC).trans hgD) fun b hb=>(G.hide_ne (nC hb)).trans (new b hb)
 have l0:G.le (D::its) (g.hide C oC) ((g2.hide C oC).hide D (Cb #[] 0)):=⟨⟨le2.fz,le2.mu⟩,fun b hb=>(G.hide_ne (nhd hb)).trans (congrArg (fun z=>if b=C then some oC else z) (le2.hid b (ntl hb)))⟩
 have lg:G.le ((D::its)++[C]) g ((g2.hide C oC).hide D (Cb #[] 0)):=⟨⟨le2.fz,le2.mu⟩,fun b hb=>(G.hide_ne fun (q:b=D)=>hb (List.mem_append_left _ (q▸.head _))).trans ((G.hide_ne fun (q:b=C)=>hb (List.mem_append_right _ (q▸.head _))).trans (le2.hid b fun q=>hb (List.mem_append_left _ (.tail _ q))))⟩
 have f0:Bx (g.hide C oC) c.fe:=I.frs.hideN hgC
 have I4:Inv n (subC c ts sc C) (A6 ρ ts) _ σ₁ _:=⟨I.toAt.stepF lg.toup (f0.far hn f0 l0) H4,sub_cx S I.cx I.loc,x0.far hn x0 l0⟩
 have hd:∀ b,b∈its->((g2.hide C oC).hide D (Cb #[] 0)).hid b=g2.hid b:=fun b hb=>(G.hide_ne (nD hb)).trans (G.hide_ne (nC hb))
 have loop:codeAny (model c.T.prog c.T.w) c.A (.compLoop (.ListComp x [⟨t,i,cs,0⟩] sc pos) 0 (.ref a) (.ref D) (subC c ts sc C).env) (compPost (model c.T.prog c.T.w) c.A (fun _ _=>False) use Q (.ref D) C) { s2 with heap:=h₁,toks:=s2.toks+([]:List (Str×Value)).length }:=by
  refine comp_turns (c:=subC c ts sc C) f0 x0 hn hD h4 h5 h6 (is_tup (c:=subC c ts sc C) h4 hz) hl (fun g' s' xs m h' le I5 i5 d5 r5 hk=>?_) hr I4 (ItS.mono (g:=g2) ⟨fun _ _ e=>e,fun _ _ e=>e⟩ hd i2) G.hide_self
  have aw:=I5.has.away (all_cons (A3 d5) i5.at)
  obtain ⟨hd',H',le',e'⟩:=I5.has.back (its:=D::its) (own:=[C]) (s':={ s' with heap:=h' }) (lg.trans le) (all_cons hgD new) (fun b o hb e=>hk b o (ntl hb) e) aw
  have F:Cz c.T ⟨g'.fz,hd',g'.mu⟩ D:=⟨(aw D (.head _)).1,(le'.hid D fun q=>hC (List.mem_singleton.mp q)).trans hgD,(aw D (.head _)).2.1,(aw D (.head _)).2.2⟩
  exact I5.loc.ns _ fun m' h1 _=>fin ⟨g'.fz,hd',g'.mu⟩ _ D C m' le' hgC (h1.to fun o e=>(e' C fun q=>(List.mem_cons.mp q).elim (fun q=>hC q.symm) fun q=>nC q rfl).trans e) fun R_ kk=>kk _ D xs m (.refl _ _) H' F (hk D _ hD ((I5.has.hd _ _ d5).ex (AC rfl (by decide)))) (Ao.eta r5) hl
 exact codeAny_compStart_list loop (wpAny_mono (self c.toAr _ _ _ H4 hd _ loop) (fun _ _ h=>h) fun _ _ h=>h.elim)
theorem SL.comp (hI:SI n it ρ σ vs kps σ₁) (hr:Ej n elt ts ifs kps ρ σ' vs σ₁ ws) (hl:ws.length<=line):SL n (.comp elt ts it ifs) ρ σ ws σ':=fun c g s ex hc I=>hc (fun ex=>c.wp (eval ex c.env) (B0 c.toAr g σ' ws) s) fun x t i cs sc p h1 h2 h4 h5 h6=>AD (eval_ListComp ..)
 (comp_run hI hr hl h1 h2.1 h2.2 h4 h5 h6 I fun g2 s2 D C m le hC hns hN=>hN (fun X=>compPost (model c.T.prog c.T.w) c.A (fun _ _=>False) none (B0 c.toAr g σ' ws) X C (.ok .next) s2) fun g3 a xs m' le3 H3 F ho hr hl=>by
  have hn:=hns.to (f':=g3.hid) fun o e=>(le3.hid C List.not_mem_nil).trans e
  refine ⟨m,hn.heap H3,fun h' hs R_ k=>?_⟩
  obtain ⟨o,_,_,e,_⟩:=hn
  obtain ⟨hd,H',le',e'⟩:=H3.back (its:=[C]) (own:=[]) (s':={ s2 with heap:=h' }) (le.trans le3.toO) (AA hC) (fun b o hb e=>(hs.2 b (nhd hb)).trans e) (H3.away (AA (A3 e)))
  have ne:a≠C:=fun q=>Al F.hid (q▸e)
  exact k _ a xs m' le' H' ⟨F.fz,(e' a fun q=>ne (List.mem_singleton.mp q)).trans F.hid,F.mu,F.tab⟩ ((hs.2 a ne).trans ho) (Ao.eta hr) hl)
theorem comp_swaps {nm:Str} {p vp:Pos} {x t i:Expr} {cs:List Expr} {sc:Scope} {l:Nat} (X:FR n c) (h:swapC c.K nm p (.ListComp x [⟨t,i,cs,0⟩] sc vp)=true):swapsWith (.ListComp x [⟨t,i,cs,0⟩] sc vp) (some (.Name nm p)) l c.env=pure true:=by
 have h1:=Bool.and_eq_true_iff.mp h
 have h2:=Bool.and_eq_true_iff.mp h1.2
 show (pure (c.env.blockKind == .function&&c.env.kindOf nm == some .local&&p.line == vp.line && !(sc.names.any fun q=>q.1 == nm&&(q.2 == .local||q.2 == .cell))):Sem Bool)=_
 rw [show (c.env.blockKind == .function)=true by unfold Env.blockKind; rw [X.kind]; rfl,AB X.names,of_decide_eq_true h1.1,of_decide_eq_true h2.1,h2.2,beq_self_eq_true,beq_self_eq_true]; rfl
theorem comp_arm {nm:Str} {p vp p':Pos} {x t i:Expr} {cs:List Expr} {sc:Scope} {env:Env} (h:∀ l,swapsWith (.ListComp x [⟨t,i,cs,0⟩] sc vp) (some (.Name nm p)) l env=pure true):exec (.Assign [.Name nm p] (.ListComp x [⟨t,i,cs,0⟩] sc vp) p') env =
 (standAt p'>>=fun _=>(comprehension (.ListComp x [⟨t,i,cs,0⟩] sc vp) sc env (firstIterPos [⟨t,i,cs,0⟩] vp) (newList []) false (eval i env) (some fun v=>assign (.Name nm p) env v)>>=fun _=>pure ())>>=fun _=>pure Flow.next):=by
 rw [arm_exec_Assign]
 show (standAt p'>>=fun _=>swapsWith (.ListComp x [⟨t,i,cs,0⟩] sc vp) (some (.Name nm p)) p'.line env>>=_)=_
 rw [h]
 have hall:∀ v,assignAll v [assign (.Name nm p) env]=assign (.Name nm p) env v:=fun v=>by first | rfl | (unfold assignAll; rfl)
 rw [<-funext hall]
 rfl
theorem SS.asgC (hI:SI n it ρ σ vs kps σ₁) (hr:Ej n elt ts ifs kps ρ σ' vs σ₁ ws) (hl:ws.length<=line) (hv:∀ {r:Ar} {g X s},B0 r g σ' ws X s->Ans r g v σ₂ X s) (hq:Q (.next (ρ.set k (some v))) σ₂):SS n (.asg k (.comp elt ts it ifs)) ρ σ Q:=fun c g s st hc I=>hc (fun st=>c.wp (exec st c.env) (AW n c g Q) s) fun nm p ex p' h1 h2 h3=>by
 refine h2 (fun ex=>swapC c.K nm p ex=true->c.wp (exec (.Assign [.Name nm p] ex p') c.env) (AW n c g Q) s) (fun x t i cs sc vp k1 k2 k4 k5 k6 h3=>?_) h3
 refine AD (comp_arm fun l=>comp_swaps I.cx h3) (wpAny_bind (wpAny_standAt (wpAny_bind (wpAny_bind (comp_run (Q:=fun _ s'=>wpAny _ _ (pure ()) (fun _ s'=>wpAny _ _ (pure Flow.next) (AW n c g Q) (fun _ _=>False) s') (fun _ _=>False) s') hI hr hl k1 k2.1 k2.2 k4 k5 k6 I fun g2 s2 D C m le hC hns hN=>?_)))))
 refine hv hN _ fun g3 le3 H3 r3=>?_
 have l3:=le.trans le3.toO
 have ni:C∉c.own:=fun q=>I.loc.ow C q hC
 refine (I.far I.frs I.loc (AA hC) l3 H3).asgn h1 r3 fun g4 s4 le4 _ I4=>?_
 have hn:=hns.to (f':=g4.hid) fun o e=>(le4.hid C ni).trans ((le3.hid C List.not_mem_nil).trans e)
 refine ⟨m,hn.heap I4.has,fun h' hs=>wpAny_pure (wpAny_pure fun R_ k1 _=>?_)⟩
 obtain ⟨o,_,_,e,_⟩:=hn
 obtain ⟨hd,H',le',e'⟩:=I4.has.back (its:=[C]) (own:=c.own) (s':={ s4 with heap:=h' }) ⟨l3.toup.trans le4.toup,fun b hb=>(le4.hid b fun q=>hb (.tail _ q)).trans (l3.hid b fun q=>hb (List.mem_singleton.mp q▸.head _))⟩ (AA hC) (fun b o hb e=>(hs.2 b (nhd hb)).trans e) (I4.has.away (AA (A3 e)))
 exact k1 _ σ₂ _ hq le' (I4.far I.frs I.loc (AA hC) ⟨⟨fun _ _ e=>e,fun _ _ e=>e⟩,e'⟩ H')
end
end Mine
namespace Mine
open PySem PySem.Calls
theorem CJ {n:Str}:∀ {names:List (Str×NameKind)} {k:Nat} {acc:List (Str×Addr)},(∃ c,(n,c)∈acc)->∃ c,(n,c)∈cellsFrom k names acc
 | [],_,_,h=>h
 | (m,kd)::r,k,acc,h=>by
  show ∃ c,(n,c)∈(if (kd == .cell)=true then cellsFrom (k+1) r ((m,k)::acc) else cellsFrom k r acc)
  by_cases q:(kd == .cell)=true
  ·rw [if_pos q]; exact CJ (names:=r) (h.imp fun c h=>.tail _ h)
  ·rw [if_neg q]; exact CJ (names:=r) h
theorem Bm {n:Str}:∀ {names:List (Str×NameKind)} {k:Nat} {acc:List (Str×Addr)},(n,NameKind.cell)∈names->∃ c,(n,c)∈cellsFrom k names acc
 | [],_,_,h=>nomatch h
 | (m,kd)::r,k,acc,h=>by
  show ∃ c,(n,c)∈(if (kd == .cell)=true then cellsFrom (k+1) r ((m,k)::acc) else cellsFrom k r acc)
  rcases List.mem_cons.mp h with h | h
  ·rw [<-(Prod.mk.inj h).1,<-(Prod.mk.inj h).2]; exact CJ (names:=r) ⟨k,.head _⟩
  ·by_cases q:(kd == .cell)=true
   ·rw [if_pos q]; exact Bm (names:=r) h
   ·rw [if_neg q]; exact Bm (names:=r) h
section
variable {kf:Str->Option NameKind} {n:Str} {v:Value}
theorem bind_out:∀ {bs:List (Str×Value)} {m:Str->Option Value},(∀ p,p∈bs->p.1≠n)->bindL kf bs m n=m n/\bindC kf bs m n=m n
 | [],m,_=>⟨rfl,rfl⟩
 | (k,v)::r,m,h=>by
  have ne:n≠k:=fun q=>h (k,v) (.head _) q.symm
  have ih:=fun m=>bind_out (bs:=r) (m:=m) fun p hp=>h p (.tail _ hp)
  show bindL kf r (if kf k=some .local then fun y=>if y=k then some v else m y else m) n=m n/\bindC kf r (if kf k=some .local then m else fun y=>if y=k then some v else m y) n=m n
  rw [(ih _).1,(ih _).2]
  by_cases q:kf k=some .local
  ·rw [if_pos q,if_pos q]; exact ⟨if_neg ne,rfl⟩
  ·rw [if_neg q,if_neg q]; exact ⟨rfl,if_neg ne⟩
theorem EO:∀ {ns:List Str} {vs:List Value} {m:Str->Option Value} {i:Nat},ns.Nodup->ns[i]? = some n->vs[i]? = some v ->
 (kf n=some .local->bindL kf (ns.zip vs) m n=some v)/\(kf n≠some .local->bindC kf (ns.zip vs) m n=some v)
 | [],_,_,_,_,h1,_=>Ac h1
 | _::_,[],_,_,_,_,h2=>Ac h2
 | k::ns,w::vs,m,0,hn,h1,h2=>by
  obtain rfl:=Option.some.inj h1; obtain rfl:=Option.some.inj h2
  have out:∀ m,_:=fun m=>bind_out (kf:=kf) (n:=k) (m:=m) (bs:=ns.zip vs) fun p hp q=>(List.nodup_cons.mp hn).1 (q▸(List.of_mem_zip (a:=p.1) (b:=p.2) hp).1)
  refine ⟨fun hk=>(out _).1.trans ?_,fun hk=>(out _).2.trans ?_⟩
  ·rw [if_pos hk]; exact if_pos rfl
  ·rw [if_neg hk]; exact if_pos rfl
 | k::ns,w::vs,m,i+1,hn,h1,h2=>⟨(EO (ns:=ns) (vs:=vs) (i:=i) (List.nodup_cons.mp hn).2 h1 h2).1,(EO (ns:=ns) (vs:=vs) (i:=i) (List.nodup_cons.mp hn).2 h1 h2).2⟩
end
def RetIs (v:V) (σ':Ab) (fl:Fl) (σ:Ab):Prop:=(match fl with | .next _=>v=.d .none | .ret u=>v=u)/\σ'=σ
noncomputable def Bc (fn:Fn) (xs:List V):Ag:=xs.map some++List.replicate (fn.nv-fn.np) none
theorem begin_get {fn:Fn} {xs:List V} {i:Nat} {v:V} (h:(Bc fn xs)[i]? = some (some v)):xs[i]? = some v:=by
 unfold Bc at h
 by_cases hi:i < xs.length
 ·rw [List.getElem?_append_left (by rw [List.length_map]; exact hi),List.getElem?_map,List.getElem?_eq_getElem hi] at h
  rw [List.getElem?_eq_getElem hi]; exact Option.some.inj h
 ·rw [List.getElem?_append_right (by rw [List.length_map]; exact Nat.le_of_not_lt hi),List.getElem?_replicate] at h
  exact Ac (AG h).2
section
variable {n f:Nat} {fn:Fn} {xs:List V} {σ σ':Ab} {v:V} {r:Ar} {g:G} {s s₁:Shared} {a:Addr} {Xs:List Value} {fd:FuncData} {body:List Stmt} {o:Obj} {vars:List Str} {lam:Option (Addr×Str)}
noncomputable abbrev BT (env:Env):List Addr:=env.locals::env.scope.names.filterMap fun p=>env.cells.lookup p.1
noncomputable abbrev callC (r:Ar) (env:Env) (vars:List Str) (lam:Option (Addr×Str)):Cx:=⟨⟨r.T,env::r.fe,r.A.deeper env⟩,⟨vars,env.scope.names,vars,glP,lam⟩,env,BT env⟩
theorem call_inv {env:Env} (F:FnIs r.T glP fn a fd body o vars lam) (hn:1<=n) (hl:xs.length=fn.np) (aok:ProgOk r.T) (afr:r.A.frames=some r.fe) (adp:r.A.depth+(n+1)<=600) (aun:r.A.units+100 * (n+1)<=9000) (ahh:HOk n g r.A) (afs:Bx g r.fe) (H:Has r.T g σ s) (R:Ao r.T g xs Xs) (hE:env=callEnvC fd s.heap.objs.size a)
 (ic:InCallC s env.locals (bindL env.kindOf ((vars.take fn.np).zip Xs) fun _=>none) env.cells (bindC env.kindOf ((vars.take fn.np).zip Xs) fun _=>none) s₁):∃ g₁,Inv n (callC r env vars lam) (Bc fn xs) g₁ σ s₁/\G.le (BT env) g g₁/\∀ c,c∈BT env->g.hid c=none:=by
 have esc:env.scope=fd.scope:=by rw [hE]; rfl
 have eloc:env.locals=s.heap.objs.size:=by rw [hE]; rfl
 have new:∀ c,c∈BT env->s.heap.get? c=none:=all_cons (eloc▸AN _) fun c hc=>by
  obtain ⟨p,_,hp⟩:=List.mem_filterMap.mp hc
  exact Heap.get?_none_of_le (Nat.le_of_lt (eloc▸ic.above p.1 c (AZ hp)))
 obtain ⟨h₁,tk,hs⟩:=ic.toInCall.same
 have H1:=H.newL (s':=s₁) new ic.toInCall.keep (by rw [hs]) (by rw [hs])
 obtain ⟨oL,esL,epL,hL,hLd⟩:=id ic.toInCall.ns
 have H2:=H1.rehideH (a:=env.locals) (o:=frO oL) (s':=s₁) ((if_pos (.head _)).trans hL) (fun _ _ _ e=>e) (.fr hL)
 have le:G.le (BT env) g (G.hide ⟨g.fz,fun c=>if c∈BT env then s₁.heap.get? c else g.hid c,g.mu⟩ env.locals (frO oL)):=⟨⟨fun _ _ e=>e,fun _ _ e=>e⟩,fun c hc=>(G.hide_ne fun (q:c=env.locals)=>hc (q▸.head _)).trans (if_neg hc)⟩
 have hd:∀ {c},c∈BT env->c≠env.locals->∀ o,s₁.heap.get? c=some o->(G.hide ⟨g.fz,fun c=>if c∈BT env then s₁.heap.get? c else g.hid c,g.mu⟩ env.locals (frO oL)).hid c=some o:=fun hc hn o e=>(G.hide_ne hn).trans ((if_pos hc).trans e)
 have cl:∀ {x c},env.cells.lookup x=some c->c≠env.locals:=fun {x c} e=>Nat.ne_of_gt (ic.above x c (AZ e))
 have tf:TopFr env:=⟨(by rw [esc,F.kind]; exact fun q=>nomatch q),esc▸F.gen,esc▸F.cor,by rw [hE]; exact F.blt,by rw [hE]; exact F.glob⟩
 have frs:Bx (G.hide ⟨g.fz,fun c=>if c∈BT env then s₁.heap.get? c else g.hid c,g.mu⟩ env.locals (frO oL)) (env::r.fe):=fun e he=>by
  rcases List.mem_cons.mp he with q | q
  ·rw [q]; exact ⟨tf,env.locals,frO oL,esL,epL,(by rw [hE]; rfl),G.hide_self,rfl,hLd.1⟩
  ·obtain ⟨h0,L,o',es,ep,h1,h2,h3⟩:=afs e q
   exact ⟨h0,L,o',es,ep,h1,(le.hid L fun q=>by obtain ⟨_,e',_⟩:=H.hd L o' h2; exact Al (new L q) e').trans h2,h3⟩
 have kd:∀ x,env.kindOf x=fd.scope.names.lookup x:=fun x=>by unfold Env.kindOf; rw [esc]
 have mem:∀ {x c k},fd.scope.names.lookup x=some k->env.cells.lookup x=some c->c∈BT env:=fun {x c k} h e=>.tail _ (List.mem_filterMap.mpr ⟨(x,k),esc▸AZ h,e⟩)
 have hnd:=List.Nodup.sublist (List.take_sublist fn.np vars) F.nd
 have par:∀ {i x v},vars[i]? = some x->(Bc fn xs)[i]? = some (some v)->∃ X,((env.kindOf x=some .local->bindL env.kindOf ((vars.take fn.np).zip Xs) (fun _=>none) x=some X)/\(env.kindOf x≠some .local->bindC env.kindOf ((vars.take fn.np).zip Xs) (fun _=>none) x=some X))/\Ak r.T g v X:=fun {i x v} e1 e2=>by
  have e3:=begin_get e2
  obtain ⟨X,e4,rX⟩:=R.get e3
  have hi:i < fn.np:=hl▸(List.getElem?_eq_some_iff.mp e3).1
  exact ⟨X,EO hnd (by rw [List.getElem?_take_of_lt hi]; exact e1) e4,rX⟩
 refine ⟨_,⟨⟨aok,?_,⟨env,r.fe,rfl,tf⟩,?_,?_,by exact ahh.mono ⟨fun _ _ e=>e,fun _ _ e=>e⟩,frs,H2⟩,⟨aok.toReady,rfl,esc▸F.kind,by rw [hE]; exact F.glob,by rw [hE]; exact F.blt,⟨env,r.fe,rfl,rfl⟩,fun m m' c h h'=>name_of_addr ic.apart (AZ h) (AZ h'),F.nd,.head _,fun m _ c hk hc=>mem ((kd m).symm.trans hk) hc,fun t q h=>?_⟩,⟨fun R_ k=>k (bindL env.kindOf ((vars.take fn.np).zip Xs) fun _=>none) ?_ fun i nm u e1 e2 e3=>?_,fun nm hk R_ k=>?_,fun c hc=>?_⟩⟩,le,fun c hc=>(H.free (new c hc)).hid⟩
 ·show r.A.frames.map _=_
  rw [afr]; rfl
 ·show r.A.depth+1+n<=600
  rw [Nat.add_assoc,Nat.add_comm 1 n]; exact adp
 ·show r.A.units+3+100 * n<=9000
  have:=aun
  rw [Nat.mul_add] at this
  exact Nat.le_trans (by rw [Nat.add_assoc,Nat.add_comm 3]; exact Nat.add_le_add_left (Nat.add_le_add_left (by decide) _) _) this
 ·obtain ⟨h1,h2,h3⟩:=F.lam t q h
  exact ⟨hn,h1,by rw [hE]; exact h2,by rw [hE]; exact h3⟩
 ·exact ⟨frO oL,esL,epL,G.hide_self,hLd⟩
 ·obtain ⟨X,h,rX⟩:=par e1 e2
  exact ⟨X,h.1 e3,Ak.mono le.toup _ _ rX⟩
 ·have hc:fd.scope.names.lookup nm=some .cell:=by
   rw [kd] at hk
   exact hk.elim id fun q=>absurd rfl (F.nof _ (AZ q))
  obtain ⟨c,h⟩:=Bm (k:=s.heap.objs.size+1) (acc:=[]) (AZ hc)
  obtain ⟨c,h⟩:=D8 h
  have h:env.cells.lookup nm=some c:=by rw [hE]; exact h
  refine k c _ h (Ek.to (f:=s₁.heap.get?) (ic.cell nm c h) (hd (mem hc h) (cl h))) fun i u e1 e2=>?_
  obtain ⟨X,q,rX⟩:=par e1 e2
  exact ⟨X,q.2 (by rw [kd,hc]; exact fun q=>nomatch q),Ak.mono le.toup _ _ rX⟩
 ·rw [show (callC r env vars lam).own=BT env from rfl] at hc
  refine DW ?_
  show (if c∈BT env then s₁.heap.get? c else g.hid c)≠none
  rw [if_pos hc]
  rcases List.mem_cons.mp hc with q | q
  ·obtain ⟨o,_,_,e,_⟩:=ic.toInCall.ns
   rw [q,e]; exact fun q=>nomatch q
  ·obtain ⟨p,_,hp⟩:=List.mem_filterMap.mp q
   obtain ⟨o,e,_⟩:=ic.cell p.1 c hp
   rw [e]; exact fun q=>nomatch q
theorem FA.run (hP:Pg f=some fn) (hl:xs.length=fn.np) (hb:SSs n fn.body (Bc fn xs) σ (RetIs v σ')) (hn:1<=n) (hf:r.T.fn f=some a) (aok:ProgOk r.T) (afr:r.A.frames=some r.fe) (adp:r.A.depth+(n+1)<=600) (aun:r.A.units+100 * (n+1)<=9000) (ahh:HOk n g r.A) (afs:Bx g r.fe) (H:Has r.T g σ s) (R:Ao r.T g xs Xs):r.wp (call (.ref a) Xs) (Ans r g v σ') s:=aok.fns f fn a hP hf _ fun fd body o vars lam F=>by
 have hz:=fun b o e=>H.fz b o (H.base b o e)
 refine wpAny_call (codeAny_call_cells (Nat.lt_of_le_of_lt (Nat.le_trans (Nat.le_add_right _ _) adp) (by decide)) (hz _ _ F.ob) F.data (aok.ok.nolimit.keeps hz) (F.code.keeps hz) F.bd (F.bind Xs (R.length.symm.trans hl)) F.clo (fun p hp=>?_) (fun s₁ ic=>?_) F.cor F.gen F.kind)
 ·refine (F.par p.1 (List.of_mem_zip (a:=p.1) (b:=p.2) hp).1).imp id fun h=>⟨h,?_⟩
  obtain ⟨c,q⟩:=Bm (k:=s.heap.objs.size+1) (acc:=[]) (AZ h)
  obtain ⟨c,q⟩:=D8 q
  rw [q]; rfl
 ·obtain ⟨g₁,I,le,new⟩:=call_inv F hn hl aok afr adp aun ahh afs H R rfl ic
  have done:∀ {g2 s2 x},G.le (BT (callEnvC fd s.heap.objs.size a)) g₁ g2->Has r.T g2 σ' s2->(∀ c,c∈BT (callEnvC fd s.heap.objs.size a)->g2.hid c≠none)->Ak r.T g2 v x->Ans r g v σ' x s2:=fun {g2 s2 x} l H2 w rx=>by
   obtain ⟨hd,H',le',_⟩:=H2.back (its:=BT (callEnvC fd s.heap.objs.size a)) (own:=[]) (s':=s2) (List.append_nil _▸le.trans l) new (fun _ _ _ e=>e) (H2.away w)
   exact .mk _ le' H' (Ak.eta rx)
  have is:IsSs fn.body (callC r (callEnvC fd s.heap.objs.size a) vars lam).K body:=F.is
  refine wpAny_mono (hb _ g₁ s₁ body is I) (fun fl s2 p=>p.elim (fun ρ σ₂ g2 e q l I2=>?_) fun u x σ₂ g2 e q l H w rx=>?_) fun _ _ h=>h.elim
  ·obtain ⟨q1,rfl⟩:=q
   subst e
   exact done l I2.has I2.loc.ow (q1▸rfl)
  ·obtain ⟨q1,rfl⟩:=q
   subst e
   exact done l H w (q1▸rx)
theorem FA.of (hP:Pg f=some fn) (hl:xs.length=fn.np) (hb:SSs n fn.body (Bc fn xs) σ (RetIs v σ')) (hn:1<=n):FA (n+1) f xs σ v σ':=fun r g s a Xs hf A R=>FA.run hP hl hb hn hf A.ok A.frames A.depth A.units (A.hh.less (Nat.le_succ _)) A.frs A.has R
end
end Mine
namespace Mine
open PySem PySem.Calls
noncomputable def low (m:Nat):V->Prop
 | .ref k=>k < m
 | .tup ws=>∀ k,.inr k∈ws->k < m
 | .obj ks=>∀ k,k∈ks->k < m
 | .pr x y=>low m x/\low m y
 | _=>True
noncomputable def B4 (m:Nat):O->Prop
 | .list vs=>∀ v,v∈vs->low m v
 | _=>True
noncomputable def G.seal (g:G) (m:Nat) (h:Heap):G:=⟨fun a=>if a∈g.mu.drop m then h.get? a else g.fz a,g.hid,g.mu.take m⟩
def SnR (σ:Ab) (m k:Nat) (d:PyData):Prop:=∃ ds,d=.list ds/\m<=k/\σ[k]? = some (.list (ds.map .d))
noncomputable def SnW (σ:Ab) (m:Nat):PyData ⊕ Nat->PyData->Prop
 | .inl x,d=>d=x
 | .inr k,d=>SnR σ m k d
noncomputable def Sn (σ:Ab) (m:Nat):V->PyData->Prop
 | .d x,d=>d=x
 | .ref k,d=>SnR σ m k d
 | .tup ws,d=>∃ ds,d=.tuple ds/\Aq (SnW σ m) ws ds
 | _,_=>False
section
variable {T:Top} {g g':G} {σ τ σ':Ab} {s s':Shared} {v:V} {X:Value} {m n f:Nat} {h:Heap} {d:PyData} {xs:List V} {r:Ar}
theorem Aq.mem {α β:Type} {R:α->β->Prop} {as:List α} {bs:List β} {a:α} (h:Aq R as bs) (ha:a∈as):∃ b,R a b:=by
 obtain ⟨k,hk⟩:=List.mem_iff_getElem?.mp ha
 obtain ⟨b,_,r⟩:=h.get hk
 exact ⟨b,r⟩
theorem mu_lt {k:Nat} {a:Addr} (e:g.mu[k]? = some a):k < g.mu.length:=(List.getElem?_eq_some_iff.mp e).1
theorem rep_low:∀ {v:V} {X:Value},Ak T g v X->low g.mu.length v:=by
 intro v
 induction v with
 | ref k=>intro X rx; obtain ⟨a,e,_⟩:=rx; exact mu_lt e
 | tup ws=>intro X rx; exact rx (fun _=>_) fun a o vs n h1 h2 h3 h4 h5 k hk=>by obtain ⟨b,a,e,_⟩:=h4.mem hk; exact mu_lt e
 | obj ks=>intro X rx; exact rx (fun _=>_) fun a d o mA _ _ _ _ _ _ _ h k hk=>by obtain ⟨b,a,e,_⟩:=h.mem hk; exact mu_lt e
 | pr x y ix iy=>intro X rx; exact rx (fun _=>_) fun a o vs n _ _ _ h4 _=>by obtain ⟨a',b',_,r1,r2⟩:=h4; exact ⟨ix r1,iy r2⟩
 | _=>intro X rx; trivial
theorem rep_lowO {o:O} {x:Obj} (rx:CK T g o x):B4 g.mu.length o:=by
 cases o with
 | list vs=>exact rx (fun _=>_) fun xs m hr _ v hv=>by obtain ⟨b,e⟩:=hr.mem hv; exact rep_low e
 | _=>trivial
theorem BO (H:Has T g σ s):FzLe g.fz (g.seal m h).fz:=fun a o e=>(if_neg fun (q:a∈g.mu.drop m)=>Al (H.ap a (List.mem_of_mem_drop q)) e).trans e
theorem seal_mu {k:Nat} {a:Addr} (hk:k < m) (e:g.mu[k]? = some a):(g.seal m h).mu[k]? = some a:=(List.getElem?_take_of_lt hk).trans e
theorem Aq.imp {α β:Type} {R S:α->β->Prop}:∀ {as:List α} {bs:List β},(∀ a b,a∈as->R a b->S a b)->Aq R as bs->Aq S as bs
 | [],[],_,_=>trivial
 | _::_,_::_,h,x=>⟨h _ _ (.head _) x.1,Aq.imp (fun a b ha=>h a b (.tail _ ha)) x.2⟩
 | [],_::_,_,x=>x.elim
 | _::_,[],_,x=>x.elim
structure G.upTo (m:Nat) (g g':G):Prop where
 fz:FzLe g.fz g'.fz
 mu:∀ (k:Nat) (a:Addr),k < m->g.mu[k]? = some a->g'.mu[k]? = some a
theorem Go (up:G.upTo m g g') (hl:low m v) (rx:Ak T g v X):Ak T g' v X:=by
 induction v generalizing X with
 | d y=>exact Ax.mono up.fz _ _ rx
 | ref k=>obtain ⟨a,e,q⟩:=rx; exact ⟨a,up.mu k a hl e,q⟩
 | tup ws=>exact B7.mono up.fz (fun vs=>Aq.imp fun w v hw r=>by
  cases w with
  | inl y=>exact Ax.mono up.fz _ _ r
  | inr k=>obtain ⟨a,e,q⟩:=r; exact ⟨a,up.mu k a (hl k hw) e,q⟩) rx
 | ty t=>exact rx
 | obj ks=>exact fun R_ k=>rx R_ fun a d o mA h1 h2 h3 h4 h5 h6 h7 h8=>k a d o mA (up.fz _ _ h1) h2 h3 h4 h5 (h6.to up.fz) h7 (Aq.imp (fun k _ hk=>fun ⟨a,e,q⟩=>⟨a,up.mu k a (hl k hk) e,q⟩) h8)
 | pr x y ix iy=>exact B7.mono up.fz (fun vs=>fun ⟨a,b,e,h1,h2⟩=>⟨a,b,e,ix hl.1 h1,iy hl.2 h2⟩) rx
 | exc k=>exact fun R_ kk=>rx R_ fun e D o vs h1 h2 h3 h4 h5=>kk e D o vs (up.fz _ _ h1) h2 h3 h4 h5
 | ecl k=>exact rx
theorem E5 {o:O} {x:Obj} (up:G.upTo m g g') (hl:B4 m o) (rx:CK T g o x):CK T g' o x:=by
 cases o with
 | list vs=>exact fun R_ k=>rx R_ fun xs m hr hz=>k xs m (Aq.imp (fun v x hv r=>Go up (hl v hv) r) hr) hz
 | dictS kvs=>exact fun R_ k=>rx R_ fun es ep ws ho hd hk hp hn hr hl=>k es ep ws ho hd hk hp hn (Aq.mono (fun d v r=>⟨r.1,Ax.mono up.fz _ _ r.2⟩) hr) hl
 | dictP kvs=>exact fun R_ k=>rx R_ fun es ep ws ho hd he hn hr hl=>k es ep ws ho hd he hn (Aq.mono (fun d v r=>⟨r.1,Ax.mono up.fz _ _ r.2.1,Ax.mono up.fz _ _ r.2.2⟩) hr) hl
theorem seal_up (H:Has T g σ s):G.upTo m g (g.seal m h):=⟨BO H,fun _ _ hk e=>seal_mu hk e⟩
theorem rep_seal (H:Has T g σ s) (hl:low m v) (rx:Ak T g v X):Ak T (g.seal m h) v X:=Go (seal_up H) hl rx
theorem rep_sealO {o:O} {x:Obj} (H:Has T g σ s) (hl:B4 m o) (rx:CK T g o x):CK T (g.seal m h) o x:=E5 (seal_up H) hl rx
theorem Ex {a:Addr} (hn:g.mu.Nodup) (h1:a∈g.mu.take m) (h2:a∈g.mu.drop m):False:=by
 have h:=List.nodup_append.mp ((List.take_append_drop m g.mu).symm▸hn)
 exact h.2.2 a h1 a h2 rfl
theorem Has.seal (H:Has T g (σ++τ) s) (hl:∀ (k:Nat) o,σ[k]? = some o->B4 σ.length o):Has T (g.seal σ.length s.heap) σ s:=by
 have out:∀ {a},a∉g.mu->(g.seal σ.length s.heap).fz a=g.fz a:=fun h=>if_neg fun q=>h (List.mem_of_mem_drop q)
 refine ⟨fun a o e=>?_,H.hd,?_,List.Nodup.sublist (List.take_sublist _ _) H.nd,fun a ha=>(if_neg fun q=>Ex H.nd ha q).trans (H.ap a (List.mem_of_mem_take ha)),fun a o e=>⟨(out (H.ah a o e).2).trans (H.ah a o e).1,fun q=>(H.ah a o e).2 (List.mem_of_mem_take q)⟩,fun k a o e1 e2 R_ kk=>?_,fun a o e=>BO H a o (H.base a o e),fun t q ht R_ kk=>H.tb t q ht R_ fun ps h1 h2 h3 h4 h5 h6=>kk ps ((out h3).trans h1) h2 (fun q=>h3 (List.mem_of_mem_take q)) h4 h5 fun pos cv e=>?_,H.gens,H.os⟩
 ·have e:(if a∈g.mu.drop σ.length then s.heap.get? a else g.fz a)=some o:=e
  by_cases q:a∈g.mu.drop σ.length
  ·rw [if_pos q] at e; exact e
  ·rw [if_neg q] at e; exact H.fz a o e
 ·show (g.mu.take σ.length).length=_
  rw [List.length_take,H.len,List.length_append]; exact Nat.min_eq_left (Nat.le_add_right _ _)
 ·have hk:k < σ.length:=(List.getElem?_eq_some_iff.mp e2).1
  have e1:(g.mu.take σ.length)[k]? = some a:=e1
  rw [List.getElem?_take_of_lt hk] at e1
  exact H.ob k a o e1 ((List.getElem?_append_left hk).trans e2) R_ fun x h1 h2=>kk x h1 (rep_sealO H (hl k o e2) h2)
 ·obtain ⟨c,o,vs,u,q1,q2,q3⟩:=h6 pos cv e
  exact ⟨c,o,vs,u,q1,BO H _ _ q2,q3⟩
theorem snR_rep {k:Nat} (H:Has T g σ s) (h:SnR σ m k d) (rx:∃ a,g.mu[k]? = some a/\X=.ref a):Ax (g.seal m s.heap).fz d X:=by
 obtain ⟨a,e,rfl⟩:=rx
 obtain ⟨ds,rfl,hm,hs⟩:=h
 have ha:a∈g.mu.drop m:=List.mem_of_getElem? (i:=k-m) (by rw [List.getElem?_drop,Nat.add_sub_cancel' hm]; exact e)
 exact H.lst e hs fun xs n ho hr hn hz=>fun R_ kk=>kk a _ xs n ((if_pos ha).trans ho) rfl rfl (RepDs.mono (BO H) _ _ (Ao.toD hr)) (by rw [<-List.length_map (f:=V.d)]; exact hz)
theorem sn_rep (H:Has T g σ s) (h:Sn σ m v d) (rx:Ak T g v X):Ax (g.seal m s.heap).fz d X:=by
 cases v with
 | d y=>obtain rfl:d=y:=h; exact Ax.mono (BO H) _ _ rx
 | ref k=>exact snR_rep H h rx
 | tup ws =>
  obtain ⟨ds,rfl,h⟩:=h
  have key:∀ {ws:List (PyData ⊕ Nat)} {ds:List PyData} {vs:List Value},Aq (Fw g) ws vs->Aq (SnW σ m) ws ds->Aq (Ax (g.seal m s.heap).fz) ds vs:=by
   intro ws
   induction ws with
   | nil=>intro ds vs h1 h2; rw [h1.nil,h2.nil]; exact trivial
   | cons w ws ih =>
    intro ds vs h1 h2
    obtain ⟨v,vs,rfl,r1,r2⟩:=h1.cons
    obtain ⟨d,ds,rfl,q1,q2⟩:=h2.cons
    refine ⟨?_,ih r2 q2⟩
    cases w with
    | inl y=>obtain rfl:d=y:=q1; exact Ax.mono (BO H) _ _ r1
    | inr k=>exact snR_rep H q1 r1
  exact rx _ fun a o vs n h1 h2 h3 h4 h5 R_ kk=>kk a o vs n (BO H _ _ h1) h2 h3 (.of (key h4 h)) (by rw [(key h4 h).length,<-h4.length]; exact h5)
 | ty _=>exact h.elim
 | obj _=>exact h.elim
 | pr _ _=>exact h.elim
 | exc _=>exact h.elim
 | ecl _=>exact h.elim
theorem FA.seal' (hf:FA n f xs σ v (σ'++τ)) (hl:σ'.length=σ.length) (hw:∀ (k:Nat) o,σ'[k]? = some o->B4 σ'.length o) (hd:Sn (σ'++τ) σ'.length v d):FA n f xs σ (.d d) σ':=fun r g s a Xs h A R=>wpAny_mono (hf r g s a Xs h A R) (fun X s' p=>p _ fun g' le H rX =>
 .mk (g'.seal σ'.length s'.heap) ⟨⟨fun a o e=>BO H a o (le.fz a o e),fun k a e=>seal_mu (hl▸A.has.len▸mu_lt e) (le.mu k a e)⟩,le.hid⟩ (H.seal hw) (sn_rep H hd rX)) fun _ _ h=>h
theorem has_low (H:Has T g σ s) (k:Nat) (o:O) (e:σ[k]? = some o):B4 σ.length o:=H.len▸H.ob k (g.mu[k]'(H.len▸(List.getElem?_eq_some_iff.mp e).1)) o (List.getElem?_eq_getElem _) e _ fun x _ hx=>rep_lowO hx
theorem FA.seal (hf:FA n f xs σ v (σ++τ)) (hd:Sn (σ++τ) σ.length v d):FA n f xs σ (.d d) σ:=fun r g s a Xs h A R=>FA.seal' hf rfl (has_low A.has) hd r g s a Xs h A R
end
end Mine
namespace Mine
open PySem PySem.Calls
theorem ex12 {α1 α2 α3 α4 α5 α6 α7 α8 α9 α10 α11 α12:Type} {p:α1->α2->α3->α4->α5->α6->α7->α8->α9->α10->α11->α12->Prop} {R:Prop} (h:∃ (x1:α1) (x2:α2) (x3:α3) (x4:α4) (x5:α5) (x6:α6) (x7:α7) (x8:α8) (x9:α9) (x10:α10) (x11:α11) (x12:α12),p x1 x2 x3 x4 x5 x6 x7 x8 x9 x10 x11 x12) (k:∀ (x1:α1) (x2:α2) (x3:α3) (x4:α4) (x5:α5) (x6:α6) (x7:α7) (x8:α8) (x9:α9) (x10:α10) (x11:α11) (x12:α12),p x1 x2 x3 x4 x5 x6 x7 x8 x9 x10 x11 x12->R):R:=by
 obtain ⟨x1,x2,x3,x4,x5,x6,x7,x8,x9,x10,x11,x12,h⟩:=h
 exact k _ _ _ _ _ _ _ _ _ _ _ _ h
theorem ex17 {α1 α2 α3 α4 α5 α6 α7 α8 α9 α10 α11 α12 α13 α14 α15 α16 α17:Type} {p:α1->α2->α3->α4->α5->α6->α7->α8->α9->α10->α11->α12->α13->α14->α15->α16->α17->Prop} {R:Prop} (h:∃ (x1:α1) (x2:α2) (x3:α3) (x4:α4) (x5:α5) (x6:α6) (x7:α7) (x8:α8) (x9:α9) (x10:α10) (x11:α11) (x12:α12) (x13:α13) (x14:α14) (x15:α15) (x16:α16) (x17:α17),p x1 x2 x3 x4 x5 x6 x7 x8 x9 x10 x11 x12 x13 x14 x15 x16 x17) (k:∀ (x1:α1) (x2:α2) (x3:α3) (x4:α4) (x5:α5) (x6:α6) (x7:α7) (x8:α8) (x9:α9) (x10:α10) (x11:α11) (x12:α12) (x13:α13) (x14:α14) (x15:α15) (x16:α16) (x17:α17),p x1 x2 x3 x4 x5 x6 x7 x8 x9 x10 x11 x12 x13 x14 x15 x16 x17->R):R:=by
 obtain ⟨x1,x2,x3,x4,x5,x6,x7,x8,x9,x10,x11,x12,x13,x14,x15,x16,x17,h⟩:=h
 exact k _ _ _ _ _ _ _ _ _ _ _ _ _ _ _ _ _ h
section
variable {n:Nat} {T:Top} {r:Ar} {c:Cx} {ρ:Ag} {g g' g₁:G} {σ σ' σ₁ σ₂ σ₃:Ab} {s s':Shared} {e a b:E} {x y v:V} {ws us:List V} {X:Value} {ks:List Nat} {k i f:Nat} {nm:Str}
theorem obj_rep (H:Has T g σ s) (rx:Ak T g (.obj ks) X) {R_:Value->Prop} (k:∀ a mA,s.heap.Inst a T.cls mA->(∀ nm,nm∉Ca->mA nm=none)->Aq (fun (k:Nat) (nm:Str)=>∃ a,g.mu[k]? = some a/\mA nm=some (.ref a)) ks Ca->R_ (.ref a)):R_ X :=
 rx R_ fun a d o mA h1 h2 h3 h4 h5 h6 h7 h8=>k a mA ⟨o,H.fz _ _ h1,h2,h3,.inr ⟨d,h4,h5,h6.to H.fz⟩⟩ h7 h8
theorem att_none (h:nm∈Ca):typeLookup (.type "object") nm=pure none:=by
 rcases List.mem_cons.mp h with rfl | h
 ·rw [typeLookup_type,builtinLookup_eq_fast]; kernel_rfl
 ·rcases List.mem_cons.mp h with rfl | h
  ·rw [typeLookup_type,builtinLookup_eq_fast]; kernel_rfl
  ·rw [List.mem_singleton.mp h,typeLookup_type,builtinLookup_eq_fast]; kernel_rfl
theorem attr_arm {n:Str} {p q:Pos} {nm:Str} {env:Env}:eval (.Attribute (.Name n p) nm q) env=(eval (.Name n p) env>>=fun o=>standAt q.atName>>=fun _=>holding [o] (getAttr o nm true)>>=fun r=>pure r):=rfl
theorem SE.attr (h:SE n (.var i) ρ σ (.obj ks) σ₁) (hi:Ca[f]? = some nm) (hk:ks[f]? = some k):SE n (.attr nm (.var i)) ρ σ (.ref k) σ₁:=fun c g s ex hc I=>hc (fun ex=>c.wp (eval ex c.env) (Ans c.toAr g (.ref k) σ₁) s) fun z q h1=>by
 refine h1 (fun z=>IsE (.var i) c.K z->c.wp (eval (.Attribute z nm q) c.env) (Ans c.toAr g (.ref k) σ₁) s) (fun m p _ h1=>?_) h1
 refine AD attr_arm (Bj h h1 I fun X g₁ s₁ le I1 r1=>wpAny_bind (wpAny_standAt (wpAny_bind (wpAny_holding ?_))))
 obtain ⟨N,mN,C,F⟩:=I1.ok.cls
 have hz:=fun b o e=>I1.has.fz b o (I1.has.base b o e)
 refine ex12 (C.keeps hz).obj fun x1 x2 x3 x4 x5 x6 x7 x8 x9 xa xb xc hC=>?_
 have hm:=List.mem_of_getElem? hi
 refine obj_rep I1.has r1 (R_:=fun X=>c.wp (getAttr X nm true) (fun r s=>wpAny (model c.T.prog c.T.w) c.A (pure r) (Ans c.toAr g (.ref k) σ₁) (fun _ _=>False) s) s₁) fun a mA J hn h8=>?_
 obtain ⟨nm',e,a',e1,e2⟩:=h8.get hk
 obtain rfl:=Av hi e
 exact load_attr hC (C.keeps hz).ns F.ga (F.att _ hm) (att_none hm) J e2 rfl (wpAny_pure (.mk g₁ le (I1.has.tok (s':=⟨s₁.heap,s₁.gens,s₁.drawn,s₁.toks+1,s₁.os⟩)) ⟨a',e1,rfl⟩))
theorem Gy {o:Expr} {nm:Str} {ap p:Pos} {vs:List Expr} {env:Env} {Q E:Value->Shared->Prop} (hb:attributeBase o nm env (eval o env)=eval o env) (hf:methodCallForm (vs.length+([]:List Keyword).length) (backTo p (starEach vs env)) (backToKw p (keywordEach [] env))=true) (hl:(ap.endLine == p.line)=true)
 (h:wpAny (model r.T.prog r.T.w) r.A (eval o env) (fun X s₁=>∀ pl,wpAny (model r.T.prog r.T.w) r.A (getMethod X nm pl) (fun m s2=>wpAny (model r.T.prog r.T.w) r.A (callWith p m.1 m.2 (backTo p (starEach vs env)) []) Q E s2) E s₁) E s):wpAny (model r.T.prog r.T.w) r.A (eval (.Call (.Attribute o nm ap) vs [] p) env) Q E s:=by
 rw [arm_eval_Call,hb]
 refine wpAny_bind (wpAny_mono h (fun X s₁ h₁=>wpAny_bind (wpAny_standAt ?_)) fun _ _ e=>e)
 have hpos:methodCallPos true o env ap p=pure p:=by unfold methodCallPos; rw [hl]; rfl
 unfold methodCall
 rw [hf]
 refine wpAny_bind (wpAny_holding (wpAny_mono (h₁ _) (fun m s2 h2=>wpAny_bind (wpAny_of_eq hpos h2)) fun _ _ e=>e))
theorem mcall_arm {o:Expr} {nm:Str} {ap p:Pos} {vs:List Expr} {env:Env} {Q:Value->Shared->Prop} (hb:attributeBase o nm env (eval o env)=eval o env) (hf:methodCallForm (vs.length+([]:List Keyword).length) (backTo p (starEach vs env)) (backToKw p (keywordEach [] env))=true) (hl:(ap.endLine == p.line)=true)
 (h:r.wp (eval o env) (fun X s₁=>∀ pl,r.wp (getMethod X nm pl) (fun m s2=>r.wp (callWith p m.1 m.2 (backTo p (starEach vs env)) []) Q s2) s₁) s):r.wp (eval (.Call (.Attribute o nm ap) vs [] p) env) Q s:=Gy hb hf hl h
theorem few {vs:List Expr} {p:Pos} {env:Env} (h:Dt b c.K vs) (hl:vs.length < 20):methodCallForm (vs.length+([]:List Keyword).length) (backTo p (starEach vs env)) (backToKw p (keywordEach [] env))=true:=by
 have e:=B5 p env h
 rw [List.any_eq_false] at e
 exact (Bool.and_eq_true _ _).mpr ⟨(Bool.and_eq_true _ _).mpr ⟨List.all_eq_true.mpr fun x hx=>by simpa using e x hx,rfl⟩,decide_eq_true (Nat.lt_trans hl (by decide))⟩
theorem SE.mcall (hb:Dq a) (hm:mtP nm=some f) (ha:SE n a ρ σ (.obj ks) σ₁) (hs:SEs n b ρ σ₁ ws σ₂) (hf:FA n f (.obj ks::ws) σ₂ v σ₃):SE n (.mcall nm a b) ρ σ v σ₃:=fun c g s ex hc I=>hc (fun ex=>c.wp (eval ex c.env) (Ans c.toAr g v σ₃) s) fun z ap vs p h1 h2 h3 h4=>by
 refine mcall_arm (hb h1 _ _ _) (few h2 h4) (decide_eq_true h3) (wpAny_mono (ha c g s z h1 I) (fun X s₁ p1=>p1 _ fun g₁ le1 a1 r1 pl=>?_) fun _ _ h=>h)
 have I1:=I.step le1 a1
 obtain ⟨N,mN,C,F⟩:=I1.ok.cls
 have hz:=fun b o e=>I1.has.fz b o (I1.has.base b o e)
 refine ex12 (C.keeps hz).obj fun x1 x2 x3 x4 x5 x6 x7 x8 x9 xa xb xc hC=>?_
 obtain ⟨na,fa,fo,e1,e2,e3,e4⟩:=F.mt nm f hm
 obtain ⟨o,fd,ho,hd⟩:=I.cx.rd.fnob f fa e1
 refine obj_rep I1.has r1 (R_:=fun X=>Ak c.T g₁ (.obj ks) X->c.wp (getMethod X nm pl) (fun m s2=>c.wp (callWith p m.1 m.2 (backTo p (starEach vs c.env)) []) (Ans c.toAr g v σ₃) s2) s₁) (fun x mA J hn h8 r1=>?_) r1
 refine method_of hC (C.keeps hz).ns F.ga F.ge e2 (hz _ _ e3) e4 (typeLookup_type ..) J (hn nm na) ?_
 exact callWith_function (o:=o) (fd:=fd) (BN (r:=c.toAr) h2 (wpAny_mono (hs c g₁ s₁ vs p h2 I1) (fun Ys s2 p2=>p2 _ fun g2 le2 a2 r2=>⟨⟨(I1.step le2 a2).base _ _ ho,hd⟩,AY (r:=c.toAr) (le1.trans le2) (hf c.toAr g2 s2 fa (.ref x::Ys) e1 (I1.step le2 a2).toAt ⟨Ak.mono le2.toup _ _ r1,r2⟩)⟩) fun _ _ h=>h))
end
end Mine
namespace Mine
open PySem PySem.Calls
noncomputable abbrev dObj:Obj:={ cls:=.type "dict",data:=.dict #[] }
section
variable {n:Nat} {r:Ar} {c:Cx} {ρ:Ag} {g g' g₁:G} {σ σ' σ₁:Ab} {s s':Shared} {nm:Str}
theorem setd_arm {n nm:Str} {p1 p2 p3 p4:Pos} {env:Env}:exec (.Assign [.Attribute (.Name n p1) nm p2] (.Dict [] [] p3) p4) env=(standAt p4>>=fun _=>eval (.Dict [] [] p3) env>>=fun v=>assign (.Attribute (.Name n p1) nm p2) env v>>=fun _=>pure Flow.next):=by
 rw [arm_exec_Assign]
 rfl
structure DH (T:Top) (s₀:Shared) (x dx L:Addr) (m mA:Str->Option Value) (ns:List Str) (Ds:List Addr) (s:Shared):Prop where
 nl:s.heap.Ns L m
 inst:s.heap.Inst x T.cls mA
 dict:∀ o,s.heap.get? x=some o->o.dict=some dx
 keep:∀ b o,s₀.heap.get? b=some o->s.heap.get? b=some o
 newX:s₀.heap.get? x=none
 newD:s₀.heap.get? dx=none
 lx:L≠x
 ld:L≠dx
 ds:∀ D,D∈Ds->s.heap.get? D=some dObj/\s₀.heap.get? D=none/\D≠x/\D≠dx
 nd:Ds.Nodup
 wi:Within mA ns
 gens:s.gens=s₀.gens
 os:s.os=s₀.os
theorem setd_step {T:Top} {env:Env} {v:Str} {x dx N:Addr} {m mN mA:Str->Option Value} {ns:List Str} {Ds:List Addr} {s₀:Shared} {p1 p2 p3 p4:Pos} {Q:Flow->Shared->Prop} {A:Around} (hk:env.scope.kind=.function) (hl:env.kindOf v=some .local) (hb:(v == ("__debug__" : Str))=false) (hm:m v=some (.ref x))
 (C:PyProof.Rows.ClsAt s₀.heap T.cls N mN) (F:ClsNs T mN) (hnm:nm∈Ca) (hz:ns.length<=sizeLine) (M:DH T s₀ x dx env.locals m mA ns Ds s)
 (hq:∀ s' D,DH T s₀ x dx env.locals m (fun y=>if y=nm then some (.ref D) else mA y) (nm::ns) (D::Ds) s'->Q .next s'):wpAny (model T.prog T.w) A (exec (.Assign [.Attribute (.Name v p1) nm p2] (.Dict [] [] p3) p4) env) Q (fun _ _=>False) s:=by
 rw [setd_arm]
 have old:∀ b o,s.heap.get? b=some o->(s.heap.push dObj).get? b=some o:=fun b o e=>Heap.get?_push_of_some _ e
 refine wpAny_bind (wpAny_standAt (wpAny_bind (wpAny_Dict_empty ?_)))
 rw [arm_assign_Attribute]
 refine wpAny_bind (wpAny_bind (wpAny_holding (wpAny_Name (wpAny_loadName_local hk hl (M.nl.keeps old) hm ?_) hb)))
 have C':=C.keeps fun b o e=>old b o (M.keep b o e)
 refine ex12 C'.obj fun x1 x2 x3 x4 x5 x6 x7 x8 x9 xa xb xc hC=>?_
 obtain ⟨oC,eC⟩:∃ o,s₀.heap.get? T.cls=some o:=by
  refine ex12 C.obj fun y1 y2 y3 y4 y5 y6 y7 y8 y9 ya yb yc hC=>?_
  exact ⟨_,hC⟩
 have xC:x≠T.cls:=fun q=>Al M.newX (q▸eC)
 obtain ⟨ox,hx,_⟩:=id M.inst
 have hD:=M.dict ox hx
 refine wpAny_bind (wpAny_standAt (wpAny_bind (wpAny_holding (store_attr PySem.F.store_object hC C'.ns F.se (F.att _ hnm) (att_none hnm) xC (M.inst.keeps old) (fun h' tk' J kp hs=>wpAny_release (wpAny_pure (hq _ s.heap.objs.size ?_))) M.wi hz))))
 have ne:∀ {b},b≠x->b≠dx->∀ o,s.heap.get? b=some o->h'.get? b=some o:=fun {b} q1 q2 o e=>kp b o q1 (fun o0 d e1 e2 q=>q2 (by rw [q]; exact Option.some.inj (e2.symm.trans ((Av (old _ _ hx) e1)▸hD)))) (old b o e)
 have dead:∀ {b o},s.heap.get? b=some o->s.heap.objs.size≠b:=fun e q=>by rw [<-q,AN] at e; exact Ac e
 have ax:=dead hx
 obtain ⟨oD,eD⟩:∃ o,s.heap.get? dx=some o:=by
  obtain ⟨o,h1,_,_,h4 | ⟨d,h4,_,o',_,_,h5,_⟩⟩:=id M.inst
  ·exact Al h4.1 (M.dict o h1)
  ·exact ⟨o',Av h4 (M.dict o h1)▸h5⟩
 have ad:=dead eD
 refine ⟨NsF.to (f:=s.heap.get?) M.nl (ne M.lx M.ld),J,fun o e=>?_,fun b o e=>ne (fun q=>Al M.newX (q▸e)) (fun q=>Al M.newD (q▸e)) o (M.keep b o e),M.newX,M.newD,M.lx,M.ld,all_cons ⟨kp _ _ ax (fun o0 d e1 e2 q=>ad (by rw [q]; exact Av e2 ((Av (old _ _ hx) e1)▸hD))) (Heap.get?_push_size _ rfl),CY fun o e=>dead (M.keep _ _ e) rfl,ax,ad⟩ fun D h=>?_,List.nodup_cons.mpr ⟨fun q=>dead (M.ds _ q).1 rfl,M.nd⟩,M.wi.cons nm _,M.gens,M.os⟩
 ·obtain ⟨o1,e₁,_,_,_,hd⟩:=hs ox (old _ _ hx)
  exact Av e₁ e▸hd dx hD
 ·obtain ⟨q1,q2,q3,q4⟩:=M.ds D h
  exact ⟨ne q3 q4 _ q1,q2,q3,q4⟩
end
end Mine
namespace Mine
open PySem PySem.Calls
noncomputable def initS:S:=.cons (.setd 0 (Str.ofString "held")) (.cons (.setd 0 (Str.ofString "grounds")) (.cons (.setd 0 (Str.ofString "heights")) .nil))
section
variable {n f nv:Nat} {T:Top} {r:Ar} {c:Cx} {ρ:Ag} {g g' g₁:G} {σ σ' σ₁:Ab} {s s':Shared} {nm:Str} {a b:Addr} {o:Obj}
theorem Cz.puts (F:Cz T g b) (ne:b≠a):Cz T (g.put a o) b:=⟨(if_neg ne).trans F.fz,F.hid,F.mu,F.tab⟩
theorem Cz.adds (F:Cz T g b) (ne:b≠a):Cz T (g.add a) b:=⟨F.fz,F.hid,fun q=>(EA q).elim F.mu ne,F.tab⟩
theorem Gp:CK T g (.dictS []) dObj:=fun R_ k=>by
 obtain ⟨o,es,ep,h1,h2,h3,h4,h5,h6⟩:=Heap.DictOf.new (knd:=strKind T.prog T.w) {}
 rw [Heap.get?_push_size _ rfl] at h1
 rw [<-Option.some.inj h1] at h2 h3
 exact k es ep [] h2 h3 h4 h5 h6 trivial (Nat.zero_le _)
theorem made_obj {x dx L D1 D2 D3:Addr} {m:Str->Option Value} {ns:List Str} (H:Has r.T g σ s)
 (M:DH r.T s x dx L m (fun y=>if y=Str.ofString "heights" then some (.ref D3) else if y=Str.ofString "grounds" then some (.ref D2) else if y=Str.ofString "held" then some (.ref D1) else none) ns [D3,D2,D1] s') :
 Ans r g (.obj [σ.length,σ.length+1,σ.length+2]) (σ++[.dictS [],.dictS [],.dictS []]) (.ref x) s':=by
 obtain ⟨ox,hx,hc,hnc,h4 | ⟨d,hd,hne,o',es,ep,h5,h6⟩⟩:=id M.inst
 ·exact Al h4.1 (M.dict ox hx)
 have e:=Av hd (M.dict ox hx)
 rw [e] at hd hne h5
 have nd1:=List.nodup_cons.mp M.nd
 have nd2:=List.nodup_cons.mp nd1.2
 obtain ⟨a3,f3,x3,d3⟩:=M.ds D3 (.head _)
 obtain ⟨a2,f2,x2,d2⟩:=M.ds D2 (.tail _ (.head _))
 obtain ⟨a1,f1,x1,d1⟩:=M.ds D1 (.tail _ (.tail _ (.head _)))
 have H0:=H.keep (s':=s') M.keep M.gens M.os
 have Fx:=H.free M.newX
 have H1:=Fx.put H0 hx
 have Fd:=(H.free M.newD).puts (a:=x) (o:=ox) hne
 have H2:=Fd.put H1 h5
 have F1:=((H.free f1).puts (a:=x) (o:=ox) x1).puts (a:=dx) (o:=o') d1
 have H3:=F1.add (ob:=.dictS []) H2 a1 Gp
 have F2:=(((H.free f2).puts (a:=x) (o:=ox) x2).puts (a:=dx) (o:=o') d2).adds (a:=D1) fun q=>nd2.1 (q▸.head _)
 have H4:=F2.add (ob:=.dictS []) H3 a2 Gp
 have F3:=((((H.free f3).puts (a:=x) (o:=ox) x3).puts (a:=dx) (o:=o') d3).adds (a:=D1) fun q=>nd1.1 (q▸.tail _ (.head _))).adds (a:=D2) fun q=>nd1.1 (q▸.head _)
 have H5:=F3.add (ob:=.dictS []) H4 a3 Gp
 have l2:G.le [] ((g.put x ox).put dx o') (((((g.put x ox).put dx o').add D1).add D2).add D3):=G.le.add.trans (G.le.add.trans .add)
 have le:G.le [] g (((((g.put x ox).put dx o').add D1).add D2).add D3):=(G.le.put Fx.fz).trans ((G.le.put Fd.fz).trans l2)
 have m1:=(G.le.trans (own:=[]) (G.le.add (a:=D2)) (G.le.add (a:=D3))).mu _ _ (H2.addAt (a:=D1))
 have m2:=(G.le.add (own:=[]) (a:=D3)).mu _ _ (H3.addAt (a:=D2))
 have m3:=H4.addAt (a:=D3)
 rw [List.length_append] at m2 m3
 rw [List.length_append] at m3
 rw [List.append_assoc,List.append_assoc] at H5
 refine .mk _ le H5 fun R_ k=>k x dx ox _ (l2.fz _ _ ((G.le.put (own:=[]) Fd.fz).fz _ _ G.put_self)) hc hnc hd hne ⟨o',es,ep,l2.fz _ _ G.put_self,h6⟩ (fun nm hn=>?_) ⟨⟨D1,m1,rfl⟩,⟨D2,m2,rfl⟩,⟨D3,m3,rfl⟩,trivial⟩
 show (if nm=Str.ofString "heights" then some (Value.ref D3) else if nm=Str.ofString "grounds" then some (.ref D2) else if nm=Str.ofString "held" then some (.ref D1) else none)=none
 rw [if_neg fun q=>hn (by rw [q]; exact .tail _ (.tail _ (.head _))),if_neg fun q=>hn (by rw [q]; exact .tail _ (.head _)),if_neg fun q=>hn (by rw [q]; exact .head _)]
theorem EY {K:Kx} {env:Env} {x dx N:Addr} {m mN mA:Str->Option Value} {ns:List Str} {Ds:List Addr} {s₀:Shared} {st:Stmt} {l:List Stmt} {A:Around} {Q:Flow->Shared->Prop} (hk:env.scope.kind=.function) (hv:∀ v,K.vars[0]? = some v->K.kd v .local=true->env.kindOf v=some .local/\m v=some (.ref x))
 (C:PyProof.Rows.ClsAt s₀.heap T.cls N mN) (F:ClsNs T mN) (is:IsS (.setd 0 nm) K st) (hnm:nm∈Ca) (hz:ns.length<=sizeLine) (M:DH T s₀ x dx env.locals m mA ns Ds s)
 (hq:∀ s' D,DH T s₀ x dx env.locals m (fun y=>if y=nm then some (.ref D) else mA y) (nm::ns) (D::Ds) s'->wpAny (model T.prog T.w) A (execs l env) Q (fun _ _=>False) s'):wpAny (model T.prog T.w) A (execs (st::l) env) Q (fun _ _=>False) s :=
 is (fun st=>wpAny (model T.prog T.w) A (execs (st::l) env) Q (fun _ _=>False) s) fun v p1 p2 p3 p4 h=>by
  rw [execs_cons]
  exact wpAny_bind (setd_step hk (hv v h.2.1 h.1).1 h.2.2 (hv v h.2.1 h.1).2 C F hnm hz M hq)
theorem init_run {K:Kx} {env:Env} {x dx N:Addr} {m mN:Str->Option Value} {s₀:Shared} {body:List Stmt} {A:Around} {Q:Flow->Shared->Prop} (hk:env.scope.kind=.function) (hv:∀ v,K.vars[0]? = some v->K.kd v .local=true->env.kindOf v=some .local/\m v=some (.ref x))
 (C:PyProof.Rows.ClsAt s₀.heap T.cls N mN) (F:ClsNs T mN) (is:IsSs initS K body) (M:DH T s₀ x dx env.locals m (fun _=>none) [] [] s)
 (hq:∀ s' D1 D2 D3 ns,DH T s₀ x dx env.locals m (fun y=>if y=Str.ofString "heights" then some (.ref D3) else if y=Str.ofString "grounds" then some (.ref D2) else if y=Str.ofString "held" then some (.ref D1) else none) ns [D3,D2,D1] s'->Q .next s'):wpAny (model T.prog T.w) A (execs body env) Q (fun _ _=>False) s :=
 is (fun body=>wpAny (model T.prog T.w) A (execs body env) Q (fun _ _=>False) s) fun st1 l1 q1 q2=>EY hk hv C F q1 (.head _) (Nat.zero_le _) M fun s1 D1 M1=>q2 (fun l1=>wpAny (model T.prog T.w) A (execs l1 env) Q (fun _ _=>False) s1) fun st2 l2 q3 q4=>EY hk hv C F q3 (.tail _ (.head _)) (by rw [<-A8]; decide) M1 fun s2 D2 M2=>q4 (fun l2=>wpAny (model T.prog T.w) A (execs l2 env) Q (fun _ _=>False) s2) fun st3 l3 q5 q6=>by
  obtain rfl:l3=[]:=q6
  exact EY hk hv C F q5 (.tail _ (.tail _ (.head _))) (by rw [<-A8]; decide) M2 fun s3 D3 M3=>wpAny_execs_nil (hq s3 D1 D2 D3 _ M3)
theorem tc_weight (c:Addr):Code.weight (.builtin "type.__call__" ⟨[.ref c],[]⟩)<=2:=by
 first
  | exact Nat.le_trans (Nat.le_of_eq (show Code.weight (.builtin "type.__call__" ⟨[.ref c],[]⟩)=1 by rfl)) (by decide)
  | exact Nat.le_trans (Nat.le_of_eq (show Code.weight (.builtin "type.__call__" ⟨[.ref c],[]⟩)=0 by rfl)) (by decide)
  | exact Nat.le_of_eq (show Code.weight (.builtin "type.__call__" ⟨[.ref c],[]⟩)=2 by rfl)
theorem new_wp (hm:mtP (Str.ofString "__init__")=some f) (hP:Pg f=some ⟨1,nv,initS⟩) (A:At n r g σ s):r.wp (call (.ref r.T.cls) []) (Ans r g (.obj [σ.length,σ.length+1,σ.length+2]) (σ++[.dictS [],.dictS [],.dictS []])) s:=by
 obtain ⟨N,mN,C,F⟩:=A.ok.cls
 have hz:=fun b o e=>A.has.fz b o (A.has.base b o e)
 refine ex12 (C.keeps hz).obj fun x1 x2 x3 x4 x5 x6 x7 x8 x9 xa xb xc hC=>?_
 obtain ⟨_,fa,fo,e1,e2,e3,e4⟩:=F.mt _ f hm
 refine wpAny_call_obj_init PySem.F.objNew hC (C.keeps hz).ns e2 (hz _ _ e3) e4 fun h' x dx Mk=>A.ok.fns f _ fa hP e1 _ fun fd body o vars lam I=>?_
 have hz':=fun b o e=>Mk.keeps b o (hz b o e)
 refine wpAny_call (codeAny_call_cells (vals:=[.ref x]) ?_ (hz' _ _ I.ob) I.data (A.nolimit.keeps Mk.keeps) (I.code.keeps hz') I.bd (I.bind [.ref x] rfl) I.clo (fun p hp=>?_) (fun s₁ ic=>?_) I.cor I.gen I.kind)
 ·show r.A.depth+Code.weight _ < 1000
  exact Nat.lt_of_le_of_lt (Nat.add_le_add (Nat.le_trans (Nat.le_add_right _ _) A.depth) (tc_weight _)) (by decide)
 ·refine (I.par p.1 (List.of_mem_zip (a:=p.1) (b:=p.2) hp).1).imp id fun h=>⟨h,?_⟩
  obtain ⟨c,q⟩:=Bm (k:=h'.objs.size+1) (acc:=[]) (AZ h)
  obtain ⟨c,q⟩:=D8 q
  rw [q]; rfl
 ·obtain ⟨hh,tk,hs⟩:=ic.toInCall.same
  obtain ⟨ox,hx,hc,hnc,h4 | ⟨d,hd,hne,h5⟩⟩:=id Mk.inst
  ·exact Al h4.1 (Mk.dict ox hx)
  have e:=Av hd (Mk.dict ox hx)
  rw [e] at hd hne h5
  obtain ⟨od,_,_,h6,_⟩:=h5
  have lt:∀ {b o},h'.get? b=some o->h'.objs.size≠b:=fun e q=>by rw [<-q,AN] at e; exact Ac e
  have M0:DH r.T s x dx (callEnvC fd h'.objs.size fa).locals _ (fun _=>none) [] [] s₁:=⟨ic.toInCall.ns,Mk.inst.keeps ic.toInCall.keep,fun o e=>Av (ic.toInCall.keep _ _ hx) e▸hd,fun b o e=>ic.toInCall.keep _ _ (Mk.keeps b o e),Mk.newX,Mk.newD,lt hx,lt h6,(fun _ h=>nomatch h),List.nodup_nil,.nil,by rw [hs],by rw [hs]⟩
  have is:IsSs initS ⟨vars,fd.scope.names,vars,glP,lam⟩ body:=I.is
  have hv:∀ {v},vars[0]? = some v->Kx.kd ⟨vars,fd.scope.names,vars,glP,lam⟩ v .local=true->(callEnvC fd h'.objs.size fa).kindOf v=some .local/\bindL (callEnvC fd h'.objs.size fa).kindOf ((vars.take 1).zip [.ref x]) (fun _=>none) v=some (.ref x):=fun {v} h1 h2=>by
   have h3:(callEnvC fd h'.objs.size fa).kindOf v=some .local:=Kx.kd_eq h2
   exact ⟨h3,(EO (vs:=[.ref x]) (i:=0) (List.Nodup.sublist (List.take_sublist 1 vars) I.nd) (by rw [List.getElem?_take_of_lt Nat.zero_lt_one]; exact h1) rfl).1 h3⟩
  exact wpAny_mono (init_run (T:=r.T) (s₀:=s) I.kind (fun v h1 h2=>hv h1 h2) (C.keeps hz) F is M0 fun s' D1 D2 D3 ns M=>⟨rfl,made_obj A.has M⟩) (fun _ _ h=>h) fun _ _ h=>h.elim
theorem SE.new (hm:mtP (Str.ofString "__init__")=some f) (hP:Pg f=some ⟨1,nv,initS⟩):SE n .new ρ σ (.obj [σ.length,σ.length+1,σ.length+2]) (σ++[.dictS [],.dictS [],.dictS []]):=fun c g s ex hc I=>hc (fun ex=>c.wp (eval ex c.env) (Ans c.toAr g _ _) s) fun nm np es p h1 h2=>by
 obtain rfl:es=[]:=h2
 refine PyProof.Rows.Call_Name rfl (BQ I h1 fun x hv=>?_)
 obtain rfl:x=.ref c.T.cls:=hv
 obtain ⟨N,mN,C,F⟩:=I.ok.cls
 exact PyProof.Rows.callWith_cls0 C (fun b o e=>I.has.fz b o (I.has.base b o e)) (new_wp hm hP I.toAt)
end
end Mine
namespace Mine
open PySem PySem.Calls
section
variable {n:Nat} {K:Kx} {c:Cx} {ρ:Ag} {g g' g₁:G} {σ σ' σ₁:Ab} {s s':Shared} {es:E} {v u w z:V} {ws:List V} {xs:List Nat} {i j l:Nat} {Q:Fl->Ab->Prop} {env:Env}
theorem mem_plain {es:E} {x:Expr}:∀ {vs:List Expr},Dt es K vs->x∈vs->Plain x:=by
 induction es with
 | nil=>intro vs h hx; rw [show vs=[] from h] at hx; exact nomatch hx
 | cons e es _ ih=>exact fun {vs} h hx=>h (fun vs=>x∈vs->Plain x) (fun y l h1 h2 hx=>(List.mem_cons.mp hx).elim (fun q=>q▸BC e h1) (ih h2)) hx
 | _=>exact fun h=>h.elim
theorem swl_some {a b d:Str} {pa pb pd:Pos} {vs:List Expr} {k k':Nat} {p p':Pos} (X:FR n c) (hp:Dt es c.K vs) (h:swlOk c.K a b d pa pb pd vs=true):swappedStores [.Tuple [.Name a pa,.Name b pb,.Name d pd] k p] (.Tuple vs k' p') c.env=pure (some [a,b,d]):=by
 have h0:=Bool.and_eq_true_iff.mp h
 have h1:=Bool.and_eq_true_iff.mp h0.1
 have h3:=Bool.and_eq_true_iff.mp h1.1
 have h4:=Bool.and_eq_true_iff.mp h3.1
 have h5:=Bool.and_eq_true_iff.mp h4.1
 have h6:=Bool.and_eq_true_iff.mp h5.1
 have h7:=Bool.and_eq_true_iff.mp h6.1
 have h8:=Bool.and_eq_true_iff.mp h7.1
 have kd:∀ {x},c.K.kd x .local=true->(c.env.kindOf x == some .local)=true:=fun h=>by rw [AB X.names,Kx.kd_eq h]; rfl
 have hb:c.env.blockKind=.function:=by unfold Env.blockKind; rw [X.kind]; rfl
 have e1:(if (c.env.kindOf a == some .local&&pa.line == pa.line)=true then some a else none)=some a:=if_pos (by rw [kd h8.1,beq_self_eq_true]; rfl)
 have e2:(if (c.env.kindOf b == some .local&&pb.line == pa.line)=true then some b else none)=some b:=if_pos (by rw [kd h8.2,h6.2]; rfl)
 have e3:(if (c.env.kindOf d == some .local&&pd.line == pa.line)=true then some d else none)=some d:=if_pos (by rw [kd h7.2,h5.2]; rfl)
 have q1:(!(([Expr.Name a pa,.Name b pb,.Name d pd].length == 2||[Expr.Name a pa,.Name b pb,.Name d pd].length == 3))||vs.length != 3||c.env.blockKind != .function)=false:=by
  rw [hb,eq_of_beq h3.2]; rfl
 refine (if_neg (by rw [show ([Expr.Name a pa,.Name b pb,.Name d pd].length)=3 from rfl] at q1 ⊢; rw [q1]; exact Bool.false_ne_true)).trans ?_
 refine (if_neg fun q=>?_).trans ?_
 ·obtain ⟨x,hx,e⟩:=List.any_eq_true.mp q
  cases x with
  | Starred z pz=>exact tt_ (congrArg Prod.fst (List.cons.inj ((mem_plain hp hx).star c.env [])).1)
  | _=>exact ff_ e
 ·have key:∀ N:List Str,N=[a,b,d]->(if (N.length != 3||N.eraseDups.length != N.length)=true then (pure none:Sem (Option (List Str))) else if vs.all (foldedForSure 8)=true then pure none else
   if vs.all (constantsAlone 8)=true then unsupported "assign.tuple-of-constant-expressions:order-of-the-stores" else pure (some N))=pure (some [a,b,d]):=fun N hN=>by
   subst hN
   have q3:([a,b,d].length != 3||[a,b,d].eraseDups.length != [a,b,d].length)=false:=by rw [eq_of_beq h4.2]; rfl
   have q4:vs.all (foldedForSure 8)=false:=by simpa using h1.2
   have q5:vs.all (constantsAlone 8)=false:=by simpa using h0.2
   rw [q3,q4,q5]; rfl
  refine key _ ?_
  have fm:∀ {f:Expr->Option Str} {x:Expr} {l:List Expr} {y:Str} {l':List Str},f x=some y->l.filterMap f=l'->(x::l).filterMap f=y::l':=fun h h'=>(List.filterMap_cons_some h).trans (congrArg _ h')
  refine fm ?_ (fm ?_ (fm ?_ rfl))
  ·exact e1
  ·exact e2
  ·exact e3
theorem swl_arm {a b d:Str} {pa pb pd:Pos} {vs:List Expr} {k k':Nat} {p p' pos:Pos} (h:swappedStores [.Tuple [.Name a pa,.Name b pb,.Name d pd] k p] (.Tuple vs k' p') env=pure (some [a,b,d])):exec (.Assign [.Tuple [.Name a pa,.Name b pb,.Name d pd] k p] (.Tuple vs k' p') pos) env =
 (standAt pos>>=fun _=>eval (.Tuple vs k' p') env>>=fun Z=>rule "assign.swapped-stores" >>= fun _=>unpackItems Z 3 none>>=fun items=>assignInOrder [bindName env d,bindName env b,bindName env a] items.reverse>>=fun _=>pure Flow.next):=by
 rw [arm_exec_Assign]
 show (standAt pos>>=fun _=>eval (.Tuple vs k' p') env>>=fun Z=>swappedStores [.Tuple [.Name a pa,.Name b pb,.Name d pd] k p] (.Tuple vs k' p') env>>=_)=_
 rw [h]
 rfl
theorem SS.swl (h3':3<=n) (h:SE n (.tup es) ρ σ v σ₁) (hv:BG v=some [u,w,z]) (hq:Q (.next (((ρ.set l (some z)).set j (some w)).set i (some u))) σ₁):SS n (.swl i j l es) ρ σ Q:=fun c g s x hc I=>hc (fun x=>c.wp (exec x c.env) (AW n c g Q) s) fun a b d pa pb pd k p vs k' p' pos h1 h2=>by
 have h3:IsE (.tup es) c.K (.Tuple vs k' p'):=fun R_ kk=>kk vs k' p' h2
 refine AD (swl_arm (swl_some I.cx h2 h1.2)) (wpAny_bind (wpAny_standAt (Bj h h3 I fun X g₁ s₁ le I1 r1=>?_)))
 refine Cm I1.has r1 hv (R_:=fun X=>c.wp (rule "assign.swapped-stores" >>= fun _=>unpackItems X 3 none>>=fun items=>assignInOrder [bindName c.env d,bindName c.env b,bindName c.env a] items.reverse>>=fun _=>pure Flow.next) (AW n c g Q) s₁) fun t Xs hT hr hn _=>wpAny_bind (wpAny_rule (wpAny_bind ?_))
 obtain ⟨x1,Ys,e1,q1,hr⟩:=hr.cons
 obtain ⟨x2,x3,e2,q2,q3⟩:=hr.two
 rw [e2] at e1
 have hz:3=Xs.size:=hn
 rw [hz]
 refine wpAny_unpackItems_tuple (I1.hh.none h3') hT fun h' he=>?_
 rw [e1]
 have I2:Inv n c ρ g₁ σ₁ { s₁ with heap:=h' }:=I1.step (.refl _ _) (I1.has.keep fun b o e=>he b o (fun q=>by rw [q,AN] at e; exact Ac e) e)
 refine wpAny_bind (wpAny_bind (wpAny_holding (wpAny_bindName (I2.store h1.1.2.2 q3 fun g3 s3 le3 up3 I3=>?_))))
 refine wpAny_bind (wpAny_holding (wpAny_bindName (I3.store h1.1.2.1 (Ak.mono up3 _ _ q2) fun g4 s4 le4 up4 I4=>?_)))
 refine wpAny_bind (wpAny_holding (wpAny_bindName (I4.store h1.1.1 (Ak.mono (up3.trans up4) _ _ q1) fun g5 s5 le5 _ I5=>?_)))
 exact wpAny_pure (wpAny_pure fun R_ k1 _=>k1 _ σ₁ g5 hq (le.toO.trans (le3.trans (le4.trans le5))) I5)
end
end Mine
namespace Mine
open PySem PySem.Calls
noncomputable def Dk (z:Int) (is:List Int):Int:=match is with | []=>z | b::r=>r.foldl (fun a b=>if a < b then b else a) b
noncomputable def maxTo (b:Int) (is:List Int):Int:=is.foldl (fun a b=>if a < b then b else a) b
theorem maxArgs (a v:Value):argsOk "max" ⟨[a],[(Str.ofString "default",v)]⟩:=by unfold argsOk; kernel_rfl
section
variable {prog:Program} {w:World} {A:Around} {R:Result->Shared->Prop} {l I S:Addr} {xs:Array Value} {is:List Int} {d:Value}
structure FF (l I S:Addr) (xs:Array Value) (i:Nat) (bs:Array Value) (h:Heap):Prop where
 it:h.IsListIter I l i
 ls:h.IsList l xs
 bo:∃ c,h.get? S=some { cls:=.type "list",dict:=none,data:=.seq bs c,slots:=#[] }
theorem FF.turned {i:Nat} {bs:Array Value} {h h':Heap} (x:FF l I S xs i bs h) (hlI:l≠I) (hSI:S≠I) (it:h'.IsListIter I l (i+1)) (hs:Heap.SameBut I h h'):FF l I S xs (i+1) bs h':=by
 obtain ⟨o,ho,r⟩:=x.ls
 obtain ⟨c,hc⟩:=x.bo
 exact ⟨it,⟨o,(hs.2 l hlI).trans ho,r⟩,c,(hs.2 S hSI).trans hc⟩
theorem FF.put {i:Nat} {bs bs':Array Value} {h:Heap} (x:FF l I S xs i bs h) (hlS:l≠S) (hSI:S≠I):FF l I S xs i bs' (h.update S (Obj.mapSeq fun _=>bs')):=by
 obtain ⟨o,ho,r⟩:=x.ls
 obtain ⟨c,hc⟩:=x.bo
 refine ⟨x.it.at fun o e=>(Heap.get?_update_other _ _ hSI).trans e,⟨o,(Heap.get?_update_other _ _ (Ne.symm hlS)).trans ho,r⟩,_,Heap.get?_update_self _ hc rfl⟩
theorem max_rest (hh:A.handled=none) (hlI:l≠I) (hSI:S≠I) (hlS:l≠S):∀ (k i:Nat) (s:Shared) (b:Int) (t:Tok),xs.size-i=k->FF l I S xs i #[.int b t,.int b t] s.heap->(∀ (j:Nat) (x:Value),xs[j]? = some x->∃ t,x=Value.int (is.getD j 0) t)->xs.size=is.length ->
 (∀ h' tk t',(∀ a o,a≠I->a≠S->s.heap.get? a=some o->h'.get? a=some o)->R (.ok (.ret (.int (maxTo b (is.drop i)) t'))) { s with heap:=h',toks:=tk }) ->
 codeAny (model prog w) A (.builtin "max.loop" ⟨[.ref I,.none,.ref S],[(Str.ofString "default",d)]⟩) R s:=by
 have hname:(toString "max" ++ toString ".loop" : String) = "max.loop" := by decide
 intro k
 induction k with
 | zero =>
  intro i s b t hk x hx hl hR
  obtain ⟨c,hc⟩:=x.bo
  refine codeAny_builtin F.entry_max_loop ?_
  rw [Around.under_plainId F.plain_max_loop _]
  show wpAny _ A.in1 (seqItems? (.ref S)>>=_) _ _ s
  refine wpAny_bind (wpAny_seqItems hc rfl ?_)
  show wpAny _ A.in1 (tryCatch (pyNext (.ref I)) _>>=_) _ _ s
  refine wpAny_bind (wpAny_tryCatch (wpAny_pyNext_list_end (A:=A.in1) hh x.it x.ls (by rw [Array.getElem?_eq_none_iff]; omega) fun h' hx'=>?_))
  show wpAny _ A.in1 (updateSeq S (fun _=>#[])>>=_) _ _ _
  refine wpAny_bind ?_
  refine wpAny_updateSeq (hx' S _ hSI hc) rfl (wpAny_bind (wpAny_letGo (wpAny_pure ?_)))
  have e:is.drop i=[]:=List.drop_eq_nil_of_le (by omega)
  rw [e] at hR
  exact hR _ _ t fun a o h1 h2 ho=>(Heap.get?_update_other _ _ (Ne.symm h2)).trans (hx' a o h1 ho)
 | succ k ih =>
  intro i s b t hk x hx hl hR
  have hi:i < xs.size:=by omega
  obtain ⟨u,hu⟩:=hx i xs[i] (Array.getElem?_eq_getElem hi)
  obtain ⟨c,hc⟩:=x.bo
  have ed:is.drop i=is.getD i 0::is.drop (i+1):=by
   rw [List.drop_eq_getElem_cons (by omega)]
   simp [List.getElem?_eq_getElem (show i < is.length by omega)]
  refine codeAny_builtin F.entry_max_loop ?_
  rw [Around.under_plainId F.plain_max_loop _]
  show wpAny _ A.in1 (seqItems? (.ref S)>>=_) _ _ s
  refine wpAny_bind (wpAny_seqItems hc rfl ?_)
  show wpAny _ A.in1 (tryCatch (pyNext (.ref I)) _>>=_) _ _ s
  refine wpAny_bind (wpAny_tryCatch (wpAny_pyNext_list_item (A:=A.in1) x.it x.ls (Array.getElem?_eq_getElem hi) fun h' it' hs=>?_))
  have x':=x.turned hlI hSI it' hs
  obtain ⟨c',hc'⟩:=x'.bo
  rw [hu]
  show wpAny _ A.in1 (tryCatch (holding [.int (is.getD i 0) u,.int (is.getD i 0) u] (richCompare .Gt (.int (is.getD i 0) u) (.int b t)>>=_)) _>>=_) _ _ _
  refine wpAny_bind (wpAny_tryCatch (wpAny_holding (wpAny_bind (P.gt_int ?_))))
  refine wpAny_bind (wpAny_holding (wpAny_truthy_bool ?_))
  refine wpAny_bind (wpAny_letGo (wpAny_pure ?_))
  by_cases hb:is.getD i 0 > b
  ·rw [decide_eq_true hb]
   dsimp only; rw [if_pos rfl]
   refine wpAny_bind ?_
   refine wpAny_updateSeq hc' rfl (wpAny_bind (wpAny_letGo ?_))
   rw [hname]
   refine wpAny_pure ⟨plainId_quiet F.plain_max_loop _,ih (i+1) _ (is.getD i 0) u (by omega) (x'.put hlS hSI) hx hl fun h'' tk t' hk'=>?_⟩
   have e2:maxTo b (is.drop i)=maxTo (is.getD i 0) (is.drop (i+1)):=by
    rw [ed]; show (is.drop (i+1)).foldl _ (if b < is.getD i 0 then is.getD i 0 else b)=_; rw [if_pos hb]; rfl
   rw [<-e2]
   exact hR h'' tk t' fun a o h1 h2 ho=>hk' a o h1 h2 ((Heap.get?_update_other _ _ (Ne.symm h2)).trans ((hs.2 a h1).trans ho))
  ·rw [decide_eq_false hb]
   dsimp only; rw [if_neg Bool.false_ne_true]
   refine wpAny_bind (wpAny_letGo ?_)
   rw [hname]
   refine wpAny_pure ⟨plainId_quiet F.plain_max_loop _,ih (i+1) _ b t (by omega) x' hx hl fun h'' tk t' hk'=>?_⟩
   have e2:maxTo b (is.drop i)=maxTo b (is.drop (i+1)):=by
    rw [ed]; show (is.drop (i+1)).foldl _ (if b < is.getD i 0 then is.getD i 0 else b)=_; rw [if_neg (by omega)]; rfl
   rw [<-e2]
   exact hR h'' tk t' fun a o h1 h2 ho=>hk' a o h1 h2 ((hs.2 a h1).trans ho)
theorem max_first {z:Int} {tz:Tok} (hh:A.handled=none) (hlI:l≠I) (hSI:S≠I) (hlS:l≠S) {s:Shared} (x:FF l I S xs 0 #[] s.heap) (hx:∀ (j:Nat) (x:Value),xs[j]? = some x->∃ t,x=Value.int (is.getD j 0) t) (hl:xs.size=is.length)
 (hR:∀ h' tk t',(∀ a o,a≠I->a≠S->s.heap.get? a=some o->h'.get? a=some o)->R (.ok (.ret (.int (Dk z is) t'))) { s with heap:=h',toks:=tk }) :
 codeAny (model prog w) A (.builtin "max.loop" ⟨[.ref I,.none,.ref S],[(Str.ofString "default",.int z tz)]⟩) R s:=by
 have hname:(toString "max" ++ toString ".loop" : String) = "max.loop" := by decide
 obtain ⟨c,hc⟩:=x.bo
 refine codeAny_builtin F.entry_max_loop ?_
 rw [Around.under_plainId F.plain_max_loop _]
 show wpAny _ A.in1 (seqItems? (.ref S)>>=_) _ _ s
 refine wpAny_bind (wpAny_seqItems hc rfl ?_)
 show wpAny _ A.in1 (tryCatch (pyNext (.ref I)) _>>=_) _ _ s
 cases is with
 | nil =>
  refine wpAny_bind (wpAny_tryCatch (wpAny_pyNext_list_end (A:=A.in1) hh x.it x.ls (by rw [Array.getElem?_eq_none_iff,hl]; exact Nat.le_refl _) fun h' hx'=>?_))
  refine wpAny_bind (wpAny_rule (wpAny_pure ?_))
  exact hR _ _ tz fun a o h1 _ ho=>hx' a o h1 ho
 | cons b is =>
  have hi:0 < xs.size:=by rw [hl]; exact Nat.succ_pos _
  obtain ⟨u,hu⟩:=hx 0 xs[0] (Array.getElem?_eq_getElem hi)
  refine wpAny_bind (wpAny_tryCatch (wpAny_pyNext_list_item (A:=A.in1) x.it x.ls (Array.getElem?_eq_getElem hi) fun h' it' hs=>?_))
  have x':=x.turned hlI hSI it' hs
  obtain ⟨c',hc'⟩:=x'.bo
  rw [hu]
  show wpAny _ A.in1 (updateSeq S (fun _=>#[.int b u,.int b u])>>=_) _ _ _
  refine wpAny_bind ?_
  refine wpAny_updateSeq hc' rfl ?_
  rw [hname]
  refine wpAny_pure ⟨plainId_quiet F.plain_max_loop _,max_rest (is:=b::is) hh hlI hSI hlS _ 1 _ b u rfl (x'.put hlS hSI) hx hl fun h'' tk t' hk'=>?_⟩
  exact hR h'' tk t' fun a o h1 h2 ho=>hk' a o h1 h2 ((Heap.get?_update_other _ _ (Ne.symm h2)).trans ((hs.2 a h1).trans ho))
end
section
variable {n:Nat} {T:Top} {r:Ar} {c:Cx} {ρ:Ag} {g g' g₁:G} {σ σ' σ₁ σ₂:Ab} {s s':Shared} {e a b:E} {x y v:V} {X:Value} {k:Int} {is:List Int}
theorem p_inT {u w:Str}:Pr2 (compareOp .In) (.d (.str u)) (.d (.str w)) σ (vb (Txt.contains w u)) σ/\Pr2 (compareOp .NotIn) (.d (.str u)) (.d (.str w)) σ (vb !(Txt.contains w u)) σ :=
 ⟨E8 fun r g s X Y A hx hy Q q=>by
  obtain ⟨t,rfl,_⟩:=hx
  obtain ⟨t',rfl,_⟩:=hy
  exact SB.contains q,
  E8 fun r g s X Y A hx hy Q q=>by
   obtain ⟨t,rfl,_⟩:=hx
   obtain ⟨t',rfl,_⟩:=hy
   exact SB.notContains q⟩
theorem vis_rep:∀ {is:List Int} {xs:List Value},Ao T g (is.map vi) xs->xs.length=is.length/\∀ (j:Nat) (x:Value),xs[j]? = some x->∃ t,x=Value.int (is.getD j 0) t
 | [],xs,h=>by rw [h.nil]; exact ⟨rfl,fun j x h=>Ac h⟩
 | i::is,xs,h=>by
  obtain ⟨x,xs,rfl,⟨t,h1⟩,h2⟩:=h.cons
  have ih:=vis_rep (is:=is) h2
  refine ⟨congrArg (· + 1) ih.1,fun j y hy=>?_⟩
  cases j with
  | zero=>exact ⟨t,(Option.some.inj hy).symm.trans h1⟩
  | succ j=>exact ih.2 j y hy
theorem max_wp {Z:Value} (A:At 3 r g σ s) (h:As σ x=some (is.map vi)) (hx:Ak r.T g x X) (hz:Ak r.T g (vi k) Z):r.wp (call (.builtin "max") [X] [(Str.ofString "default",Z)]) (Ans r g (vi (Dk k is)) σ) s:=by
 obtain ⟨tz,rfl⟩:=hz
 refine A9 A.has hx h (R_:=fun X=>r.wp (call (.builtin "max") [X] [(Str.ofString "default",.int k tz)]) (Ans r g (vi (Dk k is)) σ) s) fun a ys hL hr hn _=>?_
 obtain ⟨h1,h2⟩:=vis_rep hr
 refine PyProof.Rows.kmk_tree F.kind_max F.plain_max F.entry_max (maxArgs _ _) ?_
 show wpAny _ r.A.in1 (Builtin.Builtins.bindParams "max" ["key","default"] 0 ⟨[],[(Str.ofString "default",.int k tz)]⟩>>=_) _ _ s
 refine wpAny_bind (wpAny_of_eq (show Builtin.Builtins.bindParams "max" ["key","default"] 0 ⟨[],[(Str.ofString "default",.int k tz)]⟩=pure [none,some (.int k tz)] from rfl) ?_)
 refine wpAny_bind (wpAny_pure (wpAny_bind (wpAny_pyIter_list hL (wpAny_bind (wpAny_newObj_type ?_)))))
 obtain ⟨o,ho,hc,m,hd⟩:=id hL
 have hlt:=Heap.lt_size ho
 have hname:(toString "max" ++ toString ".loop" : String) = "max.loop" := by decide
 rw [hname]
 have e3:(s.heap.push { cls:=.type "list_iterator",data:=.fields #[.ref a,.int 0 0] }).objs.size=s.heap.objs.size+1:=Heap.size_push ..
 have eS:(s.heap.push { cls:=.type "list_iterator",data:=.fields #[.ref a,.int 0 0] }).objs.size≠s.heap.objs.size:=by rw [e3]; exact Nat.succ_ne_self _
 have eL:a≠(s.heap.push { cls:=.type "list_iterator",data:=.fields #[.ref a,.int 0 0] }).objs.size:=by rw [e3]; exact Nat.ne_of_lt (Nat.lt_succ_of_lt hlt)
 refine wpAny_pure ⟨plainId_quiet F.plain_max_loop _,max_first (A:=r.A) (l:=a) (I:=s.heap.objs.size) (S:=(s.heap.push { cls:=.type "list_iterator",data:=.fields #[.ref a,.int 0 0] }).objs.size) (xs:=ys) (is:=is) (z:=k) (tz:=tz) (A.hh.none (Nat.le_refl _)) (Nat.ne_of_lt hlt) eS eL ?_ (fun j x hj=>h2 j x (by rw [Array.getElem?_toList]; exact hj)) h1 fun h' tk t' hk=>?_⟩
 ·exact ⟨⟨_,Heap.get?_push_of_some _ (Heap.get?_push_size _ rfl),rfl,rfl⟩,⟨o,Heap.get?_push_of_some _ (Heap.get?_push_of_some _ ho),hc,m,hd⟩,0,Heap.get?_push_size _ rfl⟩
 ·exact .refl (A.has.keep (s':={ s with heap:=h',toks:=tk }) fun b o e=>hk b o (fun q=>by rw [q,AN] at e; exact Ac e) (fun q=>by rw [q,e3,Heap.get?_none_of_le (Nat.le_succ _)] at e; exact Ac e) (Heap.get?_push_of_some _ (Heap.get?_push_of_some _ e))) ⟨t',rfl⟩
theorem SE.maxd (hn:3<=n) (ha:SE n a ρ σ x σ₁) (hz:SE n b ρ σ₁ (vi k) σ₂) (h:As σ₂ x=some (is.map vi)):SE n (.maxd a b) ρ σ (vi (Dk k is)) σ₂:=fun c g s ex hc I=>hc (fun ex=>c.wp (eval ex c.env) (Ans c.toAr g (vi (Dk k is)) σ₂) s) fun nm np z y kp p h1 h2 h3=>by
 refine wpAny_bind (BQ I h1 fun f hf=>?_)
 obtain rfl:f=.builtin "max" := hf
 have st:=(BC a h2).star c.env []
 refine PyProof.Rows.callWith_kw (e:=z) (rest:=[]) ?_ (by rw [st]; rfl) (by rw [st]; rfl)
 rw [st]
 refine spliced_cons (wpAny_mono (ha c g s z h2 I) (fun X s₁ p1=>p1 _ fun g₁ le1 a1 r1=>spliced_nil ?_) fun _ _ h=>h)
 have I1:=I.step le1 a1
 refine PyProof.Rows.kws_cons (wpAny_mono (hz c g₁ s₁ y h3 I1) (fun Z s2 p2=>p2 _ fun g2 le2 a2 r2=>PyProof.Rows.kws_nil ?_) fun _ _ h=>h)
 exact AY (r:=c.toAr) (le1.trans le2) (max_wp ((I1.step le2 a2).toAt.less hn) h (Ak.mono le2.toup _ _ r1) r2)
end
end Mine
namespace Mine
set_option maxRecDepth 100000
open PySem PySem.Calls
section
variable {prog:Program} {w:World} {A:Around} {E:Value->Shared->Prop} {s:Shared} {d S:Addr} {kvs:List (Str×Value)} {ep:Nat}
noncomputable abbrev KeyAt (prog:Program) (w:World) (kvs:List (Str×Value)) (i:Nat) (v:Value):Prop:=∃ k x,kvs[i]? = some (k,x)/\(strKind prog w).is k v=true
theorem extend_dict {R:Result->Shared->Prop} (hh:A.handled=none) (hm:s.heap.DictAt (strKind prog w) d kvs ep) (hd:(d == sysModules)=false) (res:Value) (c0:Nat) (hS:s.heap.get? S=some { cls:=.type "list",data:=.seq #[] c0 }) (hdS:d≠S)
 (hR:∀ h' tk acc' c',(∀ b o,b≠S->s.heap.get? b=some o->h'.get? b=some o)->h'.get? S=some { cls:=.type "list",dict:=none,data:=.seq acc' c',slots:=#[] } ->
  ItemsOf (KeyAt prog w kvs) acc' kvs.length->R (.ok (.ret res)) { s with heap:=h',toks:=tk }) (hn:kvs.length<=sizeLine) :
 wpAny (model prog w) A.in1 (Builtin.List.listExtendWith (.ref S) (.ref d) res)
  (fun fin s'=>match fin with | .done f=>R (.ok f) s' | .again c'=>c'.quiet=true/\codeAny (model prog w) A c' R s') (fun e s'=>R (.error e) s') s:=by
 have hSI:S≠s.heap.objs.size:=Nat.ne_of_lt (Heap.lt_size hS)
 have hT:s.TypeIs (.ref d) "dict" := hm.dictOf.typeIs
 obtain ⟨od,hod,hcd⟩:=id hT
 have hdI:d≠s.heap.objs.size:=Nat.ne_of_lt (Heap.lt_size hod)
 have W:=(Walks.dictKeys (prog:=prog) (w:=w) (A:=A.in1) (knd:=strKind prog w) hh s.heap.objs.size d hdI kvs ep).toS
 have hSf:S∉[s.heap.objs.size,d]:=fun q=>(List.mem_cons.mp q).elim hSI fun q=>hdS (List.mem_singleton.mp q).symm
 unfold Builtin.List.listExtendWith
 refine wpAny_bind (wpAny_typeOf (T := "dict") hT ?_)
 have h1:Builtin.List.listSameRef (.ref S) (.ref d)=false:=by simp [Builtin.List.listSameRef,Ne.symm hdS]
 have h2:(Value.type "dict" == Value.type "list")=false:=by decide
 have h3:(Value.type "dict" == Value.type "tuple")=false:=by decide
 simp only [h1,h2,h3,Bool.or_false,Bool.false_eq_true,↓reduceIte]
 refine wpAny_bind (wpAny_pyIter_dict hd hm ?_)
 refine wpAny_bind (wpAny_holding ?_)
 have hT':({ s with heap:=s.heap.push { cls:=.type "dict_keyiterator",data:=.fields #[.ref d,.int 0 0,.int kvs.length 0,.int ep 0] } }:Shared).TypeIs (.ref d) "dict" := ⟨od,Heap.get?_push_of_some _ hod,hcd⟩
 unfold Builtin.List.listLengthHint
 refine wpAny_bind (wpAny_specialOf (T := "dict") hT' F.slot_dict_len.lookup ?_)
 wp_delta
 refine wpAny_bind (wpAny_isInstance (T := "dict") (b:=true) hT' (by rw [isSubtype_type]; kernel_rfl) ?_)
 show wpAny _ _ (typeOf (Value.ref d)>>=_) _ _ _
 refine wpAny_bind (wpAny_typeOf (T := "dict") hT' (wpAny_pure ?_))
 rw [if_pos (by decide)]
 have hS1:=Heap.get?_push_of_some { cls:=.type "dict_keyiterator",data:=.fields #[.ref d,.int 0 0,.int kvs.length 0,.int ep 0] } hS
 refine wpAny_bind (wpAny_rule (wpAny_bind ?_))
 show wpAny _ _ (updateSeq S (·.push .none)>>=fun _=>updateSeq S (·.pop)) _ _ _
 refine wpAny_bind (wpAny_updateSeq hS1 rfl ?_)
 have hS2:=Heap.get?_update_self (Obj.mapSeq (·.push Value.none)) hS1 rfl
 refine wpAny_updateSeq (hz:=by seq_fits) hS2 rfl ?_
 have hS3:=Heap.get?_update_self (Obj.mapSeq (·.pop)) hS2 rfl
 have oth:∀ b o,b≠S->(s.heap.push { cls:=.type "dict_keyiterator",data:=.fields #[.ref d,.int 0 0,.int kvs.length 0,.int ep 0] }).get? b=some o->(((s.heap.push { cls:=.type "dict_keyiterator",data:=.fields #[.ref d,.int 0 0,.int kvs.length 0,.int ep 0] }).update S (Obj.mapSeq (·.push Value.none))).update S (Obj.mapSeq (·.pop))).get? b=some o:=fun b o hb e=>(Heap.get?_update_other _ _ (Ne.symm hb)).trans ((Heap.get?_update_other _ _ (Ne.symm hb)).trans e)
 refine wpAny_pure ⟨plainId_quiet F.plain_extend_loop _,codeAny_extend_loopS W hn _ hSf _ kvs.length 0 _ _ _ rfl (Nat.zero_le _) ?_ hS3 (ItemsOf.nil _) fun s' acc' c' hm hS' hacc=>?_⟩
 ·obtain ⟨o,es,ho,hr⟩:=hm
  exact ⟨⟨_,oth _ _ (Ne.symm hSI) (Heap.get?_push_size _ rfl),rfl,rfl⟩,o,es,oth _ _ hdS (Heap.get?_push_of_some _ ho),hr⟩
 rw [Moved.eq_with hm]
 refine hR s'.heap s'.toks acc' c' (fun b ob hb e=>hm.heap b ob (fun hmem=>?_) (oth b ob hb (Heap.get?_push_of_some _ e))) hS' hacc
 exact (List.mem_cons.mp hmem).elim hb fun hmem=>absurd (Heap.lt_size e) (by rw [List.mem_singleton.mp hmem]; exact Nat.lt_irrefl _)
theorem init_dict {R:Result->Shared->Prop} (hh:A.handled=none) (hm:s.heap.DictAt (strKind prog w) d kvs ep) (hd:(d == sysModules)=false) (hS:s.heap.get? S=some { cls:=.type "list",data:=.seq #[] }) (hdS:d≠S)
 (hR:∀ h' tk acc' c',(∀ b o,b≠S->s.heap.get? b=some o->h'.get? b=some o)->h'.get? S=some { cls:=.type "list",dict:=none,data:=.seq acc' c',slots:=#[] } ->
  ItemsOf (KeyAt prog w kvs) acc' kvs.length->R (.ok (.ret .none)) { s with heap:=h',toks:=tk }) (hn:kvs.length<=sizeLine) :
 wpAny (model prog w) A.in1 (Builtin.«list.__init__» ⟨[.ref S,.ref d],[]⟩)
  (fun fin s'=>match fin with | .done f=>R (.ok f) s' | .again c'=>c'.quiet=true/\codeAny (model prog w) A c' R s') (fun e s'=>R (.error e) s') s:=by
 show wpAny _ _ (do let old <-Builtin.List.listItems (.ref S); Builtin.List.listUpdate (.ref S) (fun _=>#[]); letGo old.toList.reverse; Builtin.List.listExtendWith (.ref S) (.ref d) .none) _ _ s
 refine wpAny_bind ?_
 unfold Builtin.List.listItems
 refine wpAny_bind (wpAny_seqItems hS rfl (wpAny_pure ?_))
 show wpAny _ _ (updateSeq S (fun _=>#[])>>=fun _=>letGo (#[]:Array Value).toList.reverse>>=fun _=>Builtin.List.listExtendWith (.ref S) (.ref d) .none) _ _ s
 refine wpAny_bind (wpAny_updateSeq hS rfl ?_)
 have hS2:=Heap.get?_update_self (Obj.mapSeq (fun _=>(#[]:Array Value))) hS rfl
 have oth:∀ b o,b≠S->s.heap.get? b=some o->(s.heap.update S (Obj.mapSeq (fun _=>(#[]:Array Value)))).get? b=some o :=
  fun b o hb e=>(Heap.get?_update_other _ _ (Ne.symm hb)).trans e
 refine wpAny_bind (wpAny_letGo ?_)
 obtain ⟨o,es,ho,hr⟩:=hm
 exact extend_dict hh ⟨o,es,oth d o hdS ho,hr⟩ hd .none _ hS2 hdS (fun h' tk acc' c' hk hS' hacc=>hR h' tk acc' c' (fun b o hb e=>hk b o hb (oth b o hb e)) hS' hacc) hn
theorem Hb {Q:Value->Shared->Prop} (hh:A.handled=none) (hm:s.heap.DictAt (strKind prog w) d kvs ep) (hd:(d == sysModules)=false) (hn:kvs.length<=sizeLine)
 (hQ:∀ h' tk acc' c',(∀ b o,s.heap.get? b=some o->h'.get? b=some o) ->
  h'.get? s.heap.objs.size=some { cls:=.type "list",dict:=none,data:=.seq acc' c',slots:=#[] } -> ItemsOf (KeyAt prog w kvs) acc' kvs.length->Q (.ref s.heap.objs.size) { s with heap:=h',toks:=tk }) :
 wpAny (model prog w) A (call (.type "list") [.ref d]) Q E s:=by
 refine callType_codes (Q₁:=fun obj s₁=>obj=.ref s.heap.objs.size/\s₁ = { s with heap:=s.heap.push { cls:=.type "list",data:=.seq #[] } }) F.called_list (F.typeCall_list_1 _) F.entry_list_init
  (code_list_new _ ⟨rfl,rfl⟩) fun obj s₁ h₁=>?_
 obtain ⟨rfl,rfl⟩:=h₁
 have hS:(s.heap.push { cls:=.type "list",data:=.seq #[] }).get? s.heap.objs.size=some { cls:=.type "list",data:=.seq #[] }:=Heap.get?_push_size _ rfl
 obtain ⟨o,es,ho,hr⟩:=hm
 refine ⟨⟨_,hS,rfl⟩,F.args_list_init_2 _ _,init_dict (A:=A.in1) hh ⟨o,es,Heap.get?_push_of_some _ ho,hr⟩ hd hS (Nat.ne_of_lt (Heap.lt_size ho)) (fun h' tk acc' c' hk hS' hacc=>?_) hn⟩
 exact ⟨rfl,hQ h' tk acc' c' (fun b o e=>hk b o (Nat.ne_of_lt (Heap.lt_size e)) (Heap.get?_push_of_some _ e)) hS' hacc⟩
end
theorem Aq.ofGet {α β:Type} {R:α->β->Prop}:∀ {as:List α} {bs:List β},as.length=bs.length->(∀ (i:Nat) a b,as[i]? = some a->bs[i]? = some b->R a b)->Aq R as bs
 | [],[],_,_=>trivial
 | a::as,b::bs,h,k=>⟨k 0 a b rfl rfl,Aq.ofGet (Nat.succ.inj h) fun i a b e1 e2=>k (i+1) a b e1 e2⟩
 | [],_::_,h,_=>BK h.symm rfl
 | _::_,[],h,_=>BK h rfl
section
variable {σ:Ab} {k:Nat} {kvs:List (Str×PyData)}
theorem f_listD (h:σ[k]? = some (.dictS kvs)) (hl:∀ p,p∈kvs->p.1.length<=line):PrN1 (fun X=>call (A7 .list) [X]) (.ref k) σ (vss (kvs.map (·.1))) 3:=fun r g s X A hx=>by
 obtain ⟨a,hk,rfl⟩:=hx
 refine A.has.ob k a _ hk h _ fun x hx' rx=>rx _ fun es ep ws ho hd hk' hp hn hr hz=>?_
 have e:ws.length=kvs.length:=hr.length.symm
 refine Hb (d:=a) (kvs:=ws) (A.hh.none (Nat.le_refl _)) ⟨x,es,hx',ho,hd,hk',hp,hn⟩ ((A.less (Nat.zero_le _)).notMods hk) (by rw [<-A8,e]; exact hz) fun h' tk acc c' hkp ha hI=>?_
 refine .made (s':={ s with heap:=h',toks:=tk }) A.has hkp (AN _) ha (Aq.ofGet ?_ fun i v y e1 e2=>?_) ?_
 ·rw [List.length_map,List.length_map,Array.length_toList (xs:=acc),hI.1,e]
 ·obtain ⟨key,z,q1,q2⟩:=hI.2 i y (Array.getElem?_toList.symm.trans e2)
  rw [List.getElem?_map,List.getElem?_map] at e1
  cases e3:kvs[i]? with
  | none=>rw [e3] at e1; exact Ac e1
  | some p =>
   rw [e3] at e1
   obtain ⟨b,e4,e5⟩:=hr.get e3
   have e6:=Av q1 e4
   have hp1:p.1=key:=e5.1.trans (congrArg Prod.fst e6).symm
   obtain ⟨t,rfl⟩:=Value.isStrOf_shape q2
   rw [<-Option.some.inj e1]
   exact ⟨t,by show Value.str key t=Value.str p.1 t; rw [hp1],hl p (List.mem_of_getElem? e3)⟩
 ·rw [List.length_map,List.length_map]; exact hz
end
end Mine
namespace Mine
open PySem PySem.Calls
theorem look_zip:∀ {ns:List Str} {vals:List Value},vals.length=ns.length->∀ {n:Str},n∈ns->((ns.zip vals).lookup n).isNone=false
 | [],_,_,_,h=>nomatch h
 | _::_,[],h,_,_=>BK h.symm rfl
 | a::ns,v::vals,h,n,hn=>by
  rw [List.zip_cons_cons,List.lookup_cons]
  cases e:n == a with
  | true=>rfl
  | false=>exact look_zip (ns:=ns) (Nat.succ.inj h) ((List.mem_cons.mp hn).resolve_left fun q=>by rw [q,beq_self_eq_true] at e; exact tt_ e)
theorem zip_back:∀ {ns:List Str} {vals:List Value},vals.length=ns.length->ns.Nodup->ns.filterMap (fun n=>((ns.zip vals).lookup n).map (n,·))=ns.zip vals
 | [],[],_,_=>rfl
 | [],_::_,h,_=>BK h rfl
 | _::_,[],h,_=>BK h.symm rfl
 | a::ns,v::vals,h,hn=>by
  have hn:=List.nodup_cons.mp hn
  have h0:(((a::ns).zip (v::vals)).lookup a).map (a,·)=some (a,v):=by rw [List.zip_cons_cons,List.lookup_cons,beq_self_eq_true]; rfl
  refine (List.filterMap_cons_some (f:=fun n=>(((a::ns).zip (v::vals)).lookup n).map (n,·)) h0).trans ?_
  show (a,v)::_=(a,v)::ns.zip vals
  refine congrArg _ (Eq.trans ?_ (zip_back (ns:=ns) (vals:=vals) (Nat.succ.inj h) hn.2))
  have e:∀ l:List Str,(∀ x,x∈l->x∈ns)->l.filterMap (fun n=>(List.lookup n ((a,v)::ns.zip vals)).map (n,·))=l.filterMap (fun n=>(List.lookup n (ns.zip vals)).map (n,·)):=by
   intro l hl
   induction l with
   | nil=>rfl
   | cons b l ih =>
    have q:List.lookup b ((a,v)::ns.zip vals)=List.lookup b (ns.zip vals):=by
     rw [List.lookup_cons,beq_false_of_ne fun (q:b=a)=>hn.1 (q▸hl b (.head _))]
    rw [List.filterMap_cons,List.filterMap_cons,q,ih fun x hx=>hl x (.tail _ hx)]
  exact e ns fun _ h=>h
theorem bind_plain {fd:FuncData} {as:List Arg} {kd:List (Option Expr)} {df:List Expr} {vals:List Value} (hp:fd.params=⟨[],as,none,[],kd,none,df⟩) (hd:fd.defaults=.none) (hk:fd.kwdefaults=.none) (h:vals.length=as.length) (hn:(as.map (·.arg)).Nodup) :
 bindArgs fd ⟨vals,[]⟩=pure ((as.map (·.arg)).zip vals):=by
 have hl:vals.length=(as.map (·.arg)).length:=by rw [List.length_map]; exact h
 have h1:(List.filter (fun n=>(List.lookup n ((as.map (·.arg)).zip vals)).isNone) (as.map (·.arg)))=[]:=List.filter_eq_nil_iff.mpr fun n hn=>by rw [look_zip hl hn]; exact Bool.false_ne_true
 have h2:=zip_back hl hn
 have h4:decide (vals.length > (as.map (·.arg)).length)=false:=decide_eq_false (by rw [hl]; exact Nat.lt_irrefl _)
 have h5:notAStandIn .none=pure ():=rfl
 cases fd
 dsimp only at hp hd hk
 subst hp hd hk
 unfold bindArgs seqItems?
 dsimp only [List.map_nil,List.nil_append,List.forIn_nil,List.append_nil,Option.isNone_none,List.length_nil,Option.getD_none]
 simp only [↓List.forIn_nil,↓pure_bind,Bool.and_true,h4,h5,Option.getD_none,Bool.false_eq_true,↓reduceIte,List.length_nil,List.drop_nil,List.zip_nil_right,Nat.sub_zero,List.take_length,h1,List.isEmpty_nil,Bool.not_true,h2,List.append_nil,List.map_nil,List.nil_append]
end Mine
namespace Mine
set_option tactic.hygienic true
set_option backward.match.sparseCases true
set_option genInjectivity true
structure LinB {κ:Type} (lt:κ->κ->Bool):Prop where
 irr:∀ a,lt a a=false
 trans:∀ a b c,lt a b=true->lt b c=true->lt a c=true
 total:∀ a b,lt a b=false->lt b a=false->a=b
theorem D4 {α:Type} {P:α->α->Prop} (asym:∀ a b,P a b->P b a->False):∀ {l l':List α},l.Pairwise P->l'.Pairwise P->l.Perm l'->l=l'
 | [],l',_,_,hp=>(List.nil_perm.mp hp).symm
 | a::l,l',h1,h2,hp=>by
  cases l' with
  | nil=>exact absurd hp.length_eq (by simp)
  | cons b l' =>
   have c1:=List.pairwise_cons.mp h1
   have c2:=List.pairwise_cons.mp h2
   have ab:a=b:=by
    rcases List.mem_cons.mp (hp.mem_iff.mp (.head _)) with e | e
    ·exact e
    ·rcases List.mem_cons.mp (hp.mem_iff.mpr (.head l')) with e' | e'
     ·exact e'.symm
     ·exact (asym _ _ (c1.1 b e') (c2.1 a e)).elim
   subst ab
   rw [D4 asym c1.2 c2.2 (List.Perm.cons_inv hp)]
end Mine
namespace Mine
open PySem
noncomputable def noE:Expr:=.Name ("" : Str) ⟨0,0,0,0⟩
noncomputable def noS:Stmt:=.Pass ⟨0,0,0,0⟩
noncomputable def kids (x:Expr):List Expr :=
 match x with
 | .BinOp l _ r _=>[l,r]
 | .UnaryOp _ y _=>[y]
 | .BoolOp _ vs _=>vs
 | .Compare l _ rs _=>l::rs
 | .Tuple vs _ _=>vs
 | .List vs _=>vs
 | .Subscript v y _=>[v,y]
 | .Call f vs _ _=>f::vs
 | .Attribute y _ _=>[y]
 | .ListComp y gs _ _=>(match gs with | [g]=>y::g.target::g.iter::g.ifs | _=>[])
 | _=>[]
noncomputable def kE (x:Expr) (i:Nat):Expr:=(kids x)[i]?.getD noE
noncomputable def nmE (x:Expr):Str:=match x with | .Name n _=>n | _=>("" : Str)
noncomputable def FK (x:Expr):Nat:=match x with | .Constant _ k _=>k | .Tuple _ k _=>k | _=>0
noncomputable def sliE (x:Expr):Option Expr×Option Expr:=match x with | .Slice l u _ _=>(l,u) | _=>(none,none)
noncomputable def kwE (x:Expr) (i:Nat):Keyword:=match x with | .Call _ _ ks _=>ks[i]?.getD ⟨none,noE,noE.pos⟩ | _=>⟨none,noE,noE.pos⟩
noncomputable def lamE (x:Expr):Arguments×Expr×Scope:=match x with | .Lambda as b sc _=>(as,b,sc) | _=>(⟨[],[],none,[],[],none,[]⟩,noE,default)
noncomputable def argE (as:Arguments):Arg:=as.args[0]?.getD ⟨("" : Str),none,noE.pos⟩
noncomputable def scE (x:Expr):Scope:=match x with | .ListComp _ _ sc _=>sc | _=>default
noncomputable def BU (x:Expr):Expr:=.Name (nmE x) x.pos
noncomputable def kwA (x:Expr):Arg:=argE (lamE (kwE x 0).value).1
noncomputable def kwB (x:Expr):Expr:=(lamE (kwE x 0).value).2.1
noncomputable def kwS (x:Expr):Scope:=(lamE (kwE x 0).value).2.2
noncomputable def emNs (x:Expr):List Nat->Nat->List Expr
 | [],_=>[]
 | _::r,k=>BU (kE x k)::emNs x r (k+1)
noncomputable def emT (ts:List Nat) (x:Expr):Expr :=
 match ts with
 | [_]=>BU x
 | ts=>.Tuple (emNs x ts 0) (FK x) x.pos
noncomputable def em:E->(Expr->Expr)×(Expr->Nat->List Expr)
 | .cst d=>(fun x=>.Constant (toC d) (FK x) x.pos,fun _ _=>[])
 | .var _=>(BU,fun _ _=>[])
 | .ty _=>(BU,fun _ _=>[])
 | .glb _=>(BU,fun _ _=>[])
 | .bin op a b=>(fun x=>.BinOp ((em a).1 (kE x 0)) op ((em b).1 (kE x 1)) x.pos,fun _ _=>[])
 | .neg a=>(fun x=>.UnaryOp .USub ((em a).1 (kE x 0)) x.pos,fun _ _=>[])
 | .not a=>(fun x=>.UnaryOp .Not ((em a).1 (kE x 0)) x.pos,fun _ _=>[])
 | .bop op es=>(fun x=>.BoolOp op ((em es).2 x 0) x.pos,fun _ _=>[])
 | .cmp op a b=>(fun x=>.Compare ((em a).1 (kE x 0)) [op] [(em b).1 (kE x 1)] x.pos,fun _ _=>[])
 | .nil=>(id,fun _ _=>[])
 | .cons a r=>(id,fun x k=>(em a).1 (kE x k)::(em r).2 x (k+1))
 | .tup es=>(fun x=>.Tuple ((em es).2 x 0) (FK x) x.pos,fun _ _=>[])
 | .lst es=>(fun x=>.List ((em es).2 x 0) x.pos,fun _ _=>[])
 | .dct=>(fun x=>.Dict [] [] x.pos,fun _ _=>[])
 | .sub a i=>(fun x=>.Subscript ((em a).1 (kE x 0)) ((em i).1 (kE x 1)) x.pos,fun _ _=>[])
 | .slc a lo hi=>(fun x=>.Subscript ((em a).1 (kE x 0)) (.Slice (if Bg lo then none else some ((em lo).1 ((sliE (kE x 1)).1.getD noE))) (if Bg hi then none else some ((em hi).1 ((sliE (kE x 1)).2.getD noE))) none (kE x 1).pos) x.pos,fun _ _=>[])
 | .bi _ es=>(fun x=>.Call (BU (kE x 0)) ((em es).2 x 1) [] x.pos,fun _ _=>[])
 | .maxd a z=>(fun x=>.Call (BU (kE x 0)) [(em a).1 (kE x 1)] [⟨some (Str.ofString "default"),(em z).1 (kwE x 0).value,(kwE x 0).pos⟩] x.pos,fun _ _=>[])
 | .sortr a=>(fun x=>.Call (BU (kE x 0)) [(em a).1 (kE x 1)] [⟨some (Str.ofString "reverse"),.Constant (.bool true) (FK (kwE x 0).value) (kwE x 0).value.pos,(kwE x 0).pos⟩] x.pos,fun _ _=>[])
 | .sortk rev a _ key=>(fun x=>.Call (BU (kE x 0)) [(em a).1 (kE x 1)] (⟨some (Str.ofString "key"),.Lambda (lamArgs (kwA x).arg (kwA x).pos) ((em key).1 (kwB x)) (kwS x) (kwE x 0).value.pos,(kwE x 0).pos⟩ ::
  bif rev then [⟨some (Str.ofString "reverse"),.Constant (.bool true) (FK (kwE x 1).value) (kwE x 1).value.pos,(kwE x 1).pos⟩] else []) x.pos,fun _ _=>[])
 | .fcall _ es=>(fun x=>.Call (BU (kE x 0)) ((em es).2 x 1) [] x.pos,fun _ _=>[])
 | .meth m o es=>(fun x=>.Call (.Attribute ((em o).1 (kE (kE x 0) 0)) (Str.ofString (D5 m)) (kE x 0).pos) ((em es).2 x 1) [] x.pos,fun _ _=>[])
 | .attr nm o=>(fun x=>.Attribute ((em o).1 (kE x 0)) nm x.pos,fun _ _=>[])
 | .mcall nm o es=>(fun x=>.Call (.Attribute ((em o).1 (kE (kE x 0) 0)) nm (kE x 0).pos) ((em es).2 x 1) [] x.pos,fun _ _=>[])
 | .new=>(fun x=>.Call (BU (kE x 0)) [] [] x.pos,fun _ _=>[])
 | .comp elt ts it ifs=>(fun x=>.ListComp ((em elt).1 (kE x 0)) [⟨emT ts (kE x 1),(em it).1 (kE x 2),(em ifs).2 x 3,0⟩] (scE x) x.pos,fun _ _=>[])
 | .range es=>(fun x=>.Call (BU (kE x 0)) ((em es).2 x 1) [] x.pos,fun _ _=>[])
 | .zip a b=>(fun x=>.Call (BU (kE x 0)) [(em a).1 (kE x 1),(em b).1 (kE x 2)] [] x.pos,fun _ _=>[])
 | .enum a=>(fun x=>.Call (BU (kE x 0)) [(em a).1 (kE x 1)] [] x.pos,fun _ _=>[])
 | .glx _=>(BU,fun _ _=>[])
noncomputable def okNs (K:Kx) (x:Expr):List Nat->Nat->Bool
 | [],_=>true
 | i::r,k=>K.canWr i (nmE (kE x k))&&okNs K x r (k+1)
noncomputable def okT (K:Kx) (ts:List Nat) (x:Expr):Bool :=
 match ts with
 | [i]=>K.canWr i (nmE x)
 | ts=>okNs K x ts 0
noncomputable def no1 (_:Expr):Bool:=false
noncomputable def no2 (_:Expr) (_:Nat):Bool:=false
noncomputable def okAt (apos pos:Pos) (n:Nat):Bool:=apos.endLine == pos.line&&Nat.blt n 20
noncomputable def ok:E->Kx->(Expr->Bool)×(Expr->Nat->Bool)
 | .cst d,_=>(fun _=>cOk d,no2)
 | .var i,K=>(fun x=>K.isVar (nmE x)&&K.isAt i (nmE x),no2)
 | .ty t,K=>(fun x=>Ed K (.ty t) (nmE x),no2)
 | .glb d,K=>(fun x=>Ed K (.cst d) (nmE x),no2)
 | .bin _ a b,K=>(fun x=>(ok a K).1 (kE x 0)&&(ok b K).1 (kE x 1),no2)
 | .neg a,K=>(fun x=>(ok a K).1 (kE x 0),no2)
 | .not a,K=>(fun x=>(ok a K).1 (kE x 0),no2)
 | .bop _ es,K=>(fun x=>(ok es K).2 x 0,no2)
 | .cmp _ a b,K=>(fun x=>(ok a K).1 (kE x 0)&&(ok b K).1 (kE x 1),no2)
 | .nil,_=>(no1,fun _ _=>true)
 | .cons a r,K=>(no1,fun x k=>(ok a K).1 (kE x k)&&(ok r K).2 x (k+1))
 | .tup es,K=>(fun x=>(ok es K).2 x 0,no2)
 | .lst es,K=>(fun x=>(ok es K).2 x 0,no2)
 | .dct,_=>(fun _=>true,no2)
 | .sub a i,K=>(fun x=>(ok a K).1 (kE x 0)&&(ok i K).1 (kE x 1),no2)
 | .slc a lo hi,K=>(fun x=>(ok a K).1 (kE x 0)&&((Bg lo||(ok lo K).1 ((sliE (kE x 1)).1.getD noE))&&(Bg hi||(ok hi K).1 ((sliE (kE x 1)).2.getD noE))),no2)
 | .bi b es,K=>(fun x=>Ed K (biGV b) (nmE (kE x 0))&&(ok es K).2 x 1,no2)
 | .maxd a z,K=>(fun x=>Ed K (.bi .max) (nmE (kE x 0))&&((ok a K).1 (kE x 1)&&(ok z K).1 (kwE x 0).value),no2)
 | .sortr a,K=>(fun x=>Ed K (.bi .sorted) (nmE (kE x 0))&&(ok a K).1 (kE x 1),no2)
 | .sortk _ a i key,K=>(fun x=>Ed K (.bi .sorted) (nmE (kE x 0))&&((ok a K).1 (kE x 1)&&(lamOk K i (kwA x).arg (kwS x)&&(ok key (K.lsub (kwA x).arg (kwS x))).1 (kwB x))),no2)
 | .fcall f es,K=>(fun x=>Ed K (.fn f) (nmE (kE x 0))&&(ok es K).2 x 1,no2)
 | .meth _ o es,K=>(fun x=>(ok o K).1 (kE (kE x 0) 0)&&((ok es K).2 x 1&&okAt (kE x 0).pos x.pos ((em es).2 x 1).length),no2)
 | .attr _ o,K=>(fun x=>(ok o K).1 (kE x 0),no2)
 | .mcall _ o es,K=>(fun x=>(ok o K).1 (kE (kE x 0) 0)&&((ok es K).2 x 1&&okAt (kE x 0).pos x.pos ((em es).2 x 1).length),no2)
 | .new,K=>(fun x=>Ed K .cls (nmE (kE x 0)),no2)
 | .comp elt ts it ifs,K=>(fun x=>(ok it K).1 (kE x 2)&&((FT K ts (scE x)&&Fz ts it)&&(okT (K.sub ts (scE x)) ts (kE x 1)&&((ok elt (K.sub ts (scE x))).1 (kE x 0)&&(ok ifs (K.sub ts (scE x))).2 x 3))),no2)
 | .range es,K=>(fun x=>Ed K (.ty "range") (nmE (kE x 0))&&(ok es K).2 x 1,no2)
 | .zip a b,K=>(fun x=>Ed K (.ty "zip") (nmE (kE x 0))&&((ok a K).1 (kE x 1)&&(ok b K).1 (kE x 2)),no2)
 | .enum a,K=>(fun x=>Ed K (.ty "enumerate") (nmE (kE x 0))&&(ok a K).1 (kE x 1),no2)
 | .glx k,K=>(fun x=>Ed K (.exc k) (nmE x),no2)
section
variable {K:Kx} {x:Expr} {k:Nat}
theorem not_tt {b:Bool} (h:(!b)=true):b=false:=by cases b with | true=>exact ff_ h | false=>rfl
theorem Ap {a b:Bool} (h:(a&&b)=true):a=true:=(Bool.and_eq_true_iff.mp h).1
theorem Af {a b:Bool} (h:(a&&b)=true):b=true:=(Bool.and_eq_true_iff.mp h).2
theorem dataIs_eq {a b:PyData} (h:Fs a b=true):a=b:=by
 cases a with
 | int i=>cases b with
  | int j=>rw [eq_of_beq (show (i == j)=true from h)]
  | _=>exact ff_ h
 | str i=>cases b with
  | str j=>rw [eq_of_beq (show (i == j)=true from h)]
  | _=>exact ff_ h
 | _=>exact ff_ h
theorem gvIs_eq {v w:GV} (h:gvIs v w=true):v=w:=by
 cases v with
 | fn f=>cases w with
  | fn g=>rw [eq_of_beq (show (f == g)=true from h)]
  | _=>exact ff_ h
 | bi f=>cases w with
  | bi g=>cases f <;> cases g <;> first | rfl | exact ff_ h
  | _=>exact ff_ h
 | ty f=>cases w with
  | ty g=>rw [eq_of_beq (show (f == g)=true from h)]
  | _=>exact ff_ h
 | cst f=>cases w with
  | cst g=>rw [dataIs_eq (show Fs f g=true from h)]
  | _=>exact ff_ h
 | cls=>cases w with
  | cls=>rfl
  | _=>exact ff_ h
 | exc f=>cases w with
  | exc g=>rw [eq_of_beq (show (f == g)=true from h)]
  | _=>exact ff_ h
theorem Bh {v:GV} {n:Str} (h:Ed K v n=true):K.to v n:=by
 refine ⟨Ap h,?_⟩
 have h:=Af h
 cases e:K.gl n with
 | none=>rw [e] at h; exact ff_ h
 | some w=>rw [e] at h; rw [gvIs_eq (show gvIs w v=true from h)]
theorem isAt_of {i:Nat} {n:Str} (h:K.isAt i n=true):K.vars[i]? = some n:=by
 have h:(match K.vars[i]? with | some m=>m == n | none=>false)=true:=h
 cases e:K.vars[i]? with
 | none=>rw [e] at h; exact ff_ h
 | some m=>rw [e] at h; rw [eq_of_beq (show (m == n)=true from h)]
theorem EE:∀ {ts:List Nat} {k:Nat},okNs K x ts k=true->IsNs K ts (emNs x ts k)
 | [],_,_=>rfl
 | _::_,_,h=>fun R_ f=>f _ _ _ (Ap h) (EE (Af h))
theorem isT_of {ts:List Nat} (h:okT K ts x=true):IsT K ts (emT ts x):=fun R_ h1 h2=>by
 match ts,h with
 | [],h=>exact h2 _ _ _ (fun q=>nomatch q) (EE h)
 | [i],h=>exact h1 i _ _ h
 | i::j::l,h=>exact h2 _ _ _ (fun q=>nomatch q) (EE h)
theorem at_of {a p:Pos} {n:Nat} (h:okAt a p n=true):a.endLine=p.line/\n < 20:=⟨eq_of_beq (Ap h),Nat.blt_eq.mp (Af h)⟩
theorem opt_of {A:Expr->Prop} {e:E} {t:Expr} {b:Bool} (h:(Bg e||b)=true) (hb:b=true->A t):(if Bg e then IsNone else IsSome A) (if Bg e then none else some t):=by
 by_cases q:Bg e=true
 ·rw [if_pos q,if_pos q]; rfl
 ·rw [if_neg q,if_neg q]
  rw [Bool.not_eq_true] at q
  rw [q] at h
  exact fun R_ k=>k _ (hb h)
end
theorem A1:∀ e:E,(∀ K x,(ok e K).1 x=true->(Is e K).1 ((em e).1 x))/\(∀ K x k,(ok e K).2 x k=true->(Is e K).2 ((em e).2 x k))
 | .cst d=>⟨fun K x h R_ k=>k _ _ h,fun _ _ _ h=>ff_ h⟩
 | .var i=>⟨fun K x h R_ k=>k _ _ ⟨Ap h,isAt_of (Af h)⟩,fun _ _ _ h=>ff_ h⟩
 | .ty t=>⟨fun K x h R_ k=>k _ _ (Bh h),fun _ _ _ h=>ff_ h⟩
 | .glb d=>⟨fun K x h R_ k=>k _ _ (Bh h),fun _ _ _ h=>ff_ h⟩
 | .bin op a b=>⟨fun K x h R_ k=>k _ _ _ ((A1 a).1 K _ (Ap h)) ((A1 b).1 K _ (Af h)),fun _ _ _ h=>ff_ h⟩
 | .neg a=>⟨fun K x h R_ k=>k _ _ ((A1 a).1 K _ h),fun _ _ _ h=>ff_ h⟩
 | .not a=>⟨fun K x h R_ k=>k _ _ ((A1 a).1 K _ h),fun _ _ _ h=>ff_ h⟩
 | .bop op es=>⟨fun K x h R_ k=>k _ _ ((A1 es).2 K _ _ h),fun _ _ _ h=>ff_ h⟩
 | .cmp op a b=>⟨fun K x h R_ k=>k _ _ _ ((A1 a).1 K _ (Ap h)) ((A1 b).1 K _ (Af h)),fun _ _ _ h=>ff_ h⟩
 | .nil=>⟨fun _ _ h=>ff_ h,fun _ _ _ _=>rfl⟩
 | .cons a r=>⟨fun _ _ h=>ff_ h,fun K x _ h R_ k=>k _ _ ((A1 a).1 K _ (Ap h)) ((A1 r).2 K _ _ (Af h))⟩
 | .tup es=>⟨fun K x h R_ k=>k _ _ _ ((A1 es).2 K _ _ h),fun _ _ _ h=>ff_ h⟩
 | .lst es=>⟨fun K x h R_ k=>k _ _ ((A1 es).2 K _ _ h),fun _ _ _ h=>ff_ h⟩
 | .dct=>⟨fun K x h R_ k=>k _,fun _ _ _ h=>ff_ h⟩
 | .sub a i=>⟨fun K x h R_ k=>k _ _ _ ((A1 a).1 K _ (Ap h)) ((A1 i).1 K _ (Af h)),fun _ _ _ h=>ff_ h⟩
 | .slc a lo hi=>⟨fun K x h R_ k=>k _ _ _ _ _ ((A1 a).1 K _ (Ap h)) (opt_of (Ap (Af h)) ((A1 lo).1 K _)) (opt_of (Af (Af h)) ((A1 hi).1 K _)),fun _ _ _ h=>ff_ h⟩
 | .bi b es=>⟨fun K x h R_ k=>k _ _ _ _ (Bh (Ap h)) ((A1 es).2 K _ _ (Af h)),fun _ _ _ h=>ff_ h⟩
 | .maxd a z=>⟨fun K x h R_ k=>k _ _ _ _ _ _ (Bh (Ap h)) ((A1 a).1 K _ (Ap (Af h))) ((A1 z).1 K _ (Af (Af h))),fun _ _ _ h=>ff_ h⟩
 | .sortr a=>⟨fun K x h R_ k=>k _ _ _ _ _ _ _ (Bh (Ap h)) ((A1 a).1 K _ (Af h)),fun _ _ _ h=>ff_ h⟩
 | .sortk rev a i key=>⟨fun K x h R_ k=>k _ _ _ _ _ _ _ _ _ _ _ _ _ (Bh (Ap h)) ((A1 a).1 K _ (Ap (Af h))) ⟨Ap (Af (Af h)),(A1 key).1 _ _ (Af (Af (Af h)))⟩,fun _ _ _ h=>ff_ h⟩
 | .fcall f es=>⟨fun K x h R_ k=>k _ _ _ _ (Bh (Ap h)) ((A1 es).2 K _ _ (Af h)),fun _ _ _ h=>ff_ h⟩
 | .meth m o es=>⟨fun K x h R_ k=>k _ _ _ _ ((A1 o).1 K _ (Ap h)) ((A1 es).2 K _ _ (Ap (Af h))) (at_of (Af (Af h))).1 (at_of (Af (Af h))).2,fun _ _ _ h=>ff_ h⟩
 | .attr nm o=>⟨fun K x h R_ k=>k _ _ ((A1 o).1 K _ h),fun _ _ _ h=>ff_ h⟩
 | .mcall nm o es=>⟨fun K x h R_ k=>k _ _ _ _ ((A1 o).1 K _ (Ap h)) ((A1 es).2 K _ _ (Ap (Af h))) (at_of (Af (Af h))).1 (at_of (Af (Af h))).2,fun _ _ _ h=>ff_ h⟩
 | .new=>⟨fun K x h R_ k=>k _ _ _ _ (Bh h) rfl,fun _ _ _ h=>ff_ h⟩
 | .comp elt ts it ifs=>⟨fun K x h R_ k=>k _ _ _ _ _ _ ((A1 it).1 K _ (Ap h)) ⟨Ap (Ap (Af h)),Af (Ap (Af h))⟩ (isT_of (Ap (Af (Af h)))) ((A1 elt).1 _ _ (Ap (Af (Af (Af h))))) ((A1 ifs).2 _ _ _ (Af (Af (Af (Af h))))),fun _ _ _ h=>ff_ h⟩
 | .range es=>⟨fun K x h R_ k=>k _ _ _ _ (Bh (Ap h)) ((A1 es).2 K _ _ (Af h)),fun _ _ _ h=>ff_ h⟩
 | .zip a b=>⟨fun K x h R_ k=>k _ _ _ _ (Bh (Ap h)) fun R_ k=>k _ _ ((A1 a).1 K _ (Ap (Af h))) fun R_ k=>k _ _ ((A1 b).1 K _ (Af (Af h))) rfl,fun _ _ _ h=>ff_ h⟩
 | .enum a=>⟨fun K x h R_ k=>k _ _ _ _ (Bh (Ap h)) fun R_ k=>k _ _ ((A1 a).1 K _ (Af h)) rfl,fun _ _ _ h=>ff_ h⟩
 | .glx j=>⟨fun K x h R_ k=>k _ _ (Bh h),fun _ _ _ h=>ff_ h⟩
end Mine
namespace Mine
open PySem
noncomputable def stE (st:Stmt):List Expr :=
 match st with
 | .Assign ts v _=>v::ts
 | .Expr v _=>[v]
 | .If t _ _ _=>[t]
 | .While t _ _ _=>[t]
 | .For t i _ _ _=>[t,i]
 | .Return v _=>(match v with | some v=>[v] | none=>[])
 | .Raise v _ _=>(match v with | some v=>[v] | none=>[])
 | .Try _ hs _ _ _=>(match hs with | h::_=>(match h with | .ExceptHandler t _ _ _=>(match t with | some t=>[t] | none=>[])) | []=>[])
 | _=>[]
noncomputable def hPos (st:Stmt):Pos:=match st with | .Try _ hs _ _ _=>(match hs with | h::_=>(match h with | .ExceptHandler _ _ _ p=>p) | []=>st.pos) | _=>st.pos
noncomputable def stB (st:Stmt):List Stmt×List Stmt :=
 match st with
 | .If _ x y _=>(x,y)
 | .For _ _ b _ _=>(b,[])
 | .While _ b _ _=>(b,[])
 | .Try b hs _ _ _=>(b,match hs with | h::_=>(match h with | .ExceptHandler _ _ b _=>b) | []=>[])
 | _=>([],[])
noncomputable def sE (st:Stmt) (i:Nat):Expr:=(stE st)[i]?.getD noE
noncomputable def hsS (st:Stmt):List ExceptHandler:=match st with | .Try _ hs _ _ _=>hs | _=>[]
noncomputable def noH:ExceptHandler:=.ExceptHandler none none [] noS.pos
noncomputable def hdT (h:ExceptHandler):Expr:=match h with | .ExceptHandler t _ _ _=>t.getD noE
noncomputable def hdN (h:ExceptHandler):Str:=match h with | .ExceptHandler _ n _ _=>n.getD ("" : Str)
noncomputable def hdB (h:ExceptHandler):Stmt:=match h with | .ExceptHandler _ _ b _=>b.headD noS
noncomputable def hdP (h:ExceptHandler):Pos:=match h with | .ExceptHandler _ _ _ p=>p
noncomputable def emH:List (Nat×Nat×E)->List ExceptHandler->List ExceptHandler
 | [],_=>[]
 | (_,_,e)::r,l=>.ExceptHandler (some (BU (hdT (l.headD noH)))) (some (hdN (l.headD noH))) [.Return (some ((em e).1 (sE (hdB (l.headD noH)) 0))) (hdB (l.headD noH)).pos] (hdP (l.headD noH))::emH r l.tail
noncomputable def okH (K:Kx):List (Nat×Nat×E)->List ExceptHandler->Bool
 | [],_=>true
 | (k,i,e)::r,l=>(Ed K (.exc k) (nmE (hdT (l.headD noH)))&&((K.canWr i (hdN (l.headD noH))&&K.kd (hdN (l.headD noH)) .local)&&(ok e K).1 (sE (hdB (l.headD noH)) 0)))&&okH K r l.tail
theorem isH_of {K:Kx}:∀ {hs:List (Nat×Nat×E)} {l:List ExceptHandler},okH K hs l=true->IsHs K hs (emH hs l)
 | [],_,_=>rfl
 | (_,_,e)::_,_,h=>fun R_ f=>f _ _ _ _ _ _ _ (Bh (Ap (Ap h))) ⟨Ap (Ap (Af (Ap h))),Af (Ap (Af (Ap h)))⟩ ((A1 e).1 K _ (Af (Af (Ap h)))) (isH_of (Af h))
noncomputable def emS:S->(Stmt->Stmt)×(List Stmt->List Stmt)
 | .any=>(id,id)
 | .nil=>(id,fun _=>[])
 | .cons s r=>(id,fun l=>(emS s).1 (l.headD noS)::(emS r).2 l.tail)
 | .asg _ e=>(fun st=>.Assign [BU (sE st 1)] ((em e).1 (sE st 0)) st.pos,id)
 | .unp xs e=>(fun st=>.Assign [.Tuple (emNs (sE st 1) xs 0) (FK (sE st 1)) (sE st 1).pos] ((em e).1 (sE st 0)) st.pos,id)
 | .swp xs es=>(fun st=>.Assign [.Tuple (emNs (sE st 1) xs 0) (FK (sE st 1)) (sE st 1).pos] (.Tuple ((em es).2 (sE st 0) 0) (FK (sE st 0)) (sE st 0).pos) st.pos,id)
 | .set o i v=>(fun st=>.Assign [.Subscript ((em o).1 (kE (sE st 1) 0)) ((em i).1 (kE (sE st 1) 1)) (sE st 1).pos] ((em v).1 (sE st 0)) st.pos,id)
 | .exp e=>(fun st=>.Expr ((em e).1 (sE st 0)) st.pos,id)
 | .ite c a b=>(fun st=>.If ((em c).1 (sE st 0)) ((emS a).2 (stB st).1) ((emS b).2 (stB st).2) st.pos,id)
 | .for_ ts it body=>(fun st=>.For (emT ts (sE st 0)) ((em it).1 (sE st 1)) ((emS body).2 (stB st).1) [] st.pos,id)
 | .while_ c body=>(fun st=>.While ((em c).1 (sE st 0)) ((emS body).2 (stB st).1) [] st.pos,id)
 | .ret e=>(fun st=>.Return (some ((em e).1 (sE st 0))) st.pos,id)
 | .rse _ es=>(fun st=>.Raise (some (.Call (BU (kE (sE st 0) 0)) ((em es).2 (sE st 0) 1) [] (sE st 0).pos)) none st.pos,id)
 | .try_ b _ h=>(fun st=>.Try ((emS b).2 (stB st).1) [.ExceptHandler (some (BU (sE st 0))) none ((emS h).2 (stB st).2) (hPos st)] [] [] st.pos,id)
 | .tryAs b hs=>(fun st=>.Try ((emS b).2 (stB st).1) (emH hs (hsS st)) [] [] st.pos,id)
 | .sw2 _ _ es=>(fun st=>.Assign [.Tuple [BU (kE (sE st 1) 0),BU (kE (sE st 1) 1)] (FK (sE st 1)) (sE st 1).pos] (.Tuple ((em es).2 (sE st 0) 0) (FK (sE st 0)) (sE st 0).pos) st.pos,id)
 | .setd _ nm=>(fun st=>.Assign [.Attribute (BU (kE (sE st 1) 0)) nm (sE st 1).pos] (.Dict [] [] (sE st 0).pos) st.pos,id)
 | .swl _ _ _ es=>(fun st=>.Assign [.Tuple [BU (kE (sE st 1) 0),BU (kE (sE st 1) 1),BU (kE (sE st 1) 2)] (FK (sE st 1)) (sE st 1).pos] (.Tuple ((em es).2 (sE st 0) 0) (FK (sE st 0)) (sE st 0).pos) st.pos,id)
noncomputable def noL (_:List Stmt):Bool:=false
noncomputable def okS:S->Kx->(Stmt->Bool)×(List Stmt->Bool)
 | .any,_=>(fun _=>true,fun _=>true)
 | .nil,_=>(fun _=>false,fun _=>true)
 | .cons s r,K=>(fun _=>false,fun l=>(okS s K).1 (l.headD noS)&&(okS r K).2 l.tail)
 | .asg x e,K=>(fun st=>K.canWr x (nmE (sE st 1))&&((ok e K).1 (sE st 0)&&(bif B1 e then swapC K (nmE (sE st 1)) (sE st 1).pos ((em e).1 (sE st 0)) else true)),noL)
 | .unp xs e,K=>(fun st=>okNs K (sE st 1) xs 0&&(ok e K).1 (sE st 0),noL)
 | .swp xs es,K=>(fun st=>okNs K (sE st 1) xs 0&&((cellAmong K (emNs (sE st 1) xs 0)&&Nat.beq xs.length 3)&&(ok es K).2 (sE st 0) 0),noL)
 | .set o i v,K=>(fun st=>(ok v K).1 (sE st 0)&&((ok o K).1 (kE (sE st 1) 0)&&(ok i K).1 (kE (sE st 1) 1)),noL)
 | .exp e,K=>(fun st=>(ok e K).1 (sE st 0),noL)
 | .ite c a b,K=>(fun st=>(ok c K).1 (sE st 0)&&((okS a K).2 (stB st).1&&(okS b K).2 (stB st).2),noL)
 | .for_ ts it body,K=>(fun st=>(okT K ts (sE st 0)&&Fz ts it)&&((ok it K).1 (sE st 1)&&(okS body K).2 (stB st).1),noL)
 | .while_ c body,K=>(fun st=>(ok c K).1 (sE st 0)&&(okS body K).2 (stB st).1,noL)
 | .ret e,K=>(fun st=>(ok e K).1 (sE st 0),noL)
 | .rse k es,K=>(fun st=>Ed K (.exc k) (nmE (kE (sE st 0) 0))&&((ok es K).2 (sE st 0) 1&&Nat.blt ((em es).2 (sE st 0) 1).length 20),noL)
 | .try_ b k h,K=>(fun st=>Ed K (.exc k) (nmE (sE st 0))&&((okS b K).2 (stB st).1&&((okS h K).2 (stB st).2 && !((emS h).2 (stB st).2).isEmpty)),noL)
 | .tryAs b hs,K=>(fun st=>(okS b K).2 (stB st).1&&(okH K hs (hsS st) && !hs.isEmpty),noL)
 | .sw2 i j es,K=>(fun st=>(K.canWr i (nmE (kE (sE st 1) 0))&&K.canWr j (nmE (kE (sE st 1) 1)))&&(sw2Ok K (nmE (kE (sE st 1) 0)) (nmE (kE (sE st 1) 1)) (kE (sE st 1) 0).pos (kE (sE st 1) 1).pos ((em es).2 (sE st 0) 0)&&(ok es K).2 (sE st 0) 0),noL)
 | .setd x _,K=>(fun st=>K.kd (nmE (kE (sE st 1) 0)) .local&&(K.isAt x (nmE (kE (sE st 1) 0)) && !(nmE (kE (sE st 1) 0) == ("__debug__" : Str))),noL)
 | .swl i j l es,K=>(fun st=>(K.canWr i (nmE (kE (sE st 1) 0))&&(K.canWr j (nmE (kE (sE st 1) 1))&&K.canWr l (nmE (kE (sE st 1) 2))))&&(swlOk K (nmE (kE (sE st 1) 0)) (nmE (kE (sE st 1) 1)) (nmE (kE (sE st 1) 2)) (kE (sE st 1) 0).pos (kE (sE st 1) 1).pos (kE (sE st 1) 2).pos ((em es).2 (sE st 0) 0)&&(ok es K).2 (sE st 0) 0),noL)
theorem CI:∀ (e:S),(∀ K x,(okS e K).1 x=true->(Iss e K).1 ((emS e).1 x))/\(∀ K x,(okS e K).2 x=true->(Iss e K).2 ((emS e).2 x))
 | .any=>⟨fun _ _ _=>trivial,fun _ _ _=>trivial⟩
 | .nil=>⟨fun _ _ h=>ff_ h,fun _ _ _=>rfl⟩
 | .cons s r=>⟨fun _ _ h=>ff_ h,fun K l h R_ k=>k _ _ ((CI s).1 K _ (Ap h)) ((CI r).2 K _ (Af h))⟩
 | .asg x e=>⟨fun K st h R_ k=>k _ _ _ _ (Ap h) ((A1 e).1 K _ (Ap (Af h))) (Af (Af h)),fun _ _ h=>ff_ h⟩
 | .unp xs e=>⟨fun K st h R_ k=>k _ _ _ _ _ (EE (Ap h)) ((A1 e).1 K _ (Af h)),fun _ _ h=>ff_ h⟩
 | .swp xs es=>⟨fun K st h R_ k=>k _ _ _ _ _ _ _ ⟨EE (Ap h),Ap (Ap (Af h)),Nat.eq_of_beq_eq_true (Af (Ap (Af h)))⟩ ((A1 es).2 K _ _ (Af (Af h))),fun _ _ h=>ff_ h⟩
 | .set o i v=>⟨fun K st h R_ k=>k _ _ _ _ _ ((A1 v).1 K _ (Ap h)) ((A1 o).1 K _ (Ap (Af h))) ((A1 i).1 K _ (Af (Af h))),fun _ _ h=>ff_ h⟩
 | .exp e=>⟨fun K st h R_ k=>k _ _ ((A1 e).1 K _ h),fun _ _ h=>ff_ h⟩
 | .ite c a b=>⟨fun K st h R_ k=>k _ _ _ _ ((A1 c).1 K _ (Ap h)) ((CI a).2 K _ (Ap (Af h))) ((CI b).2 K _ (Af (Af h))),fun _ _ h=>ff_ h⟩
 | .for_ ts it body=>⟨fun K st h R_ k=>k _ _ _ _ ⟨isT_of (Ap (Ap h)),Af (Ap h)⟩ ((A1 it).1 K _ (Ap (Af h))) ((CI body).2 K _ (Af (Af h))),fun _ _ h=>ff_ h⟩
 | .while_ c body=>⟨fun K st h R_ k=>k _ _ _ ((A1 c).1 K _ (Ap h)) ((CI body).2 K _ (Af h)),fun _ _ h=>ff_ h⟩
 | .ret e=>⟨fun K st h R_ k=>k _ _ ((A1 e).1 K _ h),fun _ _ h=>ff_ h⟩
 | .rse k es=>⟨fun K st h R_ f=>f _ _ _ _ _ (Bh (Ap h)) ((A1 es).2 K _ _ (Ap (Af h))) (Nat.blt_eq.mp (Af (Af h))),fun _ _ h=>ff_ h⟩
 | .try_ b k hd=>⟨fun K st h R_ f=>by
  have h1:=(CI hd).2 K _ (Ap (Af (Af h)))
  have h2:=Af (Af (Af h))
  have h0:=(CI b).2 K _ (Ap (Af h))
  show R_ (.Try _ [.ExceptHandler (some (BU (sE st 0))) none ((emS hd).2 (stB st).2) (hPos st)] [] [] st.pos)
  revert h1 h2
  cases (emS hd).2 (stB st).2 with
  | nil=>exact fun _ h2=>ff_ h2
  | cons y ys=>exact fun h1 _=>f _ _ _ y ys _ _ h0 (Bh (Ap h)) h1,fun _ _ h=>ff_ h⟩
 | .tryAs b hs=>⟨fun K st h R_ f=>by
  have h1:=(CI b).2 K _ (Ap h)
  have h2:=isH_of (Ap (Af h))
  have h3:=Af (Af h)
  match hs,h2,h3 with
  | [],_,h3=>exact ff_ h3
  | (k,i,e)::r,h2,_=>exact f _ _ _ _ h1 h2,fun _ _ h=>ff_ h⟩
 | .sw2 i j es=>⟨fun K st h R_ k=>k _ _ _ _ _ _ _ _ _ _ ⟨⟨Ap (Ap h),Af (Ap h)⟩,Ap (Af h)⟩ ((A1 es).2 K _ _ (Af (Af h))),fun _ _ h=>ff_ h⟩
 | .setd x nm=>⟨fun K st h R_ k=>k _ _ _ _ _ ⟨Ap h,isAt_of (Ap (Af h)),not_tt (Af (Af h))⟩,fun _ _ h=>ff_ h⟩
 | .swl i j l es=>⟨fun K st h R_ k=>k _ _ _ _ _ _ _ _ _ _ _ _ ⟨⟨Ap (Ap h),Ap (Af (Ap h)),Af (Af (Ap h))⟩,Ap (Af h)⟩ ((A1 es).2 K _ _ (Af (Af h))),fun _ _ h=>ff_ h⟩
noncomputable def parOk (o:Option NameKind):Bool:=match o with | some k=>k == .local||k == .cell | none=>false
structure Rc where
 params:Arguments
 body:List Stmt
 scope:Scope
noncomputable def okRc (lam:Option (Addr×Str)) (fn:Fn) (vars:List Str) (r:Rc):Bool :=
 (decide (r.scope.kind=.function)&&(!r.scope.isGenerator&&(!r.scope.isCoroutine&&(decide vars.Nodup&&((vars.take fn.np).all (fun n=>parOk (r.scope.names.lookup n))&&r.scope.names.all (fun q=>!(q.2 == .free))))))) &&
 ((r.params.posonlyargs.isEmpty&&(r.params.vararg.isNone&&(r.params.kwonlyargs.isEmpty&&(r.params.kwarg.isNone&&(decide (r.params.args.map (·.arg)=vars.take fn.np)&&Nat.ble fn.np vars.length)))))&&(okS fn.body ⟨vars,r.scope.names,vars,glP,lam⟩).2 r.body)
theorem parOk_of {o:Option NameKind} (h:parOk o=true):o=some .local\/o=some .cell:=by
 cases o with
 | none=>exact ff_ h
 | some k=>exact (Bool.or_eq_true_iff.mp (show (k == .local||k == .cell)=true from h)).imp (fun h=>by rw [eq_of_beq h]) fun h=>by rw [eq_of_beq h]
theorem nil_of {α:Type} {l:List α} (h:l.isEmpty=true):l=[]:=by cases l with | nil=>rfl | cons _ _=>exact ff_ h
theorem none_of' {α:Type} {l:Option α} (h:l.isNone=true):l=none:=by cases l with | none=>rfl | some _=>exact ff_ h
theorem fnIs_of {T:Top} {lam:Option (Addr×Str)} {fn:Fn} {vars:List Str} {r:Rc} {a:Addr} {o:Obj} {fd:FuncData} (h:okRc lam fn vars r=true) (hem:(emS fn.body).2 r.body=r.body)
 (ho:T.h0.get? a=some o) (hd:o.data=.func fd) (hc:T.h0.CodeRec fd.code fd.qualname) (hp:fd.params=r.params) (hb:fd.body=.stmts r.body) (hs:fd.scope=r.scope) (hcl:fd.closure=[]) (hg:fd.globals=mainGlobals) (hbl:fd.builtins=builtinsNs) (hdf:fd.defaults=.none) (hkd:fd.kwdefaults=.none)
 (hl:∀ t q,lam=some (t,q)->(t,q)∈T.tabs/\(fd.qualname++(".<locals>." : Str))++("<lambda>" : Str)=q/\∃ c,fd.code=.ref c/\W.CodeHd T.h0 c t):FnIs T glP fn a fd r.body o vars lam:=by
 have h1:=Ap h
 have h2:=Ap (Af h)
 have h3:=(CI fn.body).2 _ _ (Af (Af h))
 rw [hem] at h3
 have k4:=of_decide_eq_true (Ap (Af (Af (Af h1))))
 have p5:=of_decide_eq_true (Ap (Af (Af (Af (Af h2)))))
 have p6:=Nat.le_of_ble_eq_true (Af (Af (Af (Af (Af h2)))))
 refine ⟨ho,hd,hc,hb,hcl,hg,hbl,by rw [hs]; exact of_decide_eq_true (Ap h1),by rw [hs]; exact not_tt (Ap (Af h1)),by rw [hs]; exact not_tt (Ap (Af (Af h1))),k4,fun vals hv=>?_,fun n hn=>?_,fun p hp' e=>?_,by rw [hs]; exact h3,hl⟩
 ·have e1:=nil_of (Ap h2)
  have e2:=none_of' (Ap (Af h2))
  have e3:=nil_of (Ap (Af (Af h2)))
  have e4:=none_of' (Ap (Af (Af (Af h2))))
  rcases hP:r.params with ⟨po,as,va,ko,kd,kw,df⟩
  rw [hP] at e1 e2 e3 e4 p5 hp
  have e1:po=[]:=e1
  have e2:va=none:=e2
  have e3:ko=[]:=e3
  have e4:kw=none:=e4
  have p5:as.map (·.arg)=vars.take fn.np:=p5
  subst e1 e2 e3 e4
  rw [<-p5]
  refine bind_plain hp hdf hkd ?_ ?_
  ·have e5:as.length=(as.map (·.arg)).length:=(List.length_map _).symm
   rw [hv,show as.length=fn.np by rw [e5,p5,List.length_take,Nat.min_eq_left p6]]
  ·rw [p5]; exact List.Nodup.sublist (List.take_sublist _ _) k4
 ·rw [hs]; exact parOk_of (List.all_eq_true.mp (Ap (Af (Af (Af (Af h1))))) n hn)
 ·rw [hs] at hp'
  have q:=List.all_eq_true.mp (Af (Af (Af (Af (Af h1))))) p hp'
  rw [e] at q
  exact ff_ q
end Mine
namespace Mine
open PySem PySem.Calls
theorem HOk.fzm {n:Nat} {g g':G} {A:Around} (h:HOk n g A) (k:∀ a o,g.fz a=some o->g'.fz a=some o):HOk n g' A:=⟨h.1.imp id fun q=>⟨q.1,by obtain ⟨b,o,vs,h1,h2,h3⟩:=q.2; exact ⟨b,o,vs,h1,k _ _ h2,h3⟩⟩,h.2⟩
section
variable {T:Top} {g g':G} {σ τ σ':Ab} {s s':Shared} {v:V} {X:Value} {m n f:Nat} {d:PyData} {xs:List V} {r:Ar}
noncomputable def G.tuck (g:G) (m:Nat) (h:Heap):G:=⟨g.fz,fun a=>if a∈g.mu.drop m then h.get? a else g.hid a,g.mu.take m⟩
theorem repO_ne {o:O} {x:Obj} (h:CK T g o x):x.cls≠frC:=by
 cases o with
 | list vs=>exact h (fun x=>x.cls≠frC) fun xs m _ _=>AC rfl (by decide)
 | dictS kvs=>exact h _ fun _ _ _ ho _ _ _ _ _ _=>AC ho.1 (by decide)
 | dictP kvs=>exact h _ fun _ _ _ ho _ _ _ _ _=>AC ho.1 (by decide)
theorem Bx.sub {fe:List Env} (x:Bx g fe) (h:∀ a o,g.hid a=some o->g'.hid a=some o):Bx g' fe:=fun e he=>⟨(x e he).1,let ⟨L,o,es,ep,h1,h2,h3⟩:=(x e he).2; ⟨L,o,es,ep,h1,h _ _ h2,h3⟩⟩
theorem tuck_up {h:Heap}:G.upTo m g (g.tuck m h):=⟨fun _ _ e=>e,fun _ _ hk e=>(List.getElem?_take_of_lt hk).trans e⟩
theorem Ge {h:Heap} {a:Addr} (q:a∉g.mu):(g.tuck m h).hid a=g.hid a:=if_neg fun p=>q (List.mem_of_mem_drop p)
theorem Has.tuck (H:Has T g (σ++τ) s) (hl:∀ (k:Nat) o,σ[k]? = some o->B4 σ.length o):Has T (g.tuck σ.length s.heap) σ s:=by
 refine ⟨H.fz,fun a o e=>?_,?_,List.Nodup.sublist (List.take_sublist _ _) H.nd,fun a ha=>H.ap a (List.mem_of_mem_take ha),fun a o e=>?_,fun k a o e1 e2 R_ kk=>?_,H.base,fun t q ht R_ kk=>H.tb t q ht R_ fun ps h1 h2 h3 h4 h5 h6=>kk ps h1 ((Ge h3).trans h2) (fun q=>h3 (List.mem_of_mem_take q)) h4 h5 h6,H.gens,H.os⟩
 ·have e:(if a∈g.mu.drop σ.length then s.heap.get? a else g.hid a)=some o:=e
  by_cases q:a∈g.mu.drop σ.length
  ·rw [if_pos q] at e; exact .of e
  ·rw [if_neg q] at e; exact H.hd a o e
 ·show (g.mu.take σ.length).length=_
  rw [List.length_take,H.len,List.length_append]; exact Nat.min_eq_left (Nat.le_add_right _ _)
 ·have e:(if a∈g.mu.drop σ.length then s.heap.get? a else g.hid a)=some o:=e
  by_cases q:a∈g.mu.drop σ.length
  ·exact ⟨H.ap a (List.mem_of_mem_drop q),fun p=>Ex H.nd p q⟩
  ·rw [if_neg q] at e; exact ⟨(H.ah a o e).1,fun p=>(H.ah a o e).2 (List.mem_of_mem_take p)⟩
 ·have hk:k < σ.length:=(List.getElem?_eq_some_iff.mp e2).1
  have e1:(g.mu.take σ.length)[k]? = some a:=e1
  rw [List.getElem?_take_of_lt hk] at e1
  exact H.ob k a o e1 ((List.getElem?_append_left hk).trans e2) R_ fun x h1 h2=>kk x h1 (E5 tuck_up (hl k o e2) h2)
theorem Has.untuck (H:Has T g (σ++τ) s) (hl:σ'.length=σ.length) (le:G.le [] (g.tuck σ.length s.heap) g') (H':Has T g' σ' s'):Has T ⟨g'.fz,g.hid,g.mu⟩ (σ'++τ) s':=by
 have hm:g.mu.length=σ.length+τ.length:=H.len.trans List.length_append
 have up:G.up g ⟨g'.fz,g.hid,g.mu⟩:=⟨le.fz,fun _ _ e=>e⟩
 have hid:∀ a,g'.hid a=(g.tuck σ.length s.heap).hid a:=fun a=>le.hid a List.not_mem_nil
 have hd1:∀ {a o},g.hid a=some o->g'.hid a=some o:=fun {a o} e=>(hid a).trans ((Ge (H.ah a o e).2).trans e)
 have hd2:∀ {a o},a∈g.mu.drop σ.length->s.heap.get? a=some o->g'.hid a=some o:=fun {a o} q e=>(hid a).trans ((if_pos q).trans e)
 have mu1:∀ {k:Nat} {a},k < σ.length->g.mu[k]? = some a->g'.mu[k]? = some a:=fun {k a} hk e=>le.mu k a ((List.getElem?_take_of_lt hk).trans e)
 have up':G.up g' ⟨g'.fz,g.hid,g.mu⟩:=⟨fun _ _ e=>e,fun k a e=>by
  have hk:k < σ.length:=hl▸H'.len▸mu_lt e
  have e2:g.mu[k]? = some (g.mu[k]'(by rw [hm]; exact Nat.lt_add_right _ hk)):=List.getElem?_eq_getElem _
  rw [e2,Av (mu1 hk e2) e]⟩
 refine ⟨H'.fz,fun a o e=>H'.hd a o (hd1 e),hm.trans (by rw [List.length_append,hl]),H.nd,fun a ha=>?_,fun a o e=>⟨(H'.ah a o (hd1 e)).1,(H.ah a o e).2⟩,fun k a o e1 e2 R_ kk=>?_,H'.base,fun t q ht R_ kk=>H.tb t q ht R_ fun _ _ h2 h3 _ _ _=>H'.tb t q ht R_ fun ps h1 _ _ h4 h5 h6=>kk ps h1 h2 h3 h4 h5 h6,H'.gens,H'.os⟩
 ·obtain ⟨k,hk,e⟩:=List.mem_iff_getElem.mp ha
  have e:g.mu[k]? = some a:=by rw [List.getElem?_eq_getElem hk,e]
  by_cases q:k < σ.length
  ·exact H'.ap a (List.mem_of_getElem? (mu1 q e))
  ·obtain ⟨o,ho⟩:=H.muAlive ha
   exact (H'.ah a o (hd2 (List.mem_of_getElem? (i:=k-σ.length) (by rw [List.getElem?_drop,Nat.add_sub_cancel' (Nat.le_of_not_lt q)]; exact e)) ho)).1
 ·by_cases q:k < σ.length
  ·rw [List.getElem?_append_left (hl▸q)] at e2
   exact H'.ob k a o (mu1 q e1) e2 R_ fun x h1 h2=>kk x h1 (CK.mono up' _ _ h2)
  ·have q:=Nat.le_of_not_lt q
   rw [List.getElem?_append_right (hl▸q),hl] at e2
   refine H.ob k a o e1 ((List.getElem?_append_right q).trans e2) R_ fun x h1 h2=>kk x ((H'.hd a x (hd2 ?_ h1)).ex (repO_ne h2)) (CK.mono up _ _ h2)
   exact List.mem_of_getElem? (i:=k-σ.length) (by rw [List.getElem?_drop,Nat.add_sub_cancel' q]; exact e1)
theorem FA.tail (hf:FA n f xs σ (.d d) σ') (hl:σ'.length=σ.length) (hx:∀ x,x∈xs->low σ.length x) (hw:∀ (k:Nat) o,σ[k]? = some o->B4 σ.length o):FA n f xs (σ++τ) (.d d) (σ'++τ):=fun r g s a Xs h A R =>
 wpAny_mono (hf r (g.tuck σ.length s.heap) s a Xs h ⟨A.ok,A.frames,A.top,A.depth,A.units,A.hh.fzm fun _ _ e=>e,A.frs.sub fun a o e=>(Ge (A.has.ah a o e).2).trans e,A.has.tuck hw⟩ (Aq.imp (fun v X hv rx=>Go tuck_up (hx v hv) rx) R)) (fun X s' p=>p _ fun g' le H' rX =>
  .mk ⟨g'.fz,g.hid,g.mu⟩ ⟨⟨le.fz,fun _ _ e=>e⟩,fun _ _=>rfl⟩ (A.has.untuck hl le H') rX) fun _ _ h=>h
theorem FA.any (hf:FA n f xs [] (.d d) []) (hx:∀ x,x∈xs->low 0 x):FA n f xs σ (.d d) σ:=FA.tail (σ:=[]) (σ':=[]) hf rfl hx fun k o e=>Ac e
theorem FA.more {k:Nat} (hf:FA n f xs σ v σ') (h:n<=k):FA k f xs σ v σ':=fun r g s a Xs hf' A R=>hf r g s a Xs hf' (A.less h) R
theorem FN.more {k:Nat} (hf:FN n f xs σ v σ') (h:n<=k):FN k f xs σ v σ':=FA.more hf (Nat.add_le_add_right h 3)
end
end Mine
namespace Mine
open PySem PySem.Calls
section
variable {α β:Type} {l l':List α} {m m':List β} {k:Nat} {a:α} {o:β}
theorem same_at (hl:l.length=m.length) (h1:(l++l')[k]? = some a) (h2:(m++m')[k]? = some o):(l[k]? = some a/\m[k]? = some o)\/∃ j,k=l.length+j/\l'[j]? = some a/\m'[j]? = some o:=by
 by_cases q:k < l.length
 ·rw [List.getElem?_append_left q] at h1
  rw [List.getElem?_append_left (hl▸q)] at h2
  exact .inl ⟨h1,h2⟩
 ·have q:=Nat.le_of_not_lt q
  rw [List.getElem?_append_right q] at h1
  rw [List.getElem?_append_right (hl▸q),<-hl] at h2
  exact .inr ⟨k-l.length,(Nat.add_sub_cancel' q).symm,h1,h2⟩
theorem B3 (h:l[k]? = some a):(l++l')[k]? = some a:=(List.getElem?_append_left (List.getElem?_eq_some_iff.mp h).1).trans h
theorem Cy (h:l'[k]? = some a):(l++l')[l.length+k]? = some a:=by
 rw [List.getElem?_append_right (Nat.le_add_right _ _),Nat.add_sub_cancel_left]; exact h
theorem at_right' (hl:l.length=m.length) (h:l'[k]? = some a):(l++l')[m.length+k]? = some a:=hl▸Cy h
end
section
variable {T:Top} {g g':G} {σ σ' τ τ' N:Ab} {s s':Shared} {A B C D:List Addr} {n f b j:Nat} {d:PyData} {xs:List V}
noncomputable def G.mid (g:G) (A B C:List Addr) (h:Heap):G:=⟨g.fz,fun a=>@ite _ (a∈A\/a∈C) (Classical.propDecidable _) (h.get? a) (g.hid a),B⟩
theorem mid_in {h:Heap} {a:Addr} (q:a∈A\/a∈C):(g.mid A B C h).hid a=h.get? a:=if_pos q
theorem DS {h:Heap} {a:Addr} (q:¬ (a∈A\/a∈C)):(g.mid A B C h).hid a=g.hid a:=if_neg q
theorem upz (h:FzLe g.fz g'.fz):G.upTo 0 g g':=⟨h,fun _ _ hk _=>absurd hk (Nat.not_lt_zero _)⟩
theorem mid_up {h:Heap}:G.upTo 0 g (g.mid A B C h):=upz fun _ _ q=>q
theorem mu_no {a:Addr} (e:g.mu=A++(B++C)) (h:a∉g.mu):¬ (a∈A\/a∈C):=fun q=>h (by
 rw [e]
 rcases q with q | q
 ·exact List.mem_append_left _ q
 ·exact List.mem_append_right _ (List.mem_append_right _ q))
theorem mid_no {a:Addr} (nd:g.mu.Nodup) (e:g.mu=A++(B++C)) (q:a∈A\/a∈C) (hb:a∈B):False:=by
 rw [e] at nd
 obtain ⟨_,n2,n3⟩:=List.nodup_append.mp nd
 rcases q with q | q
 ·exact n3 a q a (List.mem_append_left _ hb) rfl
 ·exact (List.nodup_append.mp n2).2.2 a hb a q rfl
theorem Has.mid (H:Has T g (τ++(σ++τ')) s) (e:g.mu=A++(B++C)) (la:A.length=τ.length) (lb:B.length=σ.length) (hl:∀ o∈σ,B4 0 o):Has T (g.mid A B C s.heap) σ s:=by
 have nd:=H.nd
 rw [e] at nd
 have mB:∀ {a},a∈B->a∈g.mu:=fun {a} q=>by rw [e]; exact List.mem_append_right _ (List.mem_append_left _ q)
 have mAC:∀ {a},(a∈A\/a∈C)->a∈g.mu:=fun {a} q=>by
  rw [e]
  rcases q with q | q
  ·exact List.mem_append_left _ q
  ·exact List.mem_append_right _ (List.mem_append_right _ q)
 refine ⟨H.fz,fun a o h=>?_,lb,(List.nodup_append.mp (List.nodup_append.mp nd).2.1).1,fun a ha=>H.ap a (mB ha),fun a o h=>?_,fun k a o e1 e2 R_ kk=>?_,H.base,fun t q ht R_ kk=>H.tb t q ht R_ fun ps h1 h2 h3 h4 h5 h6=>kk ps h1 ((DS (mu_no e h3)).trans h2) (fun q=>h3 (mB q)) h4 h5 h6,H.gens,H.os⟩
 ·by_cases q:a∈A\/a∈C
  ·rw [mid_in q] at h; exact .of h
  ·rw [DS q] at h; exact H.hd a o h
 ·by_cases q:a∈A\/a∈C
  ·exact ⟨H.ap a (mAC q),fun p=>mid_no H.nd e q p⟩
  ·rw [DS q] at h; exact ⟨(H.ah a o h).1,fun p=>(H.ah a o h).2 (mB p)⟩
 ·exact H.ob (A.length+k) a o (by rw [e]; exact Cy (B3 e1)) (by rw [la]; exact Cy (B3 e2)) R_ fun x h1 h2=>kk x h1 (E5 mid_up (hl o (List.mem_of_getElem? e2)) h2)
theorem Has.unmid (H:Has T g (τ++(σ++τ')) s) (e:g.mu=A++(B++C)) (la:A.length=τ.length) (lb:B.length=σ.length) (lb':σ'.length=σ.length) (hl:∀ o∈σ'++N,B4 0 o) (le:G.le [] (g.mid A B C s.heap) g') (H':Has T g' (σ'++N) s') (e':g'.mu=B++D):Has T ⟨g'.fz,g.hid,g.mu++D⟩ ((τ++(σ'++τ'))++N) s':=by
 have hid:∀ a,g'.hid a=(g.mid A B C s.heap).hid a:=fun a=>le.hid a List.not_mem_nil
 have hd1:∀ {a o},g.hid a=some o->g'.hid a=some o:=fun {a o} h=>(hid a).trans ((DS (mu_no e (H.ah a o h).2)).trans h)
 have hd2:∀ {a o},(a∈A\/a∈C)->s.heap.get? a=some o->g'.hid a=some o:=fun {a o} q h=>(hid a).trans ((mid_in q).trans h)
 have mAC:∀ {a},(a∈A\/a∈C)->a∈g.mu:=fun {a} q=>by
  rw [e]
  rcases q with q | q
  ·exact List.mem_append_left _ q
  ·exact List.mem_append_right _ (List.mem_append_right _ q)
 have out:∀ {a},(a∈A\/a∈C)->g'.fz a=none/\a∉g'.mu:=fun {a} q=>by
  obtain ⟨o,ho⟩:=H.muAlive (mAC q)
  exact H'.ah a o (hd2 q ho)
 have three:∀ {a},a∈g.mu->(a∈A\/a∈C)\/a∈B:=fun {a} q=>by
  rw [e] at q
  rcases List.mem_append.mp q with q | q
  ·exact .inl (.inl q)
  ·rcases List.mem_append.mp q with q | q
   ·exact .inr q
   ·exact .inl (.inr q)
 have nd':=H'.nd
 rw [e'] at nd'
 obtain ⟨_,n2,n3⟩:=List.nodup_append.mp nd'
 have inB:∀ {a},a∈B->a∈g'.mu:=fun {a} q=>by rw [e']; exact List.mem_append_left _ q
 have inD:∀ {a},a∈D->a∈g'.mu:=fun {a} q=>by rw [e']; exact List.mem_append_right _ q
 have ld:D.length=N.length:=by
  have:=H'.len
  rw [e',List.length_append,List.length_append,lb,lb'] at this
  exact Nat.add_left_cancel this
 have lm:g.mu.length=(τ++(σ'++τ')).length:=by rw [H.len,List.length_append,List.length_append,List.length_append,List.length_append,lb']
 have up:G.up g ⟨g'.fz,g.hid,g.mu++D⟩:=⟨le.fz,fun _ _ q=>B3 q⟩
 have old:∀ {k:Nat} {a:Addr} {o:O},(a∈A\/a∈C)->g.mu[k]? = some a->(τ++(σ++τ'))[k]? = some o->∀ R_:Prop,(∀ x,s'.heap.get? a=some x->CK T ⟨g'.fz,g.hid,g.mu++D⟩ o x->R_)->R_:=fun {k a o} q h1 h2 R_ kk =>
  H.ob k a o h1 h2 R_ fun x h3 h4=>kk x ((H'.hd a x (hd2 q h3)).ex (repO_ne h4)) (CK.mono up _ _ h4)
 refine ⟨H'.fz,fun a o h=>H'.hd a o (hd1 h),by rw [List.length_append,List.length_append,lm,ld],List.nodup_append.mpr ⟨H.nd,n2,fun x hx y hy q=>?_⟩,fun a ha=>?_,fun a o h=>⟨(H'.ah a o (hd1 h)).1,fun q=>?_⟩,fun k a o e1 e2 R_ kk=>?_,H'.base,fun t q ht R_ kk=>H.tb t q ht R_ fun _ _ h2 h3 _ _ _=>H'.tb t q ht R_ fun ps h1 _ h3' h4 h5 h6=>kk ps h1 h2 (fun q=>?_) h4 h5 h6,H'.gens,H'.os⟩
 ·rcases three hx with p | p
  ·exact (out p).2 (q▸inD hy)
  ·exact n3 x p y hy q
 ·rcases List.mem_append.mp ha with q | q
  ·rcases three q with p | p
   ·exact (out p).1
   ·exact H'.ap a (inB p)
  ·exact H'.ap a (inD q)
 ·rcases List.mem_append.mp q with q | q
  ·exact (H.ah a o h).2 q
  ·exact (H'.ah a o (hd1 h)).2 (inD q)
 ·rcases same_at lm e1 e2 with ⟨h1,h2⟩ | ⟨j,_,h1,h2⟩
  ·have h1':=h1
   rw [e] at h1
   rcases same_at la h1 h2 with ⟨i1,i2⟩ | ⟨j,ek,i1,i2⟩
   ·exact old (.inl (List.mem_of_getElem? i1)) h1' (B3 i2) R_ kk
   ·rcases same_at (lb.trans lb'.symm) i1 i2 with ⟨i3,i4⟩ | ⟨i,ej,i3,i4⟩
    ·exact H'.ob j a o (by rw [e']; exact B3 i3) (B3 i4) R_ fun x h3 h4=>kk x h3 (E5 (upz (g:=g') (g':=⟨g'.fz,g.hid,g.mu++D⟩) fun _ _ q=>q) (hl o (List.mem_append_left _ (List.mem_of_getElem? i4))) h4)
    ·refine old (.inr (List.mem_of_getElem? i3)) h1' ?_ R_ kk
     rw [ek,la]
     refine Cy ?_
     rw [ej,lb]; exact Cy i4
  ·exact H'.ob (B.length+j) a o (by rw [e']; exact Cy h1) (by rw [lb,<-lb']; exact Cy h2) R_ fun x h3 h4=>kk x h3 (E5 (upz (g:=g') (g':=⟨g'.fz,g.hid,g.mu++D⟩) fun _ _ q=>q) (hl o (List.mem_append_right _ (List.mem_of_getElem? h2))) h4)
 ·rcases List.mem_append.mp q with q | q
  ·exact h3 q
  ·exact h3' (inD q)
theorem mu_cut (H:Has T g (τ++(σ++τ')) s):∃ A B C,g.mu=A++(B++C)/\A.length=τ.length/\B.length=σ.length:=by
 have hl:=H.len
 rw [List.length_append,List.length_append] at hl
 refine ⟨g.mu.take τ.length,(g.mu.drop τ.length).take σ.length,(g.mu.drop τ.length).drop σ.length,?_,?_,?_⟩
 ·rw [List.take_append_drop,List.take_append_drop]
 ·rw [List.length_take]; omega
 ·rw [List.length_take,List.length_drop]; omega
theorem mu_grow {h:Heap} (le:G.le [] (g.mid A B C h) g'):∃ D,g'.mu=B++D:=by
 refine ⟨g'.mu.drop B.length,?_⟩
 have:g'.mu.take B.length=B:=by
  refine List.ext_getElem? fun k=>?_
  by_cases q:k < B.length
  ·rw [List.getElem?_take_of_lt q]
   have e2:B[k]? = some B[k]:=List.getElem?_eq_getElem q
   rw [e2]; exact le.mu k _ e2
  ·have q:=Nat.le_of_not_lt q
   rw [List.getElem?_eq_none q,List.getElem?_eq_none (Nat.le_trans (List.length_take_le _ _) q)]
 have h2:=List.take_append_drop B.length g'.mu
 rw [this] at h2; exact h2.symm
theorem obj_mid {h:Heap} {v:Value} (e:g.mu=A++(B++C)) (la:A.length=b) (lb:B.length=3) (r:Ak T g (.obj [b,b+1,b+2]) v):Ak T (g.mid A B C h) (.obj [0,1,2]) v:=by
 have key:∀ (k:Nat) (a:Addr),k < 3->g.mu[b+k]? = some a->B[k]? = some a:=fun k a hk h=>by
  rw [e,<-la,List.getElem?_append_right (Nat.le_add_right _ _),Nat.add_sub_cancel_left,List.getElem?_append_left (lb▸hk)] at h; exact h
 refine r (fun v=>Ak T (g.mid A B C h) (.obj [0,1,2]) v) fun a d o mA h1 h2 h3 h4 h5 h6 h7 h8=>fun R_ k=>k a d o mA h1 h2 h3 h4 h5 h6 h7 ?_
 obtain ⟨⟨a0,p0,q0⟩,⟨a1,p1,q1⟩,⟨a2,p2,q2⟩,_⟩:=h8
 exact ⟨⟨a0,key 0 a0 (by decide) p0,q0⟩,⟨a1,key 1 a1 (by decide) p1,q1⟩,⟨a2,key 2 a2 (by decide) p2,q2⟩,trivial⟩
theorem FA.atR (hf:FA n f (.obj [0,1,2]::xs) σ (.ref (3+j)) (σ'++N)) (h3:σ.length=3) (h3':σ'.length=3) (hx:∀ x,x∈xs->low 0 x) (hw:∀ o∈σ,B4 0 o) (hw':∀ o∈σ'++N,B4 0 o) (hb:τ.length=b):FA n f (.obj [b,b+1,b+2]::xs) (τ++(σ++τ')) (.ref ((τ++(σ++τ')).length+j)) ((τ++(σ'++τ'))++N):=fun r g s a Xs h At_ R=>by
 obtain ⟨A,B,C,e,la,lb⟩:=mu_cut At_.has
 obtain ⟨X,Xr,rfl,r1,r2⟩:=R.cons
 refine wpAny_mono (hf r (g.mid A B C s.heap) s a (X::Xr) h ⟨At_.ok,At_.frames,At_.top,At_.depth,At_.units,At_.hh.fzm fun _ _ e=>e,At_.frs.sub fun a o h=>(DS (mu_no e (At_.has.ah a o h).2)).trans h,At_.has.mid e la lb hw⟩ ⟨obj_mid e (la.trans hb) (lb.trans h3) r1,Aq.imp (fun v X hv rx=>Go mid_up (hx v hv) rx) r2⟩) (fun X s' p=>p _ fun g' le H' rX=>?_) fun _ _ h=>h
 obtain ⟨D,e'⟩:=mu_grow le
 obtain ⟨c,hc,rfl⟩:=rX
 refine .mk ⟨g'.fz,g.hid,g.mu++D⟩ ⟨⟨le.fz,fun _ _ q=>B3 q⟩,fun _ _=>rfl⟩ (At_.has.unmid e la lb (h3'.trans h3.symm) hw' le H' e') ⟨c,?_,rfl⟩
 rw [e',List.getElem?_append_right (by rw [lb,h3]; exact Nat.le_add_right _ _),lb,h3,Nat.add_sub_cancel_left] at hc
 exact at_right' At_.has.len hc
end
end Mine
namespace Mine
open PySem
noncomputable def B8 (v:V):Option Int:=match v with | .d x=>(match x with | .int i=>some i | _=>none) | _=>none
noncomputable def Bq (v:V):Option Str:=match v with | .d x=>(match x with | .str s=>some s | _=>none) | _=>none
noncomputable def EM (v:V):Option Bool:=match v with | .d x=>(match x with | .bool s=>some s | _=>none) | _=>none
noncomputable def pairD (xs:List PyData):Option (Str×Int) :=
 match xs with
 | x::y::r=>(match x with | .str a=>(match y with | .int b=>(match r with | []=>some (a,b) | _=>none) | _=>none) | _=>none)
 | _=>none
noncomputable def pairV (v:V):Option (Str×Int):=match v with | .d x=>(match x with | .tuple xs=>pairD xs | _=>none) | _=>none
noncomputable def BV {α:Type} (f:V->Option α):List V->Option (List α)
 | []=>some []
 | v::r=>(f v).bind fun x=>(BV f r).bind fun xs=>some (x::xs)
noncomputable def mkL (ws:List V):Option V:=if ws.length<=line then (Dr ws).bind fun xs=>some (.d (.list xs)) else none
noncomputable def Dw (σ:Ab) (v:V):Option Bool :=
 match v with
 | .d x=>(match x with | .none=>some false | .bool b=>some b | .int i=>some (i != 0) | .str s=>some (s.cps.size != 0) | .list xs=>some (!xs.isEmpty) | .tuple xs=>some (!xs.isEmpty) | _=>none)
 | .ref k=>(CG σ[k]?).bind fun ws=>some (!ws.isEmpty)
 | _=>none
noncomputable def catL (op:Operator) (x y:V) (σ:Ab):Option (List V) :=
 match op with
 | .Add=>(As σ x).bind fun ws=>(As σ y).bind fun us=>if ws.length+us.length<=line then some (ws++us) else none
 | _=>none
noncomputable def addV (x y:V) (σ:Ab):Option V :=
 match B8 x with
 | some i=>(B8 y).bind fun j=>some (vi (i+j))
 | none=>(match Bq x with
  | some a=>(Bq y).bind fun b=>if a.length+b.length<=line then some (.d (.str (a++b))) else none
  | none=>(catL .Add x y σ).bind mkL)
noncomputable def arith (f:Int->Int->Option Int) (x y:V):Option V:=(B8 x).bind fun i=>(B8 y).bind fun j=>(f i j).bind fun k=>some (vi k)
noncomputable def EN (op:Operator) (x y:V) (σ:Ab):Option V :=
 match op with
 | .Add=>addV x y σ
 | .Sub=>arith (fun i j=>some (i-j)) x y
 | .Mult=>arith (fun i j=>if (small i||small j)=true then some (i * j) else none) x y
 | .FloorDiv=>arith (fun i j=>if j=0 then none else some (i.fdiv j)) x y
 | .Mod=>arith (fun i j=>if j=0 then none else some (i.fmod j)) x y
 | _=>none
noncomputable def Fc (o:Option Bool):Option Bool:=o.bind fun b=>some (!b)
noncomputable def eqV (σ:Ab) (x y:V):Option Bool:=(snap σ x).bind fun d=>(snap σ y).bind fun d'=>eqN A2 d d'
noncomputable def isNo (x:V):Option Bool:=match x with | .d u=>(match u with | .none=>some true | _=>none) | _=>none
noncomputable def isV (x y:V):Option Bool:=match y with | .d z=>(match z with | .none=>bif E9 x then some false else isNo x | _=>none) | _=>none
noncomputable def inSeq (σ:Ab) (x y:V):Option Bool:=(snap σ x).bind fun d=>(snap σ y).bind fun e=>(match e with | .list ds=>inD d ds | .tuple ds=>inD d ds | _=>none)
noncomputable def inO (σ:Ab) (x:V) (k:Nat) (o:Option O):Option Bool :=
 match o with
 | some o=>(match o with
  | .list _=>inSeq σ x (.ref k)
  | .dictS kvs=>(Bq x).bind fun z=>some (Az kvs z).isSome
  | .dictP kvs=>(pairV x).bind fun q=>some (Az kvs q).isSome)
 | none=>none
noncomputable def inV (σ:Ab) (x y:V):Option Bool :=
 match y with
 | .ref k=>inO σ x k σ[k]?
 | y=>(match Bq y with | some w=>(Bq x).bind fun u=>some (Txt.contains w u) | none=>inSeq σ x y)
noncomputable def cmpI (f:Int->Int->Bool) (x y:V):Option Bool:=(B8 x).bind fun i=>(B8 y).bind fun j=>some (f i j)
noncomputable def geV (x y:V):Option Bool:=match Bq x with | some a=>(Bq y).bind fun b=>some (!AU a b) | none=>cmpI (fun i j=>decide (i ≥ j)) x y
noncomputable def Bk (op:CmpOp) (x y:V) (σ:Ab):Option Bool :=
 match op with
 | .Eq=>eqV σ x y
 | .NotEq=>Fc (eqV σ x y)
 | .Lt=>cmpI (fun i j=>decide (i < j)) x y
 | .LtE=>cmpI (fun i j=>decide (i<=j)) x y
 | .Gt=>cmpI (fun i j=>decide (i > j)) x y
 | .GtE=>geV x y
 | .Is=>isV x y
 | .IsNot=>Fc (isV x y)
 | .In=>inV σ x y
 | .NotIn=>Fc (inV σ x y)
noncomputable def nth (ws:List V) (k:Int):Option V:=if small k=true then (seqIndex? k ws.length).bind fun j=>ws[j]? else none
noncomputable def subO (σ:Ab) (y:V) (o:Option O):Option V :=
 match o with
 | some o=>(match o with
  | .list ws=>(B8 y).bind (nth ws)
  | .dictS kvs=>(Bq y).bind fun z=>(Az kvs z).bind fun d=>some (.d d)
  | .dictP kvs=>(pairV y).bind fun q=>(Az kvs q).bind fun d=>some (.d d))
 | none=>none
noncomputable def AQ (x y:V) (σ:Ab):Option V :=
 match x with
 | .ref k=>subO σ y σ[k]?
 | x=>(match Bq x with
  | some z=>(B8 y).bind fun k=>if small k=true then (Txt.charAt z k).bind fun c=>some (.d (.str (chr1 c))) else none
  | none=>(match BG x with
   | some ws=>(B8 y).bind (nth ws)
   | none=>(As σ x).bind fun ws=>(B8 y).bind (nth ws)))
noncomputable def cutL (σ:Ab) (x:V) (lo hi:Option Int):Option (List V):=(As σ x).bind fun ws=>some (BH lo hi ws)
noncomputable def slice (σ:Ab) (x:V) (lo hi:Option Int):Option V :=
 match Bq x with
 | some z=>some (.d (.str (cutS lo hi z)))
 | none=>(cutL σ x lo hi).bind mkL
noncomputable def Da (x:Str):List Str->List Str
 | []=>[x]
 | y::r=>if AU x y then x::y::r else y::Da x r
noncomputable def Cg:List Str->List Str
 | []=>[]
 | x::r=>Da x (Cg r)
noncomputable def keysO (o:Option O):Option (List V) :=
 match o with
 | some o=>(match o with
  | .list ws=>some ws
  | .dictS kvs=>if kvs.all (fun p=>decide (p.1.length<=line))=true then some (vss (kvs.map (·.1))) else none
  | .dictP _=>none)
 | none=>none
noncomputable def toList (σ:Ab) (x:V):Option (List V):=match x with | .ref k=>keysO σ[k]? | x=>As σ x
noncomputable def bmake1 (b:Bi) (σ:Ab) (x:V):Option (List V) :=
 match b with
 | .list=>toList σ x
 | .sorted=>(As σ x).bind fun ws=>(BV Bq ws).bind fun ss=>if ss.length < 64 then some (vss (Cg ss)) else none
 | _=>none
noncomputable def bmake (b:Bi) (σ:Ab) (xs:List V):Option (List V):=match xs with | x::r=>(match r with | []=>bmake1 b σ x | _=>none) | []=>none
noncomputable def lenV (σ:Ab) (x:V):Option V :=
 match Bq x with
 | some z=>some (vi z.cps.size)
 | none=>(match BG x with
  | some ws=>some (vi ws.length)
  | none=>(As σ x).bind fun ws=>some (vi ws.length))
noncomputable def reprV (x:V):Option V:=match x with | .d d=>bif isLT d&&shwB d then some (.d (.str d.shown)) else none | _=>none
noncomputable def bcall1 (b:Bi) (σ:Ab) (x:V):Option V :=
 match b with
 | .len=>lenV σ x
 | .str=>(B8 x).bind fun i=>if i.natAbs < 1000000000000 then some (.d (.str (strOf i))) else none
 | .all=>(As σ x).bind fun ws=>(BV EM ws).bind fun bs=>some (vb (bs.all id))
 | .any=>(As σ x).bind fun ws=>(BV EM ws).bind fun bs=>some (vb (bs.any id))
 | .ord=>(Bq x).bind fun z=>(match z.cps.toList with | c::r=>(match r with | []=>some (vi c) | _=>none) | []=>none)
 | .repr=>reprV x
 | b=>(bmake1 b σ x).bind mkL
noncomputable def isiV (σ:Ab) (x:V) (t:String):Option Bool :=
 (tyOf σ x).bind fun u=>if u=t then (if t = "tuple"\/t = "list"\/t = "str"\/t = "int" then some true else none) else if u = "int"/\t = "bool" then some false else none
noncomputable def bcall2 (b:Bi) (σ:Ab) (x y:V):Option V :=
 match b with
 | .min=>arith (fun i j=>some (if j < i then j else i)) x y
 | .isinstance=>(match y with | .ty t=>(isiV σ x t).bind fun b=>some (vb b) | _=>none)
 | _=>none
noncomputable def AV (b:Bi) (σ:Ab) (xs:List V):Option V :=
 match xs with
 | []=>none
 | x::r=>(match r with | []=>bcall1 b σ x | y::r=>(match r with | []=>bcall2 b σ x y | _=>none))
noncomputable def wOf (v:V):Option (PyData ⊕ Nat):=match v with | .d x=>some (.inl x) | .ref k=>some (.inr k) | _=>none
noncomputable def tupV (ws:List V):Option V :=
 if ws.length<=line then (match Dr ws with
  | some ds=>some (.d (.tuple ds))
  | none=>(BV wOf ws).bind fun us=>some (.tup us)) else none
noncomputable def attNo:List Str->List Nat->Str->Option Nat
 | a::as,k::ks,nm=>if a == nm then some k else attNo as ks nm
 | _,_,_=>none
noncomputable def attV (nm:Str) (v:V):Option V:=match v with | .obj ks=>(attNo Ca ks nm).bind fun k=>some (.ref k) | _=>none
noncomputable def objV (v:V):Option (List Nat):=match v with | .obj ks=>some ks | _=>none
noncomputable def joinV (σ:Ab) (x:V) (ys:List V):Option V :=
 match ys with
 | y::r=>(match r with
  | []=>(Bq x).bind fun z=>(As σ y).bind fun ws=>(BV Bq ws).bind fun ss=>if JoinOk z ss=true then some (.d (.str (Txt.join z ss))) else none
  | _=>none)
 | []=>none
noncomputable def indexV (σ:Ab) (x:V) (ys:List V):Option V :=
 match ys with
 | y::r=>(match r with
  | []=>(match x with | .ref k=>(CG σ[k]?).bind fun ws=>(Dr ws).bind fun ds=>(isDV y).bind fun d=>(inD d ds).bind fun _=>(FO d ds).bind fun j=>some (vi j) | _=>none)
  | _=>none)
 | []=>none
noncomputable def dgetO (o:Option O) (y z:V):Option V:=match o with | some o=>(match o with | .dictP kvs=>(pairV y).bind fun q=>some (dfl (Az kvs q) z) | _=>none) | none=>none
noncomputable def dgetV (σ:Ab) (x:V) (ys:List V):Option V:=match ys with | y::r=>(match r with | z::r=>(match r with | []=>(match x with | .ref k=>dgetO σ[k]? y z | _=>none) | _=>none) | []=>none) | []=>none
noncomputable def methV (m:Meth) (σ:Ab) (x:V) (ys:List V):Option V:=match m with | .join=>joinV σ x ys | .index=>indexV σ x ys | .get=>dgetV σ x ys | _=>none
noncomputable def CC (f:V->Option (Option V)):List V->Option (List V)
 | []=>some []
 | v::r=>(f v).bind fun x=>(CC f r).bind fun xs=>some (match x with | some y=>y::xs | none=>xs)
noncomputable def bindB (ts:List Nat) (v:V):Bool:=Nat.beq ts.length 1||(match BG v with | some vs=>Nat.beq vs.length ts.length | none=>false)
noncomputable abbrev Its:=List V×List (Nat×List V)
noncomputable def CH (σ:Ab) (v:V):Option Its:=match Bq v with | some z=>if z.cps.all (· < 128)=true then some (El z.cps.toList,[]) else none | none=>(As σ v).bind fun ws=>some (ws,Ct v ws)
noncomputable def range1 (xs:List V):Option Its:=match xs with | x::r=>(match r with | []=>(B8 x).bind fun k=>if k<=1000000/\-1000000<=k then some (upV 0 k.toNat,[]) else none | _=>none) | []=>none
noncomputable def listD (σ:Ab) (v:V):Option (List PyData):=(As σ v).bind Dr
noncomputable def BR (e:E):Bool:=match e with | .var _=>true | .cst _=>true | .sub _ _=>true | .attr _ _=>true | _=>false
noncomputable def isVarE (e:E):Bool:=match e with | .var _=>true | _=>false
noncomputable def Es (ρ:Ag) (i:Nat):Option V:=match ρ[i]? with | some o=>o | none=>none
noncomputable abbrev Orc:=Nat->List V->Ab->Option V
structure Ev where
 v:Ag->Ab->Option V
 nl:Ag->Ab->Option (List V)
 row:Ag->Ab->Option (List V)
 it:Ag->Ab->Option Its
 t:Ag->Ab->Option Bool
 bo:BoolOp->Ag->Ab->Option V
 bt:BoolOp->Ag->Ab->Option Bool
 ts:Ag->Ab->Option Bool
noncomputable def Ev.no:Ev:=⟨fun _ _=>none,fun _ _=>none,fun _ _=>none,fun _ _=>none,fun _ _=>none,fun _ _ _=>none,fun _ _ _=>none,fun _ _=>none⟩
noncomputable def Ev.plain (f:Ag->Ab->Option V):Ev:={ Ev.no with v:=f,it:=fun ρ σ=>(f ρ σ).bind (CH σ),t:=fun ρ σ=>(f ρ σ).bind (Dw σ) }
noncomputable def Ev.made (f:Ag->Ab->Option V) (g:Ag->Ab->Option (List V)):Ev:={ Ev.plain f with nl:=fun ρ σ=>(g ρ σ).bind fun ws=>if ws.length<=line then some ws else none }
noncomputable def optI (e:E) (f:Ag->Ab->Option V) (ρ:Ag) (σ:Ab):Option (Option Int):=if Bg e=true then some none else (f ρ σ).bind fun v=>(B8 v).bind fun i=>some (some i)
noncomputable def ev (O:Orc):E->Ev
 | .cst x=>.plain fun _ _=>some (.d x)
 | .var i=>.plain fun ρ _=>Es ρ i
 | .ty t=>.plain fun _ _=>some (.ty t)
 | .glb x=>.plain fun _ _=>some (.d x)
 | .bin op a b=>.made (fun ρ σ=>((ev O a).v ρ σ).bind fun x=>((ev O b).v ρ σ).bind fun y=>EN op x y σ) fun ρ σ=>((ev O a).v ρ σ).bind fun x=>((ev O b).v ρ σ).bind fun y=>catL op x y σ
 | .neg a=>.plain fun ρ σ=>((ev O a).v ρ σ).bind fun x=>(B8 x).bind fun i=>some (vi (-i))
 | .not a=>{ Ev.no with v:=fun ρ σ=>((ev O a).v ρ σ).bind fun x=>(Dw σ x).bind fun t=>some (vb !t),t:=fun ρ σ=>Fc ((ev O a).t ρ σ) }
 | .bop op es=>{ Ev.no with v:=(ev O es).bo op,t:=(ev O es).bt op }
 | .cmp op a b=>{ Ev.no with v:=fun ρ σ=>((ev O a).v ρ σ).bind fun x=>((ev O b).v ρ σ).bind fun y=>(Bk op x y σ).bind fun t=>some (vb t),t:=fun ρ σ=>((ev O a).v ρ σ).bind fun x=>((ev O b).v ρ σ).bind fun y=>Bk op x y σ }
 | .nil=>{ Ev.no with row:=fun _ _=>some [],bt:=fun op _ _=>some (!BS op),ts:=fun _ _=>some true }
 | .cons a r=>{ Ev.no with
  row:=fun ρ σ=>((ev O a).v ρ σ).bind fun x=>((ev O r).row ρ σ).bind fun xs=>some (x::xs)
  bo:=fun op ρ σ=>bif Bg r then (ev O a).v ρ σ else ((ev O a).v ρ σ).bind fun x=>(Dw σ x).bind fun t=>bif t == BS op then some x else (ev O r).bo op ρ σ
  bt:=fun op ρ σ=>((ev O a).t ρ σ).bind fun t=>bif t == BS op then some t else (ev O r).bt op ρ σ
  ts:=fun ρ σ=>((ev O a).t ρ σ).bind fun t=>bif t then (ev O r).ts ρ σ else some false }
 | .tup es=>.plain fun ρ σ=>((ev O es).row ρ σ).bind tupV
 | .lst es=>.made (fun ρ σ=>((ev O es).row ρ σ).bind mkL) fun ρ σ=>(ev O es).row ρ σ
 | .sub a i=>.plain fun ρ σ=>((ev O a).v ρ σ).bind fun x=>((ev O i).v ρ σ).bind fun y=>AQ x y σ
 | .slc a lo hi=>.made (fun ρ σ=>((ev O a).v ρ σ).bind fun x=>(optI lo (ev O lo).v ρ σ).bind fun l=>(optI hi (ev O hi).v ρ σ).bind fun h=>slice σ x l h) fun ρ σ=>((ev O a).v ρ σ).bind fun x=>(optI lo (ev O lo).v ρ σ).bind fun l=>(optI hi (ev O hi).v ρ σ).bind fun h=>cutL σ x l h
 | .bi b es=>.made (fun ρ σ=>((ev O es).row ρ σ).bind (AV b σ)) fun ρ σ=>((ev O es).row ρ σ).bind (bmake b σ)
 | .maxd a z=>.plain fun ρ σ=>((ev O a).v ρ σ).bind fun x=>((ev O z).v ρ σ).bind fun y=>(B8 y).bind fun k=>(As σ x).bind fun ws=>(BV B8 ws).bind fun is=>some (vi (Dk k is))
 | .fcall f es=>.plain fun ρ σ=>((ev O es).row ρ σ).bind fun xs=>O f xs σ
 | .meth m o es=>.plain fun ρ σ=>bif BR o then ((ev O o).v ρ σ).bind fun x=>((ev O es).row ρ σ).bind fun ys=>methV m σ x ys else none
 | .attr nm o=>.plain fun ρ σ=>bif isVarE o then ((ev O o).v ρ σ).bind (attV nm) else none
 | .mcall nm o es=>.plain fun ρ σ=>bif BR o then ((ev O o).v ρ σ).bind fun x=>((ev O es).row ρ σ).bind fun ys=>(objV x).bind fun ks=>(mtP nm).bind fun f=>O f (.obj ks::ys) σ else none
 | .comp elt ts it ifs=>.made (fun ρ σ=>(((ev O it).it ρ σ).bind fun p=>CC (fun v=>bif bindB ts v then ((ev O ifs).ts (BF (A6 ρ ts) ts v) σ).bind fun t=>bif t then ((ev O elt).v (BF (A6 ρ ts) ts v) σ).bind (fun u=>some (some u)) else some none else none) p.1).bind mkL)
  fun ρ σ=>((ev O it).it ρ σ).bind fun p=>CC (fun v=>bif bindB ts v then ((ev O ifs).ts (BF (A6 ρ ts) ts v) σ).bind fun t=>bif t then ((ev O elt).v (BF (A6 ρ ts) ts v) σ).bind (fun u=>some (some u)) else some none else none) p.1
 | .range es=>{ Ev.no with it:=fun ρ σ=>((ev O es).row ρ σ).bind range1 }
 | .zip a b=>{ Ev.no with it:=fun ρ σ=>((ev O a).v ρ σ).bind fun x=>((ev O b).v ρ σ).bind fun y=>(As σ x).bind fun ds=>(As σ y).bind fun ds'=>some (FI ds ds',Ct x ds++Ct y ds') }
 | .enum a=>{ Ev.no with it:=fun ρ σ=>((ev O a).v ρ σ).bind fun x=>(listD σ x).bind fun ds=>some (F9 0 ds,Ct x (ds.map .d)) }
 | _=>Ev.no
end Mine
namespace Mine
open PySem
section
variable {σ:Ab} {v x y:V} {ws us:List V} {b:Bool} {i:Int} {z:Str} {lo hi:Option Int}
theorem AO (h:B8 v=some i):v=vi i:=by
 cases v with
 | d x=>cases x with
  | int j=>rw [Option.some.inj h]
  | _=>exact Ac h
 | _=>exact Ac h
theorem AT (h:Bq v=some z):v=.d (.str z):=by
 cases v with
 | d x=>cases x with
  | str j=>rw [Option.some.inj h]
  | _=>exact Ac h
 | _=>exact Ac h
theorem boolV_eq (h:EM v=some b):v=vb b:=by
 cases v with
 | d x=>cases x with
  | bool j=>rw [Option.some.inj h]
  | _=>exact Ac h
 | _=>exact Ac h
theorem pairD_eq {xs:List PyData} {q:Str×Int} (h:pairD xs=some q):xs=[.str q.1,.int q.2]:=by
 match xs,h with
 | [],h=>exact Ac h
 | [_],h=>exact Ac h
 | x::y::r,h=>cases x with
  | str a=>cases y with
   | int b=>cases r with
    | nil=>rw [<-Option.some.inj h]
    | cons _ _=>exact Ac h
   | _=>exact Ac h
  | _=>exact Ac h
theorem Gr {q:Str×Int} (h:pairV v=some q):v=vp q:=by
 cases v with
 | d x=>cases x with
  | tuple j=>rw [pairD_eq (show pairD j=some q from h)]
  | _=>exact Ac h
 | _=>exact Ac h
theorem CZ {α:Type} {f:V->Option α} {g:α->V} (hf:∀ v x,f v=some x->v=g x):∀ {ws:List V} {xs:List α},BV f ws=some xs->ws=xs.map g
 | [],_,h=>by rw [<-Option.some.inj h]; rfl
 | v::r,xs,h=>by
  obtain ⟨x,e,h⟩:=Aa h
  obtain ⟨ys,e',h⟩:=Aa h
  rw [<-Option.some.inj h,hf v x e,CZ hf e']; rfl
theorem Gx (h:mkL ws=some v):∃ ds,ws=ds.map .d/\ws.length<=line/\v=.d (.list ds):=by
 unfold mkL at h
 by_cases q:ws.length<=line
 ·rw [if_pos q] at h
  obtain ⟨ds,e,h⟩:=Aa h
  exact ⟨ds,EQ e,q,(Option.some.inj h).symm⟩
 ·rw [if_neg q] at h; exact Ac h
theorem tr_cast {b':Bool} (h:Tr σ v b) (e:b=b'):Tr σ v b':=e▸h
theorem Fg {α β:Type} {f:α->β} (l:List α):(!(l.map f).isEmpty) = !l.isEmpty:=by cases l <;> rfl
theorem AL (h:Dw σ v=some b):Tr σ v b:=by
 cases v with
 | d x=>cases x with
  | none=>exact Option.some.inj h▸tr_none
  | bool b=>exact Option.some.inj h▸tr_bool
  | int i=>exact Option.some.inj h▸tr_int
  | str s=>exact Option.some.inj h▸tr_str
  | list xs=>exact tr_cast (tr_list (v:=.d (.list xs)) rfl) ((Fg xs).trans (Option.some.inj h))
  | tuple xs=>exact tr_cast (tr_tup (v:=.d (.tuple xs)) rfl) ((Fg xs).trans (Option.some.inj h))
  | _=>exact Ac h
 | ref k =>
  obtain ⟨ws,e,h⟩:=Aa h
  exact tr_cast (tr_list (v:=.ref k) e) (Option.some.inj h)
 | _=>exact Ac h
theorem catL_ok {op:Operator} (h:catL op x y σ=some ws):PrN2 (binaryOp op) x y σ ws:=by
 cases op with
 | Add =>
  obtain ⟨us,e,h⟩:=Aa h
  obtain ⟨us',e',h⟩:=Aa h
  obtain ⟨q,h⟩:=AG h
  exact h▸p_catL e e' q
 | _=>exact Ac h
theorem DF {f:Int->Int->Option Int} {m:Value->Value->Sem Value} {l:Nat} (hf:∀ i j k,f i j=some k->Pr2 m (vi i) (vi j) σ (vi k) σ l) (h:arith f x y=some v):Pr2 m x y σ v σ l:=by
 obtain ⟨i,e,h⟩:=Aa h
 obtain ⟨j,e',h⟩:=Aa h
 obtain ⟨k,e2,h⟩:=Aa h
 rw [AO e,AO e',<-Option.some.inj h]
 exact hf i j k e2
theorem EF {α:Type} {c:Prop} [Decidable c] {a b:α} (h:(if c then none else some a)=some b):¬ c/\a=b:=by
 by_cases hc:c
 ·rw [if_pos hc] at h; exact Ac h
 ·rw [if_neg hc] at h; exact ⟨hc,Option.some.inj h⟩
theorem binop_ok {op:Operator} (h:EN op x y σ=some v):Pr2 (binaryOp op) x y σ v σ\/∃ ws,catL op x y σ=some ws/\mkL ws=some v:=by
 cases op with
 | Add =>
  have h:addV x y σ=some v:=h
  unfold addV at h
  cases e:B8 x with
  | some i =>
   rw [e] at h
   obtain ⟨j,e',h⟩:=Aa h
   rw [AO e,AO e',<-Option.some.inj h]; exact .inl p_add
  | none =>
   rw [e] at h
   cases e':Bq x with
   | some a =>
    rw [e'] at h
    obtain ⟨b,e2,h⟩:=Aa h
    obtain ⟨q,h⟩:=AG h
    rw [AT e',AT e2,<-h]; exact .inl (p_cat q)
   | none=>rw [e'] at h; exact .inr (Aa h)
 | Sub=>exact .inl (DF (fun i j k e=>Option.some.inj e▸p_sub) h)
 | Mult=>exact .inl (DF (f:=fun i j=>if (small i||small j)=true then some (i * j) else none) (fun i j k e=>(AG e).2▸p_mul (AG e).1) h)
 | FloorDiv=>exact .inl (DF (f:=fun i j=>if j=0 then none else some (i.fdiv j)) (fun i j k e=>(EF e).2▸p_div (EF e).1) h)
 | Mod=>exact .inl (DF (f:=fun i j=>if j=0 then none else some (i.fmod j)) (fun i j k e=>(EF e).2▸p_mod (EF e).1) h)
 | _=>exact Ac h
theorem FU {o:Option Bool} (h:Fc o=some b):∃ c,o=some c/\b = !c:=by
 obtain ⟨c,e,h⟩:=Aa h
 exact ⟨c,e,(Option.some.inj h).symm⟩
theorem eqV_ok (h:eqV σ x y=some b):Pr2 (compareOp .Eq) x y σ (vb b) σ/\Pr2 (compareOp .NotEq) x y σ (vb !b) σ:=by
 obtain ⟨d,e,h⟩:=Aa h
 obtain ⟨d',e',h⟩:=Aa h
 exact ⟨p_eq e e' h,p_ne e e' h⟩
theorem isV_ok (h:isV x y=some b):Pr2 (compareOp .Is) x y σ (vb b) σ/\Pr2 (compareOp .IsNot) x y σ (vb !b) σ:=by
 cases y with
 | d z=>cases z with
  | none =>
   have h:(bif E9 x then some false else isNo x)=some b:=h
   cases q:E9 x with
   | true=>rw [q] at h; rw [<-Option.some.inj h]; exact p_isN q
   | false =>
    rw [q] at h
    cases x with
    | d u=>cases u with
     | none=>rw [<-Option.some.inj h]; exact p_is
     | _=>exact Ac h
    | _=>exact Ac h
  | _=>exact Ac h
 | _=>exact Ac h
theorem inSeq_ok (h:inSeq σ x y=some b):Pr2 (compareOp .In) x y σ (vb b) σ/\Pr2 (compareOp .NotIn) x y σ (vb !b) σ:=by
 obtain ⟨d,e,h⟩:=Aa h
 obtain ⟨d',e',h⟩:=Aa h
 cases d' with
 | list ds=>exact in_seq e (.inl e') h
 | tuple ds=>exact in_seq e (.inr e') h
 | _=>exact Ac h
theorem Ep (h:(match Bq y with | some w=>(Bq x).bind fun u=>some (Txt.contains w u) | none=>inSeq σ x y)=some b):Pr2 (compareOp .In) x y σ (vb b) σ/\Pr2 (compareOp .NotIn) x y σ (vb !b) σ:=by
 cases e:Bq y with
 | some w =>
  rw [e] at h
  obtain ⟨u,e',h⟩:=Aa h
  rw [AT e,AT e',<-Option.some.inj h]; exact p_inT
 | none=>rw [e] at h; exact inSeq_ok h
theorem inV_ok (h:inV σ x y=some b):Pr2 (compareOp .In) x y σ (vb b) σ/\Pr2 (compareOp .NotIn) x y σ (vb !b) σ:=by
 cases y with
 | ref k =>
  have h:inO σ x k σ[k]? = some b:=h
  cases e:σ[k]? with
  | none=>rw [e] at h; exact Ac h
  | some o =>
   rw [e] at h
   cases o with
   | list ws=>exact inSeq_ok h
   | dictS kvs=>obtain ⟨u,e',h⟩:=Aa h; rw [AT e',<-Option.some.inj h]; exact p_inS e
   | dictP kvs=>obtain ⟨u,e',h⟩:=Aa h; rw [Gr e',<-Option.some.inj h]; exact p_inP e
 | d z=>exact Ep h
 | tup z=>exact Ep h
 | pr _ _=>exact Ep h
 | ty z=>exact Ep h
 | obj z=>exact Ep h
 | exc z=>exact Ep h
 | ecl z=>exact Ep h
theorem FY {f:Int->Int->Bool} {m:Value->Value->Sem Value} (hf:∀ i j,Pr2 m (vi i) (vi j) σ (vb (f i j)) σ) (h:cmpI f x y=some b):Pr2 m x y σ (vb b) σ:=by
 obtain ⟨i,e,h⟩:=Aa h
 obtain ⟨j,e',h⟩:=Aa h
 rw [AO e,AO e',<-Option.some.inj h]
 exact hf i j
theorem CQ {op:CmpOp} (h:Bk op x y σ=some b):Pr2 (compareOp op) x y σ (vb b) σ:=by
 cases op with
 | Eq=>exact (eqV_ok h).1
 | NotEq=>obtain ⟨c,e,rfl⟩:=FU h; exact (eqV_ok e).2
 | Lt=>exact FY (fun _ _=>p_lt) h
 | LtE=>exact FY (fun _ _=>p_le) h
 | Gt=>exact FY (fun _ _=>p_gt) h
 | GtE =>
  have h:geV x y=some b:=h
  unfold geV at h
  cases e:Bq x with
  | some a =>
   rw [e] at h
   obtain ⟨b',e2,h⟩:=Aa h
   rw [AT e,AT e2,<-Option.some.inj h]; exact p_geS
  | none=>rw [e] at h; exact FY (fun _ _=>p_ge) h
 | Is=>exact (isV_ok h).1
 | IsNot=>obtain ⟨c,e,rfl⟩:=FU h; exact (isV_ok e).2
 | In=>exact (inV_ok h).1
 | NotIn=>obtain ⟨c,e,rfl⟩:=FU h; exact (inV_ok e).2
theorem nth_some {k:Int} (h:nth ws k=some v):small k=true/\∃ j,seqIndex? k ws.length=some j/\ws[j]? = some v:=by
 unfold nth at h
 by_cases q:small k=true
 ·rw [if_pos q] at h; exact ⟨q,Aa h⟩
 ·rw [if_neg q] at h; exact Ac h
theorem nthL_ok (e:As σ x=some ws) (h:(B8 y).bind (nth ws)=some v):PrG x y σ v:=by
 obtain ⟨k,e',h⟩:=Aa h
 obtain ⟨q,j,h1,h2⟩:=nth_some h
 rw [AO e']; exact g_list e q h1 h2
theorem CW (h:(match Bq x with
 | some z=>(B8 y).bind fun k=>if small k=true then (Txt.charAt z k).bind fun c=>some (.d (.str (chr1 c))) else none
 | none=>(match BG x with
  | some ws=>(B8 y).bind (nth ws)
  | none=>(As σ x).bind fun ws=>(B8 y).bind (nth ws)))=some v):PrG x y σ v:=by
 cases e:Bq x with
 | some z =>
  rw [e] at h
  obtain ⟨k,e',h⟩:=Aa h
  by_cases q:small k=true
  ·rw [if_pos q] at h
   obtain ⟨c,e2,h⟩:=Aa h
   rw [AT e,AO e',<-Option.some.inj h]; exact g_str q e2
  ·rw [if_neg q] at h; exact Ac h
 | none =>
  rw [e] at h
  cases e2:BG x with
  | some ws =>
   rw [e2] at h
   obtain ⟨k,e',h⟩:=Aa h
   obtain ⟨q,j,h1,h2⟩:=nth_some h
   rw [AO e']; exact g_tup e2 q h1 h2
  | none=>rw [e2] at h; obtain ⟨ws,e3,h⟩:=Aa h; exact nthL_ok e3 h
theorem subscr_ok (h:AQ x y σ=some v):PrG x y σ v:=by
 cases x with
 | ref k =>
  have h:subO σ y σ[k]? = some v:=h
  cases e:σ[k]? with
  | none=>rw [e] at h; exact Ac h
  | some o =>
   rw [e] at h
   cases o with
   | list ws=>exact nthL_ok (x:=.ref k) (by show CG σ[k]? = _; rw [e]; rfl) h
   | dictS kvs =>
    obtain ⟨u,e',h⟩:=Aa h
    obtain ⟨d,e2,h⟩:=Aa h
    rw [AT e',<-Option.some.inj h]; exact g_dictS e e2
   | dictP kvs =>
    obtain ⟨u,e',h⟩:=Aa h
    obtain ⟨d,e2,h⟩:=Aa h
    rw [Gr e',<-Option.some.inj h]; exact g_dictP e e2
 | d z=>exact CW h
 | tup z=>exact CW h
 | pr _ _=>exact CW h
 | ty z=>exact CW h
 | obj z=>exact CW h
 | exc z=>exact CW h
 | ecl z=>exact CW h
theorem cutL_ok (h:cutL σ x lo hi=some ws):PrC x σ lo hi fun r g=>B0 r g σ ws:=by
 obtain ⟨us,e,h⟩:=Aa h
 exact Option.some.inj h▸c_list e
theorem slice_ok (h:slice σ x lo hi=some v):(PrC x σ lo hi fun r g=>Ans r g v σ)\/∃ ws,cutL σ x lo hi=some ws/\mkL ws=some v:=by
 unfold slice at h
 cases e:Bq x with
 | some z=>rw [e] at h; rw [AT e,<-Option.some.inj h]; exact .inl c_str
 | none=>rw [e] at h; exact .inr (Aa h)
theorem D9 (x:Str):∀ l:List Str,(Da x l).Perm (x::l)
 | []=>.refl _
 | y::r=>by
  show (if AU x y=true then x::y::r else y::Da x r).Perm _
  by_cases q:AU x y=true
  ·rw [if_pos q]
  ·rw [if_neg q]; exact (List.Perm.cons y (D9 x r)).trans (.swap ..)
theorem E0:∀ l:List Str,(Cg l).Perm l
 | []=>.refl _
 | x::r=>(D9 x _).trans (.cons x (E0 r))
theorem ltStr_asym {a b:Str} (h:AU a b=true):AU b a=false:=decide_eq_false fun q=>List.lt_irrefl _ (List.lt_trans (of_decide_eq_true h) q)
theorem ltStr_of {a b c:Str} (h1:AU a b=true) (h2:AU c b=false):AU c a=false:=decide_eq_false fun q=>of_decide_eq_false h2 (List.lt_trans q (of_decide_eq_true h1))
theorem Ei (x:Str):∀ l:List Str,Di l->Di (Da x l)
 | [],_=>List.pairwise_singleton ..
 | y::r,h=>by
  have h1:=List.pairwise_cons.mp h
  show Di (if AU x y=true then x::y::r else y::Da x r)
  by_cases q:AU x y=true
  ·rw [if_pos q]
   refine List.pairwise_cons.mpr ⟨fun w hw=>?_,h⟩
   rcases List.mem_cons.mp hw with rfl | hw
   ·exact ltStr_asym q
   ·exact ltStr_of q (h1.1 w hw)
  ·rw [if_neg q]
   refine List.pairwise_cons.mpr ⟨fun w hw=>?_,Ei x r h1.2⟩
   rcases List.mem_cons.mp ((D9 x r).mem_iff.mp hw) with rfl | hw
   ·rw [Bool.not_eq_true] at q; exact q
   ·exact h1.1 w hw
theorem Co:∀ l:List Str,Di (Cg l)
 | []=>.nil
 | x::r=>Ei x _ (Co r)
theorem toList_ok (h:toList σ x=some ws):PrN1 (fun X=>call (A7 .list) [X]) x σ ws 3:=by
 cases x with
 | ref k =>
  have h:keysO σ[k]? = some ws:=h
  cases e:σ[k]? with
  | none=>rw [e] at h; exact Ac h
  | some o =>
   rw [e] at h
   cases o with
   | list us=>rw [<-Option.some.inj h]; exact (f_list (x:=.ref k) (by show CG σ[k]? = _; rw [e]; rfl)).up
   | dictS kvs =>
    obtain ⟨q,h⟩:=AG (show (if kvs.all (fun p=>decide (p.1.length<=line))=true then some (vss (kvs.map (·.1))) else none)=some ws from h)
    rw [<-h]; exact f_listD e fun p hp=>of_decide_eq_true (List.all_eq_true.mp q p hp)
   | dictP kvs=>exact Ac h
 | d z=>exact (f_list (x:=.d z) h).up
 | tup z=>exact Ac h
 | pr _ _=>exact Ac h
 | ty z=>exact Ac h
 | obj z=>exact Ac h
 | exc z=>exact Ac h
 | ecl z=>exact Ac h
theorem bmake1_ok {b:Bi} (h:bmake1 b σ x=some ws):PrN1 (fun X=>call (A7 b) [X]) x σ ws 3:=by
 cases b with
 | list=>exact toList_ok h
 | sorted =>
  obtain ⟨us,e,h⟩:=Aa h
  obtain ⟨ss,e',h⟩:=Aa h
  obtain ⟨q,h⟩:=AG h
  rw [<-h]
  exact (f_sorted (e.trans (congrArg some (CZ (g:=fun y=>.d (.str y)) (fun _ _=>AT) e'))) q (E0 ss) (Co ss)).up
 | _=>exact Ac h
theorem lenV_ok (h:lenV σ x=some v):Pr1 (fun X=>call (A7 .len) [X]) x σ v σ:=by
 unfold lenV at h
 cases e:Bq x with
 | some z=>rw [e] at h; rw [AT e,<-Option.some.inj h]; exact f_lenS
 | none =>
  rw [e] at h
  cases e2:BG x with
  | some ws=>rw [e2] at h; rw [<-Option.some.inj h]; exact f_lenT e2
  | none=>rw [e2] at h; obtain ⟨ws,e3,h⟩:=Aa h; rw [<-Option.some.inj h]; exact f_len e3
theorem ord_ok {z:Str} (h:(match z.cps.toList with | c::r=>(match r with | []=>some (vi c) | _=>none) | []=>none)=some v):Pr1 (fun X=>call (A7 .ord) [X]) (.d (.str z)) σ v σ:=by
 match e:z.cps.toList,h with
 | [],h=>exact Ac h
 | [c],h =>
  rw [<-Option.some.inj h,show z=chr1 c by rw [show z=⟨z.cps⟩ from rfl,<-Array.toArray_toList (xs:=z.cps),e]; rfl]
  exact f_ord
 | _::_::_,h=>exact Ac h
theorem DE {α:Type} {c:Bool} {o:Option α} {y:α} (h:(bif c then o else none)=some y):c=true/\o=some y:=by cases c with | true=>exact ⟨rfl,h⟩ | false=>exact Ac h
theorem reprV_ok (h:reprV x=some v):Pr1 (fun X=>call (A7 .repr) [X]) x σ v σ:=by
 cases x with
 | d y =>
  obtain ⟨q,h⟩:=DE (show (bif isLT y&&shwB y then some (V.d (.str y.shown)) else none)=some v from h)
  exact Option.some.inj h▸f_repr (Bool.and_eq_true_iff.mp q).1 (shw_iff.mp (Bool.and_eq_true_iff.mp q).2)
 | _=>exact Ac h
theorem bcall1_ok {b:Bi} (h:bcall1 b σ x=some v):Pr1 (fun X=>call (A7 b) [X]) x σ v σ 3\/∃ ws,bmake1 b σ x=some ws/\mkL ws=some v:=by
 cases b with
 | len=>exact .inl (lenV_ok h).up
 | str =>
  obtain ⟨i,e,h⟩:=Aa h
  obtain ⟨q,h⟩:=AG h
  rw [AO e,<-h]; exact .inl (f_str q).up
 | all =>
  obtain ⟨us,e,h⟩:=Aa h
  obtain ⟨ss,e',h⟩:=Aa h
  rw [<-Option.some.inj h]
  exact .inl (f_all (e.trans (congrArg some (CZ (g:=fun y=>.d (.bool y)) (fun _ _=>boolV_eq) e'))))
 | any =>
  obtain ⟨us,e,h⟩:=Aa h
  obtain ⟨ss,e',h⟩:=Aa h
  rw [<-Option.some.inj h]
  exact .inl (f_any (e.trans (congrArg some (CZ (g:=fun y=>.d (.bool y)) (fun _ _=>boolV_eq) e'))))
 | ord =>
  obtain ⟨z,e,h⟩:=Aa h
  rw [AT e]; exact .inl (ord_ok h).up
 | repr=>exact .inl (reprV_ok h).up
 | _=>exact .inr (Aa h)
theorem int_of_ty (h:tyOf σ x=some "int"):∃ i,x=vi i:=by
 cases x with
 | d y=>cases y with
  | int i=>exact ⟨i,rfl⟩
  | none=>exact Ac h
  | dict _=>exact Ac h
  | _=>exact absurd (Option.some.inj h) (by decide)
 | tup _=>exact absurd (Option.some.inj h) (by decide)
 | ref k=>obtain ⟨_,_,h⟩:=Aa h; exact absurd (Option.some.inj h) (by decide)
 | _=>exact Ac h
theorem isiV_ok {t:String} (h:isiV σ x t=some b):Pr2 (fun X Y=>call (A7 .isinstance) [X,Y]) x (.ty t) σ (vb b) σ:=by
 obtain ⟨u,e,h⟩:=Aa h
 by_cases q:u=t
 ·rw [if_pos q] at h
  obtain ⟨q',h2⟩:=AG h
  subst q
  rw [<-h2]
  rcases q' with q' | q' | q' | q'
  ·subst q'; exact f_isi e (by kernel_rfl) (by rw [isSubtype_type]; kernel_rfl)
  ·subst q'; exact f_isi e (by kernel_rfl) (by rw [isSubtype_type]; kernel_rfl)
  ·subst q'; exact f_isi e (by kernel_rfl) (by rw [isSubtype_type]; kernel_rfl)
  ·subst q'; exact f_isi e (by kernel_rfl) (by rw [isSubtype_type]; kernel_rfl)
 ·rw [if_neg q] at h
  obtain ⟨⟨q1,q2⟩,h2⟩:=AG h
  subst q1 q2
  obtain ⟨i,rfl⟩:=int_of_ty e
  rw [<-h2]; exact f_isIB
theorem bcall2_ok {b:Bi} (h:bcall2 b σ x y=some v):Pr2 (fun X Y=>call (A7 b) [X,Y]) x y σ v σ 3:=by
 cases b with
 | min=>exact DF (fun i j k e=>Option.some.inj e▸f_min) h
 | isinstance =>
  cases y with
  | ty t=>obtain ⟨b,e,h⟩:=Aa h; rw [<-Option.some.inj h]; exact (isiV_ok e).up
  | _=>exact Ac h
 | _=>exact Ac h
theorem wOf_eq {u:PyData ⊕ Nat} (h:wOf v=some u):v=wv u:=by
 cases v with
 | d x=>rw [<-Option.some.inj h]; rfl
 | ref k=>rw [<-Option.some.inj h]; rfl
 | _=>exact Ac h
theorem attNo_ok {nm:Str}:∀ {as:List Str} {ks:List Nat} {k:Nat},attNo as ks nm=some k->∃ f:Nat,as[f]? = some nm/\ks[f]? = some k
 | [],_,_,h=>Ac h
 | _::_,[],_,h=>Ac h
 | a::as,k'::ks,k,h=>by
  have h:(if (a == nm)=true then some k' else attNo as ks nm)=some k:=h
  by_cases q:(a == nm)=true
  ·rw [if_pos q] at h; exact ⟨0,by rw [eq_of_beq q]; rfl,h⟩
  ·rw [if_neg q] at h
   obtain ⟨f,h1,h2⟩:=attNo_ok h
   exact ⟨f+1,h1,h2⟩
theorem bindB_ok {ts:List Nat} (h:bindB ts v=true):bindOk ts v:=by
 rcases Bool.or_eq_true_iff.mp h with q | q
 ·exact .inl (Nat.eq_of_beq_eq_true q)
 ·cases e:BG v with
  | none=>rw [e] at q; exact ff_ q
  | some vs=>rw [e] at q; exact .inr ⟨vs,e,Nat.eq_of_beq_eq_true q⟩
end
end Mine
namespace Mine
open PySem
structure BI (n:Nat) (e:E) (w:Ev):Prop where
 v:∀ {ρ σ x},w.v ρ σ=some x->SE (n+3) e ρ σ x σ
 nl:∀ {ρ σ ws},w.nl ρ σ=some ws->SL (n+3) e ρ σ ws σ
 row:∀ {ρ σ xs},w.row ρ σ=some xs->SEs (n+3) e ρ σ xs σ
 it:∀ {ρ σ p},w.it ρ σ=some p->SI (n+3) e ρ σ p.1 p.2 σ/\BM σ p.2
 t:∀ {ρ σ b},w.t ρ σ=some b->ST (n+3) e ρ σ b σ
 bo:∀ {op ρ σ x},w.bo op ρ σ=some x->SB (n+3) op e ρ σ x σ
 bt:∀ {op ρ σ b},w.bt op ρ σ=some b->SBt (n+3) op e ρ σ b σ
 ts:∀ {ρ σ b},w.ts ρ σ=some b->SIf (n+3) e ρ σ b σ
noncomputable def isLogic (e:E):Bool:=match e with | .not _=>true | .bop _ _=>true | .cmp _ _ _=>true | _=>false
theorem BA (e:E) {K:Kx} {ex:Expr} (hp:isLogic e=false) (h:IsE e K ex):∀ env w,isTrue ex env w=(w>>=fun v=>standAt ex.pos>>=fun _=>holding [v] (truthy v)):=by
 cases e with
 | nil=>exact h.elim
 | cons _ _=>exact h.elim
 | not _=>exact tt_ hp
 | bop _ _=>exact tt_ hp
 | cmp _ _ _=>exact tt_ hp
 | _=>exact h (fun ex=>∀ env w,isTrue ex env w=(w>>=fun v=>standAt ex.pos>>=fun _=>holding [v] (truthy v))) (by intros; rfl)
section
variable {n:Nat} {e a b r:E} {O:Orc} {f:Ag->Ab->Option V} {g:Ag->Ab->Option (List V)} {ρ:Ag} {σ:Ab} {ws:List V} {v x:V}
theorem DT {v:V} {ws:List V} (h:As σ v=some ws):BM σ (Ct v ws):=fun k us m=>by
 cases v with
 | ref j =>
  have m:(k,us)∈[(j,ws)]:=m
  obtain ⟨rfl,rfl⟩:=Prod.mk.inj (List.mem_singleton.mp m)
  exact BL h
 | _=>exact nomatch m
theorem items_ok {p:Its} (hz:Bt e=false) (h:SE (n+3) e ρ σ v σ) (hv:CH σ v=some p):SI (n+3) e ρ σ p.1 p.2 σ/\BM σ p.2:=by
 unfold CH at hv
 cases q:Bq v with
 | some z =>
  rw [q] at hv
  obtain ⟨ha,hv⟩:=AG hv
  rw [AT q] at h
  exact hv▸⟨SI.str (Nat.le_add_left 3 n) h ha hz,fun _ _ m=>nomatch m⟩
 | none =>
  rw [q] at hv
  obtain ⟨ws,e1,hv⟩:=Aa hv
  exact Option.some.inj hv▸⟨.lst h e1 hz,DT e1⟩
theorem BI.plain (h:∀ {ρ σ x},f ρ σ=some x->SE (n+3) e ρ σ x σ) (hl:isLogic e=false:=by rfl) (hz:Bt e=false:=by rfl):BI n e (.plain f) where
 v:=h
 nl:=fun h=>Ac h
 row:=fun h=>Ac h
 it:=fun q=>by obtain ⟨x,e1,q⟩:=Aa q; exact items_ok hz (h e1) q
 t:=fun q=>by obtain ⟨x,e1,q⟩:=Aa q; exact ST.plain (fun hc=>BA e hl hc) (h e1) (AL q)
 bo:=fun h=>Ac h
 bt:=fun h=>Ac h
 ts:=fun h=>Ac h
theorem BI.made (h:∀ {ρ σ x},f ρ σ=some x->SE (n+3) e ρ σ x σ) (hg:∀ {ρ σ ws},g ρ σ=some ws->ws.length<=line->SL (n+3) e ρ σ ws σ) (hl:isLogic e=false:=by rfl) (hz:Bt e=false:=by rfl):BI n e (.made f g) :=
 { BI.plain h hl hz with nl:=fun q=>by obtain ⟨us,e1,q⟩:=Aa q; obtain ⟨q1,q2⟩:=AG q; exact q2▸hg e1 q1 }
theorem Fo (h:SL (n+3) e ρ σ ws σ) (hv:mkL ws=some v):SE (n+3) e ρ σ v σ:=by
 obtain ⟨ds,e,_,rfl⟩:=Gx hv
 rw [e] at h
 exact SE.frz h
theorem BI.no:BI n e .no:=⟨fun h=>Ac h,fun h=>Ac h,fun h=>Ac h,fun h=>Ac h,fun h=>Ac h,fun h=>Ac h,fun h=>Ac h,fun h=>Ac h⟩
theorem Fb {l:Option Int} (h:∀ {ρ σ x},f ρ σ=some x->SE (n+3) e ρ σ x σ) (q:optI e f ρ σ=some l):SO (n+3) e ρ σ l σ:=by
 unfold optI at q
 by_cases c:Bg e=true
 ·rw [if_pos c] at q
  rw [<-Option.some.inj q]
  cases e with
  | nil=>exact .none
  | _=>exact ff_ c
 ·rw [if_neg c] at q
  obtain ⟨y,e1,q⟩:=Aa q
  obtain ⟨i,e2,q⟩:=Aa q
  rw [<-Option.some.inj q]
  exact .some (Bool.not_eq_true _▸c) (AO e2▸h e1)
theorem CR (h:BR e=true):Dq e:=by
 cases e with
 | var _=>exact Au
 | cst _=>exact basic_cst
 | sub _ _=>exact basic_sub
 | attr _ _=>exact basic_attr
 | _=>exact ff_ h
theorem Cw {elt ifs:E} {ts:List Nat} {kps:List (Nat×List V)} {w1 w2:Ev} (h1:BI n elt w1) (h2:BI n ifs w2) (hk:BM σ kps):∀ {vs ws:List V},CC (fun v=>bif bindB ts v then (w2.ts (BF (A6 ρ ts) ts v) σ).bind fun t=>bif t then (w1.v (BF (A6 ρ ts) ts v) σ).bind (fun u=>some (some u)) else some none else none) vs=some ws->Ej (n+3) elt ts ifs kps ρ σ vs σ ws
 | [],ws,h=>⟨hk,(Option.some.inj h).symm,rfl⟩
 | v::vs,ws,h=>by
  obtain ⟨o,e1,h⟩:=Aa h
  obtain ⟨us,e2,h⟩:=Aa h
  obtain ⟨hb,e1⟩:=DE e1
  obtain ⟨t,e3,e1⟩:=Aa e1
  refine ⟨hk,(bindB_ok hb).at (Nat.le_add_left 3 n),t,σ,h2.ts e3,fun q=>?_,fun q=>?_⟩
  ·subst q
   rw [<-Option.some.inj (show some none=some o from e1)] at h
   rw [<-Option.some.inj (show some us=some ws from h)]
   exact Cw h1 h2 hk e2
  ·subst q
   obtain ⟨u,e4,e1⟩:=Aa (show (w1.v (BF (A6 ρ ts) ts v) σ).bind (fun u=>some (some u))=some o from e1)
   rw [<-Option.some.inj e1] at h
   exact ⟨u,us,σ,h1.v e4,(Option.some.inj (show some (u::us)=some ws from h)).symm,Cw h1 h2 hk e2⟩
theorem G2 {ds:List PyData} (h:listD σ v=some ds):As σ v=some (ds.map .d):=by
 obtain ⟨ws,e1,h⟩:=Aa h
 rw [e1,EQ h]
end
section
variable {n:Nat} {O:Orc} (hO:∀ f xs σ v,O f xs σ=some v->FA (n+3) f xs σ v σ)
include hO
theorem ev_meth {m:Meth} {o es:E} {ρ:Ag} {σ:Ab} {x v:V} {ys:List V} (hb:BR o=true) (h1:SE (n+3) o ρ σ x σ) (h2:SEs (n+3) es ρ σ ys σ) (h:methV m σ x ys=some v):SE (n+3) (.meth m o es) ρ σ v σ:=by
 cases m with
 | join =>
  have h:joinV σ x ys=some v:=h
  match ys,h with
  | [],h=>exact Ac h
  | [y],h =>
   obtain ⟨z,e1,h⟩:=Aa h
   obtain ⟨ws,e2,h⟩:=Aa h
   obtain ⟨ss,e3,h⟩:=Aa h
   obtain ⟨q,h⟩:=AG h
   rw [AT e1] at h1
   exact h▸SE.join (CR hb) (e2.trans (congrArg some (CZ (g:=fun y=>.d (.str y)) (fun _ _=>AT) e3))) q h1 h2
  | _::_::_,h=>exact Ac h
 | index =>
  have h:indexV σ x ys=some v:=h
  match ys,h with
  | [],h=>exact Ac h
  | [y],h =>
   cases x with
   | ref k =>
    obtain ⟨ws,e1,h⟩:=Aa (show (CG σ[k]?).bind (fun ws=>(Dr ws).bind fun ds=>(isDV y).bind fun d=>(inD d ds).bind fun _=>(FO d ds).bind fun j=>some (vi j))=some v from h)
    obtain ⟨ds,e2,h⟩:=Aa h
    obtain ⟨d,e3,h⟩:=Aa h
    obtain ⟨q,e4,h⟩:=Aa h
    obtain ⟨j,e5,h⟩:=Aa h
    have hy:y=.d d:=by cases y with | d z=>rw [Option.some.inj e3] | _=>exact Ac e3
    rw [hy] at h2
    rw [EQ e2] at e1
    exact Option.some.inj h▸SE.lmeth (CR hb) F.slot_list_index F.type_list_index h1 h2 (BL e1) (BL e1) (m_index e4 e5)
   | _=>exact Ac h
  | _::_::_,h=>exact Ac h
 | get =>
  have h:dgetV σ x ys=some v:=h
  match ys,h with
  | [],h=>exact Ac h
  | [_],h=>exact Ac h
  | [y,z],h =>
   cases x with
   | ref k =>
    have h:dgetO σ[k]? y z=some v:=h
    cases e:σ[k]? with
    | none=>rw [e] at h; exact Ac h
    | some o =>
     rw [e] at h
     cases o with
     | dictP kvs =>
      obtain ⟨q,e1,h⟩:=Aa (show (pairV y).bind (fun q=>some (dfl (Az kvs q) z))=some v from h)
      rw [Gr e1] at h2
      exact Option.some.inj h▸SE.getP (CR hb) h1 h2 e e
     | _=>exact Ac h
   | _=>exact Ac h
  | _::_::_::_,h=>exact Ac h
 | _=>exact Ac h
theorem Ad:∀ e:E,BI n e (ev O e)
 | .cst x=>.plain fun h=>Option.some.inj h▸.cst x
 | .var i=>.plain fun {ρ σ x} h=>.var (by
  have h:(match ρ[i]? with | some o=>o | none=>none)=some x:=h
  cases e:ρ[i]? with
  | none=>rw [e] at h; exact Ac h
  | some o=>rw [e] at h; rw [show o=some x from h])
 | .ty t=>.plain fun h=>Option.some.inj h▸.ty
 | .glb x=>.plain fun h=>Option.some.inj h▸.glb
 | .bin op a b=>.made (fun h=>by
  obtain ⟨x,e1,h⟩:=Aa h
  obtain ⟨y,e2,h⟩:=Aa h
  rcases binop_ok h with q | ⟨ws,q1,q2⟩
  ·exact .bin ((Ad a).v e1) ((Ad b).v e2) q
  ·exact Fo (.bin ((Ad a).v e1) ((Ad b).v e2) (catL_ok q1)) q2) fun h hl=>by
  obtain ⟨x,e1,h⟩:=Aa h
  obtain ⟨y,e2,h⟩:=Aa h
  exact .bin ((Ad a).v e1) ((Ad b).v e2) (catL_ok h)
 | .neg a=>.plain fun h=>by
  obtain ⟨x,e1,h⟩:=Aa h
  obtain ⟨i,e2,h⟩:=Aa h
  exact Option.some.inj h▸.neg (AO e2▸(Ad a).v e1)
 | .not a=>{ BI.no with
  v:=fun h=>by
   obtain ⟨x,e1,h⟩:=Aa h
   obtain ⟨t,e2,h⟩:=Aa h
   exact Option.some.inj h▸.not ((Ad a).v e1) (AL e2)
  t:=fun h=>by obtain ⟨c,e1,e2⟩:=FU h; exact e2▸.not ((Ad a).t e1) }
 | .bop op es=>{ BI.no with v:=fun h=>.bop ((Ad es).bo h),t:=fun h=>.bop ((Ad es).bt h) }
 | .cmp op a b=>{ BI.no with
  v:=fun h=>by
   obtain ⟨x,e1,h⟩:=Aa h
   obtain ⟨y,e2,h⟩:=Aa h
   obtain ⟨t,e3,h⟩:=Aa h
   exact Option.some.inj h▸.cmp ((Ad a).v e1) ((Ad b).v e2) (CQ e3)
  t:=fun h=>by
   obtain ⟨x,e1,h⟩:=Aa h
   obtain ⟨y,e2,h⟩:=Aa h
   exact .cmp ((Ad a).v e1) ((Ad b).v e2) (CQ h) }
 | .nil=>{ BI.no with row:=fun h=>Option.some.inj h▸.nil,bt:=fun h=>Option.some.inj h▸.nil,ts:=fun h=>Option.some.inj h▸.nil }
 | .cons a r=>{ BI.no with
  row:=fun h=>by
   obtain ⟨x,e1,h⟩:=Aa h
   obtain ⟨xs,e2,h⟩:=Aa h
   exact Option.some.inj h▸.cons ((Ad a).v e1) ((Ad r).row e2)
  bo:=fun {op ρ σ x} h=>by
   have h:(bif Bg r then (ev O a).v ρ σ else ((ev O a).v ρ σ).bind fun x=>(Dw σ x).bind fun t=>bif t == BS op then some x else (ev O r).bo op ρ σ)=some x:=h
   cases q:Bg r with
   | true =>
    rw [q] at h
    have e:r=.nil:=by cases r with | nil=>rfl | _=>exact ff_ q
    rw [e]; exact .one ((Ad a).v h)
   | false =>
    rw [q] at h
    obtain ⟨y,e1,h⟩:=Aa (show ((ev O a).v ρ σ).bind (fun x=>(Dw σ x).bind fun t=>bif t == BS op then some x else (ev O r).bo op ρ σ)=some x from h)
    obtain ⟨t,e2,h⟩:=Aa h
    refine .more q ((Ad a).v e1) (AL e2) (fun c=>?_) fun c=>?_
    ·rw [beq_iff_eq.mpr c] at h; exact ⟨(Option.some.inj h).symm,rfl⟩
    ·rw [beq_eq_false_iff_ne.mpr c] at h; exact (Ad r).bo h
  bt:=fun {op ρ σ b} h=>by
   obtain ⟨t,e1,h⟩:=Aa h
   refine .cons ((Ad a).t e1) (fun c=>?_) fun c=>?_
   ·rw [beq_iff_eq.mpr c] at h; exact ⟨(Option.some.inj h).symm,rfl⟩
   ·rw [beq_eq_false_iff_ne.mpr c] at h; exact (Ad r).bt h
  ts:=fun {ρ σ b} h=>by
   obtain ⟨t,e1,h⟩:=Aa h
   cases t with
   | true=>exact .cons ((Ad a).t e1) ((Ad r).ts h)
   | false=>exact Option.some.inj (show some false=some b from h)▸.no ((Ad a).t e1) }
 | .tup es=>.plain fun {ρ σ x} h=>by
  obtain ⟨ws,e1,h⟩:=Aa h
  unfold tupV at h
  by_cases q:ws.length<=line
  ·rw [if_pos q] at h
   cases e2:Dr ws with
   | some ds =>
    rw [e2] at h
    have e3:=EQ e2
    have e4:=(Ad es).row e1
    rw [e3] at e4 q
    rw [List.length_map] at q
    exact Option.some.inj (show some (V.d (.tuple ds))=some x from h)▸.tup e4 q
   | none =>
    rw [e2] at h
    obtain ⟨us,e3,h⟩:=Aa (show (BV wOf ws).bind (fun us=>some (V.tup us))=some x from h)
    have e4:=(Ad es).row e1
    rw [CZ (g:=wv) (fun _ _=>wOf_eq) e3] at e4 q
    rw [List.length_map] at q
    exact Option.some.inj h▸.tupR e4 q
  ·rw [if_neg q] at h; exact Ac h
 | .lst es=>.made (fun h=>by
  obtain ⟨ws,e1,h⟩:=Aa h
  obtain ⟨_,_,q,_⟩:=Gx h
  exact Fo (.lst ((Ad es).row e1) q) h) fun h hl=>.lst ((Ad es).row h) hl
 | .sub a i=>.plain fun h=>by
  obtain ⟨x,e1,h⟩:=Aa h
  obtain ⟨y,e2,h⟩:=Aa h
  exact .sub ((Ad a).v e1) ((Ad i).v e2) (subscr_ok h)
 | .slc a lo hi=>.made (fun h=>by
  obtain ⟨x,e1,h⟩:=Aa h
  obtain ⟨l,e2,h⟩:=Aa h
  obtain ⟨u,e3,h⟩:=Aa h
  rcases slice_ok h with q | ⟨ws,q1,q2⟩
  ·exact .slc ((Ad a).v e1) (Fb (Ad lo).v e2) (Fb (Ad hi).v e3) q
  ·exact Fo (.slc ((Ad a).v e1) (Fb (Ad lo).v e2) (Fb (Ad hi).v e3) (cutL_ok q1)) q2) fun h hl=>by
  obtain ⟨x,e1,h⟩:=Aa h
  obtain ⟨l,e2,h⟩:=Aa h
  obtain ⟨u,e3,h⟩:=Aa h
  exact .slc ((Ad a).v e1) (Fb (Ad lo).v e2) (Fb (Ad hi).v e3) (cutL_ok h)
 | .bi b es=>.made (fun {ρ σ v} h=>by
  obtain ⟨ws,e1,h⟩:=Aa h
  match ws,e1,h with
  | [],_,h=>exact Ac h
  | [x],e1,h =>
   rcases bcall1_ok h with q | ⟨ws,q1,q2⟩
   ·exact .bi1 ((Ad es).row e1) q (Nat.le_add_left 3 n)
   ·exact Fo (.bi1 ((Ad es).row e1) (bmake1_ok q1) (Nat.le_add_left 3 n)) q2
  | [x,y],e1,h=>exact .bi2 ((Ad es).row e1) (bcall2_ok h) (Nat.le_add_left 3 n)
  | _::_::_::_,_,h=>exact Ac h) fun {ρ σ us} h hl=>by
  obtain ⟨ws,e1,h⟩:=Aa h
  match ws,e1,h with
  | [],_,h=>exact Ac h
  | [x],e1,h=>exact .bi1 ((Ad es).row e1) (bmake1_ok h) (Nat.le_add_left 3 n)
  | _::_::_,_,h=>exact Ac h
 | .maxd a z=>.plain fun h=>by
  obtain ⟨x,e1,h⟩:=Aa h
  obtain ⟨y,e2,h⟩:=Aa h
  obtain ⟨k,e3,h⟩:=Aa h
  obtain ⟨ws,e4,h⟩:=Aa h
  obtain ⟨is,e5,h⟩:=Aa h
  exact Option.some.inj h▸.maxd (Nat.le_add_left 3 n) ((Ad a).v e1) (AO e3▸(Ad z).v e2) (e4.trans (congrArg some (CZ (g:=vi) (fun _ _=>AO) e5)))
 | .fcall f es=>.plain fun h=>by
  obtain ⟨xs,e1,h⟩:=Aa h
  exact .fcall ((Ad es).row e1) (hO _ _ _ _ h)
 | .meth m o es=>.plain fun h=>by
  obtain ⟨q,h⟩:=DE h
  obtain ⟨x,e1,h⟩:=Aa h
  obtain ⟨ys,e2,h⟩:=Aa h
  exact ev_meth hO q ((Ad o).v e1) ((Ad es).row e2) h
 | .attr nm o=>.plain fun {ρ σ v} h=>by
  obtain ⟨q,h⟩:=DE h
  obtain ⟨x,e1,h⟩:=Aa h
  have e2:=(Ad o).v e1
  cases o with
  | var i =>
   cases x with
   | obj ks =>
    obtain ⟨k,e3,h⟩:=Aa (show (attNo Ca ks nm).bind (fun k=>some (V.ref k))=some v from h)
    obtain ⟨f,h1,h2⟩:=attNo_ok e3
    exact Option.some.inj h▸.attr e2 h1 h2
   | _=>exact Ac h
  | _=>exact ff_ q
 | .mcall nm o es=>.plain fun h=>by
  obtain ⟨q,h⟩:=DE h
  obtain ⟨x,e1,h⟩:=Aa h
  obtain ⟨ys,e2,h⟩:=Aa h
  obtain ⟨ks,e3,h⟩:=Aa h
  obtain ⟨f,e4,h⟩:=Aa h
  have hx:x=.obj ks:=by cases x with | obj _=>rw [Option.some.inj e3] | _=>exact Ac e3
  exact .mcall (CR q) e4 (hx▸(Ad o).v e1) ((Ad es).row e2) (hO _ _ _ _ h)
 | .comp elt ts it ifs=>.made (fun h=>by
  obtain ⟨ws,h1,h⟩:=Aa h
  obtain ⟨p,e1,h1⟩:=Aa h1
  obtain ⟨i1,i2⟩:=(Ad it).it e1
  obtain ⟨_,_,q,_⟩:=Gx h
  exact Fo (.comp i1 (Cw (Ad elt) (Ad ifs) i2 h1) q) h) fun h hl=>by
  obtain ⟨p,e1,h1⟩:=Aa h
  obtain ⟨i1,i2⟩:=(Ad it).it e1
  exact .comp i1 (Cw (Ad elt) (Ad ifs) i2 h1) hl
 | .range es=>{ BI.no with
  it:=fun {ρ σ p} h=>by
   obtain ⟨xs,e1,h⟩:=Aa h
   match xs,e1,h with
   | [],_,h=>exact Ac h
   | [x],e1,h =>
    obtain ⟨k,e2,h⟩:=Aa (show (B8 x).bind (fun k=>if k<=1000000/\-1000000<=k then some (upV 0 k.toNat,[]) else none)=some p from h)
    obtain ⟨q,h⟩:=AG h
    have e3:=(Ad es).row e1
    rw [AO e2] at e3
    exact h▸⟨.range (Nat.le_add_left 3 n) e3 q.1 q.2,fun _ _ m=>nomatch m⟩
   | _::_::_,_,h=>exact Ac h }
 | .zip a b=>{ BI.no with
  it:=fun h=>by
   obtain ⟨x,e1,h⟩:=Aa h
   obtain ⟨y,e2,h⟩:=Aa h
   obtain ⟨ds,e3,h⟩:=Aa h
   obtain ⟨ds',e4,h⟩:=Aa h
   exact Option.some.inj h▸⟨.zip (Nat.le_add_left 3 n) ((Ad a).v e1) ((Ad b).v e2) e3 e4,fun k us m=>(List.mem_append.mp m).elim (DT e3 k us) (DT e4 k us)⟩ }
 | .enum a=>{ BI.no with
  it:=fun h=>by
   obtain ⟨x,e1,h⟩:=Aa h
   obtain ⟨ds,e3,h⟩:=Aa h
   exact Option.some.inj h▸⟨.enum (Nat.le_add_left 3 n) ((Ad a).v e1) (G2 e3),DT (G2 e3)⟩ }
 | .dct=>.no
 | .sortr _=>.no
 | .sortk _ _ _ _=>.no
 | .new=>.no
 | .glx _=>.no
end
end Mine
namespace Mine
open PySem PySem.Calls
structure Cfg where
 n:Nat
 O:Orc
 ok:∀ f xs σ v,O f xs σ=some v->FN n f xs σ v σ
noncomputable abbrev Cfg.v (C:Cfg) (e:E):Ag->Ab->Option V:=(ev C.O e).v
noncomputable abbrev Cfg.row (C:Cfg) (e:E):Ag->Ab->Option (List V):=(ev C.O e).row
noncomputable abbrev Cfg.it (C:Cfg) (e:E):Ag->Ab->Option Its:=(ev C.O e).it
noncomputable abbrev Cfg.nl (C:Cfg) (e:E):Ag->Ab->Option (List V):=(ev C.O e).nl
noncomputable abbrev Cfg.t (C:Cfg) (e:E):Ag->Ab->Option Bool:=(ev C.O e).t
def Aj (C:Cfg) (P:Fl->Ab->Prop) (l:S) (ρ:Ag) (σ:Ab):Prop:=∃ fl σ',P fl σ'/\SSs (C.n+3) l ρ σ fun f s=>f=fl/\s=σ'
def Then (C:Cfg) (P:Fl->Ab->Prop) (r:S) (fl:Fl) (σ:Ab):Prop:=match fl with | .next ρ=>Aj C P r ρ σ | .ret v=>P (.ret v) σ
section
variable {C:Cfg} {P M:Fl->Ab->Prop} {l r a b body:S} {st:S} {ρ ρ':Ag} {σ σ':Ab} {e c it:E} {x:Nat} {v:V} {t:Bool} {ws:List V} {xs ts:List Nat}
theorem Aj.mono (h:Aj C M l ρ σ) (hm:∀ fl σ,M fl σ->P fl σ):Aj C P l ρ σ:=by
 obtain ⟨fl,σ',h1,h2⟩:=h
 exact ⟨fl,σ',hm _ _ h1,h2⟩
theorem Ae (h:P (.next ρ) σ):Aj C P .nil ρ σ:=⟨_,_,h,.nil ⟨rfl,rfl⟩⟩
theorem C8 {fl:Fl} (hs:∀ Q:Fl->Ab->Prop,Q fl σ'->SS (C.n+3) st ρ σ Q) (h:Then C P r fl σ'):Aj C P (.cons st r) ρ σ:=by
 cases fl with
 | next ρ' =>
  obtain ⟨fl,σ₂,h1,h2⟩:=h
  exact ⟨fl,σ₂,h1,.cons (hs _ h2)⟩
 | ret v=>exact ⟨.ret v,σ',h,.cons (hs _ ⟨rfl,rfl⟩)⟩
theorem AX (hp:B1 e=false) (h:SE (C.n+3) e ρ σ v σ') (k:Aj C P r (ρ.set x (some v)) σ'):Aj C P (.cons (.asg x e) r) ρ σ:=C8 (fl:=.next (ρ.set x (some v))) (fun Q q=>.asg hp h q) k
theorem Aw (h:C.v e ρ σ=some v) (k:Aj C P r (ρ.set x (some v)) σ) (hp:B1 e=false:=by rfl):Aj C P (.cons (.asg x e) r) ρ σ:=AX hp ((Ad C.ok e).v h) k
theorem BE (h:C.nl e ρ σ=some ws) (k:Aj C P r (ρ.set x (some (.ref σ.length))) (σ++[.list ws])) (hp:B1 e=false:=by rfl):Aj C P (.cons (.asg x e) r) ρ σ:=AX hp (SE.trk ((Ad C.ok e).nl h)) k
theorem go_asgD (k:Aj C P r (ρ.set x (some (.ref σ.length))) (σ++[.dictS []])):Aj C P (.cons (.asg x .dct) r) ρ σ:=AX rfl .dctS k
theorem comp_of {elt ifs:E} (h:C.nl (.comp elt ts it ifs) ρ σ=some ws):∃ vs kps,SI (C.n+3) it ρ σ vs kps σ/\Ej (C.n+3) elt ts ifs kps ρ σ vs σ ws/\ws.length<=line:=by
 obtain ⟨us,h1,q⟩:=Aa h
 obtain ⟨q1,q2⟩:=AG q
 obtain ⟨p,e1,h2⟩:=Aa h1
 obtain ⟨i1,i2⟩:=(Ad C.ok it).it e1
 exact ⟨p.1,p.2,i1,q2▸Cw (Ad C.ok elt) (Ad C.ok ifs) i2 h2,q2▸q1⟩
theorem go_comp {elt ifs:E} {ds:List PyData} (h:C.nl (.comp elt ts it ifs) ρ σ=some (ds.map .d)) (k:Aj C P r (ρ.set x (some (.d (.list ds)))) σ):Aj C P (.cons (.asg x (.comp elt ts it ifs)) r) ρ σ:=by
 obtain ⟨vs,kps,h1,h2,h3⟩:=comp_of h
 exact C8 (fl:=.next (ρ.set x (some (.d (.list ds))))) (fun Q q=>.asgC h1 h2 h3 (fun n=>n.frz) q) k
theorem Bv (hp:B1 e=false) (h:SE (C.n+3) e ρ σ v σ') (k:Aj C P r ρ σ'):Aj C P (.cons (.exp e) r) ρ σ:=C8 (fl:=.next ρ) (fun Q q=>.exp hp h q) k
theorem Dc (h:SE (C.n+3) e ρ σ v σ') (k:P (.ret v) σ'):Aj C P (.cons (.ret e) r) ρ σ:=C8 (fl:=.ret v) (fun Q q=>.ret h q) k
theorem AS (h:C.v e ρ σ=some v) (k:P (.ret v) σ):Aj C P (.cons (.ret e) r) ρ σ:=Dc ((Ad C.ok e).v h) k
theorem go_retT (h:C.nl e ρ σ=some ws) (k:P (.ret (.ref σ.length)) (σ++[.list ws])):Aj C P (.cons (.ret e) r) ρ σ:=Dc (SE.trk ((Ad C.ok e).nl h)) k
theorem EG {m:Meth} {id:String} {o es:E} {k:Nat} {us:List V} (slot:Slot "list" (Str.ofString (D5 m)) id) (ty:typeOf (.builtin id)=pure (.type "method_descriptor")) (ho:C.v o ρ σ=some (.ref k)) (hes:C.row es ρ σ=some us) (h0:σ[k]? = some (.list ws)) (h:PrM id k ws us σ v σ') (hb:BR o=true) (kk:Aj C P r ρ σ'):Aj C P (.cons (.exp (.meth m o es)) r) ρ σ :=
 Bv rfl (.lmeth (CR hb) slot ty ((Ad C.ok o).v ho) ((Ad C.ok es).row hes) h0 h0 h) kk
theorem AJ {o es:E} {k:Nat} {y:V} (ho:C.v o ρ σ=some (.ref k)) (hes:C.row es ρ σ=some [y]) (h0:σ[k]? = some (.list ws)) (hl:ws.length < line) (kk:Aj C P r ρ (σ.set k (.list (ws++[y])))) (hb:BR o=true:=by rfl):Aj C P (.cons (.exp (.meth .append o es)) r) ρ σ :=
 EG slot_list_append type_list_append ho hes h0 (m_append hl) hb kk
theorem go_remove {o es:E} {k j:Nat} {d:PyData} {ds:List PyData} {q:Bool} (ho:C.v o ρ σ=some (.ref k)) (hes:C.row es ρ σ=some [.d d]) (h0:σ[k]? = some (.list (ds.map .d))) (h1:inD d ds=some q) (h2:FO d ds=some j) (kk:Aj C P r ρ (σ.set k (.list ((ds.map .d).eraseIdx j)))) (hb:BR o=true:=by rfl):Aj C P (.cons (.exp (.meth .remove o es)) r) ρ σ :=
 EG F.slot_list_remove F.type_list_remove ho hes h0 (m_remove h1 h2) hb kk
theorem GA {o:E} {k:Nat} (ho:C.v o ρ σ=some (.ref k)) (h0:σ[k]? = some (.list ws)) (kk:Aj C P r ρ (σ.set k (.list []))) (hb:BR o=true:=by rfl):Aj C P (.cons (.exp (.meth .clear o .nil)) r) ρ σ :=
 EG F.slot_list_clear F.type_list_clear ho rfl h0 m_clear hb kk
theorem Db {o i d:E} {z y:V} {k:Nat} {kvs:List (Str×PyData)} {w:Str} {dd:PyData} (hd:C.v d ρ σ=some (.d dd)) (ho:C.v o ρ σ=some (.ref k)) (hi:C.v i ρ σ=some (.d (.str w))) (h0:σ[k]? = some (.dictS kvs)) (hl:kvs.length < line) (kk:Aj C P r ρ (σ.set k (.dictS (CF kvs w dd)))) (hp:B1 d=false:=by rfl):Aj C P (.cons (.set o i d) r) ρ σ :=
 C8 (fl:=.next ρ) (fun Q q=>.set hp ((Ad C.ok d).v hd) ((Ad C.ok o).v ho) ((Ad C.ok i).v hi) (s_dictS h0 hl) q) kk
theorem go_if (h:C.t c ρ σ=some t) (k:Aj C (Then C P r) (bif t then a else b) ρ σ):Aj C P (.cons (.ite c a b) r) ρ σ:=by
 obtain ⟨fl,σ',h1,h2⟩:=k
 refine C8 (fl:=fl) (σ':=σ') (fun Q q=>.ite ((Ad C.ok c).t h) (fun e=>?_) fun e=>?_) h1
 ·subst e; exact SSs.mono (fun f s e=>by rw [e.1,e.2]; exact q) h2
 ·subst e; exact SSs.mono (fun f s e=>by rw [e.1,e.2]; exact q) h2
theorem Bn (h:C.t c ρ σ=some t) (kt:t=true->Aj C (Then C P r) a ρ σ) (kf:t=false->Aj C (Then C P r) b ρ σ):Aj C P (.cons (.ite c a b) r) ρ σ:=go_if h (by cases t with | true=>exact kt rfl | false=>exact kf rfl)
theorem B2 (h:C.t c ρ σ=some false) (k:Aj C P r ρ σ):Aj C P (.cons (.ite c a .nil) r) ρ σ:=go_if h (Ae k)
theorem turns {α:Type} {kps:List (Nat×List V)} (w:α->V) (J:List α->Ag->Ab->Prop):∀ (q p:List α) (ρ:Ag) (σ:Ab),(∀ p ρ σ,J p ρ σ->BM σ kps)->(∀ a,a∈q->bindOk ts (w a))->J p ρ σ ->
 (∀ p' a q' ρ σ,p++q=p'++a::q'->J p' ρ σ->Aj C (fun fl σ'=>∃ ρ',fl=.next ρ'/\J (p'++[a]) ρ' σ') body (BF ρ ts (w a)) σ)->∃ ρe σe,J (p++q) ρe σe/\∀ Q:Fl->Ab->Prop,Q (.next ρe) σe->ForQ (C.n+3) ts body kps Q (q.map w) ρ σ
 | [],p,ρ,σ,hk,_,hJ,_=>⟨ρ,σ,(List.append_nil p).symm▸hJ,fun Q h=>⟨hk p ρ σ hJ,h⟩⟩
 | a::q,p,ρ,σ,hk,hb,hJ,hf=>by
  obtain ⟨fl,σ₁,⟨ρ1,rfl,h1⟩,h2⟩:=hf p a q ρ σ rfl hJ
  have e:p++[a]++q=p++a::q:=by rw [List.append_assoc]; rfl
  obtain ⟨ρe,σe,h3,h4⟩:=turns w J q (p++[a]) ρ1 σ₁ hk (fun b hb'=>hb b (.tail _ hb')) h1 fun p' b q' ρ σ he=>hf p' b q' ρ σ (e.symm.trans he)
  exact ⟨ρe,σe,e▸h3,fun Q h=>⟨hk p ρ σ hJ,(hb a (.head _)).at (Nat.le_add_left 3 _),SSs.mono (fun f s e=>by rw [e.1,e.2]; exact h4 Q h) h2⟩⟩
theorem G9 {α:Type} {l:List α} {kps:List (Nat×List V)} (w:α->V) (J:List α->Ag->Ab->Prop) (hit:C.it it ρ σ=some (l.map w,kps)) (hk:∀ p ρ σ,J p ρ σ->BM σ kps) (hb:∀ a,a∈l->bindOk ts (w a)) (hJ:J [] ρ σ)
 (hf:∀ p a q ρ σ,l=p++a::q->J p ρ σ->Aj C (fun fl σ'=>∃ ρ',fl=.next ρ'/\J (p++[a]) ρ' σ') body (BF ρ ts (w a)) σ) (k:∀ ρ' σ',J l ρ' σ'->Aj C P r ρ' σ'):Aj C P (.cons (.for_ ts it body) r) ρ σ:=by
 obtain ⟨ρe,σe,h1,h2⟩:=turns (C:=C) (body:=body) (ts:=ts) w J l [] ρ σ hk hb hJ hf
 exact C8 (fl:=.next ρe) (fun Q q=>.for_ ((Ad C.ok it).it hit).1 (h2 Q q)) (k ρe σe h1)
theorem Bu {α:Type} {l:List α} (w:α->V) (J:List α->Ag->Ab->Prop) (hit:C.it it ρ σ=some (l.map w,[])) (hJ:J [] ρ σ)
 (hf:∀ p a q ρ σ,l=p++a::q->J p ρ σ->Aj C (fun fl σ'=>∃ ρ',fl=.next ρ'/\J (p++[a]) ρ' σ') body (ρ.set x (some (w a))) σ) (k:∀ ρ' σ',J l ρ' σ'->Aj C P r ρ' σ'):Aj C P (.cons (.for_ [x] it body) r) ρ σ :=
 G9 w J hit (fun _ _ _ _ _ _ m=>nomatch m) (fun _ _=>.inl rfl) hJ hf k
theorem whiles (J:Nat->Ag->Ab->Prop) (t:Nat->Bool) (ht:∀ m ρ σ,J m ρ σ->C.t c ρ σ=some (t m)) (h0:t 0=false)
 (hf:∀ m ρ σ,J (m+1) ρ σ->t (m+1)=true->Aj C (fun fl σ'=>∃ ρ',fl=.next ρ'/\J m ρ' σ') body ρ σ):∀ (m:Nat) (ρ:Ag) (σ:Ab),J m ρ σ->∃ ρe σe m',J m' ρe σe/\t m'=false/\∀ Q:Fl->Ab->Prop,Q (.next ρe) σe->WhQ (C.n+3) c body Q (m+1) ρ σ
 | 0,ρ,σ,hJ=>⟨ρ,σ,0,hJ,h0,fun Q q=>⟨false,σ,(Ad C.ok c).t (h0▸ht 0 ρ σ hJ),fun _=>q,fun h=>ff_ h⟩⟩
 | m+1,ρ,σ,hJ=>by
  have h:=ht (m+1) ρ σ hJ
  cases e:t (m+1) with
  | false=>rw [e] at h; exact ⟨ρ,σ,m+1,hJ,e,fun Q q=>⟨false,σ,(Ad C.ok c).t h,fun _=>q,fun h=>ff_ h⟩⟩
  | true =>
   rw [e] at h
   obtain ⟨fl,σ₁,⟨ρ1,rfl,h1⟩,h2⟩:=hf m ρ σ hJ e
   obtain ⟨ρe,σe,m',h3,h5,h4⟩:=whiles J t ht h0 hf m ρ1 σ₁ h1
   exact ⟨ρe,σe,m',h3,h5,fun Q q=>⟨true,σ,(Ad C.ok c).t h,fun h=>tt_ h,fun _=>SSs.mono (fun f s e=>by rw [e.1,e.2]; exact h4 Q q) h2⟩⟩
theorem go_while (J:Nat->Ag->Ab->Prop) (t:Nat->Bool) (m:Nat) (hJ:J m ρ σ) (ht:∀ m ρ σ,J m ρ σ->C.t c ρ σ=some (t m)) (h0:t 0=false)
 (hf:∀ m ρ σ,J (m+1) ρ σ->t (m+1)=true->Aj C (fun fl σ'=>∃ ρ',fl=.next ρ'/\J m ρ' σ') body ρ σ) (k:∀ m' ρ' σ',J m' ρ' σ'->t m'=false->Aj C P r ρ' σ'):Aj C P (.cons (.while_ c body) r) ρ σ:=by
 obtain ⟨ρe,σe,m',h1,h2,h3⟩:=whiles (C:=C) J t ht h0 hf m ρ σ hJ
 exact C8 (fl:=.next ρe) (fun Q q=>.while_ (h3 Q q)) (k m' ρe σe h1 h2)
noncomputable def Gn (fl:Fl):V:=match fl with | .next _=>.d .none | .ret v=>v
theorem FN.ends {f:Nat} {fn:Fn} {zs:List V} {R:V->Ab->Prop} (hP:Pg f=some fn) (hl:zs.length=fn.np) (hn:1<=C.n) (h:Aj C (fun fl σ'=>R (Gn fl) σ') fn.body (Bc fn zs) σ):∃ v σ',R v σ'/\FN (C.n+1) f zs σ v σ':=by
 obtain ⟨fl,σ',h1,h2⟩:=h
 refine ⟨_,σ',h1,?_⟩
 show FA (C.n+1+3) f zs σ _ σ'
 rw [Nat.add_right_comm]
 refine FA.of hP hl (SSs.mono (fun f s e=>?_) h2) (Nat.le_trans hn (Nat.le_add_right _ _))
 rw [e.1,e.2]
 cases fl with
 | next _=>exact ⟨rfl,rfl⟩
 | ret _=>exact ⟨rfl,rfl⟩
theorem FN.same {f:Nat} {fn:Fn} {zs:List V} {v:V} {σ':Ab} (hP:Pg f=some fn) (hl:zs.length=fn.np) (hn:1<=C.n) (h:Aj C (fun fl s=>Gn fl=v/\s=σ') fn.body (Bc fn zs) σ):FN (C.n+1) f zs σ v σ':=by
 obtain ⟨_,_,⟨h1,h2⟩,h⟩:=FN.ends (R:=fun w s=>w=v/\s=σ') hP hl hn h
 rw [h1,h2] at h
 exact h
end
end Mine
namespace Mine
open PySem PySem.Calls
section
variable {C:Cfg} {P:Fl->Ab->Prop} {r:S} {ρ:Ag} {σ:Ab} {o es:E} {x k:Nat} {ws us:List V} {y:V}
theorem erase_last (ws:List V) (y:V):(ws++[y]).eraseIdx ((ws++[y]).length-1)=ws:=by
 rw [List.length_append,show ws.length + [y].length-1=ws.length from rfl,List.eraseIdx_append_of_length_le (Nat.le_refl _),Nat.sub_self]
 exact List.append_nil ws
theorem go_pop (ho:C.v o ρ σ=some (.ref k)) (h0:σ[k]? = some (.list (ws++[y]))) (kk:Aj C P r (ρ.set x (some y)) (σ.set k (.list ws))) (hb:BR o=true:=by rfl):Aj C P (.cons (.asg x (.meth .pop o .nil)) r) ρ σ:=by
 refine AX rfl (.lmeth (CR hb) F.slot_list_pop F.type_list_pop ((Ad C.ok o).v ho) .nil h0 h0 (m_pop (v:=y) ?_)) ?_
 ·rw [List.length_append,show ws.length + [y].length-1=ws.length from rfl,List.getElem?_append_right (Nat.le_refl _),Nat.sub_self]; rfl
 ·rw [erase_last]; exact kk
theorem go_extend (ho:C.v o ρ σ=some (.ref k)) (hes:C.row es ρ σ=some [y]) (h0:σ[k]? = some (.list ws)) (hy:As σ y=some us) (hl:ws.length+us.length<=line) (kk:Aj C P r ρ (σ.set k (.list (ws++us)))) (hb:BR o=true:=by rfl):Aj C P (.cons (.exp (.meth .extend o es)) r) ρ σ :=
 EG F.slot_list_extend F.type_list_extend ho hes h0 (m_extend hy hl) hb kk
end
end Mine
namespace Mine
open PySem PySem.Calls
structure LeM (m:Nat) (own:List Addr) (g g':G):Prop where
 fz:FzLe g.fz g'.fz
 mu:∀ (k:Nat) (a:Addr),k < m->g.mu[k]? = some a->g'.mu[k]? = some a
 hid:∀ a,a∉own->g'.hid a=g.hid a
def SF (n m:Nat) (l:S) (ρ:Ag) (σ:Ab) (v:V) (σ':Ab):Prop :=
 ∀ (c:Cx) (g:G) (s:Shared) (xs:List Stmt),IsSs l c.K xs->Inv n c ρ g σ s->c.wp (execs xs c.env) (fun f s'=>∃ x g',f=.ret x/\LeM m c.own g g'/\Has c.T g' σ' s'/\(∀ a,a∈c.own->g'.hid a≠none)/\Ak c.T g' v x) s
def SealR (σ:Ab) (m:Nat) (ρ ρ':Ag):Prop:=∀ (i:Nat) (v':V),ρ'[i]? = some (some v')->∃ v,ρ[i]? = some (some v)/\((v=v'/\low m v)\/∃ d,v'=.d d/\Sn σ m v d)
section
variable {n m:Nat} {l r st:S} {ρ ρ':Ag} {σ τ σ':Ab} {v:V} {c:Cx} {g g':G} {s:Shared} {own:List Addr} {C:Cfg} {P:V->Ab->Prop}
theorem LeM.of (le:G.le own g g'):LeM m own g g':=⟨le.fz,fun k a _ e=>le.mu k a e,le.hid⟩
theorem LeM.trans {g'':G} (x:LeM m own g g') (y:LeM m own g' g''):LeM m own g g'':=⟨fun a o e=>y.fz a o (x.fz a o e),fun k a h e=>y.mu k a h (x.mu k a h e),fun a h=>(y.hid a h).trans (x.hid a h)⟩
theorem SF.of (h:SSs n l ρ σ fun f s=>f=.ret v/\s=σ'):SF n m l ρ σ v σ':=fun c g s xs hc I=>wpAny_mono (h c g s xs hc I) (fun f s' p=>p.elim (fun ρ σ₁ g' e q le I=>nomatch q.1) fun u x σ₁ g' e q le H w r=>by
 obtain ⟨q1,rfl⟩:=q
 injection q1 with q1
 subst q1
 exact ⟨x,g',e,.of le,H,w,r⟩) fun _ _ h=>h
theorem SF.cons (h:SS n st ρ σ fun fl σ₁=>∃ ρ1,fl=.next ρ1/\SF n m r ρ1 σ₁ v σ'):SF n m (.cons st r) ρ σ v σ':=fun c g s xs hc I=>hc (fun xs=>c.wp (execs xs c.env) (fun f s'=>∃ x g',f=.ret x/\LeM m c.own g g'/\Has c.T g' σ' s'/\(∀ a,a∈c.own->g'.hid a≠none)/\Ak c.T g' v x) s) fun x l h1 h2=>by
 rw [execs_cons]
 refine wpAny_bind (wpAny_mono (h c g s x h1 I) (fun f s₁ p=>p.elim (fun ρ1 σ₁ g₁ e q le I1=>?_) fun v x σ₁ g₁ e q le H w r=>?_) fun _ _ h=>h)
 ·subst e
  obtain ⟨ρ2,q1,q2⟩:=q
  injection q1 with q1
  subst q1
  refine wpAny_mono (q2 c g₁ s₁ l h2 I1) (fun f s' p=>?_) fun _ _ h=>h
  obtain ⟨x,g',e1,e2,e3⟩:=p
  exact ⟨x,g',e1,LeM.trans (.of le) e2,e3⟩
 ·obtain ⟨ρ2,q1,_⟩:=q; exact nomatch q1
theorem SF.done (h:SF n σ.length l ρ σ v σ'):SSs n l ρ σ fun f s=>f=.ret v/\s=σ':=fun c g s xs hc I=>wpAny_mono (h c g s xs hc I) (fun f s' p=>by
 obtain ⟨x,g',rfl,e2,e3,e4,e5⟩:=p
 exact fun R_ _ k2=>k2 v x σ' g' ⟨rfl,rfl⟩ ⟨⟨e2.fz,fun k a e=>e2.mu k a (I.has.len▸mu_lt e) e⟩,e2.hid⟩ e3 e4 e5) fun _ _ h=>h
theorem seal_one (H:Has c.T g (σ++τ) s) (hr:SealR (σ++τ) σ.length ρ ρ') {i:Nat} {v':V} {X:V->Option Value} (e:ρ'[i]? = some (some v')) (h:∀ v,ρ[i]? = some (some v)->∃ x,X v=some x/\Ak c.T g v x) (hX:∀ v w,X v=X w):∃ x,X v'=some x/\Ak c.T (g.seal σ.length s.heap) v' x:=by
 obtain ⟨v,h1,h2⟩:=hr i v' e
 obtain ⟨x,e1,e2⟩:=h v h1
 refine ⟨x,(hX _ _).trans e1,?_⟩
 rcases h2 with ⟨rfl,q⟩ | ⟨d,rfl,q⟩
 ·exact rep_seal H q e2
 ·exact sn_rep H q e2
theorem Inv.seal (I:Inv n c ρ g (σ++τ) s) (hw:∀ (k:Nat) o,σ[k]? = some o->B4 σ.length o) (hr:SealR (σ++τ) σ.length ρ ρ'):Inv n c ρ' (g.seal σ.length s.heap) σ s :=
 ⟨⟨I.ok,I.frames,I.top,I.depth,I.units,I.hh.fzm (BO I.has),I.frs.mono fun _=>rfl,I.has.seal hw⟩,I.cx,fun R_ k=>I.loc.ns R_ fun mm h1 h2=>k mm h1 fun i nm v' e1 e2 e3=>seal_one (X:=fun _=>mm nm) I.has hr e2 (fun v e=>h2 i nm v e1 e e3) (fun _ _=>rfl),
  fun nm hk R_ k=>I.loc.ce nm hk R_ fun a u h1 h2 h3=>k a u h1 h2 fun i v' e1 e2=>seal_one (X:=fun _=>u) I.has hr e2 (fun v e=>h3 i v e1 e) (fun _ _=>rfl),I.loc.ow⟩
theorem SF.seal (h:SF n m l ρ' σ v σ') (hm:m<=σ.length) (hw:∀ (k:Nat) o,σ[k]? = some o->B4 σ.length o) (hr:SealR (σ++τ) σ.length ρ ρ'):SF n m l ρ (σ++τ) v σ':=fun c g s xs hc I=>wpAny_mono (h c _ s xs hc (I.seal hw hr)) (fun f s' p=>by
 obtain ⟨x,g',e1,e2,e3⟩:=p
 exact ⟨x,g',e1,LeM.trans ⟨BO I.has,fun k a hk e=>seal_mu (Nat.lt_of_lt_of_le hk hm) e,fun _ _=>rfl⟩ e2,e3⟩) fun _ _ h=>h
def Dp (C:Cfg) (m:Nat) (P:V->Ab->Prop) (l:S) (ρ:Ag) (σ:Ab):Prop:=∃ v σ',P v σ'/\SF (C.n+3) m l ρ σ v σ'
theorem execs_one {x:Stmt} {env:Env}:execs [x] env=exec x env:=by
 rw [execs_cons]
 refine (bind_congr fun f=>?_).trans (bind_pure _)
 cases f with
 | next=>exact arm_execs_nil _
 | _=>rfl
theorem SS.of1 {Q:Fl->Ab->Prop} (h:SSs n (.cons st .nil) ρ σ Q):SS n st ρ σ Q:=fun c g s x hc I=>by
 have h:=h c g s [x] (fun R_ k=>k x [] hc rfl) I
 rw [execs_one] at h
 exact h
theorem goF (h:Aj C (fun fl σ₁=>∃ ρ1,fl=.next ρ1/\Dp C m P r ρ1 σ₁) (.cons st .nil) ρ σ):Dp C m P (.cons st r) ρ σ:=by
 obtain ⟨fl,σ₁,⟨ρ1,rfl,v,σ',h1,h2⟩,h3⟩:=h
 exact ⟨v,σ',h1,.cons (SS.mono (fun f s e=>⟨ρ1,e.1,by rw [e.2]; exact h2⟩) (.of1 h3))⟩
theorem goF_ret {e:E} (h:SE (C.n+3) e ρ σ v σ') (k:P v σ'):Dp C m P (.cons (.ret e) r) ρ σ:=⟨v,σ',k,.of (.cons (.ret h ⟨rfl,rfl⟩))⟩
theorem DA (h:Dp C m P l ρ' σ) (hm:m<=σ.length) (hw:∀ (k:Nat) o,σ[k]? = some o->B4 σ.length o) (hr:SealR (σ++τ) σ.length ρ ρ'):Dp C m P l ρ (σ++τ):=by
 obtain ⟨v,σ',h1,h2⟩:=h
 exact ⟨v,σ',h1,h2.seal hm hw hr⟩
theorem goF_end (h:Dp C σ.length P l ρ σ):Aj C (fun fl σ'=>P (Gn fl) σ') l ρ σ:=by
 obtain ⟨v,σ',h1,h2⟩:=h
 exact ⟨.ret v,σ',h1,h2.done⟩
end
end Mine
namespace Mine
open PySem PySem.Calls
noncomputable def frsOf (fe:List Env):List Addr:=fe.filterMap (·.frame)
def ET (its fs:List Addr) (h h':Heap):Prop:=∀ c o,c∉its->h.get? c=some o->(∃ sl,h'.get? c=some { o with slots:=sl })/\(c∉fs->h'.get? c=some o)
section
variable {its its' fs:List Addr} {h h' h'':Heap}
theorem ET.trans (x:ET its fs h h') (y:ET its fs h' h''):ET its fs h h'':=fun c o hc e=>by
 obtain ⟨⟨sl,e1⟩,k⟩:=x c o hc e
 obtain ⟨⟨sl',e2⟩,k'⟩:=y c _ hc e1
 exact ⟨⟨sl',e2⟩,fun hf=>(y c o hc (k hf)).2 hf⟩
theorem ET.of_same (k:∀ c o,c∉its->h.get? c=some o->h'.get? c=some o):ET its fs h h':=fun c o hc e=>⟨⟨o.slots,k c o hc e⟩,fun _=>k c o hc e⟩
theorem ET.wide (x:ET its fs h h') (hs:∀ c,c∈its->c∈its'):ET its' fs h h':=fun c o hc e=>x c o (fun q=>hc (hs c q)) e
end
noncomputable def PAny:Option Value->Prop:=fun _=>True
noncomputable def PTb:Option Value->Prop
 | none=>False
 | some _=>True
inductive TbX (T:Top) (g:G) (h:Heap) (e:Addr) (v:Option Value) (P:Option Value->Prop):Prop
 | mk (tb:Addr) (ot:Obj) (ts:Array Value) (f:Value) (k1:v=some (.ref tb)) (k2:h.get? tb=some ot) (k3:ot.data=.fields ts) (k4:tb≠e) (k5:Cz T g tb) (k6:ts[3]? = some f) (k7:P (some f)):TbX T g h e v P
inductive Ee (T:Top) (g:G) (h:Heap) (k:Nat) (x:Value) (P:Option Value->Prop):Prop
 | mk (e:Addr) (oe:Obj) (vs:Array Value) (C:Addr) (q1:x=.ref e) (q2:h.get? e=some oe) (q3:T.exc k=some C) (q4:oe.cls=.ref C) (q5:oe.dict=none) (q6:oe.data=.fields vs) (q7:Cz T g e) (q8:vs[2]? = some .none)
  (q9:(vs[1]? = some .none/\P none)\/TbX T g h e vs[1]? P):Ee T g h k x P
section
variable {T:Top} {fe outer:List Env} {its fs:List Addr} {env:Env} {A:Around} {g g':G} {σ σ':Ab} {s s':Shared} {Er:Value->Shared->Prop} {k:Nat} {x v:Value} {h h':Heap} {P P':Option Value->Prop}
theorem Ee.le (f:Ee T g h k x P) (hP:∀ o,P o->P' o):Ee T g h k x P':=by
 obtain ⟨e,oe,vs,C,q1,q2,q3,q4,q5,q6,q7,q8,q9⟩:=f
 refine ⟨e,oe,vs,C,q1,q2,q3,q4,q5,q6,q7,q8,q9.imp (fun h=>⟨h.1,hP _ h.2⟩) ?_⟩
 rintro ⟨tb,ot,ts,f,k1,k2,k3,k4,k5,k6,k7⟩
 exact ⟨tb,ot,ts,f,k1,k2,k3,k4,k5,k6,hP _ k7⟩
theorem Ee.any (f:Ee T g h k x P):Ee T g h k x PAny:=f.le fun _ _=>trivial
theorem Ee.other (f:Ee T g h k x P) (hg:∀ a,Cz T g a->Cz T g' a):Ee T g' h k x P:=by
 obtain ⟨e,oe,vs,C,q1,q2,q3,q4,q5,q6,q7,q8,q9⟩:=f
 refine ⟨e,oe,vs,C,q1,q2,q3,q4,q5,q6,hg _ q7,q8,q9.imp id ?_⟩
 rintro ⟨tb,ot,ts,f,k1,k2,k3,k4,k5,k6,k7⟩
 exact ⟨tb,ot,ts,f,k1,k2,k3,k4,hg _ k5,k6,k7⟩
theorem fr_mem (fr:Bx g fe) {a:Addr} (ha:a∈frsOf fe):∃ o es ep,g.hid a=some o/\o.cls=frC/\o.data=.dict es ep:=by
 obtain ⟨e,he,hf⟩:=List.mem_filterMap.mp ha
 obtain ⟨_,L,o,es,ep,h1,h2⟩:=fr e he
 exact ⟨o,es,ep,Av h1 hf▸h2⟩
theorem Has.near (H:Has T g σ s) (fr:Bx g fe) (hi:∀ a,a∈its->Cz T g a) (nr:ET its (frsOf fe) s.heap h'):Has T g σ { s with heap:=h' }:=by
 have ex:∀ a o,a∉its->g.hid a=none->s.heap.get? a=some o->h'.get? a=some o:=fun a o h1 h2 e=>(nr a o h1 e).2 fun q=>by
  obtain ⟨o',_,_,h3,_⟩:=fr_mem fr q
  exact Al h2 h3
 have nofz:∀ a o,g.fz a=some o->a∉its/\g.hid a=none:=fun a o e=>⟨fun q=>Al (hi a q).fz e,CY fun o' e'=>Al (H.ah a o' e').1 e⟩
 have nomu:∀ a,a∈g.mu->a∉its/\g.hid a=none:=fun a e=>⟨fun q=>(hi a q).mu e,CY fun o' e'=>(H.ah a o' e').2 e⟩
 have:=H.re (s':={ s with heap:=h' }) g.hid (fun a o e=>⟨?_,(H.ah a o e).1,(H.ah a o e).2,H.hidTab e⟩) (fun b o e e'=>ex b o (nofz b o e).1 (nofz b o e).2 e') (fun b o e e'=>ex b o (nomu b e).1 (nomu b e).2 e') (fun t q o m e=>H.tb t q m _ fun _ _ h2 _ _ _ _=>ex t o (fun p=>(hi t p).tab q m) h2 e) rfl rfl
 ·exact this
 ·obtain ⟨o',e1,e2,e3⟩:=H.hd a o e
  obtain ⟨⟨sl,e4⟩,e5⟩:=nr a o' (fun q=>Al (hi a q).hid e) e1
  by_cases q:a∈frsOf fe
  ·obtain ⟨o2,_,_,h3,h4,_⟩:=fr_mem fr q
   exact ⟨_,e4,e2,fun n=>absurd (Av h3 e▸h4) n⟩
  ·exact ⟨o',e5 q,e2,e3⟩
theorem Bx.funFrames (H:Has T g σ s):∀ {l:List Env},Bx g l->s.heap.FunFrames T.h0 l
 | [],_=>trivial
 | e::r,fr=>by
  obtain ⟨tf,L,o,es,ep,h1,h2,h3,h4⟩:=fr e (.head _)
  obtain ⟨o',e1,e2,_⟩:=H.hd L o h2
  refine ⟨tf.kind,⟨L,o',h1,CY fun o2 q=>Al (H.ah L o h2).1 (H.base L o2 q),e1,fun vs q=>?_⟩,Bx.funFrames H fun e he=>fr e (.tail _ he)⟩
  rw [e2,h4] at q; cases q
theorem entry_new {L e:Addr} {oe:Obj} {vs:Array Value} {head:Value} {hadNext:Bool} {Q:Unit->Shared->Prop} (hfr:A.frames=some (env::outer)) (hl:s.heap.FunFrames T.h0 (env::outer)) (hf:env.frame=some L)
 (he:s.heap.get? e=some oe) (hd:oe.data=.fields vs) (hsz:1 < vs.size)
 (h:∀ h' tb oe' ts,ET [e] (frsOf (env::outer)) s.heap h'->s.heap.get? tb=none->h'.get? e=some oe'->(oe'.cls=oe.cls/\oe'.dict=oe.dict)->oe'.data=.fields (vs.setIfInBounds 1 (.ref tb)) ->
  h'.get? tb=some { cls:=.type "traceback",dict:=none,data:=.fields ts,slots:=#[] } -> ts[3]? = some (rawInt L)->Q () { s with heap:=h' }) :
 wpAny (model T.prog T.w) A (do let a <-frameOf env; let pl <-entryPlaceOf L hadNext; let b <-EntryCells.newEntry head a .none (rawInt L) .none pl; setField (.ref e) 1 b) Q Er s:=by
 have hene:e∉(env::outer).filterMap (·.frame):=fun hm=>by
  obtain ⟨_,o,ho,hnf⟩:=hl.mem hm
  rw [he] at ho; injection ho with ho; subst ho; exact hnf vs hd
 refine wpAny_bind (wpAny_frameOf_fun hfr hl hf fun h₁ hs1=>?_)
 refine wpAny_bind (wpAny_entryPlaceOf fun pl hpl=>?_)
 unfold EntryCells.newEntry newFields
 refine wpAny_bind (wpAny_newObj_type ?_ (hpl.sizeOk5 _ _ _ _ _))
 have he1:h₁.get? e=some oe:=(hs1.2.1 e hene).trans he
 have he2:=Heap.get?_push_of_some (h:=h₁) { cls:=.type "traceback",dict:=none,data:=.fields ([head,.ref L,.none,rawInt L,.none]++(if pl.isEmpty then List.replicate 6 Value.none else pl)).toArray } he1
 have hTe:h₁.objs.size≠e:=Nat.ne_of_gt (Heap.lt_size he1)
 have hd3:=Obj.data_mapFields hd (·.setIfInBounds 1 (Value.ref h₁.objs.size))
 have he3:=Heap.get?_update_self (Obj.mapFields (·.setIfInBounds 1 (Value.ref h₁.objs.size))) he2 (Obj.isFreed_of_fields hd3)
 have hT3:=(Heap.get?_update_other (h₁.push { cls:=.type "traceback",dict:=none,data:=.fields ([head,.ref L,.none,rawInt L,.none]++(if pl.isEmpty then List.replicate 6 Value.none else pl)).toArray })
  (Obj.mapFields (·.setIfInBounds 1 (Value.ref h₁.objs.size))) (Ne.symm hTe)).trans (Heap.get?_push_size h₁ rfl)
 refine wpAny_setField he2 hd hsz (h _ h₁.objs.size _ _ ?_ ?_ he3 ⟨Obj.cls_mapFields _ _,by unfold Obj.mapFields; split <;> rfl⟩ hd3 hT3 ?_)
 ·intro b o hb e'
  have hbe:b≠e:=fun q=>hb (by rw [q]; exact List.mem_singleton.mpr rfl)
  have up:∀ o',h₁.get? b=some o'->((h₁.push { cls:=.type "traceback",dict:=none,data:=.fields ([head,.ref L,.none,rawInt L,.none]++(if pl.isEmpty then List.replicate 6 Value.none else pl)).toArray }).update e (Obj.mapFields (·.setIfInBounds 1 (Value.ref h₁.objs.size)))).get? b=some o':=fun o' q=>by
   rw [Heap.get?_update_other _ _ (Ne.symm hbe)]
   exact Heap.get?_push_of_some _ q
  refine ⟨?_,fun hnf=>up o ((hs1.2.1 b hnf).trans e')⟩
  obtain ⟨sl,q⟩:=hs1.2.2 b o e'
  exact ⟨sl,up _ q⟩
 ·show s.heap.get? h₁.objs.size=none
  rw [hs1.1]; exact AN _
 ·first | (simp; done) | (rcases hpl with rfl | ⟨_,_,_,_,_,_,_,rfl⟩ <;> simp)
theorem note_fly {Q:Unit->Shared->Prop} (hfr:A.frames=some (env::outer)) (fr:Bx g (env::outer)) (H:Has T g σ s) (fl:Ee T g s.heap k x PAny)
 (h:∀ h',Has T g σ { s with heap:=h' } -> Ee T g h' k x PTb->Q () { s with heap:=h' }):wpAny (model T.prog T.w) A (noteFrame x env) Q Er s:=by
 have hl:=fr.funFrames H
 obtain ⟨_,L,_,_,_,hf,_⟩:=fr env (.head _)
 obtain ⟨e,oe,vs,C,rfl,q2,q3,q4,q5,q6,q7,q8,q9⟩:=fl
 have hsz2:2 < vs.size:=(Array.getElem?_eq_some_iff.mp q8).1
 unfold noteFrame
 simp only [hf]
 rcases q9 with ⟨h1,_⟩ | ⟨tb,ot,ts,f,k1,k2,k3,k4,k5,k6,k7⟩
 ·refine wpAny_bind (wpAny_field q2 q6 h1 ?_)
  rw [if_neg (by decide)]
  refine entry_new hfr hl hf q2 q6 (Nat.le_of_lt hsz2) fun h' tb oe' ts nr hn he' hc' hd' ht h3=>?_
  refine h h' (H.near fr (its:=[e]) (fun a ha=>by rw [List.mem_singleton.mp ha]; exact q7) nr) ⟨e,oe',_,C,rfl,he',q3,hc'.1.trans q4,hc'.2.trans q5,hd',q7,?_,.inr ⟨tb,_,ts,_,by simp [show 1 < vs.size from Nat.lt_of_succ_lt hsz2],ht,rfl,?_,H.free hn,h3,trivial⟩⟩
  ·rw [Array.getElem?_setIfInBounds_ne (by decide)]; exact q8
  ·intro q; rw [q,q2] at hn; exact FS hn
 ·refine wpAny_bind (wpAny_field q2 q6 k1 ?_)
  rw [if_pos (show (Value.ref tb != Value.none)=true from by rfl)]
  refine wpAny_bind (wpAny_field k2 k3 k6 ?_)
  by_cases k9:(f == rawInt L)=true
  case neg =>
   rw [if_neg k9]
   have hsz3:3 < ts.size:=(Array.getElem?_eq_some_iff.mp k6).1
   refine wpAny_bind (wpAny_setField k2 k3 hsz3 ?_)
   have other:∀ b,b≠tb->(s.heap.update tb (Obj.mapFields (·.setIfInBounds 3 Value.none))).get? b=s.heap.get? b:=fun b hb=>Heap.get?_update_other _ _ (Ne.symm hb)
   have noRecord:∀ b o,s.heap.get? b=some o->(∀ vs,o.data≠.fields vs)->b≠tb:=fun b o hb hnf q=>by
    rw [q,k2] at hb; injection hb with hb; subst hb; exact hnf ts k3
   refine entry_new hfr (hl.of_keeps fun b o hb hnf=>⟨o,(other b (noRecord b o hb hnf)).trans hb,rfl⟩) hf ((other e (Ne.symm k4)).trans q2) q6 (Nat.le_of_lt hsz2) fun h' tb' oe' ts' nr hn he' hc' hd' ht h3=>?_
   have hn':s.heap.get? tb'=none:=by
    by_cases q:tb'=tb
    ·subst q
     exact FS ((Eq.symm (Heap.get?_update_self _ k2 (Obj.isFreed_of_fields (Obj.data_mapFields k3 _)))).trans hn)
    ·rw [<-other tb' q]; exact hn
   refine h h' (H.near fr (its:=[e,tb]) (fun a ha=>?_) (ET.trans (ET.of_same fun b o hb eb=>(other b fun q=>hb (by exact .tail _ (q▸.head _))).trans eb) (nr.wide fun b hb=>by rw [List.mem_singleton.mp hb]; simp)))
    ⟨e,oe',_,C,rfl,he',q3,hc'.1.trans q4,hc'.2.trans q5,hd',q7,?_,.inr ⟨tb',_,ts',_,by simp [show 1 < vs.size from Nat.lt_of_succ_lt hsz2],ht,rfl,?_,H.free hn',h3,trivial⟩⟩
   ·simp only [List.mem_cons,List.not_mem_nil,or_false] at ha
    rcases ha with rfl | rfl
    ·exact q7
    ·exact k5
   ·rw [Array.getElem?_setIfInBounds_ne (by decide)]; exact q8
   ·intro q; rw [q,q2] at hn'; exact FS hn'
  case pos =>
   rw [if_pos k9]
   exact wpAny_pure (h s.heap H ⟨e,oe,vs,C,rfl,q2,q3,q4,q5,q6,q7,q8,.inr ⟨tb,ot,ts,_,k1,k2,k3,k4,k5,k6,trivial⟩⟩)
theorem Et {L:Option Addr} {Q:Unit->Shared->Prop} (fr:Bx g fe) (H:Has T g σ s) (fl:Ee T g s.heap k x PTb)
 (h:∀ h',Has T g σ { s with heap:=h' } -> Ee T g h' k x PTb->Q () { s with heap:=h' }):wpAny (model T.prog T.w) A (setFlight x L) Q Er s:=by
 obtain ⟨e,oe,vs,C,rfl,q2,q3,q4,q5,q6,q7,q8,q9⟩:=fl
 rcases q9 with ⟨_,h1⟩ | ⟨tb,ot,ts,f,k1,k2,k3,k4,k5,k6,k7⟩
 ·exact h1.elim
 ·unfold setFlight
  refine wpAny_bind (wpAny_field q2 q6 k1 ?_)
  rw [if_pos (show (Value.ref tb != Value.none)=true from by rfl)]
  have hsz3:3 < ts.size:=(Array.getElem?_eq_some_iff.mp k6).1
  refine wpAny_setField k2 k3 hsz3 ?_
  have other:∀ b,b≠tb->(s.heap.update tb (Obj.mapFields (·.setIfInBounds 3 (L.elim Value.none fun f=>rawInt f)))).get? b=s.heap.get? b:=fun b hb=>Heap.get?_update_other _ _ (Ne.symm hb)
  exact h _ (H.near fr (its:=[tb]) (fun a ha=>by rw [List.mem_singleton.mp ha]; exact k5) (ET.of_same fun b o hb eb=>(other b fun q=>hb (by exact q▸.head _)).trans eb))
   ⟨e,oe,vs,C,rfl,(other e (Ne.symm k4)).trans q2,q3,q4,q5,q6,q7,q8,.inr ⟨tb,_,_,L.elim Value.none fun f=>rawInt f,k1,Heap.get?_update_self _ k2 (Obj.isFreed_of_fields (Obj.data_mapFields k3 _)),Obj.data_mapFields k3 _,k4,k5,by simp [hsz3],trivial⟩⟩
end
end Mine
namespace Mine
open PySem PySem.Calls
noncomputable abbrev Ar.wx {α:Type} (r:Ar) (m:Sem α) (X:Value->Shared->Prop) (s:Shared):Prop:=wpAny (model r.T.prog r.T.w) r.A m (fun _ _=>False) X s
def ES (T:Top) (g:G) (σ':Ab) (k:Nat) (x:Value) (s':Shared):Prop:=∀ R_:Prop,(∀ g',G.le [] g g'->Has T g' σ' s'->Ee T g' s'.heap k x PAny->R_)->R_
def FXA (n f:Nat) (xs:List V) (σ:Ab) (k:Nat) (σ':Ab):Prop :=
 ∀ (r:Ar) (g:G) (s:Shared) (a:Addr) (Xs:List Value),r.T.fn f=some a->At n r g σ s->Ao r.T g xs Xs->r.wx (call (.ref a) Xs) (ES r.T g σ' k) s
noncomputable abbrev FX (n f:Nat) (xs:List V) (σ:Ab) (k:Nat) (σ':Ab):Prop:=FXA (n+3) f xs σ k σ'
def SEx (n:Nat) (e:E) (ρ:Ag) (σ:Ab) (k:Nat) (σ':Ab):Prop :=
 ∀ (c:Cx) (g:G) (s:Shared) (ex:Expr),IsE e c.K ex->Inv n c ρ g σ s->c.wx (eval ex c.env) (ES c.T g σ' k) s
def SXP (n:Nat) (c:Cx) (g:G) (k:Nat) (X:Ag->Ab->Prop) (x:Value) (s':Shared):Prop:=∀ R_:Prop,(∀ ρ' σ' g',X ρ' σ'->G.le c.own g g'->Inv n c ρ' g' σ' s'->Ee c.T g' s'.heap k x PAny->R_)->R_
def SX (n:Nat) (st:S) (ρ:Ag) (σ:Ab) (k:Nat) (X:Ag->Ab->Prop):Prop :=
 ∀ (c:Cx) (g:G) (s:Shared) (x:Stmt),IsS st c.K x->Inv n c ρ g σ s->c.wx (exec x c.env) (SXP n c g k X) s
def SXs (n:Nat) (st:S) (ρ:Ag) (σ:Ab) (k:Nat) (X:Ag->Ab->Prop):Prop :=
 ∀ (c:Cx) (g:G) (s:Shared) (xs:List Stmt),IsSs st c.K xs->Inv n c ρ g σ s->c.wx (execs xs c.env) (SXP n c g k X) s
section
variable {n f k:Nat} {c:Cx} {ρ:Ag} {g g' g₁:G} {σ σ' σ₁ σ₂:Ab} {s s':Shared} {x:Value} {X:Ag->Ab->Prop} {e a b:E} {st r p q:S} {ws:List V} {nm:Str} {ks:List Nat}
theorem ES.after {T:Top} (le:G.le [] g g₁) (h:ES T g₁ σ' k x s'):ES T g σ' k x s':=fun R_ kk=>h R_ fun g' l a f=>kk g' (le.trans l) a f
theorem SXP.after (le:G.le c.own g g₁) (h:SXP n c g₁ k X x s'):SXP n c g k X x s':=fun R_ kk=>h R_ fun ρ' σ' g' hX l I f=>kk ρ' σ' g' hX (le.trans l) I f
theorem SXs.head (h:SX n st ρ σ k X):SXs n (.cons st r) ρ σ k X:=fun c g s xs hc I=>hc (fun xs=>c.wx (execs xs c.env) (SXP n c g k X) s) fun x l h1 h2=>by
 rw [execs_cons]
 exact wpAny_bind (wpAny_mono (h c g s x h1 I) (fun _ _ h=>h.elim) fun _ _ h=>h)
theorem SX.ite {q:S} (h:ST n e ρ σ true σ₁) (h1:SXs n p ρ σ₁ k X):SX n (.ite e p q) ρ σ k X:=fun c g s x hc I=>hc (fun x=>c.wx (exec x c.env) (SXP n c g k X) s) fun ex xs ys pos c1 c2 c3=>by
 refine wpAny_If (wpAny_mono (h c g s ex c1 I) (fun b s₁ p=>p _ fun g₁ le a1 e₁=>?_) fun _ _ h=>h.elim)
 subst e₁
 exact wpAny_mono (h1 c g₁ s₁ xs c2 (I.step le a1)) (fun _ _ h=>h) fun _ _ p=>p.after le.toO
theorem SX.rse (h3:3<=n) (h:SEs n a ρ σ ws σ₁) (hl:ws.length<=line) (hX:X ρ σ₁):SX n (.rse k a) ρ σ k X:=fun c g s x hc I=>hc (fun x=>c.wx (exec x c.env) (SXP n c g k X) s) fun nm np vs cp p h1 h2 _=>by
 obtain ⟨mg,mb,hg,hb,ht,_⟩:=I.cx.rd.ns
 obtain ⟨_,⟨C,hC,rfl⟩,_⟩:=ht nm _ h1.2
 obtain ⟨x,bm,newId,B,initId,mg',O,FB⟩:=I.ok.excs k C hC
 refine ex17 O.obj fun tl N nm' q bs hdct sn sub ab col dd k0 k1 k2 k3 k5 mN hh=>?_
 obtain ⟨hCo,hN,hni,Tl⟩:=hh
 refine wpAny_Raise_call_subT (C:=C) (nm:=nm') (q:=q) (N:=N) (bs:=bs) (bm:=tl) (hdct:=hdct) (sn:=sn) (sub:=sub) (ab:=ab) (col:=col) (dd:=dd) (k0:=k0) (k1:=k1) (k2:=k2) (k3:=k3) (k5:=k5) FB (mN:=mN) (Tl.hasType FB.hasBase) (I.hh.none h3) (B5 _ _ h2) hni (BQ I h1 fun y hy=>?_)
 obtain ⟨C',hC',rfl⟩:=hy
 obtain rfl:=Av hC hC'
 refine ⟨rfl,wpAny_mono (BN (r:=c.toAr) (Q:=fun a s2=>a.kw=[]/\a.pos.length<=sizeLine/\s2.heap.get? C=some (excClassObj nm' q C N bs tl hdct sn sub ab col dd k0 k1 k2 k3 k5 newId)/\s2.heap.Ns N mN/\OwnTail s2.heap bm tl/\∀ h' e,Heap.MadeExcOf s2.heap h' e (.ref C) a.pos->SXP n c g k X (.ref e) { s2 with heap:=h' }) h2 (wpAny_mono (h c g s vs cp h2 I) (fun Xs s₁ p=>p _ fun g₁ le a1 r1=>?_) fun _ _ h=>h)) (fun _ _ h=>h) fun _ _ h=>h.elim⟩
 have hz:=(I.step le a1).base
 refine ⟨rfl,by show Xs.length<=_; rw [<-r1.length,<-A8]; exact hl,hz _ _ hCo,hN.keeps hz,Tl.keeps hz,fun h' e hm=>?_⟩
 obtain ⟨t,ht,_,_⟩:=hm.there
 have H:=a1.keep (s':={ s₁ with heap:=h' }) hm.keeps
 exact fun R_ kk=>kk ρ σ₁ g₁ hX le.toO (I.step le H) ⟨e,_,_,C,rfl,ht,hC,rfl,rfl,rfl,a1.free hm.new,rfl,.inl ⟨rfl,trivial⟩⟩
theorem SX.exp (hp:B1 e=false) (h:SEx n e ρ σ k σ') (hX:X ρ σ'):SX n (.exp e) ρ σ k X:=fun c g s x hc I=>hc (fun x=>c.wx (exec x c.env) (SXP n c g k X) s) fun ex p hc=>by
 have hi:interactive c.env=false:=by unfold interactive; rw [I.cx.kind]; rfl
 rw [arm_exec_Expr]
 refine wpAny_bind (wpAny_standAt ?_)
 rw [hi]
 show c.wx (swapsWith ex none p.line c.env>>=_) _ _
 rw [Ey e hp hc,pure_bind,if_neg Bool.false_ne_true]
 exact wpAny_bind (wpAny_mono (h c g s ex hc I) (fun _ _ h=>h.elim) fun y s' p R_ kk=>p R_ fun g' le H fl=>kk ρ σ' g' hX le.toO (I.step le H) fl)
theorem SEx.mcall (hb:Dq a) (hm:mtP nm=some f) (ha:SE n a ρ σ (.obj ks) σ₁) (hs:SEs n b ρ σ₁ ws σ₂) (hf:FXA n f (.obj ks::ws) σ₂ k σ'):SEx n (.mcall nm a b) ρ σ k σ':=fun c g s ex hc I=>hc (fun ex=>c.wx (eval ex c.env) (ES c.T g σ' k) s) fun z ap vs p h1 h2 h3 h4=>by
 refine Gy (r:=c.toAr) (hb h1 _ _ _) (few h2 h4) (decide_eq_true h3) (wpAny_mono (ha c g s z h1 I) (fun X s₁ p1=>p1 _ fun g₁ le1 a1 r1 pl=>?_) fun _ _ h=>h.elim)
 have I1:=I.step le1 a1
 obtain ⟨N,mN,C,F⟩:=I1.ok.cls
 have hz:=fun b o e=>I1.has.fz b o (I1.has.base b o e)
 refine ex12 (C.keeps hz).obj fun x1 x2 x3 x4 x5 x6 x7 x8 x9 xa xb xc hC=>?_
 obtain ⟨na,fa,fo,e1,e2,e3,e4⟩:=F.mt nm f hm
 obtain ⟨o,fd,ho,hd⟩:=I.cx.rd.fnob f fa e1
 refine obj_rep I1.has r1 (R_:=fun X=>Ak c.T g₁ (.obj ks) X->wpAny (model c.T.prog c.T.w) c.A (getMethod X nm pl) (fun m s2=>c.wx (callWith p m.1 m.2 (backTo p (starEach vs c.env)) []) (ES c.T g σ' k) s2) (ES c.T g σ' k) s₁) (fun x mA J hn h8 r1=>?_) r1
 refine method_of hC (C.keeps hz).ns F.ga F.ge e2 (hz _ _ e3) e4 (typeLookup_type ..) J (hn nm na) ?_
 refine callWith_function (o:=o) (fd:=fd) (wpAny_mono (BN (r:=c.toAr) (Q:=fun a s2=>(s2.heap.get? fa=some o/\o.data=.func fd)/\c.wx (call (.ref fa) ([.ref x]++a.pos) a.kw) (ES c.T g σ' k) s2) h2 (wpAny_mono (hs c g₁ s₁ vs p h2 I1) (fun Ys s2 p2=>p2 _ fun g2 le2 a2 r2=>⟨⟨(I1.step le2 a2).base _ _ ho,hd⟩,wpAny_mono (hf c.toAr g2 s2 fa (.ref x::Ys) e1 (I1.step le2 a2).toAt ⟨Ak.mono le2.toup _ _ r1,r2⟩) (fun _ _ h=>h) fun _ _ p=>p.after (le1.trans le2)⟩) fun _ _ h=>h)) (fun _ _ h=>h) fun _ _ h=>h.elim)
theorem FXA.of {fn:Fn} {xs:List V} (hP:Pg f=some fn) (hl:xs.length=fn.np) (hb:SXs n fn.body (Bc fn xs) σ k fun _ σ₁=>σ₁=σ') (hn:1<=n):FXA (n+1) f xs σ k σ':=fun r g s a Xs hf A R=>A.ok.fns f fn a hP hf _ fun fd body o vars lam F=>by
 have H:=A.has
 have hz:=fun b o e=>H.fz b o (H.base b o e)
 refine wpAny_call (codeAny_call_cells (Nat.lt_of_le_of_lt (Nat.le_trans (Nat.le_add_right _ _) A.depth) (by decide)) (hz _ _ F.ob) F.data (A.ok.ok.nolimit.keeps hz) (F.code.keeps hz) F.bd (F.bind Xs (R.length.symm.trans hl)) F.clo (fun p hp=>?_) (fun s₁ ic=>?_) F.cor F.gen F.kind)
 ·refine (F.par p.1 (List.of_mem_zip (a:=p.1) (b:=p.2) hp).1).imp id fun h=>⟨h,?_⟩
  obtain ⟨c,q⟩:=Bm (k:=s.heap.objs.size+1) (acc:=[]) (AZ h)
  obtain ⟨c,q⟩:=D8 q
  rw [q]; rfl
 ·obtain ⟨g₁,I,le,new⟩:=call_inv F hn hl A.ok A.frames A.depth A.units (A.hh.less (Nat.le_succ _)) A.frs H R rfl ic
  have is:IsSs fn.body (callC r (callEnvC fd s.heap.objs.size a) vars lam).K body:=F.is
  refine wpAny_mono (hb _ g₁ s₁ body is I) (fun _ _ h=>h.elim) fun x s2 p=>p _ fun ρ σ₂ g2 e l I2 fl=>?_
  subst e
  unfold leaving
  refine wpAny_bind (note_fly (outer:=r.fe) I2.frames I2.frs I2.has fl fun h3 H3 fl3=>?_)
  refine Et (s:={ s2 with heap:=h3 }) (L:=none) I2.frs H3 fl3 fun h4 H4 fl4=>?_
  obtain ⟨hd,H',le',e'⟩:=H4.back (its:=BT (callEnvC fd s.heap.objs.size a)) (own:=[]) (s':={ s2 with heap:=h4 }) (List.append_nil _▸le.trans l) new (fun _ _ _ e=>e) (H4.away I2.loc.ow)
  refine fun R_ kk=>kk _ le' H' (fl4.other (g':=⟨g2.fz,hd,g2.mu⟩) fun c F=>⟨F.fz,?_,F.mu,F.tab⟩).any
  by_cases q:c∈BT (callEnvC fd s.heap.objs.size a)
  ·exact (le'.hid c List.not_mem_nil).trans (new c q)
  ·exact (e' c q).trans F.hid
theorem FX.of {fn:Fn} {xs:List V} (hP:Pg f=some fn) (hl:xs.length=fn.np) (hb:SXs (n+3) fn.body (Bc fn xs) σ k fun _ σ₁=>σ₁=σ') (hn:1<=n):FX (n+1) f xs σ k σ':=by
 show FXA (n+1+3) f xs σ k σ'
 rw [Nat.add_right_comm]
 exact FXA.of hP hl hb (Nat.le_trans hn (Nat.le_add_right _ _))
end
end Mine
namespace Mine
open PySem PySem.Calls
theorem note_env {x:Value} {env env':Env} (h:env.frame=env'.frame):noteFrame x env=noteFrame x env':=by
 unfold noteFrame frameOf
 rw [h]
section
variable {n k:Nat} {c:Cx} {ρ:Ag} {g g' g₁:G} {σ σ' σ₁:Ab} {s s':Shared} {x:Value} {b:S} {i:Nat} {j:Int} {A':Around} {Er:Value->Shared->Prop}
theorem exc_self {C e:Addr} {oe:Obj} {Q:Bool->Shared->Prop} (I:Inv n c ρ g σ s) (q3:c.T.exc k=some C) (q2:s.heap.get? e=some oe) (q4:oe.cls=.ref C) (hq:Q true s):wpAny (model c.T.prog c.T.w) A' (excMatches (.ref e) (.ref C)) Q Er s:=by
 obtain ⟨x,bm,newId,B,initId,mg',O,FB⟩:=I.ok.excs k C q3
 refine ex17 O.obj fun tl N nm' q bs hdct sn sub ab col dd k0 k1 k2 k3 k5 mN hh=>?_
 obtain ⟨hCo,hN,hni,Tl⟩:=hh
 exact wpAny_excMatches_sub_self (I.base _ _ hCo) q2 q4 (Tl.hasType FB.hasBase) hq
end
end Mine
namespace Mine
open PySem PySem.Calls
section
variable {n k i:Nat} {c:Cx} {ρ:Ag} {g g' g₁:G} {σ σ' σ₁ σ₂ σ₁':Ab} {s s':Shared} {x:Value} {b:S} {e es:E} {v u w:V} {Q:Fl->Ab->Prop} {hs:List (Nat×Nat×E)}
theorem SE.glx:SE n (.glx k) ρ σ (.ecl k) σ:=fun c g s ex hc I=>hc (fun ex=>c.wp (eval ex c.env) (Ans c.toAr g (.ecl k) σ) s) fun nm p hc=>BQ I hc fun x r=>.refl I.has r
theorem f_isx {j:Nat} (hj:j∈cauP) (h0:Nat.beq k 0=false) (hk:k < 10):Pr2 (fun X Y=>call (A7 .isinstance) [X,Y]) (.exc j) (.ecl k) σ (vb (Bp j k)) σ:=fun r g s X Y A hx hy=>by
 obtain ⟨a,ha,rfl⟩:=hy
 exact hx (fun X=>r.wp (call (A7 .isinstance) [X,.ref a]) (Ans r g (vb (Bp j k)) σ) s) fun e D o vs h1 h2 h3 h4 h5=>A.ok.isi j k D (.ref a) hj hk h2 (by unfold XcV; rw [h0]; exact ⟨a,ha,rfl⟩) r.A _ _ s e o vs (fun b o q=>A.has.fz _ _ (A.has.base b o q)) (A.has.fz _ _ h1) h3 h4 h5 fun tk=>.refl A.has.tok rfl
theorem f_isx0 {j:Nat} (hj:j∈cauP):Pr2 (fun X Y=>call (A7 .isinstance) [X,Y]) (.exc j) (.ty "ValueError") σ (vb (Bp j 0)) σ:=fun r g s X Y A hx hy=>by
 obtain rfl:Y=.type "ValueError" := hy
 exact hx (fun X=>r.wp (call (A7 .isinstance) [X,.type "ValueError"]) (Ans r g (vb (Bp j 0)) σ) s) fun e D o vs h1 h2 h3 h4 h5=>A.ok.isi j 0 D (.type "ValueError") hj (by decide) h2 rfl r.A _ _ s e o vs (fun b o q=>A.has.fz _ _ (A.has.base b o q)) (A.has.fz _ _ h1) h3 h4 h5 fun tk=>.refl A.has.tok rfl
theorem name_goes {m:Str} {pos:Pos} {A':Around} {Er:Value->Shared->Prop} {R:Unit->Shared->Prop} (I:Inv n c ρ g σ s) (hk:c.K.kd m .local=true) (h:∀ g' s',G.le c.own g g'->G.up g g'->Has c.T g' σ s'->(∀ a,a∈c.own->g'.hid a≠none)->R () s'):wpAny (model c.T.prog c.T.w) A' (do bindName c.env m .none; unbindBehindTheSuite c.env m pos) R Er s:=by
 refine I.loc.ns _ fun mm hm _=>?_
 refine wpAny_nameGoes (by rw [AB I.cx.names]; exact Kx.kd_eq hk) (I.has.ns hm) (by rw [I.cx.kind]; rfl) fun h' m' hn hb=>?_
 obtain ⟨o0,_,_,e0,_⟩:=id hm
 obtain ⟨o,es,ep,ho,hd⟩:=hn
 exact h (g.hide c.env.locals (frO o)) _ (.hide I.cx.oloc) ⟨fun _ _ e=>e,fun _ _ e=>e⟩ (I.has.rehideH e0 (fun b x q e=>(hb.2 b q).trans e) (.fr ho)) fun a ha=>DW (I.loc.ow a ha)
noncomputable def Cx.held (c:Cx) (e:Addr):Cx:={ c with A:=c.A.mark (some (.ref e)) }
theorem FR.held {a:Addr} (h:FR n c) (h2:2<=n):FR 2 (c.held a):=⟨h.rd,h.names,h.kind,h.glob,h.blt,h.hfr,h.cinj,h.nd,h.oloc,h.ocell,fun t q e=>⟨by decide,(h.lamc t q e).2⟩⟩
theorem Loc.held {a:Addr} (h:Loc c ρ g):Loc (c.held a) ρ g:=⟨h.ns,h.ce,h.ow⟩
theorem Inv.held {a:Addr} {o:Obj} {vs:Array Value} (I:Inv n c ρ g σ s) (h2:2<=n) (hf:g.fz a=some o) (hd:o.data=.fields vs) (h3:vs[2]? = some .none):Inv 2 (c.held a) ρ g σ s :=
 ⟨⟨I.ok,I.frames,I.top,Nat.le_trans (Nat.add_le_add_left h2 _) I.depth,Nat.le_trans (Nat.add_le_add_left (Nat.mul_le_mul_left _ h2) _) I.units,⟨.inr ⟨by decide,⟨a,o,vs,rfl,hf,hd,h3⟩⟩,I.hh.2⟩,I.frs,I.has⟩,I.cx.held h2,I.loc.held⟩
theorem Inv.freeze {a:Addr} {o:Obj} (I:Inv n c ρ g σ s) (F:Cz c.T g a) (ho:s.heap.get? a=some o):Inv n c ρ (g.put a o) σ s:=I.step (.put F.fz) (F.put I.has ho)
theorem SS.tryAs (hb:SXs n b ρ σ k fun ρ' σ₁=>ρ'=ρ/\σ₁=σ₁') (h2:2<=n) (he:SE 2 e (ρ.set i (some (.exc k))) σ₁' v σ₂) (hq:Q (.ret v) σ₂):SS n (.tryAs b ((k,i,e)::hs)) ρ σ Q:=fun c g s x hc I=>hc (fun x=>c.wp (exec x c.env) (AW n c g Q) s) fun bd h0 hs' p h1 hH=>by
 refine hH (fun l=>c.wp (exec (.Try bd l [] [] p) c.env) (AW n c g Q) s) fun nm np m ex rp hp t k1 k2 k3 _=>?_
 refine wpAny_Try_except (wpAny_mono (hb c g s bd h1 I) (fun _ _ h=>h.elim) fun x s₁ q=>q _ fun ρ' σ₁ g₁ hX le I1 fl=>?_)
 obtain ⟨rfl,rfl⟩:=hX
 obtain ⟨e0,l,hfe,hfr⟩:=I1.cx.hfr
 have fr:=I1.frs
 rw [hfe] at fr
 rw [note_env hfr]
 refine note_fly (outer:=l) (I1.frames.trans (congrArg some hfe)) fr I1.has fl fun h3 H3 fl3=>?_
 refine Et (s:={ s₁ with heap:=h3 }) (L:=none) I1.frs H3 fl3 fun h4 H4 fl4=>?_
 have I4:=I1.step (.refl _ _) H4
 have fl4':=fl4
 obtain ⟨a,oe,vs,C,rfl,q2,q3,q4,q5,q6,q7,q8,q9⟩:=fl4'
 refine wpAny_handleBy_cons (codeAny_handlers_test (BQ I4 k1 fun y hy=>?_)) (by intro q; cases q)
 obtain ⟨C',hC',rfl⟩:=hy
 obtain rfl:=Av q3 hC'
 refine exc_self I4 q3 q2 q4 ?_
 refine codeAny_handlers_suite_as (Et (s:={ s₁ with heap:=h4 }) (L:=none) I4.frs H4 fl4 fun h5 H5 fl5=>?_)
 obtain ⟨a',oe',vs',C',hx,p2,p3,p4,p5,p6,p7,p8,_⟩:=fl5
 obtain rfl:=Value.ref.inj hx
 have I5:=(I4.step (.refl _ _) H5).freeze p7 p2
 have rx:Ak c.T (g₁.put a oe') (.exc k) (.ref a):=fun R_ kk=>kk a C' oe' vs' G.put_self p3 p4 p5 p6
 refine I5.store k2.1 rx fun g6 s6 le6 up6 I6=>?_
 have I7:=I6.held h2 (up6.fz _ _ G.put_self) p6 p8
 rw [execs_one,arm_exec_Return]
 refine wpAny_bind (wpAny_standAt (wpAny_bind (wpAny_mono (he (c.held a) g6 s6 ex k3 I7) (fun X s7 q=>q _ fun g7 le7 H7 r7=>wpAny_pure ?_) fun _ _ h=>h.elim)))
 have I8:=I6.step le7 H7
 exact name_goes I8 k2.2 fun g9 s9 le9 up9 H9 ow9=>fun R_ _ kk=>kk v X σ₂ g9 hq (le.trans ((G.le.put p7.fz).trans (le6.trans (le7.toO.trans le9)))) H9 ow9 (Ak.mono up9 _ _ r7)
theorem sw2_some {a b:Str} {pa pb:Pos} {vs:List Expr} {k k':Nat} {p p':Pos} (X:FR n c) (hp:Dt es c.K vs) (h:sw2Ok c.K a b pa pb vs=true):swappedStores [.Tuple [.Name a pa,.Name b pb] k p] (.Tuple vs k' p') c.env=pure (some [a,b]):=by
 have h0:=Bool.and_eq_true_iff.mp h
 have h1:=Bool.and_eq_true_iff.mp h0.1
 have h3:=Bool.and_eq_true_iff.mp h1.1
 have h4:=Bool.and_eq_true_iff.mp h3.1
 have h5:=Bool.and_eq_true_iff.mp h4.1
 have h8:=Bool.and_eq_true_iff.mp h5.1
 have kd:∀ {x},c.K.kd x .local=true->(c.env.kindOf x == some .local)=true:=fun h=>by rw [AB X.names,Kx.kd_eq h]; rfl
 have hb:c.env.blockKind=.function:=by unfold Env.blockKind; rw [X.kind]; rfl
 have e1:(if (c.env.kindOf a == some .local&&pa.line == pa.line)=true then some a else none)=some a:=if_pos (by rw [kd h8.1,beq_self_eq_true]; rfl)
 have e2:(if (c.env.kindOf b == some .local&&pb.line == pa.line)=true then some b else none)=some b:=if_pos (by rw [kd h8.2,h5.2]; rfl)
 have q1:(!(([Expr.Name a pa,.Name b pb].length == 2||[Expr.Name a pa,.Name b pb].length == 3))||vs.length != 2||c.env.blockKind != .function)=false:=by
  rw [hb,eq_of_beq h3.2]; rfl
 refine (if_neg (by rw [show ([Expr.Name a pa,.Name b pb].length)=2 from rfl] at q1 ⊢; rw [q1]; exact Bool.false_ne_true)).trans ?_
 refine (if_neg fun q=>?_).trans ?_
 ·obtain ⟨x,hx,e⟩:=List.any_eq_true.mp q
  cases x with
  | Starred z pz=>exact tt_ (congrArg Prod.fst (List.cons.inj ((mem_plain hp hx).star c.env [])).1)
  | _=>exact ff_ e
 ·have key:∀ N:List Str,N=[a,b]->(if (N.length != 2||N.eraseDups.length != N.length)=true then (pure none:Sem (Option (List Str))) else if vs.all (foldedForSure 8)=true then pure none else
   if vs.all (constantsAlone 8)=true then unsupported "assign.tuple-of-constant-expressions:order-of-the-stores" else pure (some N))=pure (some [a,b]):=fun N hN=>by
   subst hN
   have q3:([a,b].length != 2||[a,b].eraseDups.length != [a,b].length)=false:=by rw [eq_of_beq h4.2]; rfl
   have q4:vs.all (foldedForSure 8)=false:=by simpa using h1.2
   have q5:vs.all (constantsAlone 8)=false:=by simpa using h0.2
   rw [q3,q4,q5]; rfl
  refine key _ ?_
  have fm:∀ {f:Expr->Option Str} {x:Expr} {l:List Expr} {y:Str} {l':List Str},f x=some y->l.filterMap f=l'->(x::l).filterMap f=y::l':=fun h h'=>(List.filterMap_cons_some h).trans (congrArg _ h')
  refine fm ?_ (fm ?_ rfl)
  ·exact e1
  ·exact e2
theorem sw2_arm {a b:Str} {pa pb:Pos} {vs:List Expr} {k k':Nat} {p p' pos:Pos} {env:Env} (h:swappedStores [.Tuple [.Name a pa,.Name b pb] k p] (.Tuple vs k' p') env=pure (some [a,b])):exec (.Assign [.Tuple [.Name a pa,.Name b pb] k p] (.Tuple vs k' p') pos) env =
 (standAt pos>>=fun _=>eval (.Tuple vs k' p') env>>=fun Z=>rule "assign.swapped-stores" >>= fun _=>unpackItems Z 2 none>>=fun items=>assignInOrder [bindName env b,bindName env a] items.reverse>>=fun _=>pure Flow.next):=by
 rw [arm_exec_Assign]
 show (standAt pos>>=fun _=>eval (.Tuple vs k' p') env>>=fun Z=>swappedStores [.Tuple [.Name a pa,.Name b pb] k p] (.Tuple vs k' p') env>>=_)=_
 rw [h]
 rfl
theorem SS.sw2 {j:Nat} (h3':3<=n) (h:SE n (.tup es) ρ σ v σ₁) (hv:BG v=some [u,w]) (hq:Q (.next ((ρ.set j (some w)).set i (some u))) σ₁):SS n (.sw2 i j es) ρ σ Q:=fun c g s x hc I=>hc (fun x=>c.wp (exec x c.env) (AW n c g Q) s) fun a b pa pb k p vs k' p' pos h1 h2=>by
 have h3:IsE (.tup es) c.K (.Tuple vs k' p'):=fun R_ kk=>kk vs k' p' h2
 refine AD (sw2_arm (sw2_some I.cx h2 h1.2)) (wpAny_bind (wpAny_standAt (Bj h h3 I fun X g₁ s₁ le I1 r1=>?_)))
 refine Cm I1.has r1 hv (R_:=fun X=>c.wp (rule "assign.swapped-stores" >>= fun _=>unpackItems X 2 none>>=fun items=>assignInOrder [bindName c.env b,bindName c.env a] items.reverse>>=fun _=>pure Flow.next) (AW n c g Q) s₁) fun t Xs hT hr hn _=>wpAny_bind (wpAny_rule (wpAny_bind ?_))
 obtain ⟨x1,x2,e1,q1,q2⟩:=hr.two
 have hz:2=Xs.size:=hn
 rw [hz]
 refine wpAny_unpackItems_tuple (I1.hh.none h3') hT fun h' he=>?_
 rw [e1]
 have I2:Inv n c ρ g₁ σ₁ { s₁ with heap:=h' }:=I1.step (.refl _ _) (I1.has.keep fun b o e=>he b o (fun q=>by rw [q,AN] at e; exact Ac e) e)
 refine wpAny_bind (wpAny_bind (wpAny_holding (wpAny_bindName (I2.store h1.1.2 q2 fun g3 s3 le3 up3 I3=>?_))))
 refine wpAny_bind (wpAny_holding (wpAny_bindName (I3.store h1.1.1 (Ak.mono up3 _ _ q1) fun g4 s4 le4 up4 I4=>?_)))
 exact wpAny_pure (wpAny_pure fun R_ k1 _=>k1 _ σ₁ g4 hq (le.toO.trans (le3.trans le4)) I4)
end
end Mine
namespace Mine
open PySem PySem.Calls PySem.SeqAt
noncomputable def GW {κ β:Type} [DecidableEq κ] (kvs:List (κ×β)) (z:κ):List (κ×β):=kvs.filter fun p=>decide (p.1≠z)
theorem Aq.filter {α β:Type} {R:α->β->Prop} {p:α->Bool} {q:β->Bool} (h:∀ a b,R a b->p a=q b):∀ {as:List α} {bs:List β},Aq R as bs->Aq R (as.filter p) (bs.filter q)
 | [],[],_=>trivial
 | a::as,b::bs,x=>by
  rw [List.filter_cons,List.filter_cons,<-h a b x.1]
  cases p a with
  | true=>exact ⟨x.1,Aq.filter h x.2⟩
  | false=>exact Aq.filter h x.2
 | [],_::_,x=>x.elim
 | _::_,[],x=>x.elim
section
variable {n:Nat} {a b:E} {ρ:Ag} {σ σ₁ σ₂:Ab} {k:Nat} {kvs:List (Str×PyData)} {z:Str} {d:PyData}
theorem SE.popS (hb0:Dq a) (ha:SE n a ρ σ (.ref k) σ₁) (hb:SEs n b ρ σ₁ [.d (.str z)] σ₂) (h0:σ₁[k]? = some (.dictS kvs)) (h1:σ₂[k]? = some (.dictS kvs)) (hd:Az kvs z=some d) (hl:kvs.length < line):SE n (.meth .pop a b) ρ σ (.d d) (σ₂.set k (.dictS (GW kvs z))):=by
 refine SE.meth hb0 F.plainAttrs_dict F.slot_dict_pop F.type_dict_pop ha hb (fun r g s X A hx=>?_) fun r g s X Ys A hx hy=>?_
 ·obtain ⟨c,hk,rfl⟩:=hx
  refine ⟨DY A hk h0 (fun _ q=>nomatch q),fun l e=>?_⟩
  obtain rfl:=Value.ref.inj e
  exact A.has.ob k c _ hk h0 _ fun x hx rx=>rx _ fun _ _ _ ho _ _ _ _ _ _=>⟨x,hx,ho.2.1⟩
 ·obtain ⟨c,hk,rfl⟩:=hx
  obtain ⟨Y,rfl,ry⟩:=hy.one
  obtain ⟨t,rfl,_⟩:=ry
  refine A.has.dictS hk h1 fun ws hD hr=>?_
  rcases GB hr z with ⟨e1,_⟩ | ⟨d',v,e1,e2,rv⟩
  ·exact Al e1 hd
  ·rw [Av hd e1]
   refine call_meetsIn F.slot_dict_pop hD.typeIs F.entry_dict_pop (F.args_dict_pop_2 _ _) (meets_dict_pop_there (strKind r.T.prog r.T.w) (k:=z) c (strKind_is _ _ z t) [] (.inl rfl) rfl) ⟨ws,v,hD,len_of hr hl,e2,fun h' hD' hs=>?_⟩
   obtain ⟨x,es,ep,hx,ho,hdd,hk',hp,hn⟩:=hD'
   refine .mk g (.refl _ _) (A.has.turn (ob:=.dictS (GW kvs z)) hk (fun b x hb e=>(hs.2 b hb).trans e) hx fun R_ kk=>kk es ep _ ho hdd hk' hp hn (hr.filter fun p q h=>by rw [h.1]) (Nat.le_trans (List.length_filter_le _ _) (Nat.le_of_lt hl))) rv
end
section
variable {T:Top} {g g':G} {σ τ N:Ab} {s s':Shared} {n f j:Nat} {xs:List V}
theorem FA.newR (hf:FA n f xs [] (.ref j) N) (hx:∀ x,x∈xs->low 0 x) (hw:∀ o∈N,B4 0 o):FA n f xs σ (.ref (σ.length+j)) (σ++N):=fun r g s a Xs h At_ R=>by
 have H:Has r.T g (σ++([]++[])) s:=by rw [List.append_nil,List.append_nil]; exact At_.has
 have e:g.mu=g.mu++([]++[]):=(List.append_nil _).symm
 refine wpAny_mono (hf r (g.mid g.mu [] [] s.heap) s a Xs h ⟨At_.ok,At_.frames,At_.top,At_.depth,At_.units,At_.hh.fzm fun _ _ e=>e,At_.frs.sub fun a o h=>(DS (mu_no e (At_.has.ah a o h).2)).trans h,H.mid e At_.has.len rfl (fun o ho=>nomatch ho)⟩ (Aq.imp (fun v X hv rx=>Go mid_up (hx v hv) rx) R)) (fun X s' p=>p _ fun g' le H' rX=>?_) fun _ _ h=>h
 obtain ⟨c,hc,rfl⟩:=rX
 have:=H.unmid (σ':=[]) (N:=N) (D:=g'.mu) e At_.has.len rfl rfl hw le H' rfl
 rw [List.append_nil,List.append_nil] at this
 exact .mk ⟨g'.fz,g.hid,g.mu++g'.mu⟩ ⟨⟨le.fz,fun _ _ q=>B3 q⟩,fun _ _=>rfl⟩ this ⟨c,at_right' At_.has.len hc,rfl⟩
end
end Mine
namespace Mine
set_option maxRecDepth 100000
open PySem PySem.Calls PySem.W
structure ExcK (K:Frag) (D:Addr):Prop where
 ga:findIn K (.ref D) "__getattribute__" = some (some (.builtin "BaseException.__getattribute__"))
 gh:findIn K (.ref D) "__getattr__" = some none
 fo:findObj K D none "__class__" = some (.bind (.builtin "getset_descriptor.__get__") (.builtin "object.__class__"))
 mo:mroIn K D (.type "object")=some true
 mb:mroIn K D (.type "BaseException")=some true
 is:(clsIn K D).isSome=true
theorem exc_class {prog:Program} {w:World} {A:Around} {E:Value->Shared->Prop} {s:Shared} {K:Frag} {x D:Addr} {ox:Obj} {Q:Option Value->Shared->Prop} (X:K.In s.heap) (I:PySem.W.InstAt s.heap x ox D none) (F':ExcK K D)
 (hq:Q (some (.ref D)) { s with toks:=s.toks+1 }):wpAny (model prog w) A (getAttr? (.ref x) "__class__") Q E s:=by
 obtain ⟨hga,hgh,hf,hm,hmB,_⟩:=F'
 obtain ⟨hh,g,d,t,os⟩:=s
 have L0:=I.type (M:=model prog w)
 have L1:=looks_findIn (M:=model prog w) X hga
 have L2:=looks_findIn (M:=model prog w) X hgh
 have L3:=looks_find (M:=model prog w) X I hf
 have LB:=looks_mroIn (M:=model prog w) X hmB
 have f3:=F.excAttr_ValueError.ga.bind (.ref x)
 unfold getAttr? getAttrBy? getAttrBy
 refine wpAny_bind (wpAny_mkText (wpAny_bind (wpAny_attempt (wpAny_holding (wpAny_bind (L0.at (wpAny_bind (L1.at ?_))))))))
 have hx2:(Value.builtin "BaseException.__getattribute__" == Value.builtin "object.__getattribute__")=false:=by decide +kernel
 show wpAny _ _ (if (onTheHeap (Value.ref D)&&Value.builtin "BaseException.__getattribute__" == Value.builtin "object.__getattribute__")=true then _ else _) _ _ _
 rw [hx2,Bool.and_false,if_neg Bool.false_ne_true]
 unfold getAttrByItsOwn
 show wpAny _ _ (typeLookup (.ref D) "__getattr__" >>= _) _ _ _
 refine wpAny_bind (L2.at ?_)
 refine wpAny_bind (wpAny_attempt (wpAny_holding ?_))
 show wpAny _ _ (bindSpecial (.builtin "BaseException.__getattribute__") (.ref x)>>=fun p=>call p.1 (p.2++[.str "__class__" t])) _ _ _
 refine wpAny_bind (wpAny_of_eq f3 ?_)
 show wpAny _ _ (call (.builtin "BaseException.__getattribute__") [.ref x,.str "__class__" t]) _ _ _
 refine wpAny_call (codeAny_call_builtin F.excAttr_ValueError.ga.plain F.entry_bexc_ga ?_)
 have hk:builtinKind "BaseException.__getattribute__" = some .slot:=by decide +kernel
 have hsplit:splitId "BaseException.__getattribute__" = some ("BaseException","__getattribute__"):=by decide +kernel
 have ha:=F.args_bexc_ga (.ref x) (.str "__class__" t)
 have LI:Looks (model prog w) hh (isInstance (.ref x) (.type "BaseException")) true:=L0.andThen LB
 simp only [checkBuiltinCall,hk,hsplit]
 refine wpAny_bind (LI.at ?_)
 repeat (first | assumption | wp_step)
 refine wpAny_loadPart I.at_ (wpAny_pure ?_)
 rw [I.cls]
 refine wpAny_bind (L3.at ?_)
 unfold Builtin.ObjectAttr.bindTo
 show wpAny _ _ (holding [.builtin "object.__class__"] (call (.builtin "getset_descriptor.__get__") [.builtin "object.__class__",.ref x,.ref D])>>=fun v=>ret v) _ _ _
 refine wpAny_bind (wpAny_holding (wpAny_call (class_get (s:=⟨hh,g,d,t+1,os⟩) (ox:=ox) (od:=none) X I hm ?_)))
 exact wpAny_pure (wpAny_pure (wpAny_pure hq))
set_option tactic.hygienic true in
theorem kitx_exc {K:Frag} {x D:Addr} {ox:Obj} (F':ExcK K D):KitX K (.ref x) (.ref D) (fun h=>PySem.W.InstAt h x ox D none) where
 ty:=fun _ _ _ I=>I.type
 it:=fun _ _ X _=>by
  have hcD:=F'.is
  unfold clsIn at hcD
  split at hcD
  ·rename_i c' d' cd' sl' ho
   intro A' Q' E' s' k q
   unfold isType loadHead
   exact wpAny_bind (wpAny_loadPart (k _ _ (X _ _ ho)) (wpAny_pure q))
  ·exact ff_ hcD
 ne:=fun h tp dd its n sl X htp=>by
  have hcD:=F'.is
  refine Bool.eq_false_iff.mpr fun q=>?_
  have e:D=tp:=Value.ref.inj (beq_iff_eq.mp q)
  subst e
  unfold clsIn at hcD
  split at hcD
  ·rename_i c' d' cd' sl' ho
   have z:=(X _ _ ho).symm.trans htp
   exfalso; cases z
  ·exact ff_ hcD
 ca:=fun X I k=>exc_class X I F' k
theorem inst_exc {h:Heap} {e D:Addr} {o:Obj} (he:h.get? e=some o) (hc:o.cls=.ref D) (hd:o.dict=none) (hf:∃ ws,o.data=.fields ws):PySem.W.InstAt h e o D none:=by
 obtain ⟨ws,hf⟩:=hf
 refine ⟨he,hc,?_,?_⟩
 ·obtain ⟨c,dd,dt,sl⟩:=o
  simp only at hf; subst hf; rfl
 ·rw [hd]; trivial
theorem isi_of {T:Top} {K:Frag} (X:K.In T.h0) (cls:∀ c D,c∈cauP->T.exc c=some D->ExcK K D)
 (one:∀ c k D w,c∈cauP->k < 10->T.exc c=some D->XcV T k w->kitOne K (.ref D) w=some (Bp c k)):IsiOk T:=by
 intro c k D w hc hk hD hw A Q E s e o vs hz he hcl hdi hd h
 exact kia_one (kitx_exc (ox:=o) (cls c D hc hD)) (fun a o e=>hz a o (X a o e)) (inst_exc he hcl hdi ⟨vs,hd⟩) (one c k D w hc hk hD hw) (by intro q; exfalso; cases q) h
end Mine
namespace Mine
open PySem PySem.Calls PyProof.Rows
noncomputable abbrev Row:=Nat×Str×Fn×List Str
noncomputable def recF (p:Program) (n:Str):Option Rc:=((recsOf p).find? (·.name == n)).map fun d=>⟨d.params,d.body,d.scope⟩
noncomputable def clsP:Str:=Str.ofString "Weave"
noncomputable def clsR (p:Program) (loose:List Str):Option ClsRec:=(plainsOf p loose).find? (·.name == clsP)
noncomputable def recM (p:Program) (loose:List Str) (n:Str):Option Rc:=(clsR p loose).bind fun c=>(c.meths.find? (·.name == n)).map fun m=>⟨m.params,m.body,m.scope⟩
noncomputable def Do (o:Option Rc):List Stmt:=match o with | some r=>r.body | none=>[]
noncomputable def Gu (o:Option Rc) (lam:Option (Addr×Str)) (x:Row):Bool:=match o with | some r=>okRc lam x.2.2.1 x.2.2.2 r | none=>false
noncomputable def lamQ (n:Str):Str:=(n++(".<locals>." : Str))++("<lambda>" : Str)
theorem En {o:Option Rc} {lam:Option (Addr×Str)} {x:Row} (h:Gu o lam x=true):∃ r,o=some r/\okRc lam x.2.2.1 x.2.2.2 r=true:=by
 cases o with
 | none=>exact ff_ h
 | some r=>exact ⟨r,rfl,h⟩
noncomputable def hide (h:Heap) (t:Addr):Heap:=h.update t fun o=>{ o with data:=.freed }
theorem hide_other {h:Heap} {t a:Addr} (hab:a≠t):(hide h t).get? a=h.get? a:=Heap.get?_update_other h _ (Ne.symm hab)
noncomputable def hides (h:Heap):List Addr->Heap
 | []=>h
 | t::r=>hide (hides h r) t
theorem DV {h:Heap} {a:Addr}:∀ {ts:List Addr},a∉ts->(hides h ts).get? a=h.get? a
 | [],_=>rfl
 | t::r,q=>(hide_other fun (e:a=t)=>q (e▸.head _)).trans (DV fun m=>q (.tail _ m))
section
variable {p:Program} {loose:List Str} {mean:ExcName->Option Value} {mg mb mN:Str->Option Value} {T:Mine.Top} {h:Heap} {ts:List Addr}
structure Hid (T:Mine.Top) (h:Heap) (ts:List Addr):Prop where
 h0:T.h0=hides h ts
 tab:∀ t,t∈ts->h.get? t=some (W.tabObj #[])
theorem Hid.get (H:Hid T h ts) {a:Addr} {o:Obj} (e:h.get? a=some o) (hd:o.data≠.fields #[]):T.h0.get? a=some o:=by
 rw [H.h0,DV fun q=>hd (by rw [H.tab a q] at e; rw [<-Option.some.inj e])]
 exact e
theorem Hid.ns (H:Hid T h ts) {a:Addr} {m:Str->Option Value} (x:h.Ns a m):T.h0.Ns a m:=by
 obtain ⟨o,es,ep,e,d,r⟩:=x; exact ⟨o,es,ep,H.get e (by rw [d]; exact fun q=>nomatch q),d,r⟩
theorem Hid.tail (H:Hid T h ts) {bmB tl:List Value} (x:OwnTail h bmB tl):OwnTail T.h0 bmB tl:=by
 induction x with
 | base=>exact .base
 | own h1 h2 h3 _ ih=>exact .own (H.get h1 fun q=>nomatch q) (H.ns h2) h3 ih
theorem Hid.own (H:Hid T h ts) {x:Str} {C:Addr} {bm:List Value} {newId:String} (O:PyProof.Rows.OwnCls x C bm newId mg h):PyProof.Rows.OwnCls x C bm newId mg T.h0:=by
 refine ex17 O.obj fun tl N nm q bs hdct sn sub ab col dd k0 k1 k2 k3 k5 mN hh=>?_
 obtain ⟨hC,hN,hni,Tl⟩:=hh
 exact ⟨O.bound,tl,N,nm,q,bs,hdct,sn,sub,ab,col,dd,k0,k1,k2,k3,k5,mN,H.get hC (fun q=>nomatch q),H.ns hN,hni,H.tail Tl⟩
theorem Hid.code (H:Hid T h ts) {cd:Value} {q:Str} (x:h.CodeRec cd q):T.h0.CodeRec cd q:=by
 obtain ⟨c,o,vs,t,e,g,d,r⟩:=x; exact ⟨c,o,vs,t,e,H.get g (fun w=>by rw [d] at w; injection w with w; rw [w] at r; exact Ac r),d,r⟩
theorem Hid.hd (H:Hid T h ts) {c t:Addr} (x:W.CodeHd h c t):W.CodeHd T.h0 c t:=by
 obtain ⟨o,vs,file,tf,flags,tg,inF,text,tt,e,a,b,c',d,f,g,i,j,hne⟩:=x; exact ⟨o,vs,file,tf,flags,tg,inF,text,tt,H.get e (fun w=>by rw [b] at w; injection w with w; rw [w] at c'; exact Ac c'),a,b,c',d,f,g,i,j,hne⟩
theorem fnOk_of (Tp:PyProof.Rows.Top p loose mean mg mb h) (H:Hid T h ts) {x:Row} {lam:Option (Addr×Str)} (hk:Gu (recF p x.2.1) lam x=true) (hem:(emS x.2.2.1.body).2 (Do (recF p x.2.1))=Do (recF p x.2.1)) {a:Addr} (ha:mg x.2.1=some (.ref a))
 (hl:∀ t q,lam=some (t,q)->(t,q)∈T.tabs/\lamQ x.2.1=q/\∀ o fd,h.get? a=some o->o.data=.func fd->∃ c,fd.code=.ref c/\W.CodeHd h c t):FnOk T glP x.2.2.1 a:=by
 obtain ⟨r,hr,hk⟩:=En hk
 rw [hr] at hem
 obtain ⟨d,hd,rfl⟩:=Option.map_eq_some_iff.mp hr
 have hm:=List.mem_of_find?_eq_some hd
 have hn:d.name=x.2.1:=eq_of_beq (show (d.name == x.2.1)=true from List.find?_some (p:=fun (y:DefRec)=>y.name == x.2.1) hd)
 obtain ⟨a',o,pm,code,doc,e1,e2,e3,e4⟩:=Tp.fn d hm
 rw [hn,ha] at e1
 obtain rfl:=Value.ref.inj (Option.some.inj e1)
 refine fun R_ k=>k _ _ o x.2.2.2 lam (fnIs_of hk hem (H.get e2 (by rw [e3]; exact fun q=>nomatch q)) e3 (H.code e4) rfl rfl rfl rfl rfl rfl rfl rfl fun t q e=>?_)
 obtain ⟨h1,h2,h3⟩:=hl t q e
 obtain ⟨c,c1,c2⟩:=h3 o _ e2 e3
 exact ⟨h1,by rw [<-h2,<-hn]; rfl,c,c1,H.hd c2⟩
theorem mtOk_of {c:ClsRec} {C N:Addr} (hc:clsR p loose=some c) (P:PlainAt h c C N mN) (H:Hid T h ts) {x:Row} (hk:Gu (recM p loose x.2.1) none x=true) (hem:(emS x.2.2.1.body).2 (Do (recM p loose x.2.1))=Do (recM p loose x.2.1)):∃ a o,mN x.2.1=some (.ref a)/\T.h0.get? a=some o/\o.cls=.type "function"/\(∃ fd,o.data=.func fd)/\FnOk T glP x.2.2.1 a:=by
 obtain ⟨r,hr,hk⟩:=En hk
 rw [hr] at hem
 obtain ⟨c',hc',hr⟩:=Aa hr
 obtain rfl:=Av hc hc'
 obtain ⟨m,hm,rfl⟩:=Option.map_eq_some_iff.mp hr
 have hn:m.name=x.2.1:=eq_of_beq (show (m.name == x.2.1)=true from List.find?_some (p:=fun (y:MethRec)=>y.name == x.2.1) hm)
 obtain ⟨f,o,pm,cd,doc,e1,e2,e3,e4,e5⟩:=P.meths m (List.mem_of_find?_eq_some hm)
 have ho:=H.get e2 (by rw [e4]; exact fun q=>nomatch q)
 exact ⟨f,o,hn▸e1,ho,e3,⟨_,e4⟩,fun R_ k=>k _ _ o x.2.2.2 none (fnIs_of hk hem ho e4 (H.code e5) rfl rfl rfl rfl rfl rfl rfl rfl fun t q e=>Ac e)⟩
noncomputable def GD (p:Program) (loose:List Str) (x:Str):Bool :=
 !startupNames.contains x&&(!loose.contains x&&(!((recsOf p).map (·.name)).contains x&&(!((litsOf p).map (·.1)).contains x&&(!((clssOf p loose).map (·.name)).contains x && !(x == ("__name__" : Str))))))
theorem DR {x:Str} {l:List Str} (h:(!l.contains x)=true):x∉l:=fun hm=>by rw [List.contains_iff_mem.mpr hm] at h; exact ff_ h
theorem free_of (Tp:PyProof.Rows.Top p loose mean mg mb h) {x:Str} (hf:GD p loose x=true):mg x=none/\mb x=bootBuiltins x :=
 ⟨Tp.free x (DR (Ap hf)) (DR (Ap (Af hf))) (DR (Ap (Af (Af hf)))) (DR (Ap (Af (Af (Af hf))))) (DR (Ap (Af (Af (Af (Af hf)))))),Tp.builtins x fun e=>by
  have q:=Af (Af (Af (Af (Af hf))))
  rw [e,beq_self_eq_true] at q; exact ff_ q⟩
noncomputable def isInt (d:PyData):Bool:=match d with | .int _=>true | .str z=>Nat.ble z.length 16777216 | _=>false
noncomputable def okGl (p:Program) (loose:List Str) (e:Str×GV):Bool :=
 match e.2 with
 | .fn f=>(DB.find? fun x=>Nat.beq x.1 f).any fun x=>x.2.1 == e.1
 | .bi b=>GD p loose e.1&&(bootBuiltins e.1 == some (A7 b))
 | .ty t=>GD p loose e.1&&(bootBuiltins e.1 == some (.type t))
 | .cst d=>isInt d&&(match valOf p e.1 with | some d'=>Fs d' d | none=>false)
 | .cls=>e.1 == clsP
 | .exc k=>(excP.lookup k).any fun n=>n == e.1
noncomputable def okExc (p:Program) (e:Nat×Str):Bool:=(ownsOf p).any fun o=>o.name == e.2&&(o.newId == "ValueError.__new__" && o.bm == [.type "ValueError",.type "Exception",.type "BaseException",.type "object"])
noncomputable def F0 (v:Value):Option Addr:=match v with | .ref a=>some a | _=>none
theorem Cr {o:Option Value} {a:Addr} (h:o.bind F0=some a):o=some (.ref a):=by
 obtain ⟨v,rfl,h⟩:=Aa h
 cases v with
 | ref b=>rw [Option.some.inj (show some b=some a from h)]
 | _=>exact Ac h
noncomputable def F6 (mg mN:Str->Option Value) (f:Nat):Option Addr :=
 match DB.find? fun x=>Nat.beq x.1 f with
 | some x=>(mg x.2.1).bind F0
 | none=>(match CP.find? fun x=>Nat.beq x.1 f with | some x=>(mN x.2.1).bind F0 | none=>none)
theorem EI {f:Nat} {x:Row} (hx:(DB.find? fun x=>Nat.beq x.1 f)=some x):F6 mg mN f=(mg x.2.1).bind F0:=by unfold F6; rw [hx]
theorem GE {f:Nat} {x:Row} (h0:(DB.find? fun x=>Nat.beq x.1 f)=none) (hx:(CP.find? fun x=>Nat.beq x.1 f)=some x):F6 mg mN f=(mN x.2.1).bind F0:=by unfold F6; rw [h0,hx]
theorem Df {l:List Row} {f:Nat} {x:Row} (h:(l.find? fun x=>Nat.beq x.1 f)=some x):x.1=f/\x∈l:=⟨Nat.eq_of_beq_eq_true (List.find?_some (p:=fun (x:Row)=>Nat.beq x.1 f) h),List.mem_of_find?_eq_some h⟩
theorem any_some {α:Type} {f:α->Bool} {o:Option α} (h:o.any f=true):∃ d,o=some d/\f d=true:=by
 cases o with
 | none=>exact ff_ h
 | some d=>exact ⟨d,rfl,h⟩
theorem mem_of_lookupE {k:Nat} {n:Str}:∀ {l:List (Nat×Str)},l.lookup k=some n->(k,n)∈l
 | [],h=>Ac h
 | b::l,h=>by
  rw [List.lookup_cons] at h
  cases hb:k == b.1 with
  | true =>
   rw [hb] at h
   obtain rfl:=Option.some.inj h
   rw [eq_of_beq hb]; exact .head _
  | false=>rw [hb] at h; exact .tail _ (mem_of_lookupE h)
noncomputable def GL (mg:Str->Option Value) (k:Nat):Option Addr:=(excP.lookup k).bind fun n=>(mg n).bind F0
structure TextOk (p:Program) (loose:List Str) (lamOf:Nat->Option (Addr×Str)):Prop where
 fok:∀ x,x∈DB->Gu (recF p x.2.1) (lamOf x.1) x=true
 fem:∀ x,x∈DB->(emS x.2.2.1.body).2 (Do (recF p x.2.1))=Do (recF p x.2.1)
 mok:∀ x,x∈CP->Gu (recM p loose x.2.1) none x=true
 mem:∀ x,x∈CP->(emS x.2.2.1.body).2 (Do (recM p loose x.2.1))=Do (recM p loose x.2.1)
 gok:∀ e,e∈glsP->okGl p loose e=true
 eok:∀ e,e∈excP->okExc p e=true
 att:∀ x,x∈CP->x.2.1∉Ca
 apart:∀ x,x∈CP->(DB.find? fun y=>Nat.beq y.1 x.1)=none
 self:∀ x,x∈CP->(CP.find? fun y=>Nat.beq y.1 x.1)=some x
theorem prog_of {lamOf:Nat->Option (Addr×Str)} {c:ClsRec} {C N:Addr} (K:TextOk p loose lamOf) (Tp:PyProof.Rows.Top p loose mean mg mb h) (hc:clsR p loose=some c) (hst:∀ nm,nm∈Ca->nm∈c.statics) (hC:mg clsP=some (.ref C)) (P:PlainAt h c C N mN) (eC:C=T.cls) (eF:T.fn=F6 mg mN) (eE:T.exc=GL mg) (H:Hid T h ts) (S:h.NoSeer) (ht:T.prog.given.tree=none) (htf:∀ t q q',(t,q)∈T.tabs->(t,q')∈T.tabs->q=q') (hI:IsiOk T)
 (hl:∀ x t q,x∈DB->lamOf x.1=some (t,q)->(t,q)∈T.tabs/\lamQ x.2.1=q/\∀ a o fd,mg x.2.1=some (.ref a)->h.get? a=some o->o.data=.func fd->∃ c,fd.code=.ref c/\W.CodeHd h c t):ProgOk T:=by
 have fnA:∀ x,x∈DB->∃ a o fd,mg x.2.1=some (.ref a)/\h.get? a=some o/\o.data=.func fd:=fun x hx=>by
  obtain ⟨r,hr,_⟩:=En (K.fok x hx)
  obtain ⟨d,hd,rfl⟩:=Option.map_eq_some_iff.mp hr
  have hn:d.name=x.2.1:=eq_of_beq (show (d.name == x.2.1)=true from List.find?_some (p:=fun (y:DefRec)=>y.name == x.2.1) hd)
  obtain ⟨a',o,pm,code,doc,e1,e2,e3,e4⟩:=Tp.fn d (List.mem_of_find?_eq_some hd)
  exact ⟨a',o,_,hn▸e1,e2,e3⟩
 have excD:∀ {k n},excP.lookup k=some n->∃ C,mg n=some (.ref C)/\ExcC T C:=fun {k n} e=>by
  obtain ⟨o,ho,h1⟩:=List.any_eq_true.mp (K.eok (k,n) (Mine.mem_of_lookupE e))
  obtain ⟨C,O,_⟩:=Tp.own o ho
  have hn:o.name=n:=eq_of_beq (Ap h1)
  refine ⟨C,hn▸O.bound,o.name,o.bm,o.newId,"ValueError","ValueError.__init__",mg,H.own O.own,?_⟩
  rw [eq_of_beq (Ap (Af h1)),eq_of_beq (Af (Af h1))]
  exact F.excBase_ValueError
 obtain ⟨mc,n1,n2⟩:=Tp.nolimit
 obtain ⟨mm,m1,m2⟩:=S.mods
 obtain ⟨mc',c1,c2⟩:=S.statics
 obtain ⟨mb',i1,i2⟩:=S.imp
 obtain ⟨mg',bm0,ob0,g1,g2,g3,g4⟩:=S.main
 obtain ⟨bm,ob,b1,b2,b3,b4,b5,b6⟩:=Tp.bmain
 have hob:=H.get b3 (by rw [b6]; exact fun q=>nomatch q)
 have fnD:∀ f a,T.fn f=some a->∃ o fd,T.h0.get? a=some o/\o.data=.func fd:=fun f a e=>by
  rw [eF] at e
  cases hx:DB.find? fun x=>Nat.beq x.1 f with
  | some x =>
   rw [EI hx] at e
   obtain ⟨a',o,fd,e1,e2,e3⟩:=fnA x (Df hx).2
   obtain rfl:=Value.ref.inj (Av (Cr e) e1)
   exact ⟨o,fd,H.get e2 (by rw [e3]; exact fun q=>nomatch q),e3⟩
  | none =>
   cases hy:CP.find? fun x=>Nat.beq x.1 f with
   | none=>unfold F6 at e; rw [hx,hy] at e; exact Ac e
   | some x =>
    rw [GE hx hy] at e
    obtain ⟨a',o,e1,e2,_,⟨fd,e3⟩,_⟩:=mtOk_of hc P H (K.mok x (Df hy).2) (K.mem x (Df hy).2)
    obtain rfl:=Value.ref.inj (Av (Cr e) e1)
    exact ⟨o,fd,e2,e3⟩
 refine ⟨⟨⟨⟨mc,H.ns n1,n2⟩,⟨⟨mc',H.ns c1,c2⟩,⟨mm,H.ns m1,m2⟩,⟨mb',H.ns i1,i2⟩,⟨mg,bm,ob,H.ns Tp.g,b1,hob,b4,b5⟩⟩,ht,?_,htf⟩,fnD,mg,mb,H.ns Tp.g,H.ns Tp.b,fun n v hv=>?_,bm,ob,b1,b2,hob,b4,b5,b6⟩,fun f fn a hP hf=>?_,⟨N,mN,?_,P.quiet _ ?_,P.quiet _ ?_,P.quiet _ ?_,fun nm hm=>P.quiet _ (List.mem_append_right _ (hst nm hm)),fun nm f hm=>?_⟩,fun k C' e=>?_,hI⟩
 ·obtain ⟨o,es,ep,e,d,r⟩:=m1
  exact ⟨o,H.get e (by rw [d]; exact fun q=>nomatch q)⟩
 ·unfold glP at hv
  have he:=K.gok (n,v) (mem_of_lookup hv)
  cases v with
  | fn f =>
   obtain ⟨x,hx,he⟩:=any_some (show (DB.find? fun x=>Nat.beq x.1 f).any (fun x=>x.2.1 == n)=true from he)
   obtain ⟨a,o,fd,e1,_⟩:=fnA x (Df hx).2
   have hn:x.2.1=n:=eq_of_beq he
   exact ⟨_,⟨a,by rw [eF,EI hx,e1]; rfl,rfl⟩,.inl (hn▸e1)⟩
  | bi b =>
   have he:(GD p loose n&&(bootBuiltins n == some (A7 b)))=true:=he
   obtain ⟨f1,f2⟩:=free_of Tp (Ap he)
   exact ⟨_,rfl,.inr ⟨f1,by rw [f2]; exact beq_iff_eq.mp (Af he)⟩⟩
  | ty t =>
   have he:(GD p loose n&&(bootBuiltins n == some (.type t)))=true:=he
   obtain ⟨f1,f2⟩:=free_of Tp (Ap he)
   exact ⟨_,rfl,.inr ⟨f1,by rw [f2]; exact beq_iff_eq.mp (Af he)⟩⟩
  | cst d =>
   have he:(isInt d&&(match valOf p n with | some d'=>Fs d' d | none=>false))=true:=he
   have h2:=Af he
   cases e:valOf p n with
   | none=>rw [e] at h2; exact ff_ h2
   | some d' =>
    rw [e] at h2
    obtain ⟨v,v1,v2⟩:=Tp.const n d' e
    rw [dataIs_eq (show Fs d' d=true from h2)] at v2
    refine ⟨v,?_,.inl v1⟩
    have h1:=Ap he
    cases d with
    | int i=>obtain ⟨t,e,_⟩:=reads_int_inv (v2 {}); exact ⟨t,e⟩
    | str z=>obtain ⟨t,e,_⟩:=reads_str_inv (v2 {}); exact ⟨t,e,Nat.le_of_ble_eq_true h1⟩
    | _=>exact ff_ h1
  | cls=>exact ⟨_,rfl,.inl (by rw [eq_of_beq (show (n == clsP)=true from he),hC,eC])⟩
  | exc k =>
   obtain ⟨n',hx,he⟩:=any_some (show (excP.lookup k).any (fun n'=>n' == n)=true from he)
   obtain ⟨C',e1,_⟩:=excD hx
   have hn:n'=n:=eq_of_beq he
   exact ⟨_,⟨C',by rw [eE]; unfold GL; rw [hx]; show (mg n').bind F0=_; rw [e1]; rfl,rfl⟩,.inl (hn▸e1)⟩
 ·unfold Pg at hP
  obtain ⟨x,hx,rfl⟩:=Option.map_eq_some_iff.mp hP
  rw [List.find?_append] at hx
  rw [eF] at hf
  cases hy:DB.find? fun x=>Nat.beq x.1 f with
  | some y =>
   rw [hy] at hx
   obtain rfl:=Option.some.inj (show some y=some x from hx)
   rw [EI hy] at hf
   have hm:=(Df hy).2
   exact fnOk_of Tp H (K.fok y hm) (K.fem y hm) (Cr hf) fun t q e=>by
    obtain ⟨h1,h2,h3⟩:=hl y t q hm e
    exact ⟨h1,h2,fun o fd=>h3 a o fd (Cr hf)⟩
  | none =>
   rw [hy] at hx
   have hx:(CP.find? fun x=>Nat.beq x.1 f)=some x:=hx
   rw [GE hy hx] at hf
   obtain ⟨a',o,e1,_,_,_,e2⟩:=mtOk_of hc P H (K.mok x (Df hx).2) (K.mem x (Df hx).2)
   obtain rfl:=Value.ref.inj (Av (Cr hf) e1)
   exact e2
 ·rw [<-eC]
  obtain ⟨nm,q,bs,sn,sub,col,dd,k0,k1,k2,k3,k5,e⟩:=P.cls.obj
  exact ⟨⟨nm,q,bs,sn,sub,col,dd,k0,k1,k2,k3,k5,H.get e (fun q=>nomatch q)⟩,H.ns P.cls.ns⟩
 ·exact List.mem_append_left _ (.tail _ (.head _))
 ·exact List.mem_append_left _ (.tail _ (.tail _ (.head _)))
 ·exact List.mem_append_left _ (.head _)
 ·unfold mtP at hm
  obtain ⟨x,hx,rfl⟩:=Option.map_eq_some_iff.mp hm
  have hn:x.2.1=nm:=eq_of_beq (show (x.2.1 == nm)=true from List.find?_some (p:=fun (y:Row)=>y.2.1 == nm) hx)
  have hxm:=List.mem_of_find?_eq_some hx
  obtain ⟨a,o,e1,e2,e3,_,_⟩:=mtOk_of hc P H (K.mok x hxm) (K.mem x hxm)
  refine ⟨hn▸K.att x hxm,a,o,?_,hn▸e1,e2,e3⟩
  rw [eF,GE (K.apart x hxm) (K.self x hxm),e1]; rfl
 ·rw [eE] at e
  obtain ⟨n,hx,e⟩:=Aa (show (excP.lookup k).bind (fun n=>(mg n).bind F0)=some C' from e)
  obtain ⟨C2,e1,h2⟩:=excD hx
  obtain rfl:=Value.ref.inj (Av (Cr e) e1)
  exact h2
end
end Mine
namespace Mine
set_option tactic.hygienic true
set_option maxRecDepth 100000
open PySem PyProof.Rows PySem.W
noncomputable def lo05:List Str:=PySem.W.looseW view05 []
theorem Dg {α:Type} {l:List α} {f:α->Bool} (h:l.all f=true):∀ x,x∈l->f x=true:=List.all_eq_true.mp h
theorem fok05:(DB.all fun x=>Gu (recF view05 x.2.1) none x)=true:=by kernel_rfl
theorem fem05:(DB.map fun x=>(emS x.2.2.1.body).2 (Do (recF view05 x.2.1)))=DB.map fun x=>Do (recF view05 x.2.1):=by kernel_rfl
theorem mok05:(CP.all fun x=>Gu (recM view05 lo05 x.2.1) none x)=true:=by kernel_rfl
theorem mem05:(CP.map fun x=>(emS x.2.2.1.body).2 (Do (recM view05 lo05 x.2.1)))=CP.map fun x=>Do (recM view05 lo05 x.2.1):=by kernel_rfl
theorem gok05:(glsP.all fun e=>okGl view05 lo05 e)=true:=by kernel_rfl
theorem att05:(CP.all fun x=>!Ca.contains x.2.1)=true:=by kernel_rfl
theorem ap05:(CP.all fun x=>(DB.find? fun y=>Nat.beq y.1 x.1).isNone)=true:=by kernel_rfl
theorem self05:(CP.map fun x=>CP.find? fun y=>Nat.beq y.1 x.1)=CP.map some:=by kernel_rfl
theorem eok05:(excP.all (okExc view05))=true:=by kernel_rfl
noncomputable def cls05:ClsRec:=(clsR view05 lo05).getD ⟨clsP,none,[],[],0,[]⟩
theorem clsr05:clsR view05 lo05=some cls05:=by kernel_rfl
theorem sta05:(Ca.all fun nm=>cls05.statics.contains nm)=true:=by kernel_rfl
theorem text05:TextOk view05 lo05 (fun _=>none) where
 fok:=Dg fok05
 fem:=List.map_inj_left.mp fem05
 mok:=Dg mok05
 mem:=List.map_inj_left.mp mem05
 gok:=Dg gok05
 eok:=Dg eok05
 att:=fun x hx=>DR (Dg att05 x hx)
 apart:=fun x hx=>none_of' (Dg ap05 x hx)
 self:=List.map_inj_left.mp self05
theorem stat05:∀ nm,nm∈Ca->nm∈cls05.statics:=fun nm hm=>List.contains_iff_mem.mp (Dg sta05 nm hm)
end Mine
namespace Mine
set_option tactic.hygienic true
set_option maxRecDepth 100000
open PySem PySem.Calls PyProof.Rows PySem.W
theorem ints_rep {f:Addr->Option Obj} {vs:List Value} {ns:List Int} (h:IntsAre vs ns):RepDs f (ns.map .int) vs:=by
 induction h with
 | nil=>exact trivial
 | cons n t r ih=>exact ⟨⟨t,rfl⟩,ih⟩
theorem excOk_of {K:Frag} {D:Addr} (h:excOk K D=true):ExcK K D:=by
 unfold excOk at h
 simp only [Bool.and_eq_true] at h
 obtain ⟨⟨⟨⟨⟨h1,h2⟩,h3⟩,h4⟩,h5⟩,h6⟩:=h
 refine ⟨G8 h1,G8 h2,isBind_eq h3,Fm h4,Fm h5,h6⟩
section
variable {w:World} {s₁:Shared} {mean:ExcName->Option Value} {mg mb mN:Str->Option Value}
noncomputable abbrev Gf (w:World) (s:Shared) (mg mN:Str->Option Value) (C:Addr):Mine.Top:=⟨PySem.Challenge.rw_uf010019_05.row.prog,w,hides s.heap [],F6 mg mN,[],s.gens,s.os,C,GL mg⟩
theorem mem_lookE {k:Nat} {n:Str} (h:excP.lookup k=some n):(k,n)∈cn05:=mem_of_lookupE h
theorem exc05 {K:Frag} (KX:K.In s₁.heap) (G:s₁.heap.Ns mainGlobals mg) (KC:chkTop W05 cn05 [5] ps05 K=true) {k:Nat} {a:Addr} (h:GL mg k=some a):W05 k=.ref a:=by
 obtain ⟨n,h1,h2⟩:=Aa h
 have h3:=Cr h2
 have h4:=mg_of KX G (G8 (List.all_eq_true.mp (Ap (Ap KC)) (k,n) (mem_lookE h1)))
 exact Av h4 h3
theorem isi05 {K:Frag} (KX:K.In s₁.heap) (G:s₁.heap.Ns mainGlobals mg) (KC:chkTop W05 cn05 [5] ps05 K=true) {C:Addr}:IsiOk (Gf w s₁ mg mN C):=by
 refine isi_of (K:=K) (fun a o e=>(DV List.not_mem_nil).trans (KX a o e)) (fun c D hc hD=>?_) fun c k D v hc hk hD hv=>?_
 ·obtain rfl:=List.mem_singleton.mp (show c∈[5] from hc)
  have h1:=List.all_eq_true.mp (Af (Ap KC)) 5 (.head _)
  rw [exc05 KX G KC (show GL mg 5=some D from hD)] at h1
  exact excOk_of h1
 ·obtain rfl:=List.mem_singleton.mp (show c∈[5] from hc)
  have hp:(5,k)∈ps05:=by
   have h:=(show ∀ k < 10,(5,k)∈ps05 by decide)
   exact h k hk
  have h1:=Fm (List.all_eq_true.mp (Af KC) (5,k) hp)
  have e1:=exc05 KX G KC (show GL mg 5=some D from hD)
  have e2:W05 k=v:=by
   have hv:bif Nat.beq k 0 then v=.type "ValueError" else ∃ a,GL mg k=some a/\v=.ref a:=hv
   cases q:Nat.beq k 0 with
   | true=>rw [q] at hv; rw [Nat.eq_of_beq_eq_true q]; exact Eq.symm hv
   | false=>rw [q] at hv; obtain ⟨a,ha,e⟩:=hv; rw [show v=.ref a from e]; exact exc05 KX G KC ha
  rw [e1,e2] at h1
  exact h1.trans (congrArg some ((show ∀ k < 10,((5 == k||k == 1||k == 0))=Bp 5 k by decide) k hk))
theorem law05 (run:∀ ns:List Int,ns.length<=63->∃ σ',SSs 23 Flaw.body (Bc Flaw [.d (.list (ns.map .int))]) [] (RetIs (vb true) σ'))
 (Tp:PyProof.Rows.Top view05 lo05 mean mg mb s₁.heap) (TE:TopE view05 lo05 mg s₁.heap) {K:Frag} (KX:K.In s₁.heap) (KC:chkTop W05 cn05 [5] ps05 K=true) {fa l:Addr} {vs:List Value} {ns:List Int} (hmg:mg (Str.ofString "law")=some (.ref fa)) (hL:s₁.heap.IsList l vs.toArray) (hI:IntsAre vs ns) (hn:ns.length<=63) {Q:Value->Shared->Prop} {E:Value->Shared->Prop}
 (hQ:∀ s',(∀ b o,s₁.heap.get? b=some o->s'.heap.get? b=some o)->s'.gens=s₁.gens->s'.os=s₁.os->Q (.bool true) s') :
 wpAny (model PySem.Challenge.rw_uf010019_05.row.prog w) callerA (call (.ref fa) [.ref l]) Q E s₁:=by
 obtain ⟨C,N,mN,hC,P⟩:=TE.topC cls05 (List.mem_of_find?_eq_some clsr05)
 have hcn:cls05.name=clsP:=eq_of_beq (show (cls05.name == clsP)=true from List.find?_some (p:=fun (y:ClsRec)=>y.name == clsP) clsr05)
 rw [hcn] at hC
 have H:Hid (Gf w s₁ mg mN C) s₁.heap []:=⟨rfl,fun a h=>nomatch h⟩
 have ok:ProgOk (Gf w s₁ mg mN C):=prog_of text05 Tp clsr05 stat05 hC P rfl rfl rfl H (Tp.seer (by decide +kernel)) rfl (fun a q q' h h'=>nomatch h) (isi05 KX Tp.g KC) fun x a q hx e=>Ac e
 have hfa:(Gf w s₁ mg mN C).fn 34=some fa:=by
  show F6 mg mN 34=some fa
  rw [EI (x:=(34,Str.ofString "law",Flaw,_)) rfl,hmg]; rfl
 obtain ⟨o,ho,hc,m,hd⟩:=hL
 let g:G:=⟨s₁.heap.get?,fun _=>none,[]⟩
 have has:Has (Gf w s₁ mg mN C) g [] s₁ :=
  ⟨fun a o e=>e,fun a o e=>Ac e,rfl,List.nodup_nil,(fun a h=>nomatch h),fun a o e=>Ac e,fun k a o _ e=>Ac e,fun a o e=>(DV List.not_mem_nil).symm.trans e,(fun a q h=>nomatch h),rfl,rfl⟩
 have r:Ao (Gf w s₁ mg mN C) g [.d (.list (ns.map .int))] [.ref l]:=⟨fun R_ k=>k l o vs.toArray m ho hc hd (by rw [List.toList_toArray]; exact ints_rep hI) (by rw [List.length_map]; exact Nat.le_trans hn (by decide)),trivial⟩
 obtain ⟨σ',hrun⟩:=run ns hn
 have fin:=FA.run (f:=34) (fn:=Flaw) (n:=23) (r:=⟨Gf w s₁ mg mN C,[],callerA⟩) (by unfold Pg; rfl) rfl hrun (by decide) hfa ok rfl (show callerA.depth+(23+1)<=600 by decide) (show callerA.units+100 * (23+1)<=9000 by decide) ⟨.inl rfl,rfl⟩ (fun e he=>nomatch he) has r
 refine wpAny_mono fin (fun x s' p=>p _ fun g' le H' rx=>?_) fun _ _ h=>h.elim
 obtain rfl:x=.bool true:=rx
 exact hQ s' (fun b o e=>H'.fz b o (le.fz b o e)) H'.gens H'.os
end
end Mine
namespace Mine
open PySem
noncomputable def Tx (l:List Nat):Str:=⟨l.toArray⟩
theorem Tx_app (a b:List Nat):Tx a++Tx b=Tx (a++b):=by
 show Str.append _ _=_
 simp [Str.append,Tx]
theorem Eu (a:List Nat):(Tx a).length=a.length:=by simp [Str.length,Tx]
theorem Tx_size (a:List Nat):(Tx a).cps.size=a.length:=by simp [Tx]
theorem Gb (a:List Nat):(Tx a).cps.toList=a:=by simp [Tx]
theorem Tx_inj {a b:List Nat} (h:Tx a=Tx b):a=b:=by
 have:=congrArg (fun s=>s.cps.toList) h
 simpa [Tx] using this
theorem Tx_eta (x:Str):Tx x.cps.toList=x:=by simp [Tx]
theorem Tx_cut (lo hi:Option Int) (a:List Nat):cutS lo hi (Tx a)=Tx (BH lo hi a):=by simp [cutS,Tx]
theorem Tx_at (a:List Nat) (i:Int):Txt.charAt (Tx a) i=(seqIndex? i a.length).bind (a[·]?):=by
 simp [Txt.charAt,Tx,Str.length]
theorem Tx_lt (a b:List Nat):AU (Tx a) (Tx b)=decide (a < b):=by
 unfold AU; congr
theorem Tx_beq (a b:List Nat):(Tx a == Tx b)=decide (a=b):=by
 by_cases h:a=b
 ·subst h; simp
 ·have h1:Tx a≠Tx b:=fun e=>h (Tx_inj e)
  simp [h,h1]
noncomputable abbrev vs (l:List Nat):V:=.d (.str (Tx l))
noncomputable abbrev dl (l:List (List Nat)):PyData:=.list (l.map fun t=>.str (Tx t))
section
variable {O:Orc} {ρ:Ag} {σ:Ab} {a b c r i es z o elt it ifs lo hi:E} {op:Operator} {cop:CmpOp} {bop:BoolOp}
theorem v_bin:(ev O (.bin op a b)).v ρ σ=((ev O a).v ρ σ).bind fun x=>((ev O b).v ρ σ).bind fun y=>EN op x y σ:=rfl
theorem t_not:(ev O (.not a)).t ρ σ=Fc ((ev O a).t ρ σ):=rfl
theorem v_cmp:(ev O (.cmp cop a b)).v ρ σ=((ev O a).v ρ σ).bind fun x=>((ev O b).v ρ σ).bind fun y=>(Bk cop x y σ).bind fun t=>some (vb t):=rfl
theorem t_cmp:(ev O (.cmp cop a b)).t ρ σ=((ev O a).v ρ σ).bind fun x=>((ev O b).v ρ σ).bind fun y=>Bk cop x y σ:=rfl
theorem v_tup:(ev O (.tup es)).v ρ σ=((ev O es).row ρ σ).bind tupV:=rfl
theorem v_sub:(ev O (.sub a i)).v ρ σ=((ev O a).v ρ σ).bind fun x=>((ev O i).v ρ σ).bind fun y=>AQ x y σ:=rfl
theorem v_bi {b:Bi}:(ev O (.bi b es)).v ρ σ=((ev O es).row ρ σ).bind (AV b σ):=rfl
theorem v_fcall {f:Nat}:(ev O (.fcall f es)).v ρ σ=((ev O es).row ρ σ).bind fun xs=>O f xs σ:=rfl
theorem r_cons:(ev O (.cons a r)).row ρ σ=((ev O a).v ρ σ).bind fun x=>((ev O r).row ρ σ).bind fun xs=>some (x::xs):=rfl
theorem t_bop:(ev O (.bop bop es)).t ρ σ=(ev O es).bt bop ρ σ:=rfl
theorem t_fcall {f:Nat}:(ev O (.fcall f es)).t ρ σ=(((ev O es).row ρ σ).bind fun xs=>O f xs σ).bind (Dw σ):=rfl
theorem t_bi {b:Bi}:(ev O (.bi b es)).t ρ σ=(((ev O es).row ρ σ).bind (AV b σ)).bind (Dw σ):=rfl
theorem Fu:(ev O (.cons a r)).bt bop ρ σ=((ev O a).t ρ σ).bind fun t=>bif t == BS bop then some t else (ev O r).bt bop ρ σ:=rfl
theorem s_cons:(ev O (.cons a r)).ts ρ σ=((ev O a).t ρ σ).bind fun t=>bif t then (ev O r).ts ρ σ else some false:=rfl
theorem v_slc:(ev O (.slc a lo hi)).v ρ σ=((ev O a).v ρ σ).bind fun x=>(optI lo (ev O lo).v ρ σ).bind fun l=>(optI hi (ev O hi).v ρ σ).bind fun h=>slice σ x l h:=rfl
theorem bs {α β:Type} {a:α} {f:α->Option β}:(some a).bind f=f a:=rfl
end
section
variable {σ:Ab} {i j:Int} {x y:V}
theorem b_mul (h:(small i||small j)=true):EN .Mult (vi i) (vi j) σ=some (vi (i * j)):=by
 show (if (small i||small j)=true then some (i * j) else none).bind _=_
 rw [if_pos h]; rfl
theorem CS (h:j≠0):EN .FloorDiv (vi i) (vi j) σ=some (vi (i.fdiv j)):=by
 show (if j=0 then none else some (i.fdiv j)).bind _=_
 rw [if_neg h]; rfl
theorem AM (h:j≠0):EN .Mod (vi i) (vi j) σ=some (vi (i.fmod j)):=by
 show (if j=0 then none else some (i.fmod j)).bind _=_
 rw [if_neg h]; rfl
theorem b_cat (a b:List Nat) (h:a.length+b.length<=line):EN .Add (vs a) (vs b) σ=some (vs (a++b)):=by
 show (if (Tx a).length+(Tx b).length<=line then some (V.d (.str (Tx a++Tx b))) else none)=_
 rw [if_pos (by rw [Eu,Eu]; exact h),Tx_app]
theorem CT (l:List PyData):Dr (l.map .d)=some l:=by
 induction l with
 | nil=>rfl
 | cons x r ih =>
  show (Dr (r.map .d)).bind (fun xs=>some (x::xs))=_
  rw [ih]; rfl
theorem FL (l:List PyData) (h:l.length<=line):mkL (l.map .d)=some (.d (.list l)):=by
 unfold mkL
 rw [if_pos (by rw [List.length_map]; exact h),CT]; rfl
theorem b_catL (a b:List PyData) (h:a.length+b.length<=line):EN .Add (.d (.list a)) (.d (.list b)) σ=some (.d (.list (a++b))):=by
 show ((if (a.map V.d).length+(b.map V.d).length<=line then some (a.map V.d++b.map V.d) else none).bind mkL)=_
 rw [if_pos (by rw [List.length_map,List.length_map]; exact h),<-List.map_append]
 exact FL _ (by rw [List.length_append]; exact h)
theorem len_s {l:List Nat}:AV .len σ [vs l]=some (vi l.length):=by
 show some (vi ((Tx l).cps.size:Nat))=_
 rw [Tx_size]
theorem ED {l:List PyData}:AV .len σ [.d (.list l)]=some (vi l.length):=by
 show some (vi ((l.map V.d).length:Nat))=_
 rw [List.length_map]
theorem len_r {k:Nat} {ws:List V} (h:σ[k]? = some (.list ws)):AV .len σ [.ref k]=some (vi ws.length):=by
 show (CG σ[k]?).bind _=_
 rw [h]; rfl
theorem Eh {k:Nat} {ws:List V} (h:σ[k]? = some (.list ws)):As σ (.ref k)=some ws:=by
 show CG σ[k]? = _
 rw [h]; rfl
theorem Cc:Bk .Eq (vi i) (vi j) σ=some (decide (i=j)):=by
 show some (i == j)=_
 by_cases h:i=j
 ·rw [decide_eq_true h,beq_iff_eq.mpr h]
 ·rw [decide_eq_false h,beq_eq_false_iff_ne.mpr h]
theorem eq_str {a b:List Nat}:Bk .Eq (vs a) (vs b) σ=some (decide (a=b)):=by
 show some (Tx a == Tx b)=_
 rw [Tx_beq]
theorem Fe {a b:List Nat}:Bk .NotEq (vs a) (vs b) σ=some (!decide (a=b)):=by
 show Fc (some (Tx a == Tx b))=_
 rw [Tx_beq]; rfl
theorem c_lt:Bk .Lt (vi i) (vi j) σ=some (decide (i < j)):=rfl
theorem c_gt:Bk .Gt (vi i) (vi j) σ=some (decide (i > j)):=rfl
theorem c_ge:Bk .GtE (vi i) (vi j) σ=some (decide (i ≥ j)):=rfl
theorem c_nin:Bk .NotIn x y σ=Fc (inV σ x y):=rfl
theorem c_in:Bk .In x y σ=inV σ x y:=rfl
theorem inD_str (a:List Nat) (l:List (List Nat)):inD (.str (Tx a)) (l.map fun t=>.str (Tx t))=some (decide (a∈l)):=by
 induction l with
 | nil=>rfl
 | cons b l ih =>
  show (some (Tx b == Tx a)).bind (fun x=>(inD (.str (Tx a)) (l.map fun t=>.str (Tx t))).bind fun y=>some (x||y))=_
  rw [ih,Tx_beq]
  show some (decide (b=a)||decide (a∈l))=_
  rw [<-Bool.decide_or]
  congr 1
  exact decide_eq_decide.mpr (by rw [List.mem_cons,eq_comm])
theorem FW (a:List Nat) (l:List (List Nat)):inV σ (vs a) (.d (dl l))=some (decide (a∈l)):=inD_str a l
theorem in_ref {k:Nat} {a:List Nat} {l:List (List Nat)} (h:σ[k]? = some (.list (l.map vs))):inV σ (vs a) (.ref k)=some (decide (a∈l)):=by
 show inO σ (vs a) k σ[k]? = _
 rw [h]
 show (lstD (CG σ[k]?)).bind _=_
 rw [h]
 show ((Dr (l.map vs)).bind fun xs=>some (PyData.list xs)).bind _=_
 rw [show l.map vs=(l.map fun t=>PyData.str (Tx t)).map V.d by rw [List.map_map]; rfl,CT]
 exact inD_str a l
theorem seqI {k:Int} {n:Nat} (h0:0<=k) (h:k < n):seqIndex? k n=some k.toNat:=by
 have h1:¬ k < 0:=by lia
 simp [seqIndex?,h1,h0,h]
theorem small_of (h1:-1000000000000 < i) (h2:i < 1000000000000):small i=true:=by simp [small]; lia
theorem nth_at {ws:List V} {v:V} (k:Int) (h0:0<=k) (hs:k < 9223372036854775808) (h:ws[k.toNat]? = some v):nth ws k=some v:=by
 have h1:k.toNat < ws.length:=(List.getElem?_eq_some_iff.mp h).1
 unfold nth
 rw [if_pos (by simp [small]; lia),seqI h0 (by lia)]
 exact h
theorem EP {l:List PyData} {y:PyData} (k:Int) (h0:0<=k) (hs:k < 9223372036854775808) (h:l[k.toNat]? = some y):AQ (.d (.list l)) (vi k) σ=some (.d y) :=
 nth_at (ws:=l.map .d) k h0 hs (by rw [List.getElem?_map,h]; rfl)
theorem at_text {l:List Nat} {y:Nat} (k:Int) (h0:0<=k) (hs:k < 9223372036854775808) (h:l[k.toNat]? = some y):AQ (vs l) (vi k) σ=some (vs [y]):=by
 have h1:k.toNat < l.length:=(List.getElem?_eq_some_iff.mp h).1
 show (if small k=true then (Txt.charAt (Tx l) k).bind fun c=>some (V.d (.str (chr1 c))) else none)=_
 rw [if_pos (by simp [small]; lia),Tx_at,seqI h0 (by lia)]
 show (l[k.toNat]?).bind _=_
 rw [h]; rfl
theorem nth_last {ws:List V} {v:V} (h:ws[ws.length-1]? = some v):nth ws (-1)=some v:=by
 have h1:=(List.getElem?_eq_some_iff.mp h).1
 unfold nth
 rw [if_pos (by decide)]
 have h4:(0:Int) <= -1+ws.length:=by lia
 have h5:(-1+(ws.length:Int)) < ws.length:=by lia
 have h6:(-1+(ws.length:Int)).toNat=ws.length-1:=by lia
 rw [show seqIndex? (-1) ws.length=some (ws.length-1) by simp [seqIndex?,h4,h5,h6]]
 exact h
theorem clip_nat (n k:Nat):clipAt n (k:Int)=min k n:=by
 show (max 0 (min (if (k:Int) < 0 then (k:Int)+n else k) n)).toNat=_
 rw [if_neg (Int.not_lt.mpr (Int.natCast_nonneg k))]
 rcases Nat.le_total k n with h | h
 ·rw [Int.min_eq_left (Int.ofNat_le.mpr h),Nat.min_eq_left h,Int.max_eq_right (Int.natCast_nonneg _)]; rfl
 ·rw [Int.min_eq_right (Int.ofNat_le.mpr h),Nat.min_eq_right h,Int.max_eq_right (Int.natCast_nonneg _)]; rfl
theorem cut_to {α:Type} (l:List α) (k:Nat):BH none (some (k:Int)) l=l.take k:=by
 have:=clip_nat l.length k
 simp only [BH,Option.elim,this,List.drop_zero,Nat.sub_zero]
 rcases Nat.le_total k l.length with h | h
 ·rw [Nat.min_eq_left h]
 ·rw [Nat.min_eq_right h,List.take_of_length_le (Nat.le_refl _),List.take_of_length_le h]
theorem GX {α:Type} (l:List α) (k:Nat):BH (some (k:Int)) none l=l.drop k:=by
 have:=clip_nat l.length k
 simp only [BH,Option.elim,this]
 rcases Nat.le_total k l.length with h | h
 ·rw [Nat.min_eq_left h,List.take_of_length_le (by simp)]
 ·rw [Nat.min_eq_right h]; simp [List.drop_eq_nil_of_le h]
theorem sl_to {a:List Nat} (k:Nat):slice σ (vs a) none (some (k:Int))=some (vs (a.take k)):=by
 show some (V.d (.str (cutS none (some (k:Int)) (Tx a))))=_
 rw [Tx_cut,cut_to]
theorem sl_from {a:List Nat} (k:Nat):slice σ (vs a) (some (k:Int)) none=some (vs (a.drop k)):=by
 show some (V.d (.str (cutS (some (k:Int)) none (Tx a))))=_
 rw [Tx_cut,GX]
theorem sl_toZ {a:List Nat} (h0:0<=i):slice σ (vs a) none (some i)=some (vs (a.take i.toNat)):=by
 rw [<-sl_to,Int.toNat_of_nonneg h0]
theorem sl_fromZ {a:List Nat} (h0:0<=i):slice σ (vs a) (some i) none=some (vs (a.drop i.toNat)):=by
 rw [<-sl_from,Int.toNat_of_nonneg h0]
theorem slL_fromZ {l:List PyData} (h0:0<=i) (hl:l.length<=line):slice σ (.d (.list l)) (some i) none=some (.d (.list (l.drop i.toNat))):=by
 show mkL (BH (some i) none (l.map V.d))=_
 rw [<-Int.toNat_of_nonneg h0,GX,<-List.map_drop]
 exact FL _ (Nat.le_trans (by rw [List.length_drop]; exact Nat.sub_le _ _) hl)
theorem AE (i:Int) {j:Int} (h:0 < j):0<=i.fmod j/\i.fmod j < j:=⟨Int.fmod_nonneg_of_pos i h,Int.fmod_lt_of_pos i h⟩
theorem upV_eq (lo:Int) (n:Nat):upV lo n=(List.range n).map fun j:Nat=>vi (lo+(j:Int)):=by
 induction n generalizing lo with
 | zero=>rfl
 | succ n ih =>
  show vi lo::upV (lo+1) n=_
  rw [ih,List.range_succ_eq_map]
  simp only [List.map_cons,List.map_map]
  congr 1
  ·simp
  ·apply List.map_congr_left; intro j _; show vi (lo+1+(j:Int))=vi (lo+((j+1:Nat):Int)); rw [Int.natCast_add,Int.add_assoc,Int.add_comm 1]; rfl
theorem up0 (n:Nat):upV 0 n=(List.range n).map fun j:Nat=>vi (j:Int):=by simp [upV_eq]
end
section
variable {α:Type} {O:Orc} {ρ:Ag} {σ:Ab} {e es elt ifs it:E} {t:Nat} {l:List α} {m:Int}
theorem itr (h:(ev O es).row ρ σ=some [vi m]) (h1:m<=1000000) (h2:-1000000<=m):(ev O (.range es)).it ρ σ=some ((List.range m.toNat).map (fun j:Nat=>vi (j:Int)),[]):=by
 show ((ev O es).row ρ σ).bind range1=_
 rw [h]
 show (if m<=1000000/\-1000000<=m then some (upV 0 m.toNat,[]) else none)=_
 rw [if_pos ⟨h1,h2⟩,up0]
theorem Cn {f:V->Option (Option V)} (w:α->V) (g:α->Option V):∀ (l:List α),(∀ a∈l,f (w a)=some (g a))->CC f (l.map w)=some (l.filterMap g)
 | [],_=>rfl
 | a::l,h=>by
  show (f (w a)).bind (fun x=>(CC f (l.map w)).bind fun xs=>some (match x with | some y=>y::xs | none=>xs))=_
  rw [h a (.head _),bs,Cn w g l fun b hb=>h b (.tail _ hb),bs,List.filterMap_cons]
  cases g a <;> rfl
theorem filt_map {β:Type} (p:α->Bool) (g:α->β):∀ l:List α,(l.filterMap fun a=>if p a then some (g a) else none)=(l.filter p).map g
 | []=>rfl
 | a::l=>by cases h:p a <;> simp [List.filterMap_cons,List.filter_cons,h,filt_map p g l]
theorem BP {kps:List (Nat×List V)} (w:α->V) (p:α->Bool) (g:α->V) (hi:(ev O it).it ρ σ=some (l.map w,kps)) (hl:l.length<=line)
 (hp:∀ a∈l,(ev O ifs).ts ((ρ.set t none).set t (some (w a))) σ=some (p a))
 (hg:∀ a∈l,p a=true->(ev O elt).v ((ρ.set t none).set t (some (w a))) σ=some (g a)):(ev O (.comp elt [t] it ifs)).nl ρ σ=some ((l.filter p).map g):=by
 show (((ev O it).it ρ σ).bind fun q=>CC _ q.1).bind _=_
 rw [hi]
 show (CC _ (l.map w)).bind _=_
 rw [Cn w (fun a=>if p a then some (g a) else none) l fun a ha=>?_,bs,filt_map]
 ·exact if_pos (Nat.le_trans (by rw [List.length_map]; exact List.length_filter_le _ _) hl)
 ·show ((ev O ifs).ts ((ρ.set t none).set t (some (w a))) σ).bind _=_
  rw [hp a ha,bs]
  cases h:p a with
  | true =>
   show ((ev O elt).v ((ρ.set t none).set t (some (w a))) σ).bind _=_
   rw [hg a ha h]; rfl
  | false=>rfl
theorem D6 {ds:List PyData} (h:(ev O (.comp elt [t] it ifs)).nl ρ σ=some (ds.map .d)):(ev O (.comp elt [t] it ifs)).v ρ σ=some (.d (.list ds)):=by
 obtain ⟨ws,h1,q⟩:=Aa h
 obtain ⟨q1,q2⟩:=AG q
 show (((ev O it).it ρ σ).bind fun p=>CC _ p.1).bind mkL=_
 rw [show (((ev O it).it ρ σ).bind fun p=>CC _ p.1)=some ws from h1,q2,bs]
 exact FL _ (by rw [<-List.length_map (f:=V.d),<-q2]; exact q1)
end
end Mine
namespace Mine
open PySem
section
variable {O:Orc} {ρ:Ag} {σ:Ab} {a b c r i es elt it ifs:E} {op:Operator} {cop:CmpOp} {x y z u:V} {p q:Bool} {xs:List V}
theorem An (h1:(ev O a).v ρ σ=some x) (h2:(ev O b).v ρ σ=some y) (h3:EN op x y σ=some z):(ev O (.bin op a b)).v ρ σ=some z:=by rw [v_bin,h1,bs,h2,bs]; exact h3
theorem Ai (h1:(ev O a).v ρ σ=some x) (h2:(ev O i).v ρ σ=some y) (h3:AQ x y σ=some z):(ev O (.sub a i)).v ρ σ=some z:=by rw [v_sub,h1,bs,h2,bs]; exact h3
theorem Ay (h1:(ev O a).v ρ σ=some x) (h2:(ev O b).v ρ σ=some y) (h3:Bk cop x y σ=some p):(ev O (.cmp cop a b)).t ρ σ=some p:=by rw [t_cmp,h1,bs,h2,bs]; exact h3
theorem Fr (h1:(ev O a).v ρ σ=some x) (h2:(ev O b).v ρ σ=some y) (h3:Bk cop x y σ=some p):(ev O (.cmp cop a b)).v ρ σ=some (vb p):=by rw [v_cmp,h1,bs,h2,bs,h3]; rfl
theorem e_row (h1:(ev O a).v ρ σ=some x) (h2:(ev O r).row ρ σ=some xs):(ev O (.cons a r)).row ρ σ=some (x::xs):=by rw [r_cons,h1,bs,h2]; rfl
theorem A0 (h1:(ev O a).v ρ σ=some x):(ev O (.cons a .nil)).row ρ σ=some [x]:=e_row h1 rfl
theorem Bw (h1:(ev O a).v ρ σ=some x) (h2:(ev O b).v ρ σ=some y):(ev O (.cons a (.cons b .nil))).row ρ σ=some [x,y]:=e_row h1 (A0 h2)
theorem e_r3 (h1:(ev O a).v ρ σ=some x) (h2:(ev O b).v ρ σ=some y) (h3:(ev O c).v ρ σ=some z):(ev O (.cons a (.cons b (.cons c .nil)))).row ρ σ=some [x,y,z]:=e_row h1 (Bw h2 h3)
theorem AK {b:Bi} (h1:(ev O es).row ρ σ=some xs) (h2:AV b σ xs=some z):(ev O (.bi b es)).v ρ σ=some z:=by rw [v_bi,h1,bs]; exact h2
theorem GT {f:Nat} (h1:(ev O es).row ρ σ=some xs) (h2:O f xs σ=some z):(ev O (.fcall f es)).v ρ σ=some z:=by rw [v_fcall,h1,bs]; exact h2
theorem e_fct {f:Nat} (h1:(ev O es).row ρ σ=some xs) (h2:O f xs σ=some (vb p)):(ev O (.fcall f es)).t ρ σ=some p:=by rw [t_fcall,h1,bs,h2]; rfl
theorem Cu (h:(ev O a).t ρ σ=some p):(ev O (.not a)).t ρ σ=some (!p):=by rw [t_not,h]; rfl
theorem EK {v:V} (h:(ev O es).row ρ σ=some xs) (h2:tupV xs=some v):(ev O (.tup es)).v ρ σ=some v:=by rw [v_tup,h,bs]; exact h2
theorem Dm (h1:(ev O a).t ρ σ=some p) (h2:p=false->(ev O b).t ρ σ=some q):(ev O (.bop .Or (.cons a (.cons b .nil)))).t ρ σ=some (p||q):=by
 rw [t_bop,Fu,h1,bs]
 cases p with
 | true=>rfl
 | false =>
  show (ev O (.cons b .nil)).bt .Or ρ σ=_
  rw [Fu,h2 rfl,bs]
  cases q <;> rfl
theorem DD (h1:(ev O a).t ρ σ=some p) (h2:p=true->(ev O b).t ρ σ=some q):(ev O (.bop .And (.cons a (.cons b .nil)))).t ρ σ=some (p&&q):=by
 rw [t_bop,Fu,h1,bs]
 cases p with
 | false=>rfl
 | true =>
  show (ev O (.cons b .nil)).bt .And ρ σ=_
  rw [Fu,h2 rfl,bs]
  cases q <;> rfl
theorem e_and3 {s:Bool} (h1:(ev O a).t ρ σ=some p) (h2:p=true->(ev O b).t ρ σ=some q) (h3:p=true->q=true->(ev O c).t ρ σ=some s):(ev O (.bop .And (.cons a (.cons b (.cons c .nil))))).t ρ σ=some (p&&(q&&s)):=by
 rw [t_bop,Fu,h1,bs]
 cases p with
 | false=>rfl
 | true=>exact DD (a:=b) (b:=c) (q:=s) (h2 rfl) fun e=>h3 rfl e
theorem e_or3 {s:Bool} (h1:(ev O a).t ρ σ=some p) (h2:p=false->(ev O b).t ρ σ=some q) (h3:p=false->q=false->(ev O c).t ρ σ=some s):(ev O (.bop .Or (.cons a (.cons b (.cons c .nil))))).t ρ σ=some (p||(q||s)):=by
 rw [t_bop,Fu,h1,bs]
 cases p with
 | true=>rfl
 | false=>exact Dm (a:=b) (b:=c) (q:=s) (h2 rfl) fun e=>h3 rfl e
theorem e_ts1 (h1:(ev O a).t ρ σ=some p):(ev O (.cons a .nil)).ts ρ σ=some p:=by
 rw [s_cons,h1,bs]; cases p <;> rfl
theorem e_and2v (h1:(ev O a).v ρ σ=some (vb p)) (h2:p=true->(ev O b).v ρ σ=some (vb q)):(ev O (.bop .And (.cons a (.cons b .nil)))).v ρ σ=some (vb (p&&q)):=by
 show ((ev O a).v ρ σ).bind (fun x=>(Dw σ x).bind fun t=>bif t == BS .And then some x else (ev O (.cons b .nil)).bo .And ρ σ)=_
 rw [h1,bs]
 cases p with
 | false=>rfl
 | true=>exact h2 rfl
theorem len_of' {ws:List V} (h:As σ x=some ws):AV .len σ [x]=some (vi ws.length):=by
 cases x with
 | d y=>cases y with
  | list l=>rw [ED,<-Option.some.inj h,List.length_map]
  | _=>exact Ac h
 | ref k=>exact len_r (BL h)
 | _=>exact Ac h
theorem sub_of {ws:List V} {k:Int} (h:As σ x=some ws):AQ x (vi k) σ=nth ws k:=by
 cases x with
 | d y=>cases y with
  | list l=>rw [<-Option.some.inj h]; rfl
  | _=>exact Ac h
 | ref j=>show subO σ (vi k) σ[j]? = _; rw [BL h]; rfl
 | _=>exact Ac h
theorem tr_of' {ws:List V} (h:As σ x=some ws):Dw σ x=some (!ws.isEmpty):=by
 cases x with
 | d y=>cases y with
  | list l=>rw [<-Option.some.inj h,Fg]; rfl
  | _=>exact Ac h
 | ref j=>rw [show Dw σ (.ref j)=(CG σ[j]?).bind fun ws=>some (!ws.isEmpty) from rfl,show CG σ[j]? = some ws from h]; rfl
 | _=>exact Ac h
theorem in_of {w:List Nat} {l:List (List Nat)} (h:As σ x=some (l.map vs)):inV σ (vs w) x=some (decide (w∈l)):=by
 cases x with
 | d y=>cases y with
  | list l' =>
   have e:l'=l.map fun t=>PyData.str (Tx t):=by
    have h1:=congrArg (fun o=>o.bind Dr) h
    have h2:Dr (l'.map V.d)=Dr (l.map vs):=h1
    rw [CT,show l.map vs=(l.map fun t=>PyData.str (Tx t)).map V.d by rw [List.map_map]; rfl,CT] at h2
    exact Option.some.inj h2
   rw [e]; exact FW w l
  | _=>exact Ac h
 | ref j=>exact in_ref (BL h)
 | _=>exact Ac h
end
section
variable {C:Cfg} {P:Fl->Ab->Prop} {st r:S} {ρ:Ag} {σ:Ab}
theorem Dd {M:Ag->Ab->Prop} (h:Aj C (fun fl σ'=>∃ ρ',fl=.next ρ'/\M ρ' σ') (.cons st .nil) ρ σ) (k:∀ ρ' σ',M ρ' σ'->Aj C P r ρ' σ'):Aj C P (.cons st r) ρ σ:=by
 obtain ⟨fl,σ',⟨ρ',rfl,h1⟩,h2⟩:=h
 exact C8 (fl:=.next ρ') (fun Q q=>SS.mono (fun f s e=>by rw [e.1,e.2]; exact q) (.of1 h2)) (k ρ' σ' h1)
end
noncomputable def By (c k:Int):Int:=((c+7919 * k) * 48271).fmod 2147483647
theorem sm1 (i:Int):(small 7919||small i)=true:=by rw [show small 7919=true by decide]; rfl
theorem sm2 (i:Int):(small i||small 48271)=true:=by rw [show small 48271=true by decide,Bool.or_true]
theorem sm4 (i:Int):(small 4||small i)=true:=by rw [show small 4=true by decide]; rfl
theorem smr {i j:Int} (h1:-1000000000000 < j) (h2:j < 1000000000000):(small i||small j)=true:=by rw [small_of h1 h2,Bool.or_true]
noncomputable def C0 (n:Nat):Cfg:=⟨n,fun _ _ _=>none,fun _ _ _ _ h=>Ac h⟩
theorem fn_mixed {σ:Ab} (c k:Int):FN 2 10 [vi c,vi k] σ (vi (By c k)) σ:=by
 exact FN.same (C:=C0 1) (fn:=Fmixed) (by unfold Pg; rfl) rfl (Nat.le_refl _)
  (AS (An (An (An rfl (An rfl rfl (b_mul (sm1 _))) rfl) rfl (b_mul (sm2 _))) rfl (AM (by decide))) ⟨rfl,rfl⟩)
noncomputable def mixO (xs:List V):Option V:=match xs with | x::r=>(match r with | y::r=>(match r with | []=>(B8 x).bind fun c=>(B8 y).bind fun k=>some (vi (By c k)) | _=>none) | []=>none) | []=>none
theorem mixO_ok {n:Nat} {σ:Ab} {xs:List V} {v:V} (hn:2<=n) (h:mixO xs=some v):FN n 10 xs σ v σ:=by
 match xs,h with
 | [],h=>exact Ac h
 | [_],h=>exact Ac h
 | [x,y],h =>
  obtain ⟨c,e1,h⟩:=Aa h
  obtain ⟨k,e2,h⟩:=Aa h
  rw [AO e1,AO e2,<-Option.some.inj h]
  exact (fn_mixed c k).more hn
 | _::_::_::_,h=>exact Ac h
noncomputable def Cfg.add (C:Cfg) (f:Nat) (g:List V->Ab->Option V) (h:∀ xs σ v,g xs σ=some v->FN C.n f xs σ v σ):Cfg:=⟨C.n,fun f' xs σ=>bif Nat.beq f' f then g xs σ else C.O f' xs σ,fun f' xs σ v e=>by
 cases q:Nat.beq f' f with
 | true=>rw [q] at e; rw [Nat.eq_of_beq_eq_true q]; exact h xs σ v e
 | false=>rw [q] at e; exact C.ok f' xs σ v e⟩
noncomputable def C1 (n:Nat) (hn:2<=n):Cfg:=(C0 n).add 10 (fun xs _=>mixO xs) fun _ _ _ h=>mixO_ok hn h
theorem fn_cell {σ:Ab} (sc:List Int) (k:Int) (h0:0<=k) (hk:k < 1000):FN 2 9 [.d (.list (sc.map .int)),vi k] σ (vi (sc.getD k.toNat 0)) σ:=by
 exact FN.same (C:=C0 1) (fn:=Fcell) (by unfold Pg; rfl) rfl (Nat.le_refl _) (by
  refine Bn (t:=decide (k < sc.length)) (Ay rfl (AK (A0 rfl) (ED.trans (by rw [List.length_map]))) c_lt) (fun h=>?_) fun h=>Ae ?_
  ·have h:=of_decide_eq_true h
   refine AS (v:=vi (sc.getD k.toNat 0)) (Ai rfl rfl (EP (y:=.int (sc.getD k.toNat 0)) k h0 (by omega) ?_)) ⟨rfl,rfl⟩
   have:k.toNat < sc.length:=by omega
   simp [List.getD,this]
  ·have h:=of_decide_eq_false h
   refine AS (v:=vi (sc.getD k.toNat 0)) ?_ ⟨rfl,rfl⟩
   rw [show sc.getD k.toNat 0=0 by
    have:sc.length<=k.toNat:=by omega
    simp [List.getD,this]]
   rfl)
end Mine
namespace Mine
open PySem
noncomputable def Cp:List Nat:=[97,98,99,100,101,102,103,104,105,106,107,108,109,110,111,112,113,114,115,116,117,118,119,120,121,122,48,49,50,51,52,53,54,55,56,57]
noncomputable def AF (t:List Nat):Bool:=!(decide ((t.length:Int) < 1)||decide ((t.length:Int) > 12))&&t.all fun c=>decide (c∈Cp)
theorem k_signs:Str.ofString "abcdefghijklmnopqrstuvwxyz0123456789" = Tx Cp:=by decide +kernel
theorem Bz (t:List Nat):AF t=true ↔ 1<=t.length/\t.length<=12/\∀ c∈t,c∈Cp:=by
 simp only [AF,Bool.and_eq_true,Bool.not_eq_true',Bool.or_eq_false_iff,decide_eq_false_iff_not,List.all_eq_true,decide_eq_true_eq]
 constructor
 ·rintro ⟨⟨h1,h2⟩,h3⟩; exact ⟨by lia,by lia,h3⟩
 ·rintro ⟨h1,h2,h3⟩; exact ⟨⟨by lia,by lia⟩,h3⟩
noncomputable def sg (i:Int):Nat:=Cp.getD i.toNat 0
theorem sg_at (i:Int) (h0:0<=i) (h:i < 36):Cp[i.toNat]? = some (sg i):=by
 have:i.toNat < Cp.length:=by simp [Cp]; (with_reducible assumption)
 simp [sg,List.getD,this]
theorem sg_mem (i:Int) (h0:0<=i) (h:i < 36):sg i∈Cp:=List.mem_of_getElem? (sg_at i h0 h)
section
variable {σ:Ab}
theorem sub_sg {i:Int} (h0:0<=i) (h:i < 36):AQ (vs Cp) (vi i) σ=some (vs [sg i]):=at_text i h0 (by lia) (sg_at i h0 h)
noncomputable def num (j:Nat):List Nat:=(strOf (j:Int)).cps.toList
theorem num_name:∀ j:Nat,j < 130->AF (num j)=true:=by decide +kernel
theorem num_nodup:((List.range 130).map num).Nodup:=by decide +kernel
theorem num_str {i:Int} (h0:0<=i) (h:i < 130):AV .str σ [vi i]=some (vs (num i.toNat)):=by
 show (if i.natAbs < 1000000000000 then some (V.d (.str (strOf i))) else none)=_
 rw [if_pos (by lia)]
 unfold num
 rw [Int.toNat_of_nonneg h0]
 simp only [vs,Tx_eta]
theorem pigeon {β:Type} [DecidableEq β]:∀ (l m:List β),l.Nodup->(∀ x∈l,x∈m)->l.length<=m.length
 | [],m,_,_=>by exact Nat.zero_le _
 | a::l,m,hn,hs=>by
  have ha:a∈m:=hs a (by exact .head _)
  rw [List.nodup_cons] at hn
  have:=pigeon l (m.erase a) hn.2 (by
   intro x hx
   have hne:x≠a:=fun e=>hn.1 (e▸hx)
   exact (List.mem_erase_of_ne hne).mpr (hs x (by exact .tail _ hx)))
  rw [List.length_erase_of_mem ha] at this
  have h0:0 < m.length:=List.length_pos_iff.mpr (fun e=>by simp [e] at ha)
  simp; omega
theorem num_free (l:List (List Nat)) (hl:l.length < 130):∃ j,j<=l.length/\num j∉l:=by
 apply Classical.byContradiction
 intro hno
 have h1:((List.range (l.length+1)).map num).Nodup:=by
  have:(List.range (l.length+1)).map num=((List.range 130).map num).take (l.length+1):=by
   rw [<-List.map_take,List.take_range]; congr 2; lia
  rw [this]
  exact List.Sublist.nodup (List.take_sublist _ _) num_nodup
 have:=pigeon _ l h1 (by
  intro x hx
  simp only [List.mem_map,List.mem_range] at hx
  obtain ⟨j,h2,rfl⟩:=hx
  apply Classical.byContradiction
  intro h3; exact hno ⟨j,by (exact Nat.le_of_lt_succ ‹_›),h3⟩)
 simp at this
 (exact Nat.lt_irrefl _ ‹_›)
theorem mixed_lt (c k:Int):0<=By c k/\By c k < 2147483647:=AE _ (by decide)
theorem joinOk0 (l:List (List Nat)) (h:l.length<=1000000) (h1:∀ t∈l,t.length<=1):JoinOk (Tx []) (l.map Tx)=true:=by
 refine PyProof.Rows.joinOk_of ?_
 have h2:((l.map Tx).map (·.length)).sum<=l.length:=by
  clear h
  induction l with
  | nil=>simp
  | cons a l ih =>
   have:=h1 a (by simp)
   have:=ih (fun t ht=>h1 t (by simp [ht]))
   simp only [List.map_cons,List.sum_cons,List.length_cons,Eu]; lia
 simp only [Eu,List.length_nil,Nat.mul_zero]
 lia
theorem join0 (l:List (List Nat)):Txt.join (Tx []) (l.map Tx)=Tx l.flatten:=by
 show Builtin.Str.glued _ _=_
 rw [StrLaws.glued_eq_join]
 induction l with
 | nil=>rfl
 | cons a l ih =>
  induction l with
  | nil=>simp [Str.join]
  | cons b l =>
   simp only [List.map_cons,Str.join] at ih ⊢
   rw [ih,Tx_app,Tx_app]; simp
theorem k_nil:Str.ofString "" = Tx []:=by decide +kernel
theorem Fh:∀ l:List Str,BV Bq (vss l)=some l
 | []=>rfl
 | x::l=>by show (BV Bq (vss l)).bind _=_; rw [Fh l]; rfl
theorem e_signs {O:Orc} {ρ:Ag} {elt es:E} {t:Nat} {m:Int} (g:Int->Nat) (hi:(ev O es).row ρ σ=some [vi m]) (hl:m<=1000) (hl2:-1000<=m)
 (hg:∀ i:Int,0<=i->i < m->(ev O elt).v ((ρ.set t none).set t (some (vi i))) σ=some (vs [g i])) :
 (ev O (.meth .join (.cst (.str (Str.ofString ""))) (.cons (.comp elt [t] (.range es) .nil) .nil))).v ρ σ=some (vs ((List.range m.toNat).map fun j:Nat=>g (j:Int))):=by
 have h1:=D6 (O:=O) (ρ:=ρ) (σ:=σ) (elt:=elt) (t:=t) (it:=.range es) (ifs:=.nil) (ds:=(List.range m.toNat).map fun j:Nat=>.str (Tx [g (j:Int)])) (by
  rw [BP (fun j:Nat=>vi (j:Int)) (fun _=>true) (fun j:Nat=>vs [g (j:Int)]) (itr hi (by lia) (by lia)) (by rw [List.length_range]; exact Nat.le_trans (show m.toNat<=1000 by lia) (by decide)) (fun _ _=>rfl) (fun j hj _=>hg j (Int.natCast_nonneg _) (by have:=List.mem_range.mp hj; lia)),List.filter_eq_self.mpr (fun _ _=>rfl),List.map_map]
  rfl)
 show (((ev O (.cons (.comp elt [t] (.range es) .nil) .nil)).row ρ σ).bind fun ys=>joinV σ (.d (.str (Str.ofString ""))) ys)=_
 rw [A0 h1,k_nil]
 show ((BV Bq (((List.range m.toNat).map fun j:Nat=>PyData.str (Tx [g (j:Int)])).map V.d)).bind fun ss=>if JoinOk (Tx []) ss=true then some (V.d (.str (Txt.join (Tx []) ss))) else none)=_
 rw [show (((List.range m.toNat).map fun j:Nat=>PyData.str (Tx [g (j:Int)])).map V.d)=vss (((List.range m.toNat).map fun j:Nat=>[g (j:Int)]).map Tx) by show _=(((List.range m.toNat).map fun j:Nat=>[g (j:Int)]).map Tx).map fun y=>V.d (.str y); rw [List.map_map,List.map_map,List.map_map]; rfl,Fh,bs,if_pos (joinOk0 _ (by simp; lia) (by simp)),join0]
 congr 3
 generalize List.range m.toNat=l
 congr 1
 induction l with
 | nil=>rfl
 | cons a l ih=>simp [ih]
end
theorem name_base (m:Nat) (g:Nat->Int) (h1:1<=m) (h2:m<=12) (hg:∀ j,0<=g j/\g j < 36):AF ((List.range m).map fun j=>sg (g j))=true:=by
 rw [Bz]
 refine ⟨by simpa using h1,by simpa using h2,?_⟩
 intro x hx
 simp only [List.mem_map] at hx
 obtain ⟨j,_,rfl⟩:=hx
 exact sg_mem _ (hg j).1 (hg j).2
theorem ln_t2 {u:List Nat} {x:Nat} {i j:Nat} (h:u.length<=12):(u.take i++[x]).length+(u.drop j).length<=line/\(u.take i).length + [x].length<=line:=by simp [line]; omega
theorem nm4 {u:List Nat} {x:Nat} {a:Int} (h2:u.length<=12) (h0:0<=a) (ha:a < u.length):1<=(u.take a.toNat++[x]++u.drop (a+1).toNat).length/\(u.take a.toNat++[x]++u.drop (a+1).toNat).length<=12:=by
 simp; omega
theorem run_name {C:Cfg} {σ:Ab} {x:V} (hm:∀ c k,C.O 10 [vi c,vi k] σ=some (vi (By c k))) (c:Int) (tk:List (List Nat)) (hx:As σ x=some (tk.map vs)) (hg:∀ x∈tk,AF x=true) (hl:tk.length < 100) :
 Aj C (fun fl σ'=>∃ r,AF r=true/\r∉tk/\Gn fl=vs r/\σ'=σ) Fname.body (Bc Fname [vi c,x]) σ:=by
 show Aj C _ _ [some (vi c),some x,none,none,none,none,none] σ
 have hlen:=len_of' hx
 rw [List.length_map] at hlen
 have htr:=tr_of' hx
 refine Aw (v:=vs Cp) (congrArg (fun s=>some (V.d (.str s))) k_signs) ?_
 refine Aw (v:=vi (By c 5)) (GT (Bw rfl rfl) (hm _ _)) ?_
 have hL:=mixed_lt c 5
 generalize By c 5=L at hL
 have h12:=AE L (j:=12) (by decide)
 have h36:=AE L (j:=36) (by decide)
 refine Aw (v:=vs ((List.range (1+L.fmod 12).toNat).map fun j:Nat=>sg ((By c j).fmod 36))) (e_signs (fun i=>sg ((By c i).fmod 36)) (A0 (An rfl (An rfl rfl (AM (by decide))) rfl)) (by omega) (by omega) (fun i _ _=>by
  have h:=AE (By c i) (j:=36) (by decide)
  exact Ai rfl (An (GT (Bw rfl rfl) (hm _ _)) rfl (AM (by decide))) (sub_sg h.1 h.2))) ?_
 have hf:AF ((List.range (1+L.fmod 12).toNat).map fun j:Nat=>sg ((By c j).fmod 36))=true:=name_base _ (fun j=>(By c j).fmod 36) (by omega) (by omega) (fun j=>AE _ (by decide))
 generalize ((List.range (1+L.fmod 12).toNat).map fun j:Nat=>sg ((By c j).fmod 36))=f at hf
 let K:List Nat->Option V->Ag:=fun f z=>[some (vi c),some x,some (vs Cp),some (vi L),some (vs f),none,z]
 let M:Ag->Ab->Prop:=fun ρ σ'=>(∃ f z,AF f=true/\ρ=K f z)/\σ=σ'
 refine Dd (M:=M) ?_ ?_
 ·refine Bn (t:=decide (c.fmod 8=1)) (Ay (An rfl rfl (AM (by decide))) rfl Cc) (fun h=>?_) (fun h=>?_)
  ·have hx:=AE L (j:=130) (by decide)
   exact Aw (v:=vs (num (L.fmod 130).toNat)) (AK (A0 (An rfl rfl (AM (by decide)))) (num_str hx.1 hx.2)) (Ae (Ae ⟨_,rfl,⟨_,none,num_name _ (by omega),rfl⟩,rfl⟩))
  ·exact Ae (Ae ⟨_,rfl,⟨f,none,hf,rfl⟩,rfl⟩)
 rintro _ _ ⟨⟨f,z,hf,rfl⟩,rfl⟩
 refine Dd (M:=M) ?_ ?_
 ·refine Bn (t:=decide (c.fmod 8=2) && !(tk.map vs).isEmpty) (DD (Ay (An rfl rfl (AM (by decide))) rfl Cc) fun _=>htr) (fun h=>?_) (fun h=>?_)
  ·have hne:tk≠[]:=by
    intro e; rw [e] at h; simp at h
   have hlast:=List.getLast?_eq_some_getLast hne
   have hgl:=(Bz _).mp (hg _ (List.getLast_mem hne))
   generalize tk.getLast hne=u at hlast hgl
   rw [List.getLast?_eq_getElem?] at hlast
   refine Aw (v:=vs (u.take 11++[sg (L.fmod 36)])) (An (x:=vs (u.take 11)) (y:=vs [sg (L.fmod 36)]) ?_ (Ai rfl (An rfl rfl (AM (by decide))) (sub_sg h36.1 h36.2)) (b_cat _ _ (ln_t2 (j:=0) hgl.2.1).2)) (Ae (Ae ⟨_,rfl,⟨_,z,?_,rfl⟩,rfl⟩))
   ·rw [v_slc,Ai (z:=vs u) rfl rfl ((sub_of hx).trans (nth_last (by rw [List.length_map,List.getElem?_map,hlast]; rfl))),bs]
    exact sl_to (σ:=σ) 11
   ·rw [Bz]
    refine ⟨by simp,by simp; omega,?_⟩
    intro x hx
    simp only [List.mem_append,List.mem_singleton] at hx
    rcases hx with hx | rfl
    ·exact hgl.2.2 x (List.mem_of_mem_take hx)
    ·exact sg_mem _ h36.1 h36.2
  ·exact Ae (Ae ⟨_,rfl,⟨f,z,hf,rfl⟩,rfl⟩)
 clear hf f z
 rintro _ _ ⟨⟨f,z,hf,rfl⟩,rfl⟩
 refine Dd (M:=M) ?_ ?_
 ·refine Bn (t:=decide (c.fmod 8 > 4) && !(tk.map vs).isEmpty) (DD (Ay (An rfl rfl (AM (by decide))) rfl c_gt) fun _=>htr) (fun h=>?_) (fun h=>?_)
  ·have hne:tk≠[]:=by
    intro e; rw [e] at h; simp at h
   have hpos:0 < tk.length:=List.length_pos_iff.mpr hne
   have hlt:=AE L (j:=tk.length) (by omega)
   obtain ⟨u,hu⟩:∃ u,tk[(L.fmod tk.length).toNat]? = some u:=⟨_,List.getElem?_eq_getElem (by omega)⟩
   have hgu:=(Bz _).mp (hg u (List.mem_of_getElem? hu))
   refine Aw (v:=vs u) (Ai rfl (An rfl (AK (A0 rfl) hlen) (AM (by omega))) ((sub_of hx).trans (nth_at _ hlt.1 (by omega) (by rw [List.getElem?_map,hu]; rfl)))) ?_
   have hat:=AE (L.fdiv 60) (j:=u.length) (by omega)
   refine Aw (v:=vi ((L.fdiv 60).fmod u.length)) (An (An rfl rfl (CS (by decide))) (AK (A0 rfl) len_s) (AM (by omega))) ?_
   generalize (L.fdiv 60).fmod u.length=a at hat
   have hs:=AE (L.fdiv 720) (j:=36) (by decide)
   refine Aw (v:=vs (u.take a.toNat++[sg ((L.fdiv 720).fmod 36)]++u.drop (a+1).toNat)) (An (An (x:=vs (u.take a.toNat)) (y:=vs [sg ((L.fdiv 720).fmod 36)]) ?_ (Ai rfl (An (An rfl rfl (CS (by decide))) rfl (AM (by decide))) (sub_sg hs.1 hs.2)) (b_cat _ _ (ln_t2 (j:=0) hgu.2.1).2)) (y:=vs (u.drop (a+1).toNat)) ?_ (b_cat _ _ (ln_t2 hgu.2.1).1)) (Ae (Ae ⟨_,rfl,⟨_,some (vi a),?_,rfl⟩,rfl⟩))
   ·exact sl_toZ (σ:=σ) (a:=u) hat.1
   ·exact sl_fromZ (σ:=σ) (a:=u) (i:=a+1) (by omega)
   ·rw [Bz]
    refine ⟨(nm4 hgu.2.1 hat.1 hat.2).1,(nm4 hgu.2.1 hat.1 hat.2).2,?_⟩
    intro x hx
    simp only [List.mem_append,List.mem_singleton] at hx
    rcases hx with (hx | rfl) | hx
    ·exact hgu.2.2 x (List.mem_of_mem_take hx)
    ·exact sg_mem _ hs.1 hs.2
    ·exact hgu.2.2 x (List.mem_of_mem_drop hx)
  ·exact Ae (Ae ⟨_,rfl,⟨f,z,hf,rfl⟩,rfl⟩)
 clear hf f z
 rintro _ _ ⟨⟨f,z,hf,rfl⟩,rfl⟩
 refine Bn (t:=!decide (f∈tk)) (Ay rfl rfl (by rw [c_nin,in_of hx]; rfl)) (fun h=>?_) (fun h=>Ae ?_)
 ·exact AS (v:=vs f) rfl ⟨f,hf,by simpa using h,rfl,rfl⟩
 ·have hc:(ev C.O (.comp (.bi .str (.cons (.var 5) .nil)) [5] (.range (.cons (.bin .Add (.bi .len (.cons (.var 1) .nil)) (.cst (.int 1))) .nil)) (.cons (.cmp .NotIn (.bi .str (.cons (.var 5) .nil)) (.var 1)) .nil))).v (K f z) σ=some (.d (.list (((List.range ((tk.length:Int)+1).toNat).filter fun j=>!decide (num j∈tk)).map fun j=>.str (Tx (num j))))):=by
   refine D6 ?_
   rw [BP (fun j:Nat=>vi (j:Int)) (fun j=>!decide (num j∈tk)) (fun j=>vs (num j)) (itr (A0 (An (AK (A0 rfl) hlen) rfl rfl)) (by omega) (by omega)) (by rw [List.length_range]; exact Nat.le_trans (show ((tk.length:Int)+1).toNat<=101 by omega) (by decide)) (fun j hj=>?_) (fun j hj _=>?_),List.map_map]
   ·rfl
   ·have hj:=List.mem_range.mp hj
    exact e_ts1 (Ay (AK (A0 rfl) (num_str (i:=(j:Int)) (by omega) (by omega))) rfl (by rw [c_nin,in_of hx]; rfl))
   ·have hj:=List.mem_range.mp hj
    exact AK (A0 rfl) (num_str (i:=(j:Int)) (by omega) (by omega))
  obtain ⟨j,hj1,hj2⟩:=num_free tk (Nat.lt_trans hl (by decide))
  have hmem:j∈(List.range ((tk.length:Int)+1).toNat).filter fun j=>!decide (num j∈tk):=List.mem_filter.mpr ⟨List.mem_range.mpr (by omega),by simpa using hj2⟩
  cases hfl:(List.range ((tk.length:Int)+1).toNat).filter fun j=>!decide (num j∈tk) with
  | nil=>rw [hfl] at hmem; cases hmem
  | cons i rest =>
   have hi:i∈(List.range ((tk.length:Int)+1).toNat).filter fun j=>!decide (num j∈tk):=by rw [hfl]; exact .head _
   have hi:=List.mem_filter.mp hi
   rw [hfl] at hc
   exact AS (v:=vs (num i)) (Ai hc rfl (EP 0 (by decide) (by decide) rfl)) ⟨num i,num_name i (by have:=List.mem_range.mp hi.1; omega),by simpa using hi.2,rfl,rfl⟩
theorem fn_name {σ:Ab} {x:V} (c:Int) (tk:List (List Nat)) (hx:As σ x=some (tk.map vs)) (hg:∀ x∈tk,AF x=true) (hl:tk.length < 100):∃ r,AF r=true/\r∉tk/\FN 3 11 [vi c,x] σ (vs r) σ:=by
 obtain ⟨v,σ',⟨r,h1,h2,h3,h4⟩,h⟩:=FN.ends (C:=C1 2 (Nat.le_refl _)) (f:=11) (fn:=Fname) (R:=fun v σ'=>∃ r,AF r=true/\r∉tk/\v=vs r/\σ'=σ) (by unfold Pg; rfl) rfl (show 1<=2 by decide) (run_name (fun _ _=>rfl) c tk hx hg hl)
 rw [h3,h4] at h
 exact ⟨r,h1,h2,h⟩
end Mine
namespace Mine
open PySem
noncomputable def someA:List Nat:=[32,33,34,35,36,38,39,40,41,42,43,44,45,46,47,48,49,50,51,52,53,54,55,56,57,58,59,60,61,62,63,64,65,66,67,68,69,70,71,72,73,74,75,76,77,78,79,80,81,82,83,84,85,86,87,88,89,90,91,92,93,94,95,96]
noncomputable def someB:List Nat:=[97,98,99,100,101,102,103,104,105,106,107,108,109,110,111,112,113,114,115,116,117,118,119,120,121,122,123,124,125,126]
noncomputable def Gi:List Nat:=someA++someB
theorem k_someA:Str.ofString " !\"#$&'()*+,-./0123456789:;<=>?@ABCDEFGHIJKLMNOPQRSTUVWXYZ[\\]^_`" = Tx someA:=by decide +kernel
theorem k_someB:Str.ofString "abcdefghijklmnopqrstuvwxyz{|}~" = Tx someB:=by decide +kernel
theorem k_col:Str.ofString ": " = Tx [58,32]:=by decide +kernel
noncomputable def so (i:Int):Nat:=Gi.getD i.toNat 0
theorem so_at (i:Int) (h0:0<=i) (h:i < 94):Gi[i.toNat]? = some (so i):=by
 have:i.toNat < Gi.length:=Int.toNat_lt h0 |>.mpr h
 simp [so,List.getD,this]
theorem some_ok:∀ x∈Gi,32<=x/\x<=126:=by decide +kernel
structure Cd (l:List Nat):Prop where
 len:l.length<=200
 ok:∀ x∈l,32<=x/\x<=126
section
variable {σ:Ab}
theorem sub_so {i:Int} (h0:0<=i) (h:i < 94):AQ (vs Gi) (vi i) σ=some (vs [so i]):=at_text i h0 (by lia) (so_at i h0 h)
theorem run_line {C:Cfg} (c:Int):Aj C (fun fl σ'=>∃ l,Cd l/\Gn fl=vs l/\σ'=σ) Fline.body (Bc Fline [vi c]) σ:=by
 show Aj C _ _ [some (vi c),none,none,none,none] σ
 refine Aw (v:=vs someA) (congrArg (fun s=>some (V.d (.str s))) k_someA) ?_
 refine Aw (v:=vs Gi) (An (y:=vs someB) rfl (congrArg (fun s=>some (V.d (.str s))) k_someB) (b_cat _ _ (by decide))) ?_
 have h4:=AE c (j:=4) (by decide)
 refine Aw (v:=vi (c.fmod 4)) (An rfl rfl (AM (by decide))) ?_
 refine Dd (M:=fun ρ σ'=>(∃ s:Int,0<=s/\s<=200/\ρ=[some (vi c),some (vs Gi),some (vi s),none,none])/\σ=σ') ?_ ?_
 ·refine Bn (t:=decide ((c.fdiv 4).fmod 9=1)) (Ay (An (An rfl rfl (CS (by decide))) rfl (AM (by decide))) rfl Cc) (fun h=>?_) (fun h=>?_)
  ·have h5:=AE (c.fdiv 36) (j:=201) (by decide)
   exact Aw (v:=vi ((c.fdiv 36).fmod 201)) (An (An rfl rfl (CS (by decide))) rfl (AM (by decide))) (Ae (Ae ⟨_,rfl,⟨_,h5.1,by omega,rfl⟩,rfl⟩))
  ·exact Ae (Ae ⟨_,rfl,⟨_,h4.1,by omega,rfl⟩,rfl⟩)
 rintro _ _ ⟨⟨s,hs0,hs1,rfl⟩,rfl⟩
 have h5:=AE c (j:=5) (by decide)
 refine Aw (v:=vs ((List.range s.toNat).map fun j:Nat=>so ((c.fdiv 7+j * (1+c.fmod 5)).fmod 94))) (e_signs (fun i=>so ((c.fdiv 7+i * (1+c.fmod 5)).fmod 94)) rfl (by omega) (by omega) (fun i _ _=>by
  have h:=AE (c.fdiv 7+i * (1+c.fmod 5)) (j:=94) (by decide)
  exact Ai rfl (An (An (An rfl rfl (CS (by decide))) (An rfl (An rfl (An rfl rfl (AM (by decide))) rfl) (b_mul (smr (by omega) (by omega)))) rfl) rfl (AM (by decide))) (sub_so h.1 h.2))) ?_
 have hf1:((List.range s.toNat).map fun j:Nat=>so ((c.fdiv 7+j * (1+c.fmod 5)).fmod 94)).length=s.toNat:=by simp
 have hf2:∀ x∈((List.range s.toNat).map fun j:Nat=>so ((c.fdiv 7+j * (1+c.fmod 5)).fmod 94)),32<=x/\x<=126:=by
  intro x hx
  obtain ⟨j,_,rfl⟩:=List.mem_map.mp hx
  have h:=AE (c.fdiv 7+j * (1+c.fmod 5)) (j:=94) (by decide)
  exact some_ok _ (List.mem_of_getElem? (so_at _ h.1 h.2))
 generalize ((List.range s.toNat).map fun j:Nat=>so ((c.fdiv 7+j * (1+c.fmod 5)).fmod 94))=f at hf1 hf2
 refine Bn (t:=decide ((c.fdiv 3).fmod 8=1)&&decide (s < 199)) (DD (Ay (An (An rfl rfl (CS (by decide))) rfl (AM (by decide))) rfl Cc) (fun _=>rfl)) (fun h=>?_) (fun h=>Ae ?_)
 ·simp only [Bool.and_eq_true,decide_eq_true_eq] at h
  refine AS (v:=vs (f.take 1++[58,32]++f.drop 1)) (An (An (x:=vs (f.take 1)) (y:=vs [58,32]) (sl_to (σ:=σ) 1) (congrArg (fun s=>some (V.d (.str s))) k_col) (b_cat _ _ (by simp [line]; omega))) (y:=vs (f.drop 1)) (sl_from (σ:=σ) 1) (b_cat _ _ (by simp [line]; omega))) ⟨_,⟨by simp; omega,?_⟩,rfl,rfl⟩
  intro x hx
  simp only [List.mem_append,List.mem_cons,List.not_mem_nil,or_false] at hx
  rcases hx with (hx | rfl | rfl) | hx
  ·exact hf2 x (List.mem_of_mem_take hx)
  ·decide
  ·decide
  ·exact hf2 x (List.mem_of_mem_drop hx)
 ·exact AS (v:=vs f) rfl ⟨f,⟨by omega,hf2⟩,rfl,rfl⟩
end
theorem Dl (x:PyData) (m:Nat):low m (.d x):=trivial
theorem fn_line (c:Int):∃ l,Cd l/\∀ σ,FN 2 12 [vi c] σ (vs l) σ:=by
 obtain ⟨v,σ',⟨l,h1,h2,h3⟩,h⟩:=FN.ends (C:=C0 1) (f:=12) (fn:=Fline) (zs:=[vi c]) (σ:=[]) (R:=fun v σ'=>∃ l,Cd l/\v=vs l/\σ'=[]) (by unfold Pg; rfl) rfl (Nat.le_refl _) (run_line c)
 rw [h2,h3] at h
 exact ⟨l,h1,fun σ=>h.any (all_cons (Dl _ _) AI)⟩
noncomputable def lineF (c:Int):List Nat:=Classical.choose (fn_line c)
theorem lineF_ok (c:Int):Cd (lineF c):=(Classical.choose_spec (fn_line c)).1
theorem lineF_fn (c:Int) (σ:Ab):FN 2 12 [vi c] σ (vs (lineF c)) σ:=(Classical.choose_spec (fn_line c)).2 σ
noncomputable def int1 (g:Int->V) (xs:List V):Option V:=match xs with | x::r=>(match r with | []=>(B8 x).bind fun c=>some (g c) | _=>none) | []=>none
theorem int1_ok {n f:Nat} {σ:Ab} {g:Int->V} {xs:List V} {v:V} (hf:∀ c,FN n f [vi c] σ (g c) σ) (h:int1 g xs=some v):FN n f xs σ v σ:=by
 match xs,h with
 | [],h=>exact Ac h
 | [x],h =>
  obtain ⟨c,e1,h⟩:=Aa h
  rw [AO e1,<-Option.some.inj h]
  exact hf c
 | _::_::_,h=>exact Ac h
noncomputable def C2 (n:Nat) (hn:2<=n):Cfg:=(C1 n hn).add 12 (fun xs _=>int1 (fun c=>vs (lineF c)) xs) fun _ σ _ h=>int1_ok (fun c=>(lineF_fn c σ).more hn) h
end Mine
namespace Mine
set_option tactic.hygienic true
noncomputable def Ec:List Nat:=[97,100,100]
noncomputable def kset:List Nat:=[115,101,116]
set_option genInjectivity true in
structure Deed where
 word:List Nat
 mark:Option (List Nat×Int)
 text:Option (List Nat)
noncomputable abbrev Ch:=List Nat×List (List Nat)×List Deed
noncomputable abbrev Mk:=List Nat×Int
noncomputable def Ce (d:Deed):Bool:=decide (d.word=Ec)
noncomputable def adds:List Deed->Nat
 | []=>0
 | d::ds=>(if Ce d then 1 else 0)+adds ds
noncomputable def Gs (nm:List Nat) (k:Nat):Nat->List Mk
 | 0=>[]
 | n+1=>(nm,(k:Int))::Gs nm (k+1) n
theorem ownM_mem {nm:List Nat} {k n:Nat} {m:Mk}:m∈Gs nm k n ↔ m.1=nm/\(k:Int)<=m.2/\m.2 < (k:Int)+n:=by
 induction n generalizing k with
 | zero =>
  refine ⟨fun h=>(nomatch h),fun h=>?_⟩
  have h2:=h.2.2
  have h1:=h.2.1
  exact absurd h2 (by simp; omega)
 | succ n ih =>
  obtain ⟨a,b⟩:=m
  simp only [Gs,List.mem_cons,ih,Prod.mk.injEq]
  constructor
  ·rintro (⟨rfl,rfl⟩ | ⟨rfl,h1,h2⟩)
   ·exact ⟨rfl,by omega,by omega⟩
   ·exact ⟨rfl,by omega,by omega⟩
  ·rintro ⟨rfl,h1,h2⟩
   by_cases e:b=k
   ·exact .inl ⟨rfl,e⟩
   ·exact .inr ⟨rfl,by omega,by omega⟩
noncomputable def DOk (nm:List Nat) (ms:List Mk):List Deed->Nat->Prop
 | [],_=>True
 | d::ds,k=>(∀ m,d.mark=some m->m∈ms\/(m.1=nm/\0<=m.2/\m.2 < (k:Int)))/\DOk nm ms ds (if Ce d then k+1 else k)
end Mine
namespace Mine
set_option tactic.hygienic true
section
variable {κ β:Type} [DecidableEq κ] {h t:List (κ×β)} {k:κ} {v:β}
theorem Bb (q:κ×β) (h:List (κ×β)) (k:κ):Az (q::h) k=if q.1=k then some q.2 else Az h k:=by
 unfold Az
 rw [List.find?_cons]
 by_cases e:q.1=k
 ·rw [decide_eq_true e,if_pos e]; rfl
 ·rw [decide_eq_false e,if_neg e]
theorem get_left (e:Az h k=some v):Az (h++t) k=some v:=by
 induction h with
 | nil=>cases e
 | cons q h ih =>
  rw [List.cons_append,Bb] at *
  split at e
  ·rename_i q1; rw [if_pos q1]; exact e
  ·rename_i q1; rw [if_neg q1]; exact ih e
theorem get_right (e:Az h k=none):Az (h++t) k=Az t k:=by
 induction h with
 | nil=>rfl
 | cons q h ih =>
  rw [Bb] at e
  rw [List.cons_append,Bb]
  split at e
  ·cases e
  ·rename_i q1; rw [if_neg q1]; exact ih e
theorem C9:Az h k=none ↔ k∉h.map (·.1):=by
 induction h with
 | nil=>simp [Az]
 | cons q h ih =>
  rw [Bb,List.map_cons,List.mem_cons]
  by_cases e:q.1=k
  ·rw [if_pos e]; exact ⟨(fun q=>by cases q),fun q=>(q (.inl e.symm)).elim⟩
  ·rw [if_neg e,ih]; exact ⟨fun q1 q2=>q2.elim (fun q3=>e q3.symm) q1,fun q1 q2=>q1 (.inr q2)⟩
theorem AH:(∃ v,Az h k=some v) ↔ k∈h.map (·.1):=by
 cases e:Az h k with
 | none=>exact ⟨(fun ⟨v,q⟩=>by cases q),fun q=>(C9.mp e q).elim⟩
 | some v =>
  refine ⟨fun _=>?_,fun _=>⟨v,rfl⟩⟩
  by_cases q:k∈h.map (·.1)
  ·exact q
  ·rw [C9.mpr q] at e; cases e
theorem get_filter {p:κ->Bool} (hk:p k=true):Az (h.filter fun q=>p q.1) k=Az h k:=by
 induction h with
 | nil=>rfl
 | cons q h ih =>
  by_cases e:p q.1=true
  ·rw [List.filter_cons_of_pos (by exact e),Bb,Bb,ih]
  ·rw [List.filter_cons_of_neg (by exact e),Bb,ih,if_neg fun q1=>e (by rw [q1]; exact hk)]
theorem FZ:(h.any fun p=>p.1=k)=(Az h k).isSome:=by
 induction h with
 | nil=>rfl
 | cons q h ih =>
  rw [List.any_cons,Bb,ih]
  by_cases e:q.1=k
  ·rw [if_pos e,decide_eq_true e]; rfl
  ·rw [if_neg e,decide_eq_false e]; rfl
theorem E6 (e:Az h k=none):CF h k v=h++[(k,v)]:=by
 unfold CF
 rw [FZ,e]; rfl
theorem Gq (k':κ):k'∈(CF h k v).map (·.1) ↔ k'=k\/k'∈h.map (·.1):=by
 unfold CF
 rw [FZ]
 cases e:Az h k with
 | none=>simp [or_comm]
 | some d =>
  have hk:k∈h.map (·.1):=AH.mp ⟨d,e⟩
  have q1:(h.map fun p=>if p.1=k then (p.1,v) else p).map (·.1)=h.map (·.1):=by
   rw [List.map_map]
   refine List.map_congr_left fun p _=>?_
   show (if p.1=k then (p.1,v) else p).1=p.1
   split <;> rfl
  show k'∈(h.map fun p=>if p.1=k then (p.1,v) else p).map (·.1) ↔ _
  rw [q1]
  exact ⟨.inr,fun q=>q.elim (fun q=>q▸hk) id⟩
end
theorem foldl_max (l:List Int) (x:Int):x<=l.foldl (fun a b=>if a < b then b else a) x/\∀ y∈l,y<=l.foldl (fun a b=>if a < b then b else a) x:=by
 induction l generalizing x with
 | nil=>exact ⟨Int.le_refl _,fun y h=>by cases h⟩
 | cons z l ih =>
  have h:=ih (if x < z then z else x)
  rw [List.foldl_cons]
  have hx:x<=(if x < z then z else x)/\z<=(if x < z then z else x):=by split <;> omega
  refine ⟨Int.le_trans hx.1 h.1,fun y hy=>?_⟩
  rcases List.mem_cons.mp hy with rfl | hy
  ·exact Int.le_trans hx.2 h.1
  ·exact h.2 y hy
theorem max_ge (z:Int) (l:List Int):∀ y∈l,y<=Dk z l:=by
 cases l with
 | nil=>intro y h; cases h
 | cons x r =>
  intro y hy
  rcases List.mem_cons.mp hy with rfl | hy
  ·exact (foldl_max r y).1
  ·exact (foldl_max r x).2 y hy
noncomputable def hv (h:List (List Nat×Int)) (ls:List (List Nat)):Int:=Dk 0 (ls.map fun l=>(Az h l).getD 0+1)
noncomputable def hts:List (List Nat×Int)->List Ch->List (List Nat×Int)
 | h,[]=>h
 | h,c::cs=>hts (h++[(c.1,hv h c.2.1)]) cs
noncomputable def hgt (cs:List Ch) (n:List Nat):Int:=(Az (hts [] cs) n).getD 0
theorem hts_app (h:List (List Nat×Int)) (a b:List Ch):hts h (a++b)=hts (hts h a) b:=by
 induction a generalizing h with
 | nil=>rfl
 | cons c a ih=>exact ih _
theorem Br (h:List (List Nat×Int)) (cs:List Ch):(hts h cs).map (·.1)=h.map (·.1)++cs.map (·.1):=by
 induction cs generalizing h with
 | nil=>simp [hts]
 | cons c cs ih=>rw [hts,ih]; simp
theorem hts_old {h:List (List Nat×Int)} {cs:List Ch} {k:List Nat} {v:Int} (e:Az h k=some v):Az (hts h cs) k=some v:=by
 induction cs generalizing h with
 | nil=>exact e
 | cons c cs ih=>exact ih (get_left e)
theorem hts_filter (p:List Nat->Bool) (h:List (List Nat×Int)) (cs:List Ch) (hc:∀ c∈cs,p c.1=true->∀ l∈c.2.1,p l=true) :
 hts (h.filter fun q=>p q.1) (cs.filter fun c=>p c.1)=(hts h cs).filter fun q=>p q.1:=by
 induction cs generalizing h with
 | nil=>rfl
 | cons c cs ih =>
  have hc':=fun d hd=>hc d (List.mem_cons_of_mem _ hd)
  by_cases e:p c.1=true
  ·rw [List.filter_cons_of_pos (by exact e),hts,hts,<-ih _ hc',List.filter_append,List.filter_cons_of_pos (by exact e),List.filter_nil]
   congr 4
   unfold hv
   congr 1
   exact List.map_congr_left fun l hl=>by rw [get_filter (hc c (.head _) e l hl)]
  ·rw [List.filter_cons_of_neg (by exact e),hts,<-ih _ hc',List.filter_append,List.filter_cons_of_neg (by exact e),List.filter_nil,List.append_nil]
noncomputable def Eo (pre:List Ch) (ls:List (List Nat)):List Mk:=(pre.filter fun c=>decide (c.1∈ls)).flatMap fun c=>Gs c.1 0 (adds c.2.2)
structure BJ (cs:List Ch):Prop where
 nd:(cs.map (·.1)).Nodup
 ok:∀ pre c post,cs=pre++c::post->(∀ l∈c.2.1,l∈pre.map (·.1))/\DOk c.1 (Eo pre c.2.1) c.2.2 0
def Bf (H:List Nat->Int) (a b:Ch):Prop:=H a.1 < H b.1\/(H a.1=H b.1/\b.1 < a.1)
structure IsOrd (H:List Nat->Int) (cs O:List Ch):Prop where
 perm:O.Perm cs
 bf:O.Pairwise (Bf H)
end Mine
namespace Mine
open PySem
theorem G4:Str.ofString "add" = Tx Ec:=by decide +kernel
noncomputable def kcut:List Nat:=[99,117,116]
theorem k_cut:Str.ofString "cut" = Tx kcut:=by decide +kernel
theorem k_set:Str.ofString "set" = Tx kset:=by decide +kernel
noncomputable def AP (o:Option Mk):PyData:=match o with | none=>.none | some m=>.tuple [.str (Tx m.1),.int m.2]
noncomputable abbrev vm (m:Mk):V:=.d (AP (some m))
noncomputable abbrev dms (ms:List Mk):PyData:=.list (ms.map fun m=>AP (some m))
noncomputable def Deed.data (d:Deed):PyData:=.tuple (.str (Tx d.word)::AP d.mark::(match d.text with | none=>[] | some l=>[.str (Tx l)]))
noncomputable abbrev dds (ds:List Deed):PyData:=.list (ds.map Deed.data)
noncomputable def Ch.data (c:Ch):PyData:=.tuple [.str (Tx c.1),dl c.2.1,dds c.2.2]
noncomputable abbrev vc (c:Ch):V:=.d (Ch.data c)
section
variable {σ:Ab}
theorem Dx (d:Deed):AQ (.d d.data) (vi 0) σ=some (vs d.word):=by
 unfold Deed.data
 cases d.text <;> rfl
theorem Dy (d:Deed):AQ (.d d.data) (vi 1) σ=some (.d (AP d.mark)):=by
 unfold Deed.data
 cases d.text <;> rfl
theorem sub_text (d:Deed) {l:List Nat} (h:d.text=some l):AQ (.d d.data) (vi 2) σ=some (vs l):=by
 unfold Deed.data; rw [h]; rfl
theorem Bo (c:Ch):AQ (vc c) (vi 0) σ=some (vs c.1):=rfl
theorem DO (c:Ch):AQ (vc c) (vi 1) σ=some (.d (dl c.2.1)):=rfl
theorem Ez (c:Ch):AQ (vc c) (vi 2) σ=some (.d (dds c.2.2)):=rfl
end
theorem is_mark {σ:Ab} (m:Option Mk):Bk .Is (.d (AP m)) (.d .none) σ=some m.isNone:=by cases m <;> rfl
theorem G7 {σ:Ab} (m:Option Mk):Bk .IsNot (.d (AP m)) (.d .none) σ=some (!m.isNone):=by cases m <;> rfl
structure CO (d:Deed):Prop where
 shp:(d.word=Ec/\∃ l,d.text=some l/\Cd l)\/(d.word=kset/\∃ m l,d.mark=some m/\d.text=some l/\Cd l)\/(d.word=kcut/\∃ m,d.mark=some m)
 lin:∀ l,d.text=some l->Cd l
theorem Ga:∀ ds:List Deed,(ds.filter fun d=>decide (d.word=Ec)).length=adds ds
 | []=>rfl
 | d::ds=>by
  rw [List.filter_cons]
  show _=(if Ce d then 1 else 0)+adds ds
  rw [<-Ga ds]
  unfold Ce
  split
  ·rw [List.length_cons,Nat.add_comm]
  ·rw [Nat.zero_add]
theorem ER (ds:List Deed):adds ds<=ds.length:=by rw [<-Ga]; exact List.length_filter_le _ _
theorem DZ:∀ (ds:List Deed) (d:Deed),adds (ds++[d])=adds ds+(if Ce d then 1 else 0)
 | [],d=>by show (if Ce d then 1 else 0)+0=0+_; rw [Nat.add_comm]
 | e::ds,d=>by show (if Ce e then 1 else 0)+adds (ds++[d])=(if Ce e then 1 else 0)+adds ds+_; rw [DZ ds d,Nat.add_assoc]
theorem DOk_snoc {nm:List Nat} {ms:List Mk} {d:Deed}:∀ (ds:List Deed) (k:Nat),DOk nm ms ds k->(∀ m,d.mark=some m->m∈ms\/(m.1=nm/\0<=m.2/\m.2 < ((k+adds ds:Nat):Int)))->DOk nm ms (ds++[d]) k
 | [],k,_,h=>⟨h,trivial⟩
 | e::ds,k,⟨h1,h2⟩,h=>by
  refine ⟨h1,DOk_snoc ds _ h2 fun m hm=>?_⟩
  have:=h m hm
  have e1:(if Ce e then k+1 else k)+adds ds=k+adds (e::ds):=by
   show _=k+((if Ce e then 1 else 0)+adds ds)
   split <;> omega
  rw [e1]; exact this
theorem Bl {α:Type} (l:List α):l.filter (fun _=>true)=l:=List.filter_eq_self.mpr fun _ _=>rfl
section
variable {O:Orc} {ρ:Ag} {σ:Ab} {elt es:E} {t:Nat} {m:Int}
theorem e_compR (g:Int->PyData) (hi:(ev O es).row ρ σ=some [vi m]) (h0:0<=m) (hl:m<=1000000)
 (hg:∀ i:Int,0<=i->i < m->(ev O elt).v ((ρ.set t none).set t (some (vi i))) σ=some (.d (g i))):(ev O (.comp elt [t] (.range es) .nil)).v ρ σ=some (.d (.list ((List.range m.toNat).map fun j:Nat=>g (j:Int)))):=by
 refine D6 ?_
 rw [BP (fun j:Nat=>vi (j:Int)) (fun _=>true) (fun j:Nat=>.d (g (j:Int))) (itr hi hl (by omega)) (by rw [List.length_range]; exact Nat.le_trans (show m.toNat<=1000000 by omega) (by decide)) (fun _ _=>rfl) (fun j hj _=>hg j (Int.natCast_nonneg _) (by have:=List.mem_range.mp hj; omega)),Bl,List.map_map]
 rfl
theorem EL {α:Type} {a ifs:E} {l:List α} (d:α->PyData) (p:α->Bool) (g:α->PyData) (ha:(ev O a).it ρ σ=some (l.map fun x=>.d (d x),[])) (hl:l.length<=line) (hp:∀ x∈l,(ev O ifs).ts ((ρ.set t none).set t (some (.d (d x)))) σ=some (p x))
 (hg:∀ x∈l,p x=true->(ev O elt).v ((ρ.set t none).set t (some (.d (d x)))) σ=some (.d (g x))):(ev O (.comp elt [t] a ifs)).v ρ σ=some (.d (.list ((l.filter p).map g))):=by
 refine D6 ?_
 rw [BP (fun x=>.d (d x)) p (fun x=>.d (g x)) ha hl hp hg,List.map_map]
 rfl
theorem Fk {α:Type} {e:E} {l:List α} {d:α->PyData} (h:(ev O e).v ρ σ=some (.d (.list (l.map d)))) (he:(ev O e).it ρ σ=((ev O e).v ρ σ).bind (CH σ)):(ev O e).it ρ σ=some (l.map fun x=>.d (d x),[]):=by
 rw [he,h]
 show some ((l.map d).map V.d,[])=_
 rw [List.map_map]; rfl
end
theorem own_data (t:List Nat) (k:Nat):((List.range k).map fun j:Nat=>AP (some (t,(j:Int))))=((List.range k).map fun j:Nat=>(t,(j:Int))).map fun m=>AP (some m):=by rw [List.map_map]; rfl
theorem ownM_range (nm:List Nat) (n k:Nat):Gs nm k n=(List.range n).map fun j:Nat=>(nm,((k+j:Nat):Int)):=by
 induction n generalizing k with
 | zero=>rfl
 | succ n ih =>
  rw [List.range_succ_eq_map,List.map_cons,List.map_map]
  show (nm,(k:Int))::Gs nm (k+1) n=_
  rw [ih]
  congr 1
  refine List.map_congr_left fun j _=>?_
  show (nm,((k+1+j:Nat):Int))=(nm,((k+(j+1):Nat):Int))
  rw [show k+1+j=k+(j+1) by omega]
theorem DQ (nm:List Nat) (n:Nat):Gs nm 0 n=(List.range n).map fun j:Nat=>(nm,(j:Int)):=by
 rw [ownM_range]; simp
theorem fn_marks {σ:Ab} (c:Ch) (hd:c.2.2.length<=100):FN 2 14 [vc c] σ (.d (dms (Gs c.1 0 (adds c.2.2)))) σ:=by
 exact FN.same (C:=C0 1) (fn:=Fmarks) (by unfold Pg; rfl) rfl (Nat.le_refl _) (by
  have c1:=EL (O:=(C0 1).O) (ρ:=[some (vc c),none,none,none]) (σ:=σ) (elt:=.var 2) (t:=2) (a:=.sub (.var 0) (.cst (.int 2))) (ifs:=.cons (.cmp .Eq (.sub (.var 2) (.cst (.int 0))) (.cst (.str (Str.ofString "add")))) .nil) (l:=c.2.2) Deed.data (fun d=>decide (d.word=Ec)) Deed.data (Fk (Ai rfl rfl (Ez c)) rfl) (Nat.le_trans hd (by decide)) (fun d _=>e_ts1 (Ay (Ai rfl rfl (Dx d)) (congrArg (fun s=>some (V.d (.str s))) G4) eq_str)) (fun d _ _=>rfl)
  refine Aw (v:=vi (adds c.2.2)) (AK (A0 c1) (ED.trans (by rw [List.length_map,Ga]))) ?_
  have hk:=ER c.2.2
  generalize adds c.2.2=k at hk
  refine AS (e_compR (fun i=>AP (some (c.1,i))) rfl (by omega) (by omega) (fun i _ _=>EK (Bw (Ai rfl rfl (Bo c)) rfl) rfl)) ⟨?_,rfl⟩
  show V.d (.list ((List.range (k:Int).toNat).map fun j:Nat=>AP (some (c.1,(j:Int)))))=_
  rw [Int.toNat_natCast,own_data,DQ])
end Mine
namespace Mine
open PySem
theorem it_rg {C:Cfg} {ρ:Ag} {σ:Ab} {es:E} {m:Int} (h:(ev C.O es).row ρ σ=some [vi m]) (h1:m<=1000000) (h2:-1000000<=m):C.it (.range es) ρ σ=some ((List.range m.toNat).map (fun j:Nat=>vi (j:Int)),[]):=itr h h1 h2
structure DsAt (t:List Nat) (ms:List Mk) (p:Nat) (ds:List Deed) (own:Nat):Prop where
 own:own=adds ds
 len:ds.length=p
 dok:DOk t ms ds 0
 ok:∀ d∈ds,CO d
theorem DsAt.snoc {t:List Nat} {ms:List Mk} {p:Nat} {ds:List Deed} {own own':Nat} {d:Deed} (h:DsAt t ms p ds own) (ho:own'=own+(if Ce d then 1 else 0)) (hd:CO d) (hm:∀ m,d.mark=some m->m∈ms\/(m.1=t/\0<=m.2/\m.2 < (own:Int))):DsAt t ms (p+1) (ds++[d]) own' :=
 ⟨by rw [ho,DZ,h.own],by rw [List.length_append,h.len]; rfl,DOk_snoc ds 0 h.dok fun m e=>by rw [Nat.zero_add,<-h.own]; exact hm m e,fun e he=>by
  rcases List.mem_append.mp he with he | he
  ·exact h.ok e he
  ·rw [List.mem_singleton.mp he]; exact hd⟩
theorem run_deeds {C:Cfg} (hm:∀ c k σ,C.O 10 [vi c,vi k] σ=some (vi (By c k))) (hl:∀ c σ,C.O 12 [vi c] σ=some (vs (lineF c)))
 (t:List Nat) (c many:Int) (ms:List Mk) (h0:0<=many) (h1:many<=100) (hml:ms.length<=10000) :
 Aj C (fun fl σ'=>∃ ds:List Deed,ds.length=many.toNat/\DOk t ms ds 0/\(∀ d∈ds,CO d)/\Gn fl=.ref 0/\σ'=[.list (ds.map fun d=>.d d.data)]) Fdeeds.body (Bc Fdeeds [vs t,vi c,vi many,.d (dms ms)]) []:=by
 show Aj C _ _ [some (vs t),some (vi c),some (vi many),some (.d (dms ms)),none,none,none,none,none,none,none,none,none] []
 refine BE (ws:=[]) rfl ?_
 refine Aw (v:=vi 0) rfl ?_
 let K:Nat->Option V->Option V->Option V->Option V->Option V->Option V->Option V->Ag:=fun own z6 z7 z8 z9 z10 z11 z12=>[some (vs t),some (vi c),some (vi many),some (.d (dms ms)),some (.ref 0),some (vi own),z6,z7,z8,z9,z10,z11,z12]
 refine Bu (l:=List.range many.toNat) (fun j:Nat=>vi (j:Int)) (fun p ρ σ=>∃ ds own,DsAt t ms p.length ds own/\(∃ z6 z7 z8 z9 z10 z11 z12,ρ=K own z6 z7 z8 z9 z10 z11 z12)/\σ=[.list (ds.map fun d=>.d d.data)])
  (it_rg rfl (by omega) (by omega)) ⟨[],0,⟨rfl,rfl,trivial,fun d h=>nomatch h⟩,⟨none,none,none,none,none,none,none,rfl⟩,rfl⟩ ?_ ?_
 ·rintro p j q ρ σ hp ⟨ds,own,D,⟨z6,z7,z8,z9,z10,z11,z12,rfl⟩,rfl⟩
  have hpl:p.length < 100:=by
   have:=congrArg List.length hp
   rw [List.length_range,List.length_append,List.length_cons] at this; omega
  have hdl:ds.length < 100:=D.len▸hpl
  have hon:own<=100:=by rw [D.own]; exact Nat.le_trans (ER ds) (Nat.le_of_lt hdl)
  have hll:(ds.map fun d=>V.d d.data).length < line:=by rw [List.length_map]; exact Nat.lt_trans hdl (by decide)
  have fin:∀ (d:Deed) (own':Nat) (ρ:Ag),own'=own+(if Ce d then 1 else 0)->CO d->(∀ m,d.mark=some m->m∈ms\/(m.1=t/\0<=m.2/\m.2 < (own:Int)))->(∃ z6 z7 z8 z9 z10 z11 z12,ρ=K own' z6 z7 z8 z9 z10 z11 z12) ->
   ∃ ρ',Fl.next ρ=.next ρ'/\∃ ds' own,DsAt t ms (p++[j]).length ds' own/\(∃ z6 z7 z8 z9 z10 z11 z12,ρ'=K own z6 z7 z8 z9 z10 z11 z12)/\([O.list ((ds.map fun d=>V.d d.data)++[V.d d.data])]:Ab)=[O.list (ds'.map fun d=>V.d d.data)]:=fun d own' ρ ho hd hm hρ =>
   ⟨ρ,rfl,ds++[d],own',by rw [List.length_append]; exact D.snoc ho hd hm,hρ,by rw [List.map_append]; rfl⟩
  have hown:(ev C.O (.comp (.tup (.cons (.var 0) (.cons (.var 12) .nil))) [12] (.range (.cons (.var 5) .nil)) .nil)).v (K own (some (vi j)) z7 z8 z9 z10 z11 z12) [.list (ds.map fun d=>.d d.data)]=some (.d (dms ((List.range own).map fun j:Nat=>(t,(j:Int))))):=by
   rw [e_compR (fun i=>AP (some (t,i))) (m:=own) rfl (by omega) (by omega) (fun i _ _=>EK (Bw rfl rfl) rfl),Int.toNat_natCast,own_data]
  obtain ⟨ks,hks,hks1,hks2⟩:∃ ks:List Mk,C.v (.bin .Add (.var 3) (.comp (.tup (.cons (.var 0) (.cons (.var 12) .nil))) [12] (.range (.cons (.var 5) .nil)) .nil)) (K own (some (vi j)) z7 z8 z9 z10 z11 z12) [.list (ds.map fun d=>.d d.data)]=some (.d (dms ks))/\(∀ m∈ks,m∈ms\/(m.1=t/\0<=m.2/\m.2 < (own:Int)))/\ks.length<=10100:=by
   refine ⟨ms++(List.range own).map (fun j:Nat=>(t,(j:Int))),An rfl hown ((b_catL _ _ ?_).trans (by rw [<-List.map_append])),?_,?_⟩
   ·simp [line]; omega
   ·intro m hm
    rcases List.mem_append.mp hm with hm | hm
    ·exact .inl hm
    ·obtain ⟨i,hi,rfl⟩:=List.mem_map.mp hm
     have:=List.mem_range.mp hi
     exact .inr ⟨rfl,Int.natCast_nonneg i,by show (i:Int) < _; omega⟩
   ·simp; omega
  refine Aw hks ?_
  refine Aw (v:=vi (By c j)) (GT (Bw rfl rfl) (hm _ _ _)) ?_
  generalize By c j=L
  have hat:=AE (L.fdiv 5) (j:=(ks.length:Int)+1) (by omega)
  have hkl:∀ σ,AV .len σ [.d (dms ks)]=some (vi ks.length):=fun σ=>ED.trans (by rw [List.length_map])
  refine Aw (v:=vi ((L.fdiv 5).fmod ((ks.length:Int)+1))) (An (An rfl rfl (CS (by decide))) (An (AK (A0 rfl) (hkl _)) rfl rfl) (AM (by omega))) ?_
  generalize (L.fdiv 5).fmod ((ks.length:Int)+1)=a at hat
  refine Aw (v:=vs (lineF (L.fdiv 365))) (GT (A0 (An rfl rfl (CS (by decide)))) (hl _ _)) ?_
  have hlo:=lineF_ok (L.fdiv 365)
  generalize lineF (L.fdiv 365)=l at hlo
  have pick:∀ i:Int,0<=i->i < ks.length->∃ m,m∈ks/\∀ σ,AQ (.d (dms ks)) (vi i) σ=some (vm m):=fun i i0 i1=>by
   obtain ⟨m,hm1⟩:∃ m,ks[i.toNat]? = some m:=⟨_,List.getElem?_eq_getElem (by omega)⟩
   exact ⟨m,List.mem_of_getElem? hm1,fun σ=>EP _ i0 (by omega) (by rw [List.getElem?_map,hm1]; rfl)⟩
  refine Bn (t:=decide (L.fmod 5 < 3) || !(!(ks.map fun m=>AP (some m)).isEmpty)) (Dm (Ay (An rfl rfl (AM (by decide))) rfl c_lt) fun _=>rfl) (fun h=>?_) (fun h=>?_)
  ·refine Aw (v:=.d .none) rfl ?_
   refine Dd (M:=fun ρ σ'=>(∃ o:Option Mk,(∀ m,o=some m->m∈ks)/\ρ=K own (some (vi j)) (some (.d (dms ks))) (some (vi L)) (some (vi a)) (some (vs l)) (some (.d (AP o))) z12)/\[.list (ds.map fun d=>.d d.data)]=σ') ?_ ?_
   ·refine Bn (t:=decide (a > 0)) rfl (fun h=>?_) (fun h=>?_)
    ·have h:=of_decide_eq_true h
     obtain ⟨m,hm1,hm2⟩:=pick (a-1) (by omega) (by omega)
     exact Aw (v:=vm m) (Ai rfl (An rfl rfl rfl) (hm2 _)) (Ae (Ae ⟨_,rfl,⟨some m,(fun m' e=>Option.some.inj e▸hm1),rfl⟩,rfl⟩))
    ·exact Ae (Ae ⟨_,rfl,⟨none,(fun m' e=>Ac e),rfl⟩,rfl⟩)
   rintro _ _ ⟨⟨o,ho,rfl⟩,rfl⟩
   refine AJ (k:=0) (y:=.d (Deed.data ⟨Ec,o,some l⟩)) rfl (A0 (EK (e_r3 (x:=vs Ec) (congrArg (fun s=>some (V.d (.str s))) G4) rfl rfl) rfl)) rfl hll ?_
   exact Aw (v:=vi ((own:Int)+1)) rfl (Ae (Ae (fin ⟨Ec,o,some l⟩ (own+1) _ rfl ⟨.inl ⟨rfl,l,rfl,hlo⟩,fun _ e=>Option.some.inj e▸hlo⟩ (fun m e=>hks1 m (ho m e)) ⟨_,_,_,_,_,_,_,rfl⟩)))
  ·have h2:=(Bool.or_eq_false_iff.mp h).2
   have hpos:0 < ks.length:=by
    cases ks with
    | nil=>cases h2
    | cons _ _=>exact Nat.succ_pos _
   have hi:=AE a (j:=(ks.length:Int)) (by omega)
   obtain ⟨m,hm1,hm2⟩:=pick (a.fmod ks.length) hi.1 hi.2
   refine Bn (t:=decide (L.fmod 5=3)) (Ay (An rfl rfl (AM (by decide))) rfl Cc) (fun h=>?_) (fun h=>?_)
   ·exact AJ (k:=0) (y:=.d (Deed.data ⟨kcut,some m,none⟩)) rfl (A0 (EK (Bw (x:=vs kcut) (congrArg (fun s=>some (V.d (.str s))) k_cut) (Ai rfl (An rfl (AK (A0 rfl) (hkl _)) (AM (by omega))) (hm2 _))) rfl)) rfl hll (Ae (Ae (Ae (fin ⟨kcut,some m,none⟩ own _ rfl ⟨.inr (.inr ⟨rfl,m,rfl⟩),fun _ e=>Ac e⟩ (fun m' e=>Option.some.inj e▸hks1 m hm1) ⟨_,_,_,_,_,_,_,rfl⟩))))
   ·exact AJ (k:=0) (y:=.d (Deed.data ⟨kset,some m,some l⟩)) rfl (A0 (EK (e_r3 (x:=vs kset) (congrArg (fun s=>some (V.d (.str s))) k_set) (Ai rfl (An rfl (AK (A0 rfl) (hkl _)) (AM (by omega))) (hm2 _)) rfl) rfl)) rfl hll (Ae (Ae (Ae (fin ⟨kset,some m,some l⟩ own _ rfl ⟨.inr (.inl ⟨rfl,m,l,rfl,rfl,hlo⟩),fun _ e=>Option.some.inj e▸hlo⟩ (fun m' e=>Option.some.inj e▸hks1 m hm1) ⟨_,_,_,_,_,_,_,rfl⟩))))
 ·rintro ρ σ ⟨ds,own,D,⟨z6,z7,z8,z9,z10,z11,z12,rfl⟩,rfl⟩
  exact AS (v:=.ref 0) rfl ⟨ds,by rw [D.len,List.length_range],D.dok,D.ok,rfl,rfl⟩
theorem fn_deeds (t:List Nat) (c many:Int) (ms:List Mk) (h0:0<=many) (h1:many<=100) (hml:ms.length<=10000):∃ ds:List Deed,ds.length=many.toNat/\DOk t ms ds 0/\(∀ d∈ds,CO d)/\∀ σ,FN 3 15 [vs t,vi c,vi many,.d (dms ms)] σ (.d (dds ds)) σ:=by
 obtain ⟨v,σ',⟨ds,k1,k2,k3,k4,k5⟩,h⟩:=FN.ends (C:=C2 2 (Nat.le_refl _)) (f:=15) (fn:=Fdeeds) (zs:=[vs t,vi c,vi many,.d (dms ms)]) (σ:=[]) (R:=fun v σ'=>∃ ds:List Deed,ds.length=many.toNat/\DOk t ms ds 0/\(∀ d∈ds,CO d)/\v=.ref 0/\σ'=[.list (ds.map fun d=>.d d.data)]) (by unfold Pg; rfl) rfl (show 1<=2 by decide) (run_deeds (fun _ _ _=>rfl) (fun _ _=>rfl) t c many ms h0 h1 hml)
 rw [k4,k5] at h
 exact ⟨ds,k1,k2,k3,fun σ=>(FA.seal (σ:=[]) (d:=dds ds) h ⟨_,rfl,Nat.zero_le _,by rw [List.map_map]; rfl⟩).any (all_cons (Dl _ _) (all_cons (Dl _ _) (all_cons (Dl _ _) (all_cons (Dl _ _) AI))))⟩
end Mine
namespace Mine
open PySem
noncomputable def insL (x:List Nat):List (List Nat)->List (List Nat)
 | []=>[x]
 | y::r=>if decide (x < y) then x::y::r else y::insL x r
noncomputable def Am:List (List Nat)->List (List Nat)
 | []=>[]
 | x::r=>insL x (Am r)
theorem insStr_Tx (x:List Nat) (l:List (List Nat)):Da (Tx x) (l.map Tx)=(insL x l).map Tx:=by
 induction l with
 | nil=>rfl
 | cons y l ih =>
  show (if AU (Tx x) (Tx y)=true then Tx x::Tx y::l.map Tx else Tx y::Da (Tx x) (l.map Tx))=(if decide (x < y)=true then x::y::l else y::insL x l).map Tx
  rw [Tx_lt,ih]
  cases decide (x < y) <;> rfl
theorem CX (l:List (List Nat)):Cg (l.map Tx)=(Am l).map Tx:=by
 induction l with
 | nil=>rfl
 | cons y l ih =>
  show Da (Tx y) (Cg (l.map Tx))=(insL y (Am l)).map Tx
  rw [ih,insStr_Tx]
theorem Ah (l:List (List Nat)):(Am l).Perm l:=by
 have ins:∀ (x:List Nat) (l:List (List Nat)),(insL x l).Perm (x::l):=by
  intro x l
  induction l with
  | nil=>exact .refl _
  | cons y l ih =>
   unfold insL
   split
   ·exact .refl _
   ·exact (ih.cons y).trans (.swap ..)
 induction l with
 | nil=>exact .refl _
 | cons y l ih=>exact (ins y _).trans (ih.cons y)
theorem Be (l:List (List Nat)) (h:l.Nodup):(Am l).Pairwise (· < ·):=by
 have h1:=Co (l.map Tx)
 rw [CX] at h1
 have h1:((Am l).map Tx).Pairwise fun a b=>AU b a=false:=h1
 rw [List.pairwise_map] at h1
 have h2:(Am l).Nodup:=(Ah l).nodup_iff.mpr h
 refine (h1.and h2).imp fun {a b} q=>?_
 have q1:=q.1
 rw [Tx_lt] at q1
 exact Classical.byContradiction fun h=>q.2 (List.le_antisymm (List.not_lt.mp (of_decide_eq_false q1)) (List.not_lt.mp h))
theorem mapV_vs (l:List (List Nat)):BV Bq (l.map vs)=some (l.map Tx):=by
 rw [show l.map vs=vss (l.map Tx) by show _=(l.map Tx).map _; rw [List.map_map]; rfl]
 exact Fh _
theorem DP {σ:Ab} {x:V} {l:List (List Nat)} (hx:As σ x=some (l.map vs)) (h:l.length < 64):AV .sorted σ [x]=some (.d (dl (Am l))):=by
 show (bmake1 .sorted σ x).bind mkL=_
 show ((As σ x).bind fun ws=>(BV Bq ws).bind fun ss=>if ss.length < 64 then some (vss (Cg ss)) else none).bind mkL=_
 rw [hx,bs,mapV_vs,bs,if_pos (by rw [List.length_map]; exact h),bs,CX]
 have e:vss ((Am l).map Tx)=((Am l).map fun t=>PyData.str (Tx t)).map V.d:=by
  show ((Am l).map Tx).map _=_
  rw [List.map_map,List.map_map]; rfl
 rw [e]
 exact FL _ (by rw [List.length_map,(Ah l).length_eq]; exact Nat.le_trans (Nat.le_of_lt h) (by decide))
theorem enumV_eq (ds:List PyData) (k:Nat):F9 k ds=(ds.zipIdx k).map fun p=>V.d (.tuple [.int (p.2:Int),p.1]):=by
 induction ds generalizing k with
 | nil=>rfl
 | cons x a ih=>show _::F9 (k+1) a=_; rw [ih]; rfl
theorem idx_fst:∀ (l:List Ch) (k:Nat),(l.zipIdx k).map (·.1.1)=l.map (·.1)
 | [],_=>rfl
 | _::l,k=>by rw [List.zipIdx_cons,List.map_cons,List.map_cons,idx_fst l (k+1)]
theorem listD_map {α:Type} {σ:Ab} {k:Nat} {l:List α} {d:α->PyData} (h:σ[k]? = some (.list (l.map fun a=>V.d (d a)))):listD σ (.ref k)=some (l.map d):=by
 show (CG σ[k]?).bind Dr=_
 rw [h]
 show Dr (l.map fun a=>V.d (d a))=_
 rw [show (l.map fun a=>V.d (d a))=(l.map d).map V.d by rw [List.map_map]; rfl,CT]
noncomputable abbrev lcs (cs:List Ch):O:=.list (cs.map vc)
theorem run_leans {C:Cfg} (hm:∀ c k σ,C.O 10 [vi c,vi k] σ=some (vi (By c k))) (c:Int) (cs:List Ch) (hcs:cs.length<=60) :
 Aj C (fun fl σ'=>∃ fs:List (List Nat),fs.Sublist (cs.map (·.1))/\Gn fl=.d (dl (Am fs))/\σ'=[lcs cs,.list (fs.map vs)]) Fleans.body (Bc Fleans [vi c,.ref 0]) [lcs cs]:=by
 show Aj C _ _ [some (vi c),some (.ref 0),none,none,none,none,none] [lcs cs]
 refine Aw (v:=vi (By c 1)) (GT (Bw rfl rfl) (hm _ _ _)) ?_
 refine BE (ws:=[]) rfl ?_
 let K:Int->Option V->Option V->Option V->Ag:=fun L z4 z5 z6=>[some (vi c),some (.ref 0),some (vi L),some (.ref 1),z4,z5,z6]
 have hlen:∀ o,AV .len [lcs cs,o] [.ref 0]=some (vi cs.length):=fun o=>(len_r rfl).trans (by rw [List.length_map])
 refine G9 (l:=cs.zipIdx) (kps:=[(0,(cs.map Ch.data).map V.d)]) (fun p=>V.d (.tuple [.int (p.2:Int),Ch.data p.1])) (fun p ρ σ=>∃ fs:List (List Nat),fs.Sublist (p.map (·.1.1))/\(∃ L z4 z5 z6,ρ=K L z4 z5 z6)/\σ=[lcs cs,.list (fs.map vs)]) ?_ ?_ (fun _ _=>.inr ⟨_,rfl,rfl⟩) ⟨[],.refl _,⟨_,none,none,none,rfl⟩,rfl⟩ ?_ ?_
 ·show (listD [lcs cs,.list []] (.ref 0)).bind (fun ds=>some (F9 0 ds,Ct (.ref 0) (ds.map .d)))=_
  rw [listD_map (l:=cs) (d:=Ch.data) rfl,bs,enumV_eq,List.zipIdx_map,List.map_map]
  rfl
 ·rintro p ρ σ ⟨fs,_,_,rfl⟩ k ws hk
  obtain ⟨rfl,rfl⟩:=Prod.mk.inj (List.mem_singleton.mp hk)
  rw [List.map_map]; rfl
 ·rintro p ⟨ch,i⟩ q ρ σ hp ⟨fs,g1,⟨L,z4,z5,z6,rfl⟩,rfl⟩
  have hfl:fs.length < 100:=by
   have h1:=g1.length_le
   have h2:=congrArg List.length hp
   simp at h1 h2; omega
  show Aj C _ _ (K L (some (vi i)) (some (vc ch)) z6) [lcs cs,.list (fs.map vs)]
  have h3:=AE c (j:=3) (by decide)
  refine Aw (v:=vb (decide ((i:Int)=cs.length-1)&&decide (c.fmod 7=3))) (e_and2v (Fr rfl (An (AK (A0 rfl) (hlen _)) rfl rfl) Cc) fun _=>Fr (An rfl rfl (AM (by decide))) rfl Cc) ?_
  generalize (decide ((i:Int)=cs.length-1)&&decide (c.fmod 7=3))=last
  refine Dd (M:=fun ρ σ=>∃ fs':List (List Nat),fs'.Sublist ((p++[(ch,i)]).map (·.1.1))/\ρ=K L (some (vi i)) (some (vc ch)) (some (vb last))/\σ=[lcs cs,.list (fs'.map vs)]) ?_ ?_
  ·refine Bn (t:=last||(decide (L.fmod (2+c.fmod 3)=0)&&(decide ((cs.length:Int) < 20)||decide ((i:Int).fmod 7=(L.fdiv 4).fmod 7))))
    (Dm rfl fun _=>DD (Ay (An rfl (An rfl (An rfl rfl (AM (by decide))) rfl) (AM (by omega))) rfl Cc) fun _=>Dm (Ay (AK (A0 rfl) (hlen _)) rfl c_lt) fun _=>Ay (An rfl rfl (AM (by decide))) (An (An rfl rfl (CS (by decide))) rfl (AM (by decide))) Cc) (fun _=>?_) (fun _=>?_)
   ·refine AJ (k:=1) (y:=vs ch.1) rfl (A0 (Ai rfl rfl (Bo ch))) rfl (by rw [List.length_map]; exact Nat.lt_trans hfl (by decide)) (Ae (Ae ⟨_,rfl,fs++[ch.1],?_,rfl,?_⟩))
    ·rw [List.map_append]; exact g1.append (.refl _)
    ·rw [List.map_append]; rfl
   ·exact Ae (Ae ⟨_,rfl,fs,by rw [List.map_append]; exact g1.trans (List.sublist_append_left _ _),rfl,rfl⟩)
  rintro _ _ ⟨fs',k1,rfl,rfl⟩
  refine Aw (v:=vi (L.fdiv 3)) (An rfl rfl (CS (by decide))) ?_
  refine Bn (t:=decide (L.fdiv 3 < 100)) rfl (fun _=>?_) (fun _=>?_)
  ·exact Aw (v:=vi (By c ((i:Int)+2))) (GT (Bw rfl rfl) (hm _ _ _)) (Ae (Ae ⟨_,rfl,fs',k1,⟨_,_,_,_,rfl⟩,rfl⟩))
  ·exact Ae (Ae ⟨_,rfl,fs',k1,⟨_,_,_,_,rfl⟩,rfl⟩)
 ·rintro ρ σ ⟨fs,g1,⟨L,z4,z5,z6,rfl⟩,rfl⟩
  have g2:fs.Sublist (cs.map (·.1)):=by rw [<-idx_fst cs 0]; exact g1
  have hl:=g2.length_le
  rw [List.length_map] at hl
  exact AS (v:=.d (dl (Am fs))) (AK (A0 rfl) (DP (x:=.ref 1) (Eh rfl) (by omega))) ⟨fs,g2,rfl,rfl⟩
theorem low_cs (cs:List Ch):∀ (k:Nat) o,([lcs cs]:Ab)[k]? = some o->B4 1 o:=fun k o e=>by
 cases k with
 | zero =>
  rw [<-Option.some.inj (show some (lcs cs)=some o from e)]
  intro v hv
  obtain ⟨c,_,rfl⟩:=List.mem_map.mp hv
  exact trivial
 | succ k=>exact Ac e
theorem fn_leans {τ:Ab} (c:Int) (cs:List Ch) (hcs:cs.length<=60):∃ fs:List (List Nat),fs.Sublist (cs.map (·.1))/\FN 3 13 [vi c,.ref 0] (lcs cs::τ) (.d (dl (Am fs))) (lcs cs::τ):=by
 obtain ⟨v,σ',⟨fs,k1,k2,k3⟩,h⟩:=FN.ends (C:=C1 2 (Nat.le_refl _)) (f:=13) (fn:=Fleans) (zs:=[vi c,.ref 0]) (σ:=[lcs cs]) (R:=fun v σ'=>∃ fs:List (List Nat),fs.Sublist (cs.map (·.1))/\v=.d (dl (Am fs))/\σ'=[lcs cs,.list (fs.map vs)]) (by unfold Pg; rfl) rfl (show 1<=2 by decide) (run_leans (fun _ _ _=>rfl) c cs hcs)
 rw [k2,k3] at h
 exact ⟨fs,k1,FA.tail (σ:=[lcs cs]) (σ':=[lcs cs]) (FA.seal (σ:=[lcs cs]) (τ:=[.list (fs.map vs)]) h rfl) rfl (all_cons (Dl _ _) (all_cons (show 0 < 1 by decide) AI)) (low_cs cs)⟩
end Mine
namespace Mine
open PySem
structure GenCh (c:Ch):Prop where
 name:AF c.1=true
 few:c.2.1.length<=60
 rise:c.2.1.Pairwise (· < ·)
 deeds:c.2.2.length<=20
 ok:∀ d∈c.2.2,CO d
theorem lmarks_snoc (pre:List Ch) (c:Ch) (ls:List (List Nat)):Eo (pre++[c]) ls=Eo pre ls++(if c.1∈ls then Gs c.1 0 (adds c.2.2) else []):=by
 unfold Eo
 rw [List.filter_append,List.flatMap_append]
 congr 1
 by_cases h:c.1∈ls
 ·rw [if_pos h,List.filter_cons_of_pos (by exact decide_eq_true h)]; simp
 ·rw [if_neg h,List.filter_cons_of_neg (by simpa using h)]; rfl
theorem BJ.snoc {cs:List Ch} {c:Ch} (H:BJ cs) (hn:c.1∉cs.map (·.1)) (hl:∀ l∈c.2.1,l∈cs.map (·.1)) (hd:DOk c.1 (Eo cs c.2.1) c.2.2 0):BJ (cs++[c]):=by
 refine ⟨?_,fun pre x post e=>?_⟩
 ·rw [List.map_append,List.nodup_append]
  refine ⟨H.nd,by simp,fun a ha b hb e=>hn ?_⟩
  have:b=c.1:=by simpa using hb
  rw [<-this,<-e]; exact ha
 ·rcases List.eq_nil_or_concat post with rfl | ⟨post',y,rfl⟩
  ·have e':cs++[c]=pre++[x]:=e
   obtain ⟨rfl,e2⟩:=List.append_inj' e' rfl
   cases e2
   exact ⟨hl,hd⟩
  ·have e':cs++[c]=(pre++x::post')++[y]:=by rw [e]; simp
   obtain ⟨e1,_⟩:=List.append_inj' e' rfl
   exact H.ok _ _ _ e1
theorem k_zero:Str.ofString "0" = Tx [48]:=by decide +kernel
theorem zero_name:AF [48]=true:=by decide
noncomputable abbrev scD (ns:List Int):PyData:=.list (ns.map .int)
theorem sub_sc {σ:Ab} {ns:List Int} (i:Int) (h0:0<=i) (h:i < ns.length) (hn:ns.length<=1000):AQ (.d (scD ns)) (vi i) σ=some (vi (ns.getD i.toNat 0)):=by
 have hi:i.toNat < ns.length:=by omega
 refine EP i h0 (by omega) ?_
 rw [List.getElem?_map,List.getElem?_eq_getElem hi]
 show some (PyData.int ns[i.toNat])=some (.int (ns.getD i.toNat 0))
 rw [List.getD_eq_getElem?_getD,List.getElem?_eq_getElem hi]; rfl
noncomputable abbrev ltk (cs:List Ch):O:=.list (([48]::cs.map (·.1)).map vs)
noncomputable def chBody:S:=match DJ.body with | .cons _ (.cons _ (.cons (.for_ _ _ b) _))=>b | _=>.nil
theorem turn_changes {C:Cfg} (hn:3<=C.n) (ns:List Int) (most k:Int) (hns:ns.length<=1000) (h0:0<=k) (hk:4 * (k+1)<=ns.length) (cs:List Ch) (hcs:cs.length < 60) (hg:∀ c∈cs,GenCh c) (hok:BJ cs) (hnd:([48]::cs.map (·.1)).Nodup) (z5 z6 z7 z8 z9:Option V) :
 Aj C (fun fl σ'=>∃ ρ',fl=.next ρ'/\∃ (c:Ch) (z5 z6 z7 z8 z9:Option V),GenCh c/\BJ (cs++[c])/\([48]::(cs++[c]).map (·.1)).Nodup/\ρ'=[some (.d (scD ns)),some (vi most),some (.ref 0),some (.ref 1),some (vi k),z5,z6,z7,z8,z9]/\σ'=[lcs (cs++[c]),ltk (cs++[c])])
  chBody [some (.d (scD ns)),some (vi most),some (.ref 0),some (.ref 1),some (vi k),z5,z6,z7,z8,z9] [lcs cs,ltk cs]:=by
 have hnm:∀ x∈([48]::cs.map (·.1)),AF x=true:=by
  intro x hx
  rcases List.mem_cons.mp hx with rfl | hx
  ·exact zero_name
  ·obtain ⟨c,hc,rfl⟩:=List.mem_map.mp hx
   exact (hg c hc).name
 have m4:∀ {e σ z5 z6 z7 z8 z9},(ev C.O (.bin .Mult (.cst (.int 4)) (.var 4))).v [some (.d (scD ns)),some (vi most),some (.ref 0),some (.ref 1),some (vi k),z5,z6,z7,z8,z9] σ=e ↔ some (vi (4 * k))=e:=by
  intro e σ z5 z6 z7 z8 z9
  rw [An rfl rfl (b_mul (sm4 k))]
 have cell:∀ (j:Int) {σ z5 z6 z7 z8 z9},0<=j->j < 4->(ev C.O (.sub (.var 0) (.bin .Add (.bin .Mult (.cst (.int 4)) (.var 4)) (.cst (.int j))))).v [some (.d (scD ns)),some (vi most),some (.ref 0),some (.ref 1),some (vi k),z5,z6,z7,z8,z9] σ=some (vi (ns.getD (4 * k+j).toNat 0)):=fun j {σ z5 z6 z7 z8 z9} j0 j4 =>
  Ai rfl (An (m4.mpr rfl) rfl rfl) (sub_sc (4 * k+j) (by omega) (by omega) hns)
 obtain ⟨t,t1,t2,t3⟩:=fn_name (σ:=[lcs cs,ltk cs]) (x:=.ref 1) (ns.getD (4 * k).toNat 0) ([48]::cs.map (·.1)) (Eh rfl) hnm (by rw [List.length_cons,List.length_map]; omega)
 refine AX (v:=vs t) rfl (.fcall ((Ad C.ok _).row (Bw (Ai rfl (m4.mpr rfl) (sub_sc (4 * k) (by omega) (by omega) hns)) rfl)) (t3.more hn)) ?_
 refine AJ (k:=1) (y:=vs t) rfl rfl rfl (by rw [List.length_map,List.length_cons,List.length_map]; exact Nat.lt_trans (Nat.succ_lt_succ hcs) (by decide)) ?_
 obtain ⟨fs,f1,f2⟩:=fn_leans (τ:=[.list (([48]::cs.map (·.1)).map vs++[vs t])]) (ns.getD (4 * k+1).toNat 0) cs (Nat.le_of_lt hcs)
 refine AX (v:=.d (dl (Am fs))) rfl (.fcall ((Ad C.ok _).row (Bw (cell 1 (by decide) (by decide)) rfl)) (f2.more hn)) ?_
 refine Aw (v:=.d (.list [])) rfl ?_
 have hfl:(Am fs).length<=60:=by
  rw [(Ah fs).length_eq]
  have:=f1.length_le
  rw [List.length_map] at this; omega
 refine G9 (l:=cs) (kps:=[(0,cs.map vc)]) vc (fun pre ρ σ=>(∃ ms,ms=Eo pre (Am fs)/\ms.length<=20 * pre.length/\∃ z8,ρ=[some (.d (scD ns)),some (vi most),some (.ref 0),some (.ref 1),some (vi k),some (vs t),some (.d (dl (Am fs))),some (.d (dms ms)),z8,z9])/\σ=[lcs cs,.list (([48]::cs.map (·.1)).map vs++[vs t])]) rfl ?_ (fun _ _=>.inl rfl) ⟨⟨[],rfl,Nat.zero_le _,_,rfl⟩,rfl⟩ ?_ ?_
 ·rintro p ρ σ ⟨_,rfl⟩ k ws hk
  obtain ⟨rfl,rfl⟩:=Prod.mk.inj (List.mem_singleton.mp hk)
  rfl
 ·rintro p c q ρ σ hp ⟨⟨ms,m1,m2,z8,rfl⟩,rfl⟩
  have hc:GenCh c:=hg c (by rw [hp]; simp)
  have hpl:p.length < 60:=by have:=congrArg List.length hp; simp at this; omega
  have hsn:=lmarks_snoc p c (Am fs)
  have hjd:=ER c.2.2
  have hcd:=hc.deeds
  refine Bn (t:=decide (c.1∈Am fs)) (Ay (Ai rfl rfl (Bo c)) rfl (FW _ _)) (fun h=>?_) (fun h=>?_)
  ·have h:=of_decide_eq_true h
   refine AX (v:=.d (dms (ms++Gs c.1 0 (adds c.2.2)))) rfl (Fo (ws:=((ms++Gs c.1 0 (adds c.2.2)).map fun m=>AP (some m)).map V.d) (.bin ((Ad C.ok (.var 7)).v rfl) (.fcall ((Ad C.ok _).row (A0 rfl)) ((fn_marks c (by omega)).more (Nat.le_trans (by decide) hn))) (catL_ok ?_)) (FL _ ?_)) (Ae (Ae ⟨_,rfl,⟨_,by rw [hsn,if_pos h,m1],?_,_,rfl⟩,rfl⟩))
   ·show (if _ then _ else _)=_
    rw [if_pos (by simp [line,DQ]; omega)]
    simp [List.map_append]
   ·simp [line,DQ]; omega
   ·simp [DQ]; omega
  ·exact Ae (Ae ⟨_,rfl,⟨ms,by rw [hsn,if_neg (of_decide_eq_false h),List.append_nil]; exact m1,by rw [List.length_append]; omega,_,rfl⟩,rfl⟩)
 rintro _ _ ⟨⟨ms,m1,m2,z8,rfl⟩,rfl⟩
 have h5:=AE (ns.getD (4 * k+3).toNat 0) (j:=5) (by decide)
 refine Aw (v:=vi ((ns.getD (4 * k+3).toNat 0).fmod 5)) (An (cell 3 (by decide) (by decide)) rfl (AM (by decide))) ?_
 refine Dd (M:=fun ρ σ=>(∃ m:Int,0<=m/\m<=20/\ρ=[some (.d (scD ns)),some (vi most),some (.ref 0),some (.ref 1),some (vi k),some (vs t),some (.d (dl (Am fs))),some (.d (dms ms)),z8,some (vi m)])/\σ=[lcs cs,.list (([48]::cs.map (·.1)).map vs++[vs t])]) ?_ ?_
 ·refine Bn (t:=decide (((ns.getD (4 * k+3).toNat 0).fdiv 5).fmod 16=1)) (Ay (An (An (cell 3 (by decide) (by decide)) rfl (CS (by decide))) rfl (AM (by decide))) rfl Cc) (fun h=>?_) (fun h=>?_)
  ·have h16:=AE ((ns.getD (4 * k+3).toNat 0).fdiv 80) (j:=16) (by decide)
   exact Aw (v:=vi (20-((ns.getD (4 * k+3).toNat 0).fdiv 80).fmod 16)) (An rfl (An (An (cell 3 (by decide) (by decide)) rfl (CS (by decide))) rfl (AM (by decide))) rfl) (Ae (Ae ⟨_,rfl,⟨_,by omega,by omega,rfl⟩,rfl⟩))
  ·exact Ae (Ae ⟨_,rfl,⟨_,h5.1,by omega,rfl⟩,rfl⟩)
 rintro _ _ ⟨⟨m,hm0,hm1,rfl⟩,rfl⟩
 obtain ⟨ds,d1,d2,d3,d4⟩:=fn_deeds t (ns.getD (4 * k+2).toNat 0) m ms hm0 (by omega) (by omega)
 refine Bv (v:=A4) (σ':=[.list (cs.map vc++[vc (t,Am fs,ds)]),.list (([48]::cs.map (·.1)).map vs++[vs t])]) rfl (.lmeth (k:=0) (ws:=cs.map vc) Au slot_list_append type_list_append ((Ad C.ok (.var 2)).v rfl) (.cons (.tup (ds:=[.str (Tx t),dl (Am fs),dds ds]) (.cons ((Ad C.ok (.var 5)).v rfl) (.cons ((Ad C.ok (.var 6)).v rfl) (.cons (.fcall ((Ad C.ok _).row (e_row rfl (e_r3 (cell 2 (by decide) (by decide)) rfl rfl))) ((d4 _).more hn)) .nil))) (show 3<=line by decide)) .nil) rfl rfl (m_append (by rw [List.length_map]; exact Nat.lt_trans hcs (by decide)))) ?_
 have hfn:∀ l∈Am fs,l∈cs.map (·.1):=fun l hl=>f1.subset ((Ah fs).mem_iff.mp hl)
 have hcn:t∉cs.map (·.1):=fun h=>t2 (.tail _ h)
 refine Ae ⟨_,rfl,(t,Am fs,ds),some (vs t),some (.d (dl (Am fs))),some (.d (dms ms)),z8,some (vi m),⟨t1,hfl,Be fs (f1.nodup hok.nd),by rw [d1]; omega,d3⟩,hok.snoc hcn hfn (m1▸d2),?_,rfl,?_⟩
 ·have:[48]::(cs++[(t,Am fs,ds)]).map (·.1)=([48]::cs.map (·.1))++[t]:=by simp
  rw [this,List.nodup_append]
  exact ⟨hnd,by simp,fun a ha b hb e=>t2 (by rw [<-List.mem_singleton.mp hb,<-e]; exact ha)⟩
 ·simp [lcs,ltk,List.map_append]
theorem min1 (m:Nat) (most:Int) (hm:m<=1000) (h0:0<=most) (h1:most<=60):0<=(if most < (m:Int).fdiv 4 then most else (m:Int).fdiv 4)/\(if most < (m:Int).fdiv 4 then most else (m:Int).fdiv 4)<=most/\4 * (if most < (m:Int).fdiv 4 then most else (m:Int).fdiv 4)<=m:=by
 rw [Int.fdiv_eq_ediv_of_nonneg _ (by decide)]
 split <;> omega
theorem run_changes {C:Cfg} (hn:3<=C.n) (ns:List Int) (most:Int) (hns:ns.length<=1000) (h0:0<=most) (h1:most<=60) :
 Aj C (fun fl σ'=>∃ cs:List Ch,(cs.length:Int)<=most/\(∀ c∈cs,GenCh c)/\BJ cs/\[48]∉cs.map (·.1)/\Gn fl=.ref 0/\σ'=[lcs cs,ltk cs]) DJ.body (Bc DJ [.d (scD ns),vi most]) []:=by
 show Aj C _ (.cons _ (.cons _ (.cons (.for_ [4] _ chBody) _))) [some (.d (scD ns)),some (vi most),none,none,none,none,none,none,none,none] []
 refine BE (ws:=[]) rfl ?_
 refine BE (ws:=[vs [48]]) (by show (ev C.O (.lst _)).nl _ _=_; exact congrArg (fun s=>some [V.d (.str s)]) k_zero) ?_
 obtain ⟨m0,m1,m2⟩:=min1 ns.length most hns h0 h1
 have hr:(ev C.O (.cons (.bi .min (.cons (.bin .FloorDiv (.bi .len (.cons (.var 0) .nil)) (.cst (.int 4))) (.cons (.var 1) .nil))) .nil)).row [some (.d (scD ns)),some (vi most),some (.ref 0),some (.ref 1),none,none,none,none,none,none] [.list [],.list [vs [48]]]=some [vi (if most < (ns.length:Int).fdiv 4 then most else (ns.length:Int).fdiv 4)] :=
  A0 (AK (Bw (An (AK (A0 rfl) (ED.trans (by rw [List.length_map]))) rfl (CS (by decide))) rfl) rfl)
 generalize (if most < (ns.length:Int).fdiv 4 then most else (ns.length:Int).fdiv 4)=m at m0 m1 m2 hr
 refine Bu (l:=List.range m.toNat) (fun j:Nat=>vi (j:Int)) (fun pre ρ σ=>∃ cs:List Ch,cs.length=pre.length/\(∀ c∈cs,GenCh c)/\BJ cs/\([48]::cs.map (·.1)).Nodup/\(∃ z4 z5 z6 z7 z8 z9,ρ=[some (.d (scD ns)),some (vi most),some (.ref 0),some (.ref 1),z4,z5,z6,z7,z8,z9])/\σ=[lcs cs,ltk cs])
  (it_rg hr (by omega) (by omega)) ⟨[],rfl,(fun c h=>nomatch h),⟨List.nodup_nil,fun pre c post e=>by simp at e⟩,by simp,⟨none,none,none,none,none,none,rfl⟩,rfl⟩ ?_ ?_
 ·rintro p j q ρ σ hp ⟨cs,g0,g1,g2,g3,⟨z4,z5,z6,z7,z8,z9,rfl⟩,rfl⟩
  have hj:j < m.toNat:=by
   have:j∈List.range m.toNat:=by rw [hp]; simp
   exact List.mem_range.mp this
  have hl:p.length < 60:=by
   have:=congrArg List.length hp
   simp at this; omega
  refine (turn_changes hn ns most (j:Int) hns (Int.natCast_nonneg _) (by omega) cs (by omega) g1 g2 g3 z5 z6 z7 z8 z9).mono fun fl σ' h=>?_
  obtain ⟨ρ',e,c,y5,y6,y7,y8,y9,k1,k2,k3,k4,k5⟩:=h
  refine ⟨ρ',e,cs++[c],by rw [List.length_append,List.length_append,g0]; rfl,fun x hx=>?_,k2,k3,⟨_,_,_,_,_,_,k4⟩,k5⟩
  rcases List.mem_append.mp hx with hx | hx
  ·exact g1 x hx
  ·rw [List.mem_singleton.mp hx]; exact k1
 ·rintro ρ σ ⟨cs,g0,g1,g2,g3,⟨z4,z5,z6,z7,z8,z9,rfl⟩,rfl⟩
  refine AS (v:=.ref 0) rfl ⟨cs,?_,g1,g2,(List.nodup_cons.mp g3).1,rfl,rfl⟩
  rw [List.length_range] at g0; omega
theorem fn_changes (ns:List Int) (most:Int) (hns:ns.length<=1000) (h0:0<=most) (h1:most<=60):∃ cs:List Ch,(cs.length:Int)<=most/\(∀ c∈cs,GenCh c)/\BJ cs/\[48]∉cs.map (·.1)/\∀ σ,FN 4 16 [.d (scD ns),vi most] σ (.d (.list (cs.map Ch.data))) σ:=by
 obtain ⟨v,σ',⟨cs,k1,k2,k3,k6,k4,k5⟩,h⟩:=FN.ends (C:=C0 3) (f:=16) (fn:=DJ) (zs:=[.d (scD ns),vi most]) (σ:=[]) (R:=fun v σ'=>∃ cs:List Ch,(cs.length:Int)<=most/\(∀ c∈cs,GenCh c)/\BJ cs/\[48]∉cs.map (·.1)/\v=.ref 0/\σ'=[lcs cs,ltk cs]) (by unfold Pg; rfl) rfl (show 1<=3 by decide) (run_changes (Nat.le_refl _) ns most hns h0 h1)
 rw [k4,k5] at h
 exact ⟨cs,k1,k2,k3,k6,fun σ=>(FA.seal (σ:=[]) (d:=.list (cs.map Ch.data)) h ⟨_,rfl,Nat.zero_le _,by rw [List.map_map]; rfl⟩).any (all_cons (Dl _ _) (all_cons (Dl _ _) AI))⟩
end Mine
namespace Mine
open PySem
theorem ne_int {σ:Ab} {i j:Int}:Bk .NotEq (vi i) (vi j) σ=some (!decide (i=j)):=by
 show Fc (Bk .Eq (vi i) (vi j) σ)=_
 rw [Cc]; rfl
end Mine
namespace Mine
open PySem
theorem CA (n:Nat) (a b:List Nat):eqN n (.str (Tx a)) (.str (Tx b))=some (decide (a=b)):=by
 rw [<-Tx_beq]
 cases n <;> rfl
theorem eqn_int (n:Nat) (a b:Int):eqN n (.int a) (.int b)=some (decide (a=b)):=by
 have h:(a == b)=decide (a=b):=by
  by_cases e:a=b
  ·rw [decide_eq_true e,beq_iff_eq.mpr e]
  ·rw [decide_eq_false e,beq_eq_false_iff_ne.mpr e]
 rw [<-h]
 cases n <;> rfl
def EqT {α:Type} (f:PyData->PyData->Option Bool) (g:α->PyData):Prop:=∀ a b,∃ r,f (g a) (g b)=some r/\(a=b->r=true)
theorem eqs_map {α:Type} {f:PyData->PyData->Option Bool} {g:α->PyData} (h:EqT f g):∀ l l':List α,∃ r,CB f (l.map g) (l'.map g)=some r/\(l=l'->r=true)
 | [],[]=>⟨true,rfl,fun _=>rfl⟩
 | [],_::_=>⟨false,rfl,fun e=>nomatch e⟩
 | _::_,[]=>⟨false,rfl,fun e=>nomatch e⟩
 | a::l,b::l'=>by
  obtain ⟨r,h1,h2⟩:=h a b
  obtain ⟨r',h3,h4⟩:=eqs_map h l l'
  refine ⟨r&&r',?_,fun e=>?_⟩
  ·show (f (g a) (g b)).bind _=_
   rw [h1,bs,h3]; rfl
  ·obtain ⟨e1,e2⟩:=List.cons.inj e
   rw [h2 e1,h4 e2]; rfl
theorem GM {α:Type} {n:Nat} {g:α->PyData} (h:EqT (eqN n) g):EqT (eqN (n+1)) fun l:List α=>.list (l.map g):=fun l l'=>by
 show ∃ r,(if (l.map g).length=(l'.map g).length then CB (eqN n) (l.map g) (l'.map g) else some false)=some r/\_
 obtain ⟨r,h1,h2⟩:=eqs_map h l l'
 by_cases e:(l.map g).length=(l'.map g).length
 ·rw [if_pos e]; exact ⟨r,h1,h2⟩
 ·rw [if_neg e]; exact ⟨false,rfl,fun q=>absurd (congrArg (fun l=>(l.map g).length) q) e⟩
theorem eqt_str (n:Nat):EqT (eqN n) fun t:List Nat=>.str (Tx t):=fun a b=>⟨_,CA n a b,fun e=>decide_eq_true e⟩
theorem eqn_mk (n:Nat) (a b:Mk):eqN (n+1) (AP (some a)) (AP (some b))=some (decide (a=b)):=by
 show (eqN n (.str (Tx a.1)) (.str (Tx b.1))).bind (fun x=>((eqN n (.int a.2) (.int b.2)).bind fun y=>(some true).bind fun z=>some (y&&z)).bind fun y=>some (x&&y))=_
 rw [CA,eqn_int]
 show some (decide (a.1=b.1)&&(decide (a.2=b.2)&&true))=_
 congr 1
 rw [Bool.and_true,<-Bool.decide_and]
 exact decide_eq_decide.mpr Prod.ext_iff.symm
theorem eqt_mark (n:Nat):EqT (eqN (n+1)) AP:=fun a b=>by
 cases a with
 | none=>cases b with
  | none=>exact ⟨true,rfl,fun _=>rfl⟩
  | some b=>exact ⟨false,rfl,fun e=>nomatch e⟩
 | some a=>cases b with
  | none=>exact ⟨false,rfl,fun e=>nomatch e⟩
  | some b=>exact ⟨_,eqn_mk n a b,fun e=>decide_eq_true (Option.some.inj e)⟩
theorem eqt_deed (n:Nat):EqT (eqN (n+2)) Deed.data:=fun a b=>by
 obtain ⟨r,h1,h2⟩:=eqt_mark n a.mark b.mark
 have key:∀ (x y:List PyData) (r':Bool),CB (eqN (n+1)) x y=some r'->eqN (n+2) (.tuple (.str (Tx a.word)::AP a.mark::x)) (.tuple (.str (Tx b.word)::AP b.mark::y))=some (decide (a.word=b.word)&&(r&&r')):=fun x y r' e=>by
  show (eqN (n+1) (.str (Tx a.word)) (.str (Tx b.word))).bind (fun p=>((eqN (n+1) (AP a.mark) (AP b.mark)).bind fun q=>(CB (eqN (n+1)) x y).bind fun z=>some (q&&z)).bind fun q=>some (p&&q))=_
  rw [CA,h1,e]; rfl
 unfold Deed.data
 cases ha:a.text with
 | none=>cases hb:b.text with
  | none=>exact ⟨_,key [] [] true rfl,fun e=>by rw [decide_eq_true (congrArg Deed.word e),h2 (congrArg Deed.mark e)]; rfl⟩
  | some l=>exact ⟨_,key [] [_] false rfl,fun e=>by rw [e,hb] at ha; cases ha⟩
 | some k=>cases hb:b.text with
  | none=>exact ⟨_,key [_] [] false rfl,fun e=>by rw [e,hb] at ha; cases ha⟩
  | some l=>exact ⟨_,key [.str (Tx k)] [.str (Tx l)] (decide (k=l)&&true) (by
   show (eqN (n+1) (.str (Tx k)) (.str (Tx l))).bind (fun a=>(some true).bind fun b=>some (a&&b))=_
   rw [CA]; rfl),fun e=>by
   rw [decide_eq_true (congrArg Deed.word e),h2 (congrArg Deed.mark e)]
   have:k=l:=by rw [e,hb] at ha; exact (Option.some.inj ha).symm
   rw [decide_eq_true this]; rfl⟩
theorem eqn_ch (a b:Ch):∃ r,eqN A2 (Ch.data a) (Ch.data b)=some r/\(a=b->r=true)/\(a.1≠b.1->r=false):=by
 obtain ⟨r,h1,h2⟩:=GM (eqt_str 38) a.2.1 b.2.1
 obtain ⟨r',h3,h4⟩:=GM (eqt_deed 36) a.2.2 b.2.2
 refine ⟨decide (a.1=b.1)&&(r&&(r'&&true)),?_,fun e=>?_,fun e=>?_⟩
 ·show (eqN 39 (.str (Tx a.1)) (.str (Tx b.1))).bind (fun p=>((eqN 39 (dl a.2.1) (dl b.2.1)).bind fun q=>((eqN 39 (dds a.2.2) (dds b.2.2)).bind fun u=>(some true).bind fun w=>some (u&&w)).bind fun u=>some (q&&u)).bind fun q=>some (p&&q))=_
  rw [CA,h1,h3]; rfl
 ·rw [decide_eq_true (congrArg (·.1) e),h2 (congrArg (·.2.1) e),h4 (congrArg (·.2.2) e)]; rfl
 ·rw [decide_eq_false e]; rfl
theorem in_chs (c:Ch):∀ l:List Ch,∃ q,inD (Ch.data c) (l.map Ch.data)=some q
 | []=>⟨false,rfl⟩
 | a::l=>by
  obtain ⟨r,h1,_⟩:=eqn_ch a c
  obtain ⟨q,h2⟩:=in_chs c l
  exact ⟨r||q,by show (eqN A2 (Ch.data a) (Ch.data c)).bind _=_; rw [h1,bs,h2]; rfl⟩
noncomputable def oth (c:Ch) (l:List Ch):List Ch:=l.filter fun x=>!decide (x.1=c.1)
theorem oth_self {c:Ch} {l:List Ch} (h:c.1∉l.map (·.1)):oth c (c::l)=l:=by
 unfold oth
 rw [List.filter_cons_of_neg (by simp)]
 refine List.filter_eq_self.mpr fun x hx=>?_
 have:x.1≠c.1:=fun q=>h (by rw [<-q]; exact List.mem_map_of_mem hx)
 simp [this]
theorem oth_ne {a c:Ch} {l:List Ch} (h:a.1≠c.1):oth c (a::l)=a::oth c l:=by
 unfold oth
 exact List.filter_cons_of_pos (by simp [h])
theorem idx_chs (c:Ch):∀ l:List Ch,c∈l->(l.map (·.1)).Nodup->(∃ j,FO (Ch.data c) (l.map Ch.data)=some j/\l.eraseIdx j=oth c l)/\(c::oth c l).Perm l
 | [],h,_=>nomatch h
 | a::l,h,nd=>by
  obtain ⟨r,h1,h2,h3⟩:=eqn_ch a c
  have nd':=List.nodup_cons.mp nd
  by_cases e:a=c
  ·subst e
   have e2:=oth_self (c:=a) nd'.1
   refine ⟨⟨0,?_,?_⟩,by rw [e2]⟩
   ·show (eqN A2 (Ch.data a) (Ch.data a)).bind _=_
    rw [h1,bs,h2 rfl]; rfl
   ·rw [e2]; rfl
  ·have hc:c∈l:=(List.mem_cons.mp h).resolve_left fun q=>e q.symm
   have hne:a.1≠c.1:=fun q=>nd'.1 (by show a.1∈l.map (·.1); rw [q]; exact List.mem_map_of_mem hc)
   obtain ⟨⟨j,j1,j2⟩,j3⟩:=idx_chs c l hc nd'.2
   refine ⟨⟨j+1,?_,?_⟩,by rw [oth_ne hne]; exact (List.Perm.swap ..).trans (j3.cons a)⟩
   ·show (eqN A2 (Ch.data a) (Ch.data c)).bind _=_
    rw [h1,bs,h3 hne]
    show (FO (Ch.data c) (l.map Ch.data)).bind _=_
    rw [j1]; rfl
   ·rw [List.eraseIdx_cons_succ,j2,oth_ne hne]
theorem all_bools (bl:List Bool) (σ:Ab):AV .all σ [.d (.list (bl.map .bool))]=some (vb (bl.all id)):=by
 have h:BV EM ((bl.map PyData.bool).map V.d)=some bl:=by
  induction bl with
  | nil=>rfl
  | cons a l ih=>show (BV EM ((l.map PyData.bool).map V.d)).bind _=_; rw [ih]; rfl
 show (BV EM ((bl.map PyData.bool).map V.d)).bind _=_
 rw [h]; rfl
def Cl (cs:List Ch):Prop:=∀ pre c post,cs=pre++c::post->∀ l∈c.2.1,l∈pre.map (·.1)
theorem Cl.snoc {cs:List Ch} {c:Ch} (h:Cl cs) (hc:∀ l∈c.2.1,l∈cs.map (·.1)):Cl (cs++[c]):=fun pre x post e=>by
 rcases List.eq_nil_or_concat post with rfl | ⟨post',y,rfl⟩
 ·have e':cs++[c]=pre++[x]:=e
  obtain ⟨rfl,e2⟩:=List.append_inj' e' rfl
  rw [<-(List.cons.inj e2).1]; exact hc
 ·have e':cs++[c]=(pre++x::post')++[y]:=by rw [e]; simp
  obtain ⟨e1,_⟩:=List.append_inj' e' rfl
  exact h _ _ _ e1
structure Fv (cs L F:List Ch):Prop where
 sub:L.Sublist cs
 perm:(F++L).Perm cs
 topo:Cl F
theorem Fv.ready {cs:List Ch} (H:BJ cs) {c:Ch} {L F:List Ch} (h:Fv cs (c::L) F):∀ l∈c.2.1,l∈F.map (·.1):=fun l hl=>by
 have hc:c∈cs:=h.sub.subset (.head _)
 obtain ⟨pre,post,rfl⟩:=List.append_of_mem hc
 obtain ⟨x,hx,rfl⟩:=List.mem_map.mp ((H.ok pre c post rfl).1 l hl)
 have nd:(pre++c::post).Nodup:=(List.pairwise_map.mp H.nd).imp fun h e=>h (congrArg (·.1) e)
 have nd':=List.nodup_append.mp nd
 rcases List.mem_append.mp (h.perm.mem_iff.mpr (List.mem_append_left _ hx)) with q | q
 ·exact List.mem_map_of_mem q
 ·exfalso
  have hs:(c::L).Sublist (c::post):=by
   rcases List.sublist_append_iff.mp h.sub with ⟨l1,l2,e,s1,s2⟩
   cases l1 with
   | nil=>rw [show c::L=l2 from e]; exact s2
   | cons y l1 =>
    obtain ⟨e1,_⟩:=List.cons.inj (show c::L=y::(l1++l2) from e)
    exact absurd rfl (nd'.2.2 c (e1▸s1.subset (.head _)) c (.head _))
  exact nd'.2.2 x hx x (hs.subset q) rfl
theorem Fv.take {cs L F:List Ch} (hn:(cs.map (·.1)).Nodup) (h:Fv cs L F) {c:Ch} (hc:c∈L) (hl:∀ l∈c.2.1,l∈F.map (·.1)):Fv cs (oth c L) (F++[c])/\(oth c L).length+1=L.length:=by
 have hp:=(idx_chs c L hc ((h.sub.map _).nodup hn)).2
 refine ⟨⟨List.filter_sublist.trans h.sub,?_,h.topo.snoc hl⟩,hp.length_eq⟩
 rw [List.append_assoc]
 exact (hp.append_left F).trans h.perm
end Mine
namespace Mine
open PySem
theorem Cv {O:Orc} {ρ:Ag} {σ:Ab} {es:E} {xs:List V} {b:Bi} {p:Bool} (h1:(ev O es).row ρ σ=some xs) (h2:AV b σ xs=some (vb p)):(ev O (.bi b es)).t ρ σ=some p:=by rw [t_bi,h1,bs,h2]; rfl
noncomputable def isPos (m:Nat):Bool:=match m with | 0=>false | _+1=>true
theorem Fp {α β:Type} (f:α->β):∀ (l:List α) (j:Nat),(l.map f).eraseIdx j=(l.eraseIdx j).map f
 | [],_=>rfl
 | _::_,0=>rfl
 | a::l,j+1=>congrArg (f a :: ·) (Fp f l j)
noncomputable def rdy (F:List Ch) (c:Ch):Bool:=(c.2.1.map fun l=>decide (l∈F.map (·.1))).all id
theorem rdy_iff {F:List Ch} {c:Ch}:rdy F c=true ↔ ∀ l∈c.2.1,l∈F.map (·.1):=by
 unfold rdy
 rw [List.all_map,List.all_eq_true]
 exact forall_congr' fun l=>forall_congr' fun _=>decide_eq_true_iff
theorem run_turned {C:Cfg} (hm:∀ c k σ,C.O 10 [vi c,vi k] σ=some (vi (By c k))) (cs:List Ch) (cell:Int) (hcs:cs.length<=60) (hg:∀ c∈cs,GenCh c) (H:BJ cs) :
 Aj C (fun fl σ'=>∃ F,F.Perm cs/\Cl F/\Gn fl=.ref 2/\σ'=[lcs [],.list ((F.map (·.1)).map vs),lcs F]) Gc.body (Bc Gc [.d (.list (cs.map Ch.data)),vi cell]) []:=by
 show Aj C _ _ [some (.d (.list (cs.map Ch.data))),some (vi cell),none,none,none,none,none,none] []
 refine BE (ws:=cs.map vc) ?_ ?_
 ·show (some ((cs.map Ch.data).map V.d)).bind (fun ws=>if ws.length<=line then some ws else none)=_
  rw [bs,if_pos (by simp [line]; omega),List.map_map]; rfl
 refine BE (ws:=[]) rfl ?_
 refine BE (ws:=[]) rfl ?_
 let K:Option V->Option V->Option V->Ag:=fun z5 z6 z7=>[some (.d (.list (cs.map Ch.data))),some (vi cell),some (.ref 0),some (.ref 1),some (.ref 2),z5,z6,z7]
 let St:List Ch->List Ch->Ab:=fun L F=>[lcs L,.list ((F.map (·.1)).map vs),lcs F]
 refine go_while (fun m ρ σ=>∃ L F,L.length=m/\Fv cs L F/\(∃ z5 z6 z7,ρ=K z5 z6 z7)/\σ=St L F) isPos cs.length ⟨cs,[],rfl,⟨.refl _,.refl _,fun pre c post e=>by simp at e⟩,⟨none,none,none,rfl⟩,rfl⟩ ?_ rfl ?_ ?_
 ·rintro m ρ σ ⟨L,F,rfl,T,⟨z5,z6,z7,rfl⟩,rfl⟩
  show some (!(L.map vc).isEmpty)=_
  cases L <;> rfl
 ·rintro m ρ σ ⟨L,F,hL,T,⟨z5,z6,z7,rfl⟩,rfl⟩ _
  have hLl:L.length<=60:=Nat.le_trans T.sub.length_le hcs
  have hFl:F.length<=60:=by have:=T.perm.length_eq; rw [List.length_append] at this; omega
  refine go_comp (ds:=(L.filter (rdy F)).map Ch.data) ?_ ?_
  ·rw [show C.nl _ _ _=some ((L.filter (rdy F)).map vc) from BP (l:=L) (kps:=[(0,L.map vc)]) vc (rdy F) vc rfl (Nat.le_trans hLl (by decide)) (fun c hc=>?_) (fun c _ _=>rfl),List.map_map]
   ·rfl
   ·have hcl:c.2.1.length<=line:=Nat.le_trans (hg c (T.sub.subset hc)).few (by decide)
    refine e_ts1 (Cv (A0 (EL (l:=c.2.1) (fun t=>.str (Tx t)) (fun _=>true) (fun l=>.bool (decide (l∈F.map (·.1)))) (Fk (Ai rfl rfl (DO c)) rfl) hcl (fun _ _=>rfl) (fun l _ _=>Fr rfl rfl (show inV (St L F) (vs l) (.ref 1)=_ from in_ref (l:=F.map (·.1)) rfl)))) ?_)
    rw [Bl,show (c.2.1.map fun l=>PyData.bool (decide (l∈F.map (·.1))))=(c.2.1.map fun l=>decide (l∈F.map (·.1))).map PyData.bool by rw [List.map_map]; rfl]
    exact all_bools _ _
  have hpos:0 < (L.filter (rdy F)).length:=by
   cases L with
   | nil=>cases hL
   | cons c L=>rw [List.filter_cons_of_pos (rdy_iff.mpr (T.ready H))]; exact Nat.succ_pos _
  have hrl:∀ σ,AV .len σ [.d (.list ((L.filter (rdy F)).map Ch.data))]=some (vi (L.filter (rdy F)).length):=fun σ=>ED.trans (by rw [List.length_map])
  have hat:=AE (By cell L.length) (j:=((L.filter (rdy F)).length:Int)) (by omega)
  obtain ⟨c,hc⟩:∃ c,(L.filter (rdy F))[((By cell L.length).fmod (L.filter (rdy F)).length).toNat]? = some c:=⟨_,List.getElem?_eq_getElem (by omega)⟩
  have hfl:(L.filter (rdy F)).length<=60:=Nat.le_trans (List.length_filter_le _ _) hLl
  have hlen:AV .len (St L F) [.ref 0]=some (vi L.length):=(len_r rfl).trans (by rw [List.length_map])
  refine Aw (v:=vc c) (Ai rfl (An (GT (Bw rfl (AK (A0 rfl) hlen)) (hm _ _ _)) (AK (A0 rfl) (hrl _)) (AM (by omega))) (EP _ hat.1 (by omega) (by rw [List.getElem?_map,hc]; rfl))) ?_
  have hcm:=List.mem_filter.mp (List.mem_of_getElem? hc)
  have hnL:(L.map (·.1)).Nodup:=(T.sub.map _).nodup H.nd
  obtain ⟨q,hq⟩:=in_chs c L
  obtain ⟨⟨j,j1,j2⟩,_⟩:=idx_chs c L hcm.1 hnL
  obtain ⟨T',hl'⟩:=T.take H.nd hcm.1 (rdy_iff.mp hcm.2)
  refine go_remove (k:=0) (d:=Ch.data c) (ds:=L.map Ch.data) rfl rfl (by show some (lcs L)=_; rw [List.map_map]; rfl) hq j1 ?_
  rw [show (((L.map Ch.data).map V.d).eraseIdx j)=(oth c L).map vc by rw [List.map_map,<-j2]; exact Fp _ _ _]
  refine AJ (k:=1) (y:=vs c.1) rfl (A0 (Ai rfl rfl (Bo c))) rfl (by simp [line]; omega) ?_
  refine AJ (k:=2) (y:=vc c) rfl rfl rfl (by simp [line]; omega) (Ae ⟨_,rfl,oth c L,F++[c],by omega,T',⟨_,_,_,rfl⟩,?_⟩)
  simp [St,lcs,List.map_append]
 ·rintro m ρ σ ⟨L,F,rfl,T,⟨z5,z6,z7,rfl⟩,rfl⟩ h
  cases L with
  | cons _ _=>cases h
  | nil=>exact AS (v:=.ref 2) rfl ⟨F,by have:=T.perm; rwa [List.append_nil] at this,T.topo,rfl,rfl⟩
theorem fn_turned (cs:List Ch) (cell:Int) (hcs:cs.length<=60) (hg:∀ c∈cs,GenCh c) (H:BJ cs):∃ F,F.Perm cs/\Cl F/\∀ σ,FN 3 18 [.d (.list (cs.map Ch.data)),vi cell] σ (.d (.list (F.map Ch.data))) σ:=by
 obtain ⟨v,σ',⟨F,k1,k2,k3,k4⟩,h⟩:=FN.ends (C:=C1 2 (Nat.le_refl _)) (f:=18) (fn:=Gc) (zs:=[.d (.list (cs.map Ch.data)),vi cell]) (σ:=[]) (R:=fun v σ'=>∃ F,F.Perm cs/\Cl F/\v=.ref 2/\σ'=[lcs [],.list ((F.map (·.1)).map vs),lcs F]) (by unfold Pg; rfl) rfl (show 1<=2 by decide) (run_turned (fun _ _ _=>rfl) cs cell hcs hg H)
 rw [k3,k4] at h
 exact ⟨F,k1,k2,fun σ=>(FA.seal (σ:=[]) (d:=.list (F.map Ch.data)) h ⟨_,rfl,Nat.zero_le _,by show some (lcs F)=_; rw [List.map_map]; rfl⟩).any (all_cons (Dl _ _) (all_cons (Dl _ _) AI))⟩
end Mine
namespace Mine
open PySem
theorem Cf {C:Cfg} {P:Fl->Ab->Prop} {r a:S} {ρ:Ag} {σ:Ab} {c:E} {t:Bool} (h:C.t c ρ σ=some t) (e:t=false) (k:Aj C P r ρ σ):Aj C P (.cons (.ite c a .nil) r) ρ σ:=B2 (e▸h) k
theorem contains1 (l:List Nat) (c:Nat):Txt.contains (Tx l) (Tx [c])=decide (c∈l):=by
 have h:=StrLaws.found_one (Tx l) c
 rw [Gb] at h
 exact h
theorem signsV_eq:∀ l:List Nat,El l=l.map fun c=>vs [c]
 | []=>rfl
 | c::l=>by show _::El l=_; rw [signsV_eq l]; rfl
theorem it_text {C:Cfg} {ρ:Ag} {σ:Ab} {i:Nat} {l:List Nat} (h:Es ρ i=some (vs l)) (ha:∀ c∈l,c < 128):C.it (.var i) ρ σ=some (l.map fun c=>vs [c],[]):=by
 show (Es ρ i).bind (CH σ)=_
 rw [h]
 show (if (Tx l).cps.all (· < 128)=true then some (El (Tx l).cps.toList,[]) else none)=_
 rw [if_pos,Gb,signsV_eq]
 show l.toArray.all (· < 128)=true
 rw [List.all_toArray,List.all_eq_true]
 exact fun c hc=>decide_eq_true (ha c hc)
theorem F5 {C:Cfg} {ρ:Ag} {σ:Ab} {i:Nat} {α:Type} {l:List α} {d:α->PyData} (h:Es ρ i=some (.d (.list (l.map d)))):C.it (.var i) ρ σ=some (l.map fun a=>.d (d a),[]):=Fk h rfl
theorem signs_lt:∀ c∈Cp,c < 128:=by decide +kernel
theorem fn_isname {σ:Ab} (t:List Nat) (h:AF t=true):FN 2 2 [vs t] σ (vb true) σ:=by
 obtain ⟨n1,n2,n3⟩:=(Bz t).mp h
 exact FN.same (C:=C0 1) (fn:=Fis_name) (by unfold Pg; rfl) rfl (Nat.le_refl _) (by
  show Aj _ _ _ [some (vs t),none] σ
  refine Cf (Dm (Ay (AK (A0 rfl) len_s) rfl c_lt) fun _=>Ay (AK (A0 rfl) len_s) rfl c_gt) (by rw [decide_eq_false (by omega),decide_eq_false (by omega)]; rfl) ?_
  ·refine Bu (fun c=>vs [c]) (fun _ ρ σ'=>(∃ z,ρ=[some (vs t),z])/\σ=σ') (it_text rfl fun c hc=>signs_lt c (n3 c hc)) ⟨⟨none,rfl⟩,rfl⟩ ?_ ?_
   ·rintro p c q ρ _ hp ⟨⟨z,rfl⟩,rfl⟩
    exact Cf (t:=!Txt.contains (Tx Cp) (Tx [c])) (Ay (y:=vs Cp) rfl (congrArg (fun s=>some (V.d (.str s))) k_signs) rfl) (by rw [contains1,decide_eq_true (n3 c (by rw [hp]; simp))]; rfl) (Ae ⟨_,rfl,⟨_,rfl⟩,rfl⟩)
   ·rintro ρ _ ⟨⟨z,rfl⟩,rfl⟩
    exact AS (v:=vb true) rfl ⟨rfl,rfl⟩)
theorem fn_isline {σ:Ab} (t:List Nat) (h:Cd t):FN 2 3 [vs t] σ (vb true) σ:=by
 exact FN.same (C:=C0 1) (fn:=Fis_line) (by unfold Pg; rfl) rfl (Nat.le_refl _) (by
  show Aj _ _ _ [some (vs t),none] σ
  refine Cf (Ay (AK (A0 rfl) len_s) rfl c_gt) (decide_eq_false (by have:=h.len; omega)) ?_
  ·refine Bu (fun c=>vs [c]) (fun _ ρ σ'=>(∃ z,ρ=[some (vs t),z])/\σ=σ') (it_text rfl fun c hc=>by have:=h.ok c hc; omega) ⟨⟨none,rfl⟩,rfl⟩ ?_ ?_
   ·rintro p c q ρ _ hp ⟨⟨z,rfl⟩,rfl⟩
    have hc:=h.ok c (by rw [hp]; simp)
    exact Cf (Dm (Ay (x:=vi c) (AK (A0 rfl) rfl) rfl c_lt) fun _=>Ay (x:=vi c) (AK (A0 rfl) rfl) rfl c_gt) (by rw [decide_eq_false (by omega),decide_eq_false (by omega)]; rfl) (Ae ⟨_,rfl,⟨_,rfl⟩,rfl⟩)
   ·rintro ρ _ ⟨⟨z,rfl⟩,rfl⟩
    exact AS (v:=vb true) rfl ⟨rfl,rfl⟩)
noncomputable def yesO (P:List Nat->Prop) (xs:List V):Option V:=match xs with | x::r=>(match r with | []=>(Bq x).bind fun z=>@ite _ (P z.cps.toList) (Classical.propDecidable _) (some (vb true)) none | _=>none) | []=>none
theorem yesO_ok {n f:Nat} {σ:Ab} {P:List Nat->Prop} {xs:List V} {v:V} (hf:∀ t,P t->FN n f [vs t] σ (vb true) σ) (h:yesO P xs=some v):FN n f xs σ v σ:=by
 match xs,h with
 | [],h=>exact Ac h
 | [x],h =>
  obtain ⟨z,e1,h⟩:=Aa h
  obtain ⟨q,h⟩:=@AG _ _ _ _ (Classical.propDecidable _) h
  rw [AT e1,<-h,<-Tx_eta z]
  exact hf _ q
 | _::_::_,h=>exact Ac h
theorem yesO_eq {P:List Nat->Prop} {t:List Nat} (h:P t):yesO P [vs t]=some (vb true):=by
 show @ite _ (P (Tx t).cps.toList) (Classical.propDecidable _) (some (vb true)) none=_
 rw [Gb]; exact @if_pos _ (Classical.propDecidable _) h _ _ _
noncomputable def C3 (n:Nat) (hn:2<=n):Cfg:=(C0 n).add 2 (fun xs _=>yesO (AF · = true) xs) fun _ _ _ h=>yesO_ok (fun t ht=>(fn_isname t ht).more hn) h
noncomputable def C4 (n:Nat) (hn:2<=n):Cfg:=(C0 n).add 3 (fun xs _=>yesO Cd xs) fun _ _ _ h=>yesO_ok (fun t ht=>(fn_isline t ht).more hn) h
theorem Gd {α β:Type} (d:α->PyData) (d':β->PyData):∀ (l:List α) (m:List β),FI ((l.map d).map .d) ((m.map d').map .d)=(l.zip m).map fun p=>V.d (.tuple [d p.1,d' p.2])
 | [],_=>rfl
 | _::_,[]=>rfl
 | a::l,b::m=>by show _::FI ((l.map d).map .d) ((m.map d').map .d)=_; rw [Gd d d' l m]; rfl
theorem fn_deedok {σ:Ab} (d:Deed) (h:CO d):FN 3 5 [.d d.data] σ A4 σ:=by
 exact FN.same (C:=C4 2 (Nat.le_refl _)) (fn:=FH) (by unfold Pg; rfl) rfl (show 1<=2 by decide) (by
  show Aj _ _ _ [some (.d d.data)] σ
  have w:∀ {s:String} {k:List Nat},Str.ofString s=Tx k->(ev (C4 2 (Nat.le_refl _)).O (.cmp .NotEq (.sub (.var 0) (.cst (.int 0))) (.cst (.str (Str.ofString s))))).t [some (.d d.data)] σ=some (!decide (d.word=k)):=fun {s k} e=>Ay (Ai rfl rfl (Dx d)) (congrArg (fun s=>some (V.d (.str s))) e) Fe
  have hm:(ev (C4 2 (Nat.le_refl _)).O (.cmp .Is (.sub (.var 0) (.cst (.int 1))) (.cst .none))).t [some (.d d.data)] σ=some d.mark.isNone:=Ay (Ai rfl rfl (Dy d)) rfl (is_mark d.mark)
  refine Cf (e_and3 (w G4) (fun _=>w k_cut) (fun _ _=>w k_set)) (by rcases h.shp with ⟨e,_⟩ | ⟨e,_⟩ | ⟨e,_⟩ <;> rw [e] <;> rfl) ?_
  refine Cf (DD (w G4) (fun _=>hm)) (by rcases h.shp with ⟨e,_⟩ | ⟨e,m,l,e2,_⟩ | ⟨e,m,e2⟩ <;> rw [e] <;> first | rfl | (rw [e2]; rfl)) ?_
  have hl:∀ l,d.text=some l->Cd l->(ev (C4 2 (Nat.le_refl _)).O (.not (.fcall 3 (.cons (.sub (.var 0) (.cst (.int 2))) .nil)))).t [some (.d d.data)] σ=some false:=fun l e ok=>Cu (p:=true) (e_fct (A0 (Ai rfl rfl (sub_text d e))) (yesO_eq ok))
  have hc:d.word=kcut\/∃ l,d.text=some l/\Cd l:=by
   rcases h.shp with ⟨_,l,e,k⟩ | ⟨_,m,l,_,e,k⟩ | ⟨e,_⟩
   ·exact .inr ⟨l,e,k⟩
   ·exact .inr ⟨l,e,k⟩
   ·exact .inl e
  exact Cf (DD (q:=false) (w k_cut) fun q=>hc.elim (fun e=>by rw [decide_eq_true e] at q; cases q) fun ⟨l,e,k⟩=>hl l e k) (Bool.and_false _) (Ae ⟨rfl,rfl⟩))
end Mine
namespace Mine
open PySem
section
variable {κ κ' α β:Type} [DecidableEq κ] [DecidableEq κ'] (φ:κ->κ') (f:α->β)
noncomputable def A5 (kvs:List (κ×α)):List (κ'×β):=kvs.map fun p=>(φ p.1,f p.2)
theorem BW (kvs:List (κ×α)):(A5 φ f kvs).length=kvs.length:=List.length_map ..
theorem mapK_app (a b:List (κ×α)):A5 φ f (a++b)=A5 φ f a++A5 φ f b:=List.map_append ..
variable {φ} (hφ:∀ a b,φ a=φ b->a=b)
include hφ
theorem Ba (kvs:List (κ×α)) (k:κ):Az (A5 φ f kvs) (φ k)=(Az kvs k).map f:=by
 induction kvs with
 | nil=>rfl
 | cons q r ih =>
  show Az ((φ q.1,f q.2)::A5 φ f r) (φ k)=_
  rw [Bb,Bb,ih]
  by_cases e:q.1=k
  ·rw [if_pos e,if_pos (congrArg φ e)]; rfl
  ·rw [if_neg e,if_neg (fun h=>e (hφ _ _ h))]
theorem Cs (kvs:List (κ×α)) (k:κ) (v:α):CF (A5 φ f kvs) (φ k) (f v)=A5 φ f (CF kvs k v):=by
 unfold CF
 have h:((A5 φ f kvs).any fun p=>p.1=φ k)=kvs.any fun p=>p.1=k:=by
  rw [FZ,FZ,Ba f hφ]; cases Az kvs k <;> rfl
 rw [h]
 split
 ·unfold A5
  rw [List.map_map,List.map_map]
  refine List.map_congr_left fun p _=>?_
  show (if (φ p.1)=φ k then (φ p.1,f v) else (φ p.1,f p.2))=(φ (if p.1=k then (p.1,v) else p).1,f (if p.1=k then (p.1,v) else p).2)
  by_cases e:p.1=k
  ·rw [if_pos e,if_pos (congrArg φ e)]
  ·rw [if_neg e,if_neg (fun h=>e (hφ _ _ h))]
 ·rw [mapK_app]; rfl
end
theorem B6:∀ a b:List Nat,Tx a=Tx b->a=b:=fun _ _=>Tx_inj
theorem put_nodup {κ β:Type} [DecidableEq κ] {h:List (κ×β)} {k:κ} {v:β} (nd:(h.map (·.1)).Nodup):((CF h k v).map (·.1)).Nodup:=by
 unfold CF
 split
 ·rw [List.map_map,show ((fun x:κ×β=>x.1)∘fun p=>if p.1=k then (p.1,v) else p)=fun x=>x.1 from funext fun p=>by show (if p.1=k then (p.1,v) else p).1=p.1; split <;> rfl]
  exact nd
 ·rename_i q
  rw [List.map_append,List.nodup_append]
  refine ⟨nd,List.nodup_cons.mpr ⟨List.not_mem_nil,List.nodup_nil⟩,fun a ha b hb e=>q ?_⟩
  obtain ⟨p,hp,rfl⟩:=List.mem_map.mp ha
  exact List.any_eq_true.mpr ⟨p,hp,decide_eq_true (e.trans (List.mem_singleton.mp hb))⟩
section
variable {σ:Ab} {k:Nat}
theorem CE {kvs:List (Str×PyData)} {a:List Nat} {d:PyData} (hk:σ[k]? = some (.dictS kvs)) (hd:Az kvs (Tx a)=some d):AQ (.ref k) (vs a) σ=some (.d d):=by
 show subO σ (vs a) σ[k]? = _
 rw [hk]
 show (Az kvs (Tx a)).bind _=_
 rw [hd]; rfl
theorem in_dS {kvs:List (Str×PyData)} {a:List Nat} (hk:σ[k]? = some (.dictS kvs)):inV σ (vs a) (.ref k)=some (Az kvs (Tx a)).isSome:=by
 show inO σ (vs a) k σ[k]? = _
 rw [hk]; rfl
end
structure ChkOk (c:Ch):Prop extends GenCh c where
 lnm:∀ l∈c.2.1,AF l=true
 self:c.1∉c.2.1
 mks:∀ d∈c.2.2,∀ m,d.mark=some m->m.1=c.1\/m.1∈c.2.1
theorem go_swl {C:Cfg} {P:Fl->Ab->Prop} {r:S} {ρ:Ag} {σ:Ab} {es:E} {i j l:Nat} {u w z:V} {v:V} (h:C.v (.tup es) ρ σ=some v) (hv:BG v=some [u,w,z]) (k:Aj C P r (((ρ.set l (some z)).set j (some w)).set i (some u)) σ):Aj C P (.cons (.swl i j l es) r) ρ σ :=
 C8 (fl:=.next (((ρ.set l (some z)).set j (some w)).set i (some u))) (fun Q q=>.swl (Nat.le_add_left 3 _) ((Ad C.ok (.tup es)).v h) hv q) k
theorem fn_adds {σ:Ab} (c:Ch) (hd:c.2.2.length<=100):FN 2 7 [vc c] σ (.d (dds (c.2.2.filter fun d=>decide (d.word=Ec)))) σ:=by
 exact FN.same (C:=C0 1) (fn:=Fadds_of) (by unfold Pg; rfl) rfl (Nat.le_refl _)
  (AS (EL (l:=c.2.2) Deed.data (fun d=>decide (d.word=Ec)) Deed.data (Fk (Ai rfl rfl (Ez c)) rfl) (Nat.le_trans hd (by decide)) (fun d _=>e_ts1 (Ay (Ai rfl rfl (Dx d)) (congrArg (fun s=>some (V.d (.str s))) G4) eq_str)) (fun d _ _=>rfl)) ⟨rfl,rfl⟩)
end Mine
namespace Mine
open PySem
inductive Blw (F:List Ch):List Nat->List Nat->Prop
 | one {c:Ch} {l:List Nat} (hc:c∈F) (hl:l∈c.2.1):Blw F c.1 l
 | more {c:Ch} {l m:List Nat} (hc:c∈F) (hl:l∈c.2.1) (h:Blw F l m):Blw F c.1 m
theorem uniq_of {F:List Ch} (nd:(F.map (·.1)).Nodup) {a b:Ch} (ha:a∈F) (hb:b∈F) (e:a.1=b.1):a=b:=by
 induction F with
 | nil=>cases ha
 | cons x F ih =>
  have nd:=List.nodup_cons.mp nd
  rcases List.mem_cons.mp ha with q | q <;> rcases List.mem_cons.mp hb with r | r
  ·rw [q,r]
  ·exact absurd (List.mem_map_of_mem (f:=(·.1)) r) (by rw [<-e,q]; exact nd.1)
  ·exact absurd (List.mem_map_of_mem (f:=(·.1)) q) (by rw [e,r]; exact nd.1)
  ·exact ih nd.2 q r
section
variable {F G:List Ch} {a b m:List Nat} {c:Ch}
theorem Blw.mono (h:∀ c∈F,c∈G) (x:Blw F a b):Blw G a b:=by
 induction x with
 | one hc hl=>exact .one (h _ hc) hl
 | more hc hl _ ih=>exact .more (h _ hc) hl ih
theorem Blw.step (nd:(F.map (·.1)).Nodup) (hc:c∈F):Blw F c.1 m ↔ ∃ l∈c.2.1,m=l\/Blw F l m:=by
 refine ⟨fun h=>?_,fun ⟨l,hl,h⟩=>h.elim (fun e=>e▸.one hc hl) (.more hc hl)⟩
 generalize en:c.1=n at h
 cases h with
 | one hc' hl=>exact ⟨_,uniq_of nd hc' hc en.symm▸hl,.inl rfl⟩
 | more hc' hl h=>exact ⟨_,uniq_of nd hc' hc en.symm▸hl,.inr h⟩
theorem Cl.lean (ht:Cl F) (hc:c∈F) {l:List Nat} (hl:l∈c.2.1):l∈F.map (·.1):=by
 obtain ⟨p,q,e⟩:=List.append_of_mem hc
 rw [e,List.map_append]
 exact List.mem_append_left _ (ht p c q e l hl)
theorem Blw.names (ht:Cl F) (x:Blw F a b):b∈F.map (·.1):=by
 induction x with
 | one hc hl=>exact ht.lean hc hl
 | more _ _ _ ih=>exact ih
theorem Blw.snoc (ht:Cl F) (hn:c.1∉F.map (·.1)) (ha:a∈F.map (·.1)):Blw (F++[c]) a b ↔ Blw F a b:=by
 refine ⟨fun x=>?_,Blw.mono fun x hx=>List.mem_append_left _ hx⟩
 have inF:∀ {c':Ch},c'∈F++[c]->c'.1∈F.map (·.1)->c'∈F:=fun {c'} h1 h2=>(List.mem_append.mp h1).elim id fun q=>by
  rw [List.mem_singleton.mp q] at h2; exact absurd h2 hn
 induction x with
 | one hc hl=>exact .one (inF hc ha) hl
 | more hc hl _ ih=>exact .more (inF hc ha) hl (ih (ht.lean (inF hc ha) hl))
end
end Mine
namespace Mine
open PySem
noncomputable abbrev hK (F:List Ch):List (List Nat×Ch):=F.map fun c=>(c.1,c)
noncomputable abbrev oH (F:List Ch):O:=.dictS (A5 Tx Ch.data (hK F))
abbrev Gsl:=List (List Nat×List (List Nat))
noncomputable abbrev oG (gs:Gsl):O:=.dictS (A5 Tx dl gs)
noncomputable abbrev oT (hs:List (List Nat×Int)):O:=.dictS (A5 Tx PyData.int hs)
noncomputable abbrev W (F:List Ch) (gs:Gsl) (hs:List (List Nat×Int)):Ab:=[oH F,oG gs,oT hs]
noncomputable abbrev self:V:=.obj [0,1,2]
theorem hK_keys (F:List Ch):(hK F).map (·.1)=F.map (·.1):=by rw [List.map_map]; rfl
theorem getH {F:List Ch} (nd:(F.map (·.1)).Nodup) {c:Ch} (hc:c∈F):Az (hK F) c.1=some c:=by
 induction F with
 | nil=>cases hc
 | cons a F ih =>
  have nd':=List.nodup_cons.mp nd
  show Az ((a.1,a)::hK F) c.1=_
  rw [Bb]
  rcases List.mem_cons.mp hc with rfl | hc
  ·exact if_pos rfl
  ·rw [if_neg fun e=>nd'.1 (by show a.1∈F.map (·.1); rw [show a.1=c.1 from e]; exact List.mem_map_of_mem hc)]
   exact ih nd'.2 hc
theorem inH {F:List Ch} (n:List Nat):(Az (A5 Tx Ch.data (hK F)) (Tx n)).isSome=decide (n∈F.map (·.1)):=by
 rw [Ba Ch.data B6]
 have h:=AH (h:=hK F) (k:=n)
 rw [hK_keys] at h
 cases e:Az (hK F) n with
 | none=>exact (decide_eq_false fun q=>by obtain ⟨v,hv⟩:=h.mpr q; rw [e] at hv; cases hv).symm
 | some c=>exact (decide_eq_true (h.mp ⟨c,e⟩)).symm
theorem go_yes {C:Cfg} {P:Fl->Ab->Prop} {r a b:S} {ρ:Ag} {σ:Ab} {c:E} {t:Bool} (h:C.t c ρ σ=some t) (e:t=true) (k:Aj C (Then C P r) a ρ σ):Aj C P (.cons (.ite c a b) r) ρ σ:=go_if (t:=true) (e▸h) k
section
variable {O:Orc} {ρ:Ag} {σ:Ab}
theorem Dh (h:Es ρ 0=some self):(ev O (.attr (Str.ofString "held") (.var 0))).v ρ σ=some (.ref 0):=by
 show (Es ρ 0).bind (attV (Str.ofString "held"))=_
 rw [h]; kernel_rfl
theorem CU (h:Es ρ 0=some self):(ev O (.attr (Str.ofString "grounds") (.var 0))).v ρ σ=some (.ref 1):=by
 show (Es ρ 0).bind (attV (Str.ofString "grounds"))=_
 rw [h]; kernel_rfl
theorem Ea (h:Es ρ 0=some self):(ev O (.attr (Str.ofString "heights") (.var 0))).v ρ σ=some (.ref 2):=by
 show (Es ρ 0).bind (attV (Str.ofString "heights"))=_
 rw [h]; kernel_rfl
end
def MksOk (F:List Ch) (c:Ch):Prop:=∀ pre d post,c.2.2=pre++d::post->∀ m,d.mark=some m->(m.1=c.1/\0<=m.2/\m.2 < (adds pre:Int))\/(m.1≠c.1/\∃ c'∈F,c'.1=m.1/\0<=m.2/\m.2 < (adds c'.2.2:Int))
theorem in_held {F:List Ch} {τ:Ab} (n:List Nat):Bk .In (vs n) (.ref 0) (oH F::τ)=some (decide (n∈F.map (·.1))):=by
 show inV (oH F::τ) (vs n) (.ref 0)=_
 rw [in_dS (kvs:=A5 Tx Ch.data (hK F)) rfl,inH]
theorem Gw {F:List Ch} {τ:Ab} (n:List Nat):Bk .NotIn (vs n) (.ref 0) (oH F::τ)=some (!decide (n∈F.map (·.1))):=by
 show Fc (Bk .In (vs n) (.ref 0) (oH F::τ))=_
 rw [in_held]; rfl
structure WvOk (F:List Ch) (gs:Gsl):Prop where
 nd:(F.map (·.1)).Nodup
 topo:Cl F
 gen:∀ c∈F,GenCh c
 len:F.length<=60
 gk:gs.map (·.1)=F.map (·.1)
 gin:∀ p∈gs,(p.2.length<=60/\p.2.Pairwise (· < ·))/\∀ l,l∈p.2 ↔ Blw F p.1 l
structure AddOk (F:List Ch) (c:Ch):Prop extends ChkOk c where
 new:c.1∉F.map (·.1)
 lin:∀ l∈c.2.1,l∈F.map (·.1)
 mrk:MksOk F c
 room:F.length < 60
theorem max_shift:∀ (l:List Int) (b:Int),l.foldl (fun a b=>if a < b then b else a) b+1=(l.map (· + 1)).foldl (fun a b=>if a < b then b else a) (b+1)
 | [],_=>rfl
 | x::l,b=>by
  rw [List.map_cons,List.foldl_cons,List.foldl_cons,max_shift l]
  congr 1
  split <;> split <;> omega
theorem max_one (l:List Int):1+Dk (-1) l=Dk 0 (l.map (· + 1)):=by
 cases l with
 | nil=>rfl
 | cons x l =>
  show 1+l.foldl _ x=(l.map (· + 1)).foldl _ (x+1)
  rw [Int.add_comm,max_shift]
theorem mapV_ints (l:List Int):BV B8 (l.map vi)=some l:=by
 induction l with
 | nil=>rfl
 | cons x l ih=>show (BV B8 (l.map vi)).bind _=_; rw [ih]; rfl
structure GdOk (F:List Ch) (gd:List (List Nat×Bool)):Prop where
 nd:(gd.map (·.1)).Nodup
 sub:∀ n∈gd.map (·.1),n∈F.map (·.1)
def GdIs (F:List Ch) (ls:List (List Nat)) (gd:List (List Nat×Bool)):Prop:=∀ n,n∈gd.map (·.1) ↔ ∃ l∈ls,n=l\/Blw F l n
theorem GdOk.put {F:List Ch} {gd:List (List Nat×Bool)} (h:GdOk F gd) {n:List Nat} (hn:n∈F.map (·.1)):GdOk F (CF gd n true) :=
 ⟨put_nodup h.nd,fun k hk=>((Gq k).mp hk).elim (fun e=>e▸hn) (h.sub k)⟩
theorem GdOk.len {F:List Ch} {gd:List (List Nat×Bool)} (h:GdOk F gd):gd.length<=F.length:=by
 have:=pigeon _ _ h.nd h.sub
 rwa [List.length_map,List.length_map] at this
noncomputable abbrev oB (gd:List (List Nat×Bool)):O:=.dictS (A5 Tx PyData.bool gd)
theorem keys_B {σ:Ab} {k:Nat} {gd:List (List Nat×Bool)} (hk:σ[k]? = some (oB gd)) (hl:∀ n∈gd.map (·.1),n.length<=12) (h:gd.length<=60):AV .list σ [.ref k]=some (.d (dl (gd.map (·.1)))):=by
 show (keysO σ[k]?).bind mkL=_
 rw [hk]
 show ((if (A5 Tx PyData.bool gd).all (fun p=>decide (p.1.length<=line))=true then some (vss ((A5 Tx PyData.bool gd).map (·.1))) else none).bind mkL)=_
 rw [if_pos,bs]
 ·have e:vss ((A5 Tx PyData.bool gd).map (·.1))=((gd.map (·.1)).map fun t=>PyData.str (Tx t)).map V.d:=by
   show ((A5 Tx PyData.bool gd).map (·.1)).map _=_
   unfold A5
   rw [List.map_map,List.map_map,List.map_map,List.map_map]; rfl
  rw [e]
  exact FL _ (by rw [List.length_map,List.length_map]; exact Nat.le_trans h (by decide))
 ·rw [List.all_eq_true]
  intro p hp
  obtain ⟨q,hq,rfl⟩:=List.mem_map.mp hp
  refine decide_eq_true ?_
  show (Tx q.1).length<=line
  rw [Eu]; exact Nat.le_trans (hl q.1 (List.mem_map_of_mem hq)) (by decide)
end Mine
namespace Mine
open PySem
theorem EC {F:List Ch} {gs:Gsl} {hs:List (List Nat×Int)} (m k:Nat) (o:O) (e:(W F gs hs)[k]? = some o):B4 m o:=by
 match k,e with
 | 0,e=>rw [<-Option.some.inj (show some (oH F)=some o from e)]; exact trivial
 | 1,e=>rw [<-Option.some.inj (show some (oG gs)=some o from e)]; exact trivial
 | 2,e=>rw [<-Option.some.inj (show some (oT hs)=some o from e)]; exact trivial
 | k+3,e=>exact Ac e
theorem BX:low 3 self:=fun k hk=>by
 have:k∈[0,1,2]:=hk
 simp at this; omega
theorem DOk_at {nm:List Nat} {ms:List Mk}:∀ {ds:List Deed} {k:Nat},DOk nm ms ds k->∀ pre d post,ds=pre++d::post->∀ m,d.mark=some m->m∈ms\/(m.1=nm/\0<=m.2/\m.2 < ((k+adds pre:Nat):Int))
 | [],_,_,pre,d,post,e=>by simp at e
 | a::ds,k,h,[],d,post,e=>by
  obtain ⟨rfl,_⟩:=List.cons.inj e
  exact h.1
 | a::ds,k,h,b::pre,d,post,e=>by
  obtain ⟨rfl,e2⟩:=List.cons.inj e
  intro m hm
  have:=DOk_at h.2 pre d post e2 m hm
  have e1:(if Ce a then k+1 else k)+adds pre=k+adds (a::pre):=by
   show _=k+((if Ce a then 1 else 0)+adds pre)
   split <;> omega
  rw [e1] at this; exact this
theorem name_uniq {cs:List Ch} (nd:(cs.map (·.1)).Nodup) {a b:Ch} (ha:a∈cs) (hb:b∈cs) (e:a.1=b.1):a=b:=by
 have h1:=getH nd ha
 rw [e,getH nd hb] at h1
 exact (Option.some.inj h1).symm
theorem Gz {pre:List Ch} {ls:List (List Nat)} {m:Mk} (h:m∈Eo pre ls):∃ c'∈pre,c'.1∈ls/\c'.1=m.1/\0<=m.2/\m.2 < (adds c'.2.2:Int):=by
 obtain ⟨c',h1,h2⟩:=List.mem_flatMap.mp h
 have h1:=List.mem_filter.mp h1
 have h3:=ownM_mem.mp h2
 exact ⟨c',h1.1,of_decide_eq_true h1.2,h3.1.symm,by have:=h3.2.1; simpa using this,by have:=h3.2.2; simpa using this⟩
theorem add_ok {cs F pre post:List Ch} {c:Ch} (H:BJ cs) (hg:∀ c∈cs,GenCh c) (hl:cs.length<=60) (hp:F.Perm cs) (ht:Cl F) (e:F=pre++c::post):AddOk pre c:=by
 have hc:c∈cs:=hp.mem_iff.mp (by rw [e]; simp)
 have hpre:∀ x∈pre,x∈cs:=fun x hx=>hp.mem_iff.mp (by rw [e]; exact List.mem_append_left _ hx)
 obtain ⟨a,b,ec⟩:=List.append_of_mem hc
 obtain ⟨h1,h2⟩:=H.ok a c b ec
 have ha:∀ x∈a,x∈cs:=fun x hx=>by rw [ec]; exact List.mem_append_left _ hx
 have ndF:(F.map (·.1)).Nodup:=(hp.map _).nodup_iff.mpr H.nd
 have lin:=ht pre c post e
 have self':c.1∉c.2.1:=fun q=>by
  have nd:=H.nd
  rw [ec,List.map_append,List.map_cons,List.nodup_append] at nd
  exact nd.2.2 c.1 (h1 c.1 q) c.1 (.head _) rfl
 refine ⟨⟨hg c hc,fun l hl=>?_,self',fun d hd m hm=>?_⟩,?_,lin,fun p d q ed m hm=>?_,?_⟩
 ·obtain ⟨x,hx,rfl⟩:=List.mem_map.mp (lin l hl)
  exact (hg x (hpre x hx)).name
 ·obtain ⟨p,q,ed⟩:=List.append_of_mem hd
  rcases DOk_at h2 p d q ed m hm with q | q
  ·obtain ⟨c',_,k1,k2,_⟩:=Gz q
   exact .inr (k2▸k1)
  ·exact .inl q.1
 ·rw [e,List.map_append,List.map_cons,List.nodup_append] at ndF
  exact fun q=>ndF.2.2 c.1 q c.1 (.head _) rfl
 ·rcases DOk_at h2 p d q ed m hm with q | q
  ·obtain ⟨c',k0,k1,k2,k3,k4⟩:=Gz q
   obtain ⟨x,hx,ex⟩:=List.mem_map.mp (lin c'.1 k1)
   obtain rfl:=name_uniq H.nd (hpre x hx) (ha c' k0) ex
   exact .inr ⟨fun q=>self' (by rw [<-q,<-k2]; exact k1),x,hx,k2,k3,k4⟩
  ·exact .inl ⟨q.1,q.2.1,by have:=q.2.2; rwa [Nat.zero_add] at this⟩
 ·have:=hp.length_eq
  rw [e,List.length_append,List.length_cons] at this; omega
end Mine
namespace Mine
open PySem
section
variable {O:Orc} {C:Cfg} {P:Fl->Ab->Prop} {r body:S} {ρ:Ag} {σ:Ab} {it:E} {x:Nat} {y:V} {α:Type} {l:List α}
theorem lst_nstr {ws:List V} (h:As σ y=some ws):Bq y=none:=by
 cases y with
 | d z=>cases z with
  | str _=>exact Ac h
  | _=>rfl
 | _=>rfl
theorem it_ofV {w:α->V} (h:(ev O it).v ρ σ=some y) (hy:As σ y=some (l.map w)) (he:(ev O it).it ρ σ=((ev O it).v ρ σ).bind (CH σ)):(ev O it).it ρ σ=some (l.map w,Ct y (l.map w)):=by
 rw [he,h,bs]
 unfold CH
 rw [lst_nstr hy]
 show (As σ y).bind _=_
 rw [hy]; rfl
theorem DX (w:α->V) (J:List α->Ag->Ab->Prop) (hit:C.v it ρ σ=some y) (hk:∀ p ρ σ,J p ρ σ->As σ y=some (l.map w)) (hJ:J [] ρ σ)
 (hf:∀ p a q ρ σ,l=p++a::q->J p ρ σ->Aj C (fun fl σ'=>∃ ρ',fl=.next ρ'/\J (p++[a]) ρ' σ') body (ρ.set x (some (w a))) σ) (k:∀ ρ' σ',J l ρ' σ'->Aj C P r ρ' σ') (he:C.it it ρ σ=(C.v it ρ σ).bind (CH σ):=by rfl):Aj C P (.cons (.for_ [x] it body) r) ρ σ :=
 G9 w J (it_ofV hit (hk _ _ _ hJ) he) (fun p ρ σ h=>DT (hk p ρ σ h)) (fun _ _=>.inl rfl) hJ hf k
end
theorem AR (ls:List (List Nat)):ls.map vs=(ls.map fun t=>PyData.str (Tx t)).map V.d:=by rw [List.map_map]; rfl
theorem fn_leansok {σ:Ab} {y:V} (t:List Nat) (ls:List (List Nat)) (hy:As σ y=some (ls.map vs)) (ht:AF t=true) (hl:∀ l∈ls,AF l=true) (hr:ls.Pairwise (· < ·)) (hn:t∉ls) (hlen:ls.length<=1000):FN 3 4 [vs t,y] σ A4 σ:=by
 let C:=C3 2 (Nat.le_refl _)
 exact FN.same (C:=C) (fn:=EU) (by unfold Pg; rfl) rfl (show 1<=2 by decide) (by
  show Aj _ _ _ [some (vs t),some y,none,none,none] σ
  refine B2 (Cu (p:=true) (e_fct (A0 rfl) (yesO_eq (P:=(AF · = true)) ht))) ?_
  refine DX (l:=ls) (y:=y) (fun l=>vs l) (fun _ ρ σ'=>(∃ z2,ρ=[some (vs t),some y,z2,none,none])/\σ=σ') rfl (fun _ _ _ h=>h.2▸hy) ⟨⟨none,rfl⟩,rfl⟩ ?_ ?_
  ·rintro p l q ρ _ hp ⟨⟨z,rfl⟩,rfl⟩
   exact B2 (Cu (p:=true) (e_fct (A0 rfl) (yesO_eq (P:=(AF · = true)) (hl l (by rw [hp]; simp))))) (Ae ⟨_,rfl,⟨_,rfl⟩,rfl⟩)
  rintro ρ _ ⟨⟨z2,rfl⟩,rfl⟩
  refine G9 (l:=ls.zip (ls.drop 1)) (kps:=Ct y (ls.map vs)++[]) (fun p=>V.d (.tuple [.str (Tx p.1),.str (Tx p.2)])) (fun _ ρ σ'=>(∃ z3 z4,ρ=[some (vs t),some y,z2,z3,z4])/\σ=σ') ?_ (fun _ _ σ' h k us m=>h.2▸(List.mem_append.mp m).elim (DT hy k us) fun m=>nomatch m) (fun _ _=>.inr ⟨_,rfl,rfl⟩) ⟨⟨none,none,rfl⟩,rfl⟩ ?_ ?_
  ·have hs:(ev C.O (.slc (.var 1) (.cst (.int 1)) .nil)).v [some (vs t),some y,z2,none,none] σ=some (.d (dl (ls.drop 1))):=by
    show slice σ y (some ((1:Nat):Int)) none=_
    unfold slice
    rw [lst_nstr hy]
    show ((As σ y).bind fun ws=>some (BH (some ((1:Nat):Int)) none ws)).bind mkL=_
    rw [hy,bs,GX,bs,<-List.map_drop,AR]
    exact FL _ (by rw [List.length_map,List.length_drop]; exact Nat.le_trans (Nat.sub_le _ _) (Nat.le_trans hlen (by decide)))
   show ((ev C.O (.slc (.var 1) (.cst (.int 1)) .nil)).v [some (vs t),some y,z2,none,none] σ).bind (fun y'=>(As σ y).bind fun ds=>(As σ y').bind fun ds'=>some (FI ds ds',Ct y ds++Ct y' ds'))=_
   rw [hs,bs,hy,bs]
   show some (FI (ls.map vs) (((ls.drop 1).map fun t=>PyData.str (Tx t)).map V.d),_)=_
   rw [AR ls,Gd]; rfl
  ·rintro p ⟨a,b⟩ q ρ _ hp ⟨⟨z3,z4,rfl⟩,rfl⟩
   refine B2 ?_ (Ae ⟨_,rfl,⟨_,_,rfl⟩,rfl⟩)
   have hab:a < b:=by
    have hm:(a,b)∈ls.zip (ls.drop 1):=by rw [hp]; simp
    obtain ⟨j,hj⟩:=List.mem_iff_getElem?.mp hm
    obtain ⟨j1,j2⟩:=List.getElem?_zip_eq_some.mp hj
    rw [List.getElem?_drop] at j2
    obtain ⟨k1,k2⟩:=List.getElem?_eq_some_iff.mp j1
    obtain ⟨k3,k4⟩:=List.getElem?_eq_some_iff.mp j2
    have k2:ls[j]=a:=k2
    have k4:ls[1+j]=b:=k4
    rw [<-k2,<-k4]
    exact List.pairwise_iff_getElem.mp hr j (1+j) k1 k3 (by omega)
   show some (!AU (Tx a) (Tx b))=_
   rw [Tx_lt,decide_eq_true hab]; rfl
  rintro ρ _ ⟨⟨z3,z4,rfl⟩,rfl⟩
  refine B2 (Ay rfl rfl ((in_of (w:=t) hy).trans (by rw [decide_eq_false hn]))) (Ae ⟨rfl,rfl⟩))
noncomputable abbrev xt (c:Ch) (i j:Nat):V:=.tup [.inl (.str (Tx c.1)),.inr i,.inr j]
theorem Ck {τ:Ab} {a:O}:(τ++[a])[τ.length]? = some a:=List.getElem?_concat_length
noncomputable abbrev oLs (c:Ch):O:=.list (c.2.1.map vs)
noncomputable abbrev oDs (c:Ch):O:=.list (c.2.2.map fun d=>.d d.data)
structure Hnd (σ:Ab) (c:Ch) (i j:Nat):Prop where
 l:σ[i]? = some (.list (c.2.1.map vs))
 d:σ[j]? = some (.list (c.2.2.map fun d=>.d d.data))
section
variable {σ τ:Ab} {c:Ch} {i j:Nat}
theorem DN:AQ (xt c i j) (vi 0) σ=some (vs c.1):=rfl
theorem C7:AQ (xt c i j) (vi 1) σ=some (.ref i):=rfl
theorem DM:AQ (xt c i j) (vi 2) σ=some (.ref j):=rfl
theorem Hnd.snoc (H:Hnd τ c i j) {o:O}:Hnd (τ++[o]) c i j:=⟨B3 H.l,B3 H.d⟩
theorem fn_check (H:Hnd σ c i j) (h:ChkOk c):FN 4 6 [xt c i j] σ A4 σ:=by
 have hl:=Eh H.l
 have hd:=Eh H.d
 exact FN.same (C:=C0 3) (fn:=Fcheck) (by unfold Pg; rfl) rfl (show 1<=3 by decide) (by
  show Aj _ _ _ [some (xt c i j),none,none,none,none] σ
  refine go_swl (v:=.tup [.inl (.str (Tx c.1)),.inr i,.inr j]) (EK (e_r3 (Ai rfl rfl DN) (Ai rfl rfl C7) (Ai rfl rfl DM)) rfl) rfl ?_
  refine Bv (v:=A4) rfl (.fcall ((Ad (C0 3).ok _).row rfl) (fn_leansok (y:=.ref i) c.1 c.2.1 hl h.name h.lnm h.rise h.self (Nat.le_trans h.few (by decide)))) ?_
  refine Cf (Ay (AK (A0 rfl) ((len_of' (x:=.ref j) hd).trans (by rw [List.length_map]))) rfl c_gt) (decide_eq_false (by have:=h.deeds; omega)) ?_
  refine DX (l:=c.2.2) (y:=.ref j) (fun d=>.d d.data) (fun _ ρ σ'=>(∃ z,ρ=[some (xt c i j),some (vs c.1),some (.ref i),some (.ref j),z])/\σ=σ') rfl (fun _ _ _ h=>h.2▸hd) ⟨⟨none,rfl⟩,rfl⟩ ?_ ?_
  ·rintro p d q ρ _ hp ⟨⟨z,rfl⟩,rfl⟩
   exact Bv (v:=A4) rfl (.fcall ((Ad (C0 3).ok _).row rfl) (fn_deedok d (h.ok d (by rw [hp]; simp)))) (Ae ⟨_,rfl,⟨_,rfl⟩,rfl⟩)
  rintro ρ _ ⟨⟨z,rfl⟩,rfl⟩
  refine DX (l:=c.2.2) (y:=.ref j) (fun d=>.d d.data) (fun _ ρ σ'=>(∃ z,ρ=[some (xt c i j),some (vs c.1),some (.ref i),some (.ref j),z])/\σ=σ') rfl (fun _ _ _ h=>h.2▸hd) ⟨⟨z,rfl⟩,rfl⟩ ?_ ?_
  ·rintro p d q ρ _ hp ⟨⟨z,rfl⟩,rfl⟩
   have hm:=Ai (O:=(C0 3).O) (ρ:=[some (xt c i j),some (vs c.1),some (.ref i),some (.ref j),some (.d d.data)]) (σ:=σ) (a:=.var 4) (i:=.cst (.int 1)) rfl rfl (Dy d)
   refine Cf (e_and3 (q:=!decide ((d.mark.getD ([],0)).1=c.1)) (s:=false) (Ay hm rfl (G7 d.mark)) (fun q=>?_) fun q q'=>?_) (by rw [Bool.and_false,Bool.and_false]) (Ae ⟨_,rfl,⟨_,rfl⟩,rfl⟩)
   ·cases e:d.mark with
    | none=>rw [e] at q; cases q
    | some m =>
     rw [e] at hm
     exact Ay (Ai hm rfl rfl) rfl Fe
   ·cases e:d.mark with
    | none=>rw [e] at q; cases q
    | some m =>
     rw [e] at hm q'
     have hml:m.1∈c.2.1:=(h.mks d (by rw [hp]; simp) m e).resolve_left fun e2=>by
      have q':(!decide (m.1=c.1))=true:=q'
      rw [decide_eq_true e2] at q'; cases q'
     exact Ay (x:=vs m.1) (Ai hm rfl rfl) rfl (by rw [c_nin,in_of (w:=m.1) (x:=.ref i) hl,decide_eq_true hml]; rfl)
  ·rintro ρ _ ⟨⟨z,rfl⟩,rfl⟩
   exact Ae ⟨rfl,rfl⟩)
end
section
variable {τ:Ab} {c:Ch} {i j:Nat} {F:List Ch} {gs:Gsl} {hs:List (List Nat×Int)}
theorem Hnd.W (H:Hnd τ c i j):Hnd (W F gs hs++τ) c (i+3) (j+3):=⟨H.l,H.d⟩
theorem fn_marksok (H:Hnd τ c i j) (nd:(F.map (·.1)).Nodup) (hg:∀ c∈F,c.2.2.length<=100) (hm:MksOk F c):FN 3 37 [self,xt c (i+3) (j+3)] (W F gs hs++τ) A4 (W F gs hs++τ):=by
 let X:=xt c (i+3) (j+3)
 let σ:=W F gs hs++τ
 exact FN.same (C:=C0 2) (fn:=C6) (by unfold Pg; rfl) rfl (show 1<=2 by decide) (by
  show Aj _ _ _ [some self,some X,none,none,none,none] σ
  refine Aw (v:=vi 0) rfl ?_
  let K:Int->Option V->Option V->Option V->Ag:=fun own z3 z4 z5=>[some self,some X,some (vi own),z3,z4,z5]
  refine DX (l:=c.2.2) (y:=.ref (j+3)) (fun d=>.d d.data) (fun p ρ σ'=>(∃ z3 z4 z5,ρ=K (adds p) z3 z4 z5)/\σ=σ') (Ai rfl rfl DM) (fun _ _ _ h=>h.2▸Eh H.W.d) ⟨⟨none,none,none,rfl⟩,rfl⟩ ?_ ?_
  ·rintro p d q ρ _ hp ⟨⟨z3,z4,z5,rfl⟩,rfl⟩
   show Aj _ _ _ (K (adds p) (some (.d d.data)) z4 z5) _
   refine Aw (v:=.d (AP d.mark)) (Ai rfl rfl (Dy d)) ?_
   refine Dd (M:=fun ρ σ'=>(∃ z5,ρ=K (adds p) (some (.d d.data)) (some (.d (AP d.mark))) z5)/\σ=σ') ?_ ?_
   ·refine Bn (t:=!d.mark.isNone) (Ay rfl rfl (G7 d.mark)) (fun e=>?_) fun e=>Ae (Ae ⟨_,rfl,⟨_,rfl⟩,rfl⟩)
    cases em:d.mark with
    | none=>rw [em] at e; cases e
    | some m =>
     show Aj _ _ _ (K (adds p) (some (.d d.data)) (some (vm m)) z5) _
     refine Aw (v:=vi (adds p)) rfl ?_
     have s0:∀ {z5 σ},(ev (C0 2).O (.sub (.var 4) (.cst (.int 0)))).v (K (adds p) (some (.d d.data)) (some (vm m)) z5) σ=some (vs m.1):=Ai rfl rfl rfl
     have s1:∀ {z5 σ},(ev (C0 2).O (.sub (.var 4) (.cst (.int 1)))).v (K (adds p) (some (.d d.data)) (some (vm m)) z5) σ=some (vi m.2):=Ai rfl rfl rfl
     have fin:∀ n:Nat,0<=m.2->m.2 < (n:Int)->Aj (C0 2) (Then (C0 2) (fun fl σ'=>∃ ρ',fl=.next ρ'/\(∃ z5,ρ'=K (adds p) (some (.d d.data)) (some (vm m)) z5)/\σ=σ') .nil) (.cons (.ite (.bop .Or (.cons (.cmp .Lt (.sub (.var 4) (.cst (.int 1))) (.cst (.int 0))) (.cons (.cmp .GtE (.sub (.var 4) (.cst (.int 1))) (.var 5)) .nil))) .any .nil) .nil) (K (adds p) (some (.d d.data)) (some (vm m)) (some (vi n))) σ:=fun n n0 n1 =>
      Cf (Dm (Ay s1 rfl c_lt) fun _=>Ay s1 rfl c_ge) (by rw [decide_eq_false (by omega),decide_eq_false (by omega)]; rfl) (Ae (Ae ⟨_,rfl,⟨_,rfl⟩,rfl⟩))
     rcases hm p d q hp m em with ⟨m1,m2,m3⟩ | ⟨m1,c',hc',m2,m3,m4⟩
     ·exact Cf (Ay s0 (Ai rfl rfl DN) Fe) (by rw [decide_eq_true m1]; rfl) (fin _ m2 m3)
     ·refine go_yes (Ay s0 (Ai rfl rfl DN) Fe) (by rw [decide_eq_false m1]; rfl) ?_
      have hh:AQ (.ref 0) (vs m.1) σ=some (vc c'):=CE rfl (by rw [Ba Ch.data B6,<-m2,getH nd hc']; rfl)
      refine AX (v:=vi (adds c'.2.2)) rfl (.bi1 (.cons (.fcall (.cons ((Ad (C0 2).ok _).v (Ai (Dh rfl) s0 hh)) .nil) (fn_adds c' (hg c' hc'))) .nil) (lenV_ok ?_) (Nat.zero_le _)) (Ae (fin _ m3 m4))
      exact (ED (σ:=σ)).trans (by rw [List.length_map,Ga])
   ·rintro _ _ ⟨⟨z5,rfl⟩,rfl⟩
    refine Bn (t:=decide (d.word=Ec)) (Ay (Ai rfl rfl (Dx d)) (congrArg (fun s=>some (V.d (.str s))) G4) eq_str) (fun e=>?_) fun e=>?_
    ·exact Aw (v:=vi ((adds p:Int)+1)) rfl (Ae (Ae ⟨_,rfl,⟨_,_,_,by rw [DZ,show Ce d=true from e]; rfl⟩,rfl⟩))
    ·exact Ae (Ae ⟨_,rfl,⟨_,_,_,by rw [DZ,show Ce d=false from e]; rfl⟩,rfl⟩)
  ·rintro ρ _ ⟨⟨z3,z4,z5,rfl⟩,rfl⟩
   exact Ae ⟨rfl,rfl⟩)
end
end Mine
namespace Mine
open PySem
theorem E1 {τ:Ab} {a b:O}:(τ++[a]).set τ.length b=τ++[b]:=by rw [List.set_append_right _ _ (Nat.le_refl _),Nat.sub_self]; rfl
theorem list_r {σ:Ab} {k:Nat} {ds:List PyData} (h:σ[k]? = some (.list (ds.map .d))) (hl:ds.length<=line):AV .list σ [.ref k]=some (.d (.list ds)):=by
 show (keysO σ[k]?).bind mkL=_
 rw [h]; exact FL ds hl
theorem e_compK {O:Orc} {ρ:Ag} {σ:Ab} {elt a ifs:E} {t:Nat} {kps:List (Nat×List V)} {α:Type} {l:List α} (d:α->PyData) (p:α->Bool) (g:α->PyData) (ha:(ev O a).it ρ σ=some (l.map fun x=>.d (d x),kps)) (hl:l.length<=line) (hp:∀ x∈l,(ev O ifs).ts ((ρ.set t none).set t (some (.d (d x)))) σ=some (p x))
 (hg:∀ x∈l,p x=true->(ev O elt).v ((ρ.set t none).set t (some (.d (d x)))) σ=some (.d (g x))):(ev O (.comp elt [t] a ifs)).v ρ σ=some (.d (.list ((l.filter p).map g))):=by
 refine D6 ?_
 rw [BP (fun x=>.d (d x)) p (fun x=>.d (g x)) ha hl hp hg,List.map_map]
 rfl
section
variable {τ:Ab} {i j:Nat} {F:List Ch} {gs:Gsl}
theorem run_add (w:WvOk F gs) (c:Ch) (h:AddOk F c) (H:Hnd τ c i j) :
 Aj (C0 4) (fun fl σ'=>∃ gd,(GdOk F gd/\GdIs F c.2.1 gd)/\Gn fl=A4/\σ'=W (F++[c]) (gs++[(c.1,Am (gd.map (·.1)))]) (hts [] (F++[c]))++(τ++[oB gd])) Dj.body (Bc Dj [self,xt c (i+3) (j+3)]) (W F gs (hts [] F)++τ):=by
 have hnm:∀ n∈F.map (·.1),n.length<=12:=fun n hn=>by
  obtain ⟨x,hx,rfl⟩:=List.mem_map.mp hn
  exact ((Bz _).mp (w.gen x hx).name).2.1
 let X:=xt c (i+3) (j+3)
 show Aj _ _ _ [some self,some X,none,none,none,none] _
 refine Bv (v:=A4) rfl (.fcall ((Ad (C0 4).ok _).row rfl) (fn_check H.W h.toChkOk)) ?_
 refine Aw (v:=vs c.1) (Ai rfl rfl DN) ?_
 refine Cf (Ay (y:=.ref 0) rfl (Dh rfl) (in_held c.1)) (decide_eq_false h.new) ?_
 refine DX (l:=c.2.1) (y:=.ref (i+3)) (fun l=>vs l) (fun _ ρ σ'=>(∃ z,ρ=[some self,some X,some (vs c.1),z,none,none])/\W F gs (hts [] F)++τ=σ') (Ai rfl rfl C7) (fun _ _ _ h=>h.2▸Eh H.W.l) ⟨⟨none,rfl⟩,rfl⟩ ?_ ?_
 ·rintro p l q ρ _ hp ⟨⟨z,rfl⟩,rfl⟩
  exact Cf (Ay (y:=.ref 0) rfl (Dh rfl) (Gw l)) (by rw [decide_eq_true (h.lin l (by rw [hp]; simp))]; rfl) (Ae ⟨_,rfl,⟨_,rfl⟩,rfl⟩)
 rintro ρ _ ⟨⟨z3,rfl⟩,rfl⟩
 refine Bv (v:=A4) rfl (.mcall (f:=37) Au (by unfold mtP; kernel_rfl) ((Ad (C0 4).ok (.var 0)).v rfl) ((Ad (C0 4).ok _).row rfl) ((fn_marksok H w.nd (fun x hx=>Nat.le_trans (w.gen x hx).deeds (by decide)) h.mrk).more (by decide))) ?_
 have hF:=w.len
 have hL:∀ {F' gs' hs'} {τ':Ab},Hnd τ' c i j->AV .list (W F' gs' hs'++τ') [.ref (i+3)]=some (.d (dl c.2.1)):=fun {F' gs' hs' τ'} H=>list_r (by rw [<-AR]; exact H.W.l) (by rw [List.length_map]; exact Nat.le_trans h.few (by decide))
 have hD:∀ {F' gs' hs'} {τ':Ab},Hnd τ' c i j->AV .list (W F' gs' hs'++τ') [.ref (j+3)]=some (.d (dds c.2.2)):=fun {F' gs' hs' τ'} H=>list_r (by rw [List.map_map]; exact H.W.d) (by rw [List.length_map]; exact Nat.le_trans h.deeds (by decide))
 refine Db (z:=A4) (y:=A4) (k:=0) (w:=Tx c.1) (dd:=Ch.data c) (kvs:=A5 Tx Ch.data (hK F)) (EK (e_r3 rfl (AK (A0 (Ai rfl rfl C7)) (hL H)) (AK (A0 (Ai rfl rfl DM)) (hD H))) rfl) (Dh rfl) rfl rfl (by rw [BW,List.length_map]; exact Nat.lt_of_le_of_lt hF (by decide)) ?_
 have eH:CF (A5 Tx Ch.data (hK F)) (Tx c.1) (Ch.data c)=A5 Tx Ch.data (hK (F++[c])):=by
  rw [Cs Ch.data B6,E6 (C9.mpr (by rw [hK_keys]; exact h.new))]
  show A5 Tx Ch.data (F.map (fun c=>(c.1,c))++[(c.1,c)])=A5 Tx Ch.data ((F++[c]).map fun c=>(c.1,c))
  rw [List.map_append]; rfl
 show Aj _ _ _ _ ([.dictS (CF (A5 Tx Ch.data (hK F)) (Tx c.1) (Ch.data c)),oG gs,oT (hts [] F)]++τ)
 rw [eH]
 refine go_asgD ?_
 let St:List (List Nat×Bool)->Ab:=fun gd=>W (F++[c]) gs (hts [] F)++(τ++[oB gd])
 let K:Option V->Option V->Ag:=fun z3 z5=>[some self,some X,some (vs c.1),z3,some (.ref (τ.length+3)),z5]
 have hat:∀ gd,(St gd)[τ.length+3]? = some (oB gd):=fun gd=>Ck
 have hset:∀ gd o,(St gd).set (τ.length+3) o=W (F++[c]) gs (hts [] F)++(τ++[o]):=fun gd o=>congrArg (W (F++[c]) gs (hts [] F) ++ ·) E1
 show Aj _ _ _ (K z3 none) (St [])
 refine DX (l:=c.2.1) (y:=.ref (i+3)) (fun l=>vs l) (fun p ρ σ'=>∃ gd,(GdOk F gd/\GdIs F p gd)/\(∃ z3 z5,ρ=K z3 z5)/\St gd=σ') (Ai rfl rfl C7) (fun _ _ _ h=>by obtain ⟨gd,_,_,rfl⟩:=h; exact Eh H.snoc.W.l) ⟨[],⟨⟨List.nodup_nil,(fun n h=>nomatch h)⟩,fun n=>⟨(fun h=>nomatch h),fun ⟨l,h,_⟩=>nomatch h⟩⟩,⟨z3,none,rfl⟩,rfl⟩ ?_ ?_
 ·rintro p l q ρ _ hp ⟨gd,⟨G,GI⟩,⟨z3,z5,rfl⟩,rfl⟩
  have hl:=h.lin l (by rw [hp]; simp)
  have hgl:=G.len
  refine Db (z:=A4) (y:=A4) (k:=τ.length+3) (w:=Tx l) (dd:=.bool true) (kvs:=A5 Tx PyData.bool gd) rfl rfl rfl (hat gd) (by rw [BW]; exact Nat.lt_of_le_of_lt (Nat.le_trans hgl hF) (by decide)) ?_
  rw [Cs PyData.bool B6,hset]
  obtain ⟨ls,hls⟩:=AH.mpr (show l∈gs.map (·.1) by rw [w.gk]; exact hl)
  obtain ⟨pr,hpr,epr,epl⟩:∃ pr∈gs,pr.2=ls/\pr.1=l:=by
   unfold Az at hls
   obtain ⟨pr,e1,e2⟩:=Option.map_eq_some_iff.mp hls
   exact ⟨pr,List.mem_of_find?_eq_some e1,e2,by simpa using List.find?_some e1⟩
  have hin:=w.gin pr hpr
  rw [epr,epl] at hin
  show Aj _ _ _ (K (some (vs l)) z5) (St (CF gd l true))
  refine Bu (l:=ls) (fun l=>vs l) (fun p' ρ σ'=>∃ gd,(GdOk F gd/\∀ n,n∈gd.map (·.1) ↔ (∃ l∈p,n=l\/Blw F l n)\/n=l\/n∈p')/\(∃ z5,ρ=K (some (vs l)) z5)/\St gd=σ') (Fk (Ai (CU rfl) rfl (CE (kvs:=A5 Tx dl gs) rfl (by rw [Ba dl B6,hls]; rfl))) rfl) ⟨_,⟨G.put hl,fun n=>by rw [Gq,GI n]; simp [or_comm]⟩,⟨z5,rfl⟩,rfl⟩ ?_ ?_
  ·rintro p' l' q' ρ _ hp' ⟨gd,⟨G,GJ⟩,⟨z5,rfl⟩,rfl⟩
   have hgl:=G.len
   refine Db (z:=A4) (y:=A4) (k:=τ.length+3) (w:=Tx l') (dd:=.bool true) (kvs:=A5 Tx PyData.bool gd) rfl rfl rfl (hat gd) (by rw [BW]; exact Nat.lt_of_le_of_lt (Nat.le_trans hgl hF) (by decide)) (Ae ⟨_,rfl,CF gd l' true,⟨G.put (((hin.2 l').mp (by rw [hp']; simp)).names w.topo),fun n=>by
    rw [Gq,GJ n,List.mem_append,List.mem_singleton]
    constructor
    ·rintro (h | h | h | h)
     ·exact .inr (.inr (.inr h))
     ·exact .inl h
     ·exact .inr (.inl h)
     ·exact .inr (.inr (.inl h))
    ·rintro (h | h | h | h)
     ·exact .inr (.inl h)
     ·exact .inr (.inr (.inl h))
     ·exact .inr (.inr (.inr h))
     ·exact .inl h⟩,⟨_,rfl⟩,?_⟩)
   rw [Cs PyData.bool B6,hset]
  ·rintro ρ _ ⟨gd,⟨G,GJ⟩,⟨z5,rfl⟩,rfl⟩
   refine Ae ⟨_,rfl,gd,⟨G,fun n=>?_⟩,⟨_,_,rfl⟩,rfl⟩
   rw [GJ n,hin.2 n]
   constructor
   ·rintro (⟨x,hx,h⟩ | h)
    ·exact ⟨x,List.mem_append_left _ hx,h⟩
    ·exact ⟨l,List.mem_append_right _ (.head _),h⟩
   ·rintro ⟨x,hx,h⟩
    rcases List.mem_append.mp hx with hx | hx
    ·exact .inl ⟨x,hx,h⟩
    ·exact .inr (List.mem_singleton.mp hx▸h)
 rintro ρ _ ⟨gd,⟨G,GI⟩,⟨z3',z5,rfl⟩,rfl⟩
 have hgl:=Nat.le_trans G.len hF
 have hkeys:=keys_B (σ:=St gd) (k:=τ.length+3) (hat gd) (fun n hn=>hnm n (G.sub n hn)) hgl
 have hgs:gs.length<=60:=by have:=congrArg List.length w.gk; rw [List.length_map,List.length_map] at this; omega
 refine Db (z:=A4) (y:=A4) (k:=1) (w:=Tx c.1) (dd:=dl (Am (gd.map (·.1)))) (kvs:=A5 Tx dl gs) (AK (A0 (AK (A0 rfl) hkeys)) (DP (by show some (((gd.map (·.1)).map fun t=>PyData.str (Tx t)).map V.d)=_; rw [List.map_map]; rfl) (by rw [List.length_map]; omega))) (CU rfl) rfl rfl (by rw [BW]; exact Nat.lt_of_le_of_lt hgs (by decide)) ?_
 rw [Cs dl B6,E6 (C9.mpr (by rw [w.gk]; exact h.new))]
 have hhl:(hts [] F).length<=60:=by have:=congrArg List.length (Br [] F); rw [List.length_map,List.length_append,List.length_map] at this; simp at this; omega
 have hget:∀ l∈c.2.1,Az (hts [] F) l=some ((Az (hts [] F) l).getD 0):=fun l hl=>by
  obtain ⟨v,hv⟩:=AH.mpr (show l∈(hts [] F).map (·.1) by rw [Br]; exact h.lin l hl)
  rw [hv]; rfl
 let σ2:Ab:=W (F++[c]) (gs++[(c.1,Am (gd.map (·.1)))]) (hts [] F)++(τ++[oB gd])
 have hcomp:(ev (C0 4).O (.comp (.sub (.attr (Str.ofString "heights") (.var 0)) (.var 3)) [3] (.sub (.var 1) (.cst (.int 1))) .nil)).v (K z3' z5) σ2=some (.d (.list (c.2.1.map fun l=>.int ((Az (hts [] F) l).getD 0)))):=by
  rw [e_compK (l:=c.2.1) (fun t=>.str (Tx t)) (fun _=>true) (fun l=>.int ((Az (hts [] F) l).getD 0)) (it_ofV (y:=.ref (i+3)) (w:=vs) (Ai rfl rfl C7) (Eh H.snoc.W.l) rfl) (Nat.le_trans h.few (by decide)) (fun _ _=>rfl) (fun l hl _=>Ai (Ea rfl) rfl (CE (k:=2) (kvs:=A5 Tx PyData.int (hts [] F)) rfl (by rw [Ba PyData.int B6,hget l hl]; rfl))),Bl]
 have hmax:(ev (C0 4).O (.maxd (.comp (.sub (.attr (Str.ofString "heights") (.var 0)) (.var 3)) [3] (.sub (.var 1) (.cst (.int 1))) .nil) (.neg (.cst (.int 1))))).v (K z3' z5) σ2=some (vi (Dk (-1) (c.2.1.map fun l=>(Az (hts [] F) l).getD 0))):=by
  show ((ev (C0 4).O (.comp _ _ _ _)).v _ _).bind _=_
  rw [hcomp,bs]
  show (BV B8 ((c.2.1.map fun l=>PyData.int ((Az (hts [] F) l).getD 0)).map V.d)).bind _=_
  rw [show (c.2.1.map fun l=>PyData.int ((Az (hts [] F) l).getD 0)).map V.d=(c.2.1.map fun l=>(Az (hts [] F) l).getD 0).map vi by rw [List.map_map,List.map_map]; rfl,mapV_ints]
  rfl
 refine Db (z:=A4) (y:=A4) (k:=2) (w:=Tx c.1) (dd:=.int (hv (hts [] F) c.2.1)) (kvs:=A5 Tx PyData.int (hts [] F)) ((An rfl hmax rfl).trans ?_) (Ea rfl) rfl rfl (by rw [BW]; exact Nat.lt_of_le_of_lt hhl (by decide)) (Ae ⟨gd,⟨G,GI⟩,rfl,?_⟩)
 ·rw [max_one,List.map_map]; rfl
 ·rw [Cs PyData.int B6,E6 (C9.mpr (by rw [Br]; exact h.new)),hts_app]; rfl
theorem low_up {m:Nat}:∀ {v:V},low 0 v->low m v:=by
 intro v
 induction v with
 | ref k=>exact fun h=>absurd h (Nat.not_lt_zero _)
 | tup ws=>exact fun h k hk=>absurd (h k hk) (Nat.not_lt_zero _)
 | obj ks=>exact fun h k hk=>absurd (h k hk) (Nat.not_lt_zero _)
 | pr x y ix iy=>exact fun h=>⟨ix h.1,iy h.2⟩
 | _=>exact fun _=>trivial
theorem lowO_up {m:Nat} {o:O} (h:B4 0 o):B4 m o:=by
 cases o with
 | list vs=>exact fun v hv=>low_up (h v hv)
 | _=>trivial
theorem low0_W {hs:List (List Nat×Int)}:∀ o∈W F gs hs,B4 0 o:=fun o ho=>by
 rcases List.mem_cons.mp ho with rfl | ho
 ·trivial
 ·rcases List.mem_cons.mp ho with rfl | ho
  ·trivial
  ·rw [List.mem_singleton.mp ho]; trivial
theorem low_Wt {hs:List (List Nat×Int)} (hτ:∀ o∈τ,B4 0 o) (m k:Nat) (o:O) (e:(W F gs hs++τ)[k]? = some o):B4 m o :=
 (List.mem_append.mp (List.mem_of_getElem? e)).elim (fun h=>lowO_up (low0_W o h)) fun h=>lowO_up (hτ o h)
theorem fn_add (w:WvOk F gs) (c:Ch) (h:AddOk F c) (H:Hnd τ c i j) (hτ:∀ o∈τ,B4 0 o):∃ gs',WvOk (F++[c]) gs'/\FN 5 36 [self,xt c (i+3) (j+3)] (W F gs (hts [] F)++τ) A4 (W (F++[c]) gs' (hts [] (F++[c]))++τ):=by
 obtain ⟨v,σ',⟨gd,⟨G,GI⟩,k1,k2⟩,hf⟩:=FN.ends (C:=C0 4) (f:=36) (fn:=Dj) (zs:=[self,xt c (i+3) (j+3)]) (σ:=W F gs (hts [] F)++τ) (R:=fun v σ'=>∃ gd,(GdOk F gd/\GdIs F c.2.1 gd)/\v=A4/\σ'=W (F++[c]) (gs++[(c.1,Am (gd.map (·.1)))]) (hts [] (F++[c]))++(τ++[oB gd])) (by unfold Pg; rfl) rfl (show 1<=4 by decide) (run_add w c h H)
 rw [k1,k2,<-List.append_assoc] at hf
 have sub:∀ l,l∈F.map (·.1)->l∈(F++[c]).map (·.1):=fun l hl=>by rw [List.map_append]; exact List.mem_append_left _ hl
 have nd':((F++[c]).map (·.1)).Nodup:=by
  rw [List.map_append,List.nodup_append]
  exact ⟨w.nd,List.nodup_cons.mpr ⟨List.not_mem_nil,List.nodup_nil⟩,fun a ha b hb e=>h.new (by have hb:b=c.1:=List.mem_singleton.mp hb; rw [<-hb,<-e]; exact ha)⟩
 refine ⟨gs++[(c.1,Am (gd.map (·.1)))],⟨nd',w.topo.snoc h.lin,fun x hx=>?_,?_,?_,fun p hp=>?_⟩,?_⟩
 ·rcases List.mem_append.mp hx with hx | hx
  ·exact w.gen x hx
  ·rw [List.mem_singleton.mp hx]; exact h.toGenCh
 ·rw [List.length_append]; exact h.room
 ·rw [List.map_append,List.map_append,w.gk]; rfl
 ·rcases List.mem_append.mp hp with hp | hp
  ·have hp1:p.1∈F.map (·.1):=by rw [<-w.gk]; exact List.mem_map_of_mem hp
   exact ⟨(w.gin p hp).1,fun l=>((w.gin p hp).2 l).trans (Blw.snoc w.topo h.new hp1).symm⟩
  ·rw [List.mem_singleton.mp hp]
   refine ⟨⟨?_,Be _ G.nd⟩,fun l=>?_⟩
   ·show (Am _).length<=60
    rw [(Ah _).length_eq,List.length_map]; exact Nat.le_trans G.len w.len
   ·show l∈Am _ ↔ Blw (F++[c]) c.1 l
    rw [(Ah _).mem_iff,GI l,Blw.step (F:=F++[c]) nd' (List.mem_append_right _ (.head _))]
    refine exists_congr fun x=>and_congr_right fun hx=>or_congr Iff.rfl (Blw.snoc w.topo h.new (h.lin x hx)).symm
 ·exact FA.seal' (σ:=W F gs (hts [] F)++τ) (σ':=W (F++[c]) (gs++[(c.1,Am (gd.map (·.1)))]) (hts [] (F++[c]))++τ) (τ:=[oB gd]) (d:=.none) hf (by simp) (fun k o e=>low_Wt hτ _ k o e) rfl
end
end Mine
namespace Mine
open PySem
theorem hgt_rec {F:List Ch} (nd:(F.map (·.1)).Nodup) (ht:Cl F) {c:Ch} (hc:c∈F):hgt F c.1=Dk 0 (c.2.1.map fun l=>hgt F l+1):=by
 obtain ⟨pre,post,rfl⟩:=List.append_of_mem hc
 have nd':=nd
 rw [List.map_append,List.map_cons,List.nodup_append] at nd'
 have hn:Az (hts [] pre) c.1=none:=C9.mpr (by rw [Br]; exact fun q=>nd'.2.2 c.1 q c.1 (.head _) rfl)
 have old:∀ {n v},Az (hts [] pre++[(c.1,hv (hts [] pre) c.2.1)]) n=some v->hgt (pre++c::post) n=v:=fun {n v} e=>by
  unfold hgt
  rw [hts_app,hts,hts_old e]; rfl
 rw [old (v:=hv (hts [] pre) c.2.1) (by rw [get_right hn,Bb,if_pos rfl])]
 unfold hv
 congr 1
 refine List.map_congr_left fun l hl=>?_
 obtain ⟨v,hv'⟩:=AH.mpr (show l∈(hts [] pre).map (·.1) by rw [Br]; exact ht pre c post rfl l hl)
 rw [old (get_left hv'),hv']; rfl
theorem hgt_same {F G:List Ch} (nd:(F.map (·.1)).Nodup) (hp:G.Perm F) (hF:Cl F) (hG:Cl G):∀ c∈F,hgt F c.1=hgt G c.1:=by
 have ndG:(G.map (·.1)).Nodup:=(hp.map _).nodup_iff.mpr nd
 have key:∀ (post pre:List Ch),F=pre++post->(∀ c∈pre,hgt F c.1=hgt G c.1)->∀ c∈F,hgt F c.1=hgt G c.1:=by
  intro post
  induction post with
  | nil=>intro pre e h; rw [List.append_nil] at e; rw [e] at h ⊢; exact h
  | cons x post ih =>
   intro pre e h
   refine ih (pre++[x]) (by rw [List.append_assoc]; exact e) fun c hc=>?_
   rcases List.mem_append.mp hc with hc | hc
   ·exact h c hc
   ·rw [List.mem_singleton.mp hc]
    have hx:x∈F:=by rw [e]; simp
    rw [hgt_rec nd hF hx,hgt_rec ndG hG (hp.mem_iff.mpr hx)]
    congr 1
    refine List.map_congr_left fun l hl=>?_
    obtain ⟨y,hy,rfl⟩:=List.mem_map.mp (hF pre x post e l hl)
    rw [h y hy]
 exact key F [] rfl fun c h=>nomatch h
theorem BJ.topo {cs:List Ch} (H:BJ cs):Cl cs:=fun pre c post e=>(H.ok pre c post e).1
end Mine
namespace Mine
open PySem
theorem go_forI {C:Cfg} {P:Fl->Ab->Prop} {r body:S} {ρ:Ag} {σ σ₁:Ab} {it:E} {x:Nat} {α:Type} {l:List α} (w:α->V) (J:List α->Ag->Ab->Prop) (hit:SI (C.n+3) it ρ σ (l.map w) [] σ₁) (hJ:J [] ρ σ₁)
 (hf:∀ p a q ρ σ,l=p++a::q->J p ρ σ->Aj C (fun fl σ'=>∃ ρ',fl=.next ρ'/\J (p++[a]) ρ' σ') body (ρ.set x (some (w a))) σ) (k:∀ ρ' σ',J l ρ' σ'->Aj C P r ρ' σ'):Aj C P (.cons (.for_ [x] it body) r) ρ σ:=by
 obtain ⟨ρe,σe,h1,h2⟩:=turns (C:=C) (body:=body) (ts:=[x]) (kps:=[]) w J l [] ρ σ₁ (fun _ _ _ _ _ _ m=>nomatch m) (fun _ _=>.inl rfl) hJ hf
 exact C8 (fl:=.next ρe) (fun Q q=>.for_ hit (h2 Q q)) (k ρe σe h1)
theorem fn_heights (cs:List Ch) (hg:∀ c∈cs,c.2.1.length<=60) (hl:cs.length<=60) (nd:(cs.map (·.1)).Nodup) (ht:Cl cs):FN 2 19 [.d (.list (cs.map Ch.data))] [] (.ref 0) [oT (hts [] cs)]:=by
 exact FN.same (C:=C0 1) (fn:=Fheights) (by unfold Pg; rfl) rfl (Nat.le_refl _) (by
  show Aj _ _ _ [some (.d (.list (cs.map Ch.data))),none,none,none] []
  refine go_asgD ?_
  refine Bu (l:=cs) vc (fun p ρ σ=>(∃ z2 z3,ρ=[some (.d (.list (cs.map Ch.data))),some (.ref 0),z2,z3])/\[oT (hts [] p)]=σ) (F5 rfl) ⟨⟨none,none,rfl⟩,rfl⟩ ?_ ?_
  ·rintro p c q ρ _ e ⟨⟨z2,z3,rfl⟩,rfl⟩
   have hc:c∈cs:=by rw [e]; simp
   have hget:∀ l∈c.2.1,Az (hts [] p) l=some ((Az (hts [] p) l).getD 0):=fun l hl=>by
    obtain ⟨v,hv⟩:=AH.mpr (show l∈(hts [] p).map (·.1) by rw [Br]; exact ht p c q e l hl)
    rw [hv]; rfl
   have hcomp:(ev (C0 1).O (.comp (.bin .Add (.sub (.var 1) (.var 3)) (.cst (.int 1))) [3] (.sub (.var 2) (.cst (.int 1))) .nil)).v [some (.d (.list (cs.map Ch.data))),some (.ref 0),some (vc c),z3] [oT (hts [] p)]=some (.d (.list (c.2.1.map fun l=>.int ((Az (hts [] p) l).getD 0+1)))):=by
    rw [EL (l:=c.2.1) (fun t=>.str (Tx t)) (fun _=>true) (fun l=>.int ((Az (hts [] p) l).getD 0+1)) (Fk (Ai rfl rfl (DO c)) rfl) (Nat.le_trans (hg c hc) (by decide)) (fun _ _=>rfl) (fun l hl _=>An (Ai rfl rfl (CE (k:=0) (kvs:=A5 Tx PyData.int (hts [] p)) rfl (by rw [Ba PyData.int B6,hget l hl]; rfl))) rfl rfl),Bl]
   have hmax:(ev (C0 1).O (.maxd (.comp (.bin .Add (.sub (.var 1) (.var 3)) (.cst (.int 1))) [3] (.sub (.var 2) (.cst (.int 1))) .nil) (.cst (.int 0)))).v [some (.d (.list (cs.map Ch.data))),some (.ref 0),some (vc c),z3] [oT (hts [] p)]=some (vi (hv (hts [] p) c.2.1)):=by
    show ((ev (C0 1).O (.comp _ _ _ _)).v _ _).bind _=_
    rw [hcomp,bs]
    show (BV B8 ((c.2.1.map fun l=>PyData.int ((Az (hts [] p) l).getD 0+1)).map V.d)).bind _=_
    rw [show (c.2.1.map fun l=>PyData.int ((Az (hts [] p) l).getD 0+1)).map V.d=(c.2.1.map fun l=>(Az (hts [] p) l).getD 0+1).map vi by rw [List.map_map,List.map_map]; rfl,mapV_ints]
    rfl
   have hpl:(hts [] p).length<=60:=by
    have h1:=congrArg List.length (Br [] p)
    have h2:=congrArg List.length e
    simp at h1 h2; omega
   refine Db (z:=A4) (y:=A4) (k:=0) (w:=Tx c.1) (dd:=.int (hv (hts [] p) c.2.1)) (kvs:=A5 Tx PyData.int (hts [] p)) hmax rfl (Ai rfl rfl (Bo c)) rfl (by rw [BW]; exact Nat.lt_of_le_of_lt hpl (by decide)) (Ae ⟨_,rfl,⟨_,_,rfl⟩,?_⟩)
   rw [Cs PyData.int B6,E6 (C9.mpr ?_),hts_app]
   ·rfl
   ·rw [Br]
    rw [e,List.map_append,List.map_cons,List.nodup_append] at nd
    exact fun q=>nd.2.2 c.1 q c.1 (.head _) rfl
  ·rintro ρ _ ⟨⟨z2,z3,rfl⟩,rfl⟩
   exact AS (v:=.ref 0) rfl ⟨rfl,rfl⟩)
end Mine
namespace Mine
open PySem
theorem hgt_get {cs:List Ch} {n:List Nat} (h:n∈cs.map (·.1)):Az (hts [] cs) n=some (hgt cs n):=by
 obtain ⟨v,hv⟩:=AH.mpr (show n∈(hts [] cs).map (·.1) by rw [Br]; exact h)
 unfold hgt
 rw [hv]; rfl
end Mine
namespace Mine
open PySem
noncomputable abbrev nms (F:List Ch):List (List Nat):=F.map (·.1)
end Mine
namespace Mine
open PySem
structure Wov (cs F:List Ch) (gs:Gsl):Prop where
 H:BJ cs
 gen:∀ c∈cs,GenCh c
 len:cs.length<=60
 perm:F.Perm cs
 w:WvOk F gs
theorem keys_H {σ:Ab} {k:Nat} {F:List Ch} (hk:σ[k]? = some (oH F)) (hl:∀ n∈nms F,n.length<=12) (h:F.length<=60):AV .list σ [.ref k]=some (.d (dl (nms F))):=by
 show (keysO σ[k]?).bind mkL=_
 rw [hk]
 show ((if (A5 Tx Ch.data (hK F)).all (fun p=>decide (p.1.length<=line))=true then some (vss ((A5 Tx Ch.data (hK F)).map (·.1))) else none).bind mkL)=_
 rw [if_pos,bs]
 ·have e:vss ((A5 Tx Ch.data (hK F)).map (·.1))=((nms F).map fun t=>PyData.str (Tx t)).map V.d:=by
   show ((A5 Tx Ch.data (hK F)).map (·.1)).map _=_
   unfold A5
   rw [List.map_map,List.map_map,List.map_map,List.map_map,List.map_map]; rfl
  rw [e]
  exact FL _ (by rw [List.length_map,List.length_map]; exact Nat.le_trans h (by decide))
 ·rw [List.all_eq_true]
  intro p hp
  obtain ⟨q,hq,rfl⟩:=List.mem_map.mp hp
  obtain ⟨c,hc,rfl⟩:=List.mem_map.mp hq
  refine decide_eq_true ?_
  show (Tx c.1).length<=line
  rw [Eu]; exact Nat.le_trans (hl c.1 (List.mem_map_of_mem hc)) (by decide)
end Mine
namespace Mine
open PySem
theorem G6 {a b:List (List Nat)} (h:a.Perm b) (nd:a.Nodup):Am a=Am b:=D4 (fun x y p q=>List.lt_irrefl _ (List.lt_trans p q)) (Be a nd) (Be b (h.nodup_iff.mp nd)) ((Ah a).trans (h.trans (Ah b).symm))
section
variable {cs F:List Ch} {gs:Gsl}
theorem fn_names (h:Wov cs F gs):FN 2 40 [self] (W F gs (hts [] F)) (.ref 3) (W F gs (hts [] F)++[.list ((Am (nms cs)).map vs)]):=by
 have hnm:∀ n∈nms F,n.length<=12:=fun n hn=>by
  obtain ⟨x,hx,rfl⟩:=List.mem_map.mp hn
  exact ((Bz _).mp (h.w.gen x hx).name).2.1
 have hlen:=h.w.len
 obtain ⟨v,σ',⟨k2,k3⟩,hf⟩:=FN.ends (C:=C0 1) (f:=40) (fn:=EW) (zs:=[self]) (σ:=W F gs (hts [] F)) (R:=fun v σ'=>v=.ref 3/\σ'=W F gs (hts [] F)++[.list ((Am (nms F)).map vs)]) (by unfold Pg; rfl) rfl (Nat.le_refl _) (by
  show Aj _ _ _ [some self] (W F gs (hts [] F))
  refine go_retT (ws:=(Am (nms F)).map vs) ?_ ⟨rfl,rfl⟩
  show (((ev (C0 1).O (.cons _ .nil)).row _ _).bind (bmake .sorted _)).bind _=_
  rw [A0 (AK (A0 (Dh rfl)) (keys_H rfl hnm h.w.len)),bs]
  show ((BV Bq (((nms F).map fun t=>PyData.str (Tx t)).map V.d)).bind fun ss=>if ss.length < 64 then some (vss (Cg ss)) else none).bind _=_
  rw [show ((nms F).map fun t=>PyData.str (Tx t)).map V.d=(nms F).map vs by rw [List.map_map]; rfl,mapV_vs,bs,if_pos (by rw [List.length_map,List.length_map]; omega),bs,CX]
  have e:vss ((Am (nms F)).map Tx)=(Am (nms F)).map vs:=by
   show ((Am (nms F)).map Tx).map _=_
   rw [List.map_map]; rfl
  rw [e,if_pos]
  rw [List.length_map,(Ah _).length_eq,List.length_map]
  exact Nat.le_trans hlen (by decide))
 rw [k2,k3,G6 (h.perm.map _) h.w.nd] at hf
 exact hf
end
end Mine
namespace Mine
open PySem
def DI (σ:Ab) (x:V) (ds:List PyData):Prop:=x=.d (.list ds)\/∃ k,x=.ref k/\σ[k]? = some (.list (ds.map .d))
section
variable {σ:Ab} {x:V} {ds:List PyData}
theorem DI.lst (h:DI σ x ds):As σ x=some (ds.map .d):=by
 rcases h with rfl | ⟨k,rfl,h⟩
 ·rfl
 ·show CG σ[k]? = _
  rw [h]; rfl
theorem DI.snap (h:DI σ x ds):snap σ x=some (.list ds):=by
 rcases h with rfl | ⟨k,rfl,h⟩
 ·rfl
 ·show lstD (CG σ[k]?)=_
  rw [h]
  show (Dr (ds.map V.d)).bind _=_
  rw [CT]; rfl
theorem DI.isi (h:DI σ x ds):AV .isinstance σ [x,.ty "list"]=some (vb true):=by
 rcases h with rfl | ⟨k,rfl,h⟩
 ·rfl
 ·show ((tyOf σ (.ref k)).bind _).bind _=_
  rw [show tyOf σ (.ref k)=some "list" by show (CG σ[k]?).bind _=_; rw [h]; rfl]
  rfl
theorem DI.len (h:DI σ x ds):AV .len σ [x]=some (vi ds.length):=(len_of' h.lst).trans (by rw [List.length_map])
theorem DU (l:List Nat):AV .isinstance σ [vs l,.ty "str"]=some (vb true):=rfl
end
theorem zip_self {α:Type}:∀ l:List α,l.zip l=l.map fun a=>(a,a)
 | []=>rfl
 | a::l=>congrArg ((a,a) :: ·) (zip_self l)
theorem DG {σ:Ab} {α:Type} (l:List α):AV .all σ [.d (.list (l.map fun _=>PyData.bool true))]=some (vb true):=by
 show (BV EM ((l.map fun _=>PyData.bool true).map V.d)).bind _=_
 have:BV EM ((l.map fun _=>PyData.bool true).map V.d)=some (l.map fun _=>true):=by
  induction l with
  | nil=>rfl
  | cons a l ih=>show (BV EM ((l.map fun _=>PyData.bool true).map V.d)).bind _=_; rw [ih]; rfl
 rw [this,bs]
 congr 2
 rw [List.all_eq_true.mpr fun x hx=>?_]
 obtain ⟨_,_,rfl⟩:=List.mem_map.mp hx; rfl
theorem De {σ:Ab} {x:V} (r:List (List Nat)) (hx:DI σ x (r.map fun t=>.str (Tx t))) (hl:r.length<=10000):FN 2 24 [x,.d (dl r)] σ (vb true) σ:=by
 have hl':r.length<=line:=Nat.le_trans hl (by decide)
 exact FN.same (C:=C0 1) (fn:=FG) (by unfold Pg; rfl) rfl (Nat.le_refl _) (by
  show Aj _ _ _ [some x,some (.d (dl r)),none] σ
  refine Cf (Dm (p:=false) (q:=false) (Cu (p:=true) (Cv (Bw rfl rfl) hx.isi)) (fun _=>(Ay (AK (A0 rfl) hx.len) (AK (A0 rfl) ED) ne_int).trans (by rw [decide_eq_true rfl]; rfl))) rfl ?_
  refine AS (e_and2v (p:=true) (q:=true) (AK (A0 (x:=.d (.list (r.map fun _=>PyData.bool true))) ?_) (DG r)) fun _=>Fr rfl rfl ?_) ⟨rfl,rfl⟩
  ·have hit:(ev (C0 1).O (.var 0)).it [some x,some (.d (dl r)),none] σ=some (r.map vs,Ct x ((r.map fun t=>PyData.str (Tx t)).map .d)):=by
    show CH σ x=_
    have e:CH σ x=(As σ x).bind fun ws=>some (ws,Ct x ws):=by rcases hx with rfl | ⟨k,rfl,_⟩ <;> rfl
    rw [e,hx.lst,bs,List.map_map]; rfl
   refine D6 ?_
   rw [BP (t:=2) vs (fun _=>true) (fun _=>vb true) hit hl' (fun _ _=>rfl) (fun a _ _=>AK (Bw rfl rfl) (DU a)),Bl,List.map_map]; rfl
  ·show (snap σ x).bind (fun d=>(snap σ (.d (dl r))).bind fun d'=>eqN A2 d d')=_
   rw [hx.snap,bs]
   obtain ⟨q,q1,q2⟩:=GM (eqt_str 39) r r
   exact (show eqN A2 (dl r) (dl r)=some q from q1).trans (by rw [q2 rfl]))
end Mine
namespace Mine
open PySem
end Mine
namespace Mine
open PySem
end Mine
namespace Mine
open PySem
theorem e_nlst {O:Orc} {ρ:Ag} {σ:Ab} {es:E} {ws:List V} (h:(ev O es).row ρ σ=some ws) (hl:ws.length<=line):(ev O (.lst es)).nl ρ σ=some ws:=by
 show ((ev O es).row ρ σ).bind (fun ws=>if ws.length<=line then some ws else none)=_
 rw [h,bs,if_pos hl]
theorem FE {O:Orc} {ρ:Ag} {σ:Ab} {es:E} {b:Bi} {xs ws:List V} (h:(ev O es).row ρ σ=some xs) (h2:bmake b σ xs=some ws) (hl:ws.length<=line):(ev O (.bi b es)).nl ρ σ=some ws:=by
 show (((ev O es).row ρ σ).bind (bmake b σ)).bind (fun ws=>if ws.length<=line then some ws else none)=_
 rw [h,bs,h2,bs,if_pos hl]
end Mine
namespace Mine
open PySem
theorem Em {l:List (List Nat)} (h:l.Pairwise (· < ·)):l.Nodup:=h.imp fun {a b} (h:a < b) (e:a=b)=>List.lt_irrefl b (by rw [e] at h; exact h)
section
variable {C:Cfg} {P:Fl->Ab->Prop} {c:E} {body r:S} {ρ:Ag} {σ:Ab}
theorem whilesB (J:Nat->Ag->Ab->Prop) (B:Ag->Ab->Bool) (ht:∀ m ρ σ,J m ρ σ->C.t c ρ σ=some (B ρ σ)) (h0:∀ ρ σ,J 0 ρ σ->B ρ σ=false)
 (hf:∀ m ρ σ,J (m+1) ρ σ->B ρ σ=true->Aj C (fun fl σ'=>∃ ρ',fl=.next ρ'/\J m ρ' σ') body ρ σ):∀ (m:Nat) (ρ:Ag) (σ:Ab),J m ρ σ->∃ ρe σe m',J m' ρe σe/\B ρe σe=false/\∀ Q:Fl->Ab->Prop,Q (.next ρe) σe->WhQ (C.n+3) c body Q (m+1) ρ σ
 | 0,ρ,σ,hJ=>⟨ρ,σ,0,hJ,h0 ρ σ hJ,fun Q q=>⟨false,σ,(Ad C.ok c).t (h0 ρ σ hJ▸ht 0 ρ σ hJ),fun _=>q,fun h=>ff_ h⟩⟩
 | m+1,ρ,σ,hJ=>by
  have h:=ht (m+1) ρ σ hJ
  cases e:B ρ σ with
  | false=>rw [e] at h; exact ⟨ρ,σ,m+1,hJ,e,fun Q q=>⟨false,σ,(Ad C.ok c).t h,fun _=>q,fun h=>ff_ h⟩⟩
  | true =>
   rw [e] at h
   obtain ⟨fl,σ₁,⟨ρ1,rfl,h1⟩,h2⟩:=hf m ρ σ hJ e
   obtain ⟨ρe,σe,m',h3,h5,h4⟩:=whilesB J B ht h0 hf m ρ1 σ₁ h1
   exact ⟨ρe,σe,m',h3,h5,fun Q q=>⟨true,σ,(Ad C.ok c).t h,fun h=>tt_ h,fun _=>SSs.mono (fun f s e=>by rw [e.1,e.2]; exact h4 Q q) h2⟩⟩
theorem go_whileB (J:Nat->Ag->Ab->Prop) (B:Ag->Ab->Bool) (m:Nat) (hJ:J m ρ σ) (ht:∀ m ρ σ,J m ρ σ->C.t c ρ σ=some (B ρ σ)) (h0:∀ ρ σ,J 0 ρ σ->B ρ σ=false)
 (hf:∀ m ρ σ,J (m+1) ρ σ->B ρ σ=true->Aj C (fun fl σ'=>∃ ρ',fl=.next ρ'/\J m ρ' σ') body ρ σ) (k:∀ m' ρ' σ',J m' ρ' σ'->B ρ' σ'=false->Aj C P r ρ' σ'):Aj C P (.cons (.while_ c body) r) ρ σ:=by
 obtain ⟨ρe,σe,m',h1,h2,h3⟩:=whilesB (C:=C) J B ht h0 hf m ρ σ hJ
 exact C8 (fl:=.next ρe) (fun Q q=>.while_ (h3 Q q)) (k m' ρe σe h1 h2)
end
theorem Blw.trans {F:List Ch} {a b c:List Nat} (x:Blw F a b) (y:Blw F b c):Blw F a c:=by
 induction x with
 | one hc hl=>exact .more hc hl y
 | more hc hl _ ih=>exact .more hc hl (ih y)
noncomputable def rem (fs:List (List Nat)):List Ch->Nat
 | []=>0
 | c::cs=>(if c.1∈fs then 0 else c.2.1.length)+rem fs cs
theorem rem_same (fs:List (List Nat)) (n:List Nat):∀ cs:List Ch,n∉nms cs->rem (fs++[n]) cs=rem fs cs
 | [],_=>rfl
 | c::cs,h=>by
  have h1:c.1≠n:=fun e=>h (e▸.head _)
  show (if c.1∈fs++[n] then 0 else c.2.1.length)+rem (fs++[n]) cs=(if c.1∈fs then 0 else c.2.1.length)+rem fs cs
  rw [rem_same fs n cs fun q=>h (.tail _ q)]
  congr 1
  have:(c.1∈fs++[n]) ↔ c.1∈fs:=by rw [List.mem_append,List.mem_singleton]; exact ⟨fun q=>q.resolve_right h1,.inl⟩
  simp only [this]
theorem rem_add {fs:List (List Nat)} {c:Ch} (hf:c.1∉fs):∀ {cs:List Ch},(nms cs).Nodup->c∈cs->rem fs cs=c.2.1.length+rem (fs++[c.1]) cs
 | a::cs,nd,hc=>by
  have nd:=List.nodup_cons.mp nd
  show (if a.1∈fs then 0 else a.2.1.length)+rem fs cs=c.2.1.length+((if a.1∈fs++[c.1] then 0 else a.2.1.length)+rem (fs++[c.1]) cs)
  rcases List.mem_cons.mp hc with e | hc
  ·subst e
   rw [if_neg hf,if_pos (List.mem_append_right _ (.head _)),rem_same fs c.1 cs nd.1,Nat.zero_add]
  ·have h1:a.1≠c.1:=fun e=>nd.1 (show a.1∈nms cs by rw [e]; exact List.mem_map_of_mem hc)
   rw [rem_add hf nd.2 hc]
   have:(a.1∈fs++[c.1]) ↔ a.1∈fs:=by rw [List.mem_append,List.mem_singleton]; exact ⟨fun q=>q.resolve_right h1,.inl⟩
   simp only [this]; omega
theorem rem_le (fs:List (List Nat)):∀ cs:List Ch,(∀ c∈cs,c.2.1.length<=60)->rem fs cs<=60 * cs.length
 | [],_=>Nat.le_refl _
 | c::cs,h=>by
  have:=rem_le fs cs fun x hx=>h x (.tail _ hx)
  have:=h c (.head _)
  show (if c.1∈fs then 0 else c.2.1.length)+rem fs cs<=60 * (cs.length+1)
  split <;> omega
structure FQ (cs:List Ch) (ns fs wt:List (List Nat)):Prop where
 nd:fs.Nodup
 sub:∀ n,n∈fs\/n∈wt->∃ o∈ns,n=o\/Blw cs o n
 all:∀ o∈ns,o∈fs\/o∈wt
 cov:∀ c∈cs,c.1∈fs->∀ l∈c.2.1,l∈fs\/l∈wt
section
variable {cs:List Ch} {ns fs wt:List (List Nat)}
theorem FQ.names (h:FQ cs ns fs wt) (ht:Cl cs) (hn:∀ n∈ns,n∈nms cs) {n:List Nat} (q:n∈fs\/n∈wt):n∈nms cs:=by
 obtain ⟨o,ho,e | e⟩:=h.sub n q
 ·rw [e]; exact hn o ho
 ·exact e.names ht
theorem FQ.skip {n:List Nat} (h:FQ cs ns fs (wt++[n])) (hn:n∈fs):FQ cs ns fs wt:=by
 have drop:∀ {x},x∈fs\/x∈wt++[n]->x∈fs\/x∈wt:=fun {x} q=>q.elim .inl fun q=>(List.mem_append.mp q).elim .inr fun q=>.inl (List.mem_singleton.mp q▸hn)
 exact ⟨h.nd,fun x q=>h.sub x (q.imp id (List.mem_append_left _)),fun o ho=>drop (h.all o ho),fun c hc hf l hl=>drop (h.cov c hc hf l hl)⟩
theorem FQ.take {c:Ch} (nd:(nms cs).Nodup) (h:FQ cs ns fs (wt++[c.1])) (hc:c∈cs) (hn:c.1∉fs):FQ cs ns (fs++[c.1]) (wt++c.2.1):=by
 have mv:∀ {x},x∈fs\/x∈wt++[c.1]->x∈fs++[c.1]\/x∈wt++c.2.1:=fun {x} q=>q.elim (fun q=>.inl (List.mem_append_left _ q)) fun q=>(List.mem_append.mp q).elim (fun q=>.inr (List.mem_append_left _ q)) fun q=>.inl (List.mem_append_right _ q)
 have here:c.1∈fs\/c.1∈wt++[c.1]:=.inr (List.mem_append_right _ (.head _))
 refine ⟨List.nodup_append.mpr ⟨h.nd,List.nodup_cons.mpr ⟨List.not_mem_nil,List.nodup_nil⟩,fun a ha b hb e=>hn (by rw [<-List.mem_singleton.mp hb,<-e]; exact ha)⟩,fun x q=>?_,fun o ho=>mv (h.all o ho),fun d hd hf l hl=>?_⟩
 ·rcases q with q | q
  ·rcases List.mem_append.mp q with q | q
   ·exact h.sub x (.inl q)
   ·rw [List.mem_singleton.mp q]; exact h.sub _ here
  ·rcases List.mem_append.mp q with q | q
   ·exact h.sub x (.inr (List.mem_append_left _ q))
   ·obtain ⟨o,ho,e⟩:=h.sub _ here
    refine ⟨o,ho,.inr ?_⟩
    rcases e with e | e
    ·rw [<-e]; exact .one hc q
    ·exact Blw.trans e (.one hc q)
 ·rcases List.mem_append.mp hf with hf | hf
  ·exact mv (h.cov d hd hf l hl)
  ·rw [uniq_of nd hd hc (List.mem_singleton.mp hf)] at hl
   exact .inr (List.mem_append_right _ hl)
theorem FQ.done (h:FQ cs ns fs []) {n:List Nat}:n∈fs ↔ ∃ o∈ns,n=o\/Blw cs o n:=by
 have up:∀ {a b:List Nat},Blw cs a b->a∈fs->b∈fs:=fun x=>by
  induction x with
  | one hc hl=>exact fun q=>(h.cov _ hc q _ hl).resolve_right List.not_mem_nil
  | more hc hl _ ih=>exact fun q=>ih ((h.cov _ hc q _ hl).resolve_right List.not_mem_nil)
 refine ⟨fun q=>h.sub n (.inl q),fun ⟨o,ho,e⟩=>?_⟩
 have h1:=(h.all o ho).resolve_right List.not_mem_nil
 exact e.elim (fun e=>e▸h1) fun e=>up e h1
end
end Mine
namespace Mine
open PySem
noncomputable abbrev lnK (cs:List Ch):Gsl:=cs.map fun c=>(c.1,c.2.1)
noncomputable abbrev oL (cs:List Ch):O:=.dictS (A5 Tx dl (lnK cs))
theorem getL {F:List Ch} (nd:(F.map (·.1)).Nodup) {c:Ch} (hc:c∈F):Az (lnK F) c.1=some c.2.1:=by
 induction F with
 | nil=>cases hc
 | cons a F ih =>
  have nd':=List.nodup_cons.mp nd
  show Az ((a.1,a.2.1)::lnK F) c.1=_
  rw [Bb]
  rcases List.mem_cons.mp hc with rfl | hc
  ·exact if_pos rfl
  ·rw [if_neg fun e=>nd'.1 (by show a.1∈F.map (·.1); rw [show a.1=c.1 from e]; exact List.mem_map_of_mem hc)]
   exact ih nd'.2 hc
theorem fn_ground {cs:List Ch} (nd:(nms cs).Nodup) (ht:Cl cs) (hl:cs.length<=60) (hg:∀ c∈cs,c.2.1.length<=60) {ns:List (List Nat)} (hn:∀ n∈ns,n∈nms cs) (hnl:ns.length<=100):∃ fs:List (List Nat),fs.Nodup/\(∀ n,n∈fs ↔ ∃ o∈ns,n=o\/Blw cs o n)/\∀ σ,FN 2 28 [.d (.list (cs.map Ch.data)),.d (dl ns)] σ (.d (dl fs)) σ:=by
 let C:=C0 1
 obtain ⟨v,σ',⟨fs,wt,g1,g2,k2,k3⟩,h⟩:=FN.ends (C:=C) (f:=28) (fn:=Fground) (zs:=[.d (.list (cs.map Ch.data)),.d (dl ns)]) (σ:=[]) (R:=fun v σ'=>∃ fs wt,FQ cs ns fs wt/\wt=[]/\v=.ref 1/\σ'=[oL cs,.list (fs.map vs),.list (wt.map vs)]) (by unfold Pg; rfl) rfl (Nat.le_refl _) (by
  let K:Option V->Option V->Option V->Option V->Option V->Ag:=fun z2 z3 z4 z5 z6=>[some (.d (.list (cs.map Ch.data))),some (.d (dl ns)),z2,z3,z4,z5,z6]
  show Aj C _ _ (K none none none none none) []
  refine go_asgD ?_
  refine Bu (l:=cs) vc (fun p ρ σ=>(∃ z3,ρ=K (some (.ref 0)) z3 none none none)/\[oL p]=σ) (F5 rfl) ⟨⟨none,rfl⟩,rfl⟩ ?_ ?_
  ·rintro p c q ρ _ e ⟨⟨z3,rfl⟩,rfl⟩
   have hpl:(lnK p).length<=60:=by
    have h2:=congrArg List.length e
    rw [List.length_append,List.length_cons] at h2
    rw [List.length_map]; omega
   refine Db (z:=A4) (y:=A4) (k:=0) (w:=Tx c.1) (dd:=dl c.2.1) (kvs:=A5 Tx dl (lnK p)) (Ai rfl rfl (DO c)) rfl (Ai rfl rfl (Bo c)) rfl (by rw [BW]; exact Nat.lt_of_le_of_lt hpl (by decide)) (Ae ⟨_,rfl,⟨_,rfl⟩,?_⟩)
   rw [Cs dl B6,E6 (C9.mpr ?_),oL,lnK,lnK,List.map_append]
   ·rfl
   ·rw [lnK,List.map_map]
    show c.1∉p.map (·.1)
    rw [e,nms,List.map_append,List.map_cons,List.nodup_append] at nd
    exact fun q=>nd.2.2 c.1 q c.1 (.head _) rfl
  rintro ρ _ ⟨⟨z3,rfl⟩,rfl⟩
  refine BE (ws:=[]) rfl ?_
  refine BE (ws:=ns.map vs) (FE (A0 rfl) (by show some ((ns.map fun t=>PyData.str (Tx t)).map V.d)=_; rw [List.map_map]; rfl) (by rw [List.length_map]; exact Nat.le_trans hnl (by decide))) ?_
  let St:List (List Nat)->List (List Nat)->Ab:=fun fs wt=>[oL cs,.list (fs.map vs),.list (wt.map vs)]
  have hr:=rem_le [] cs hg
  refine go_whileB (fun m ρ σ=>m<=10000/\∃ fs wt,FQ cs ns fs wt/\wt.length+rem fs cs=m/\(∃ z6,ρ=K (some (.ref 0)) z3 (some (.ref 1)) (some (.ref 2)) z6)/\St fs wt=σ) (fun ρ σ=>match σ with | [_,_,.list ws]=>!ws.isEmpty | _=>false) (ns.length+rem [] cs) ⟨by omega,[],ns,⟨List.nodup_nil,fun n q=>⟨n,q.resolve_left List.not_mem_nil,.inl rfl⟩,fun o ho=>.inr ho,fun c _ q=>nomatch q⟩,rfl,⟨_,rfl⟩,rfl⟩ ?_ ?_ ?_ ?_
  ·rintro m ρ _ ⟨_,fs,wt,_,_,⟨z6,rfl⟩,rfl⟩
   exact tr_of' (σ:=St fs wt) (x:=.ref 2) (ws:=wt.map vs) rfl
  ·rintro ρ _ ⟨_,fs,wt,_,e,_,rfl⟩
   have:wt=[]:=List.length_eq_zero_iff.mp (by omega)
   subst this; rfl
  ·rintro m ρ _ ⟨hm,fs,wt,G,e,⟨z6,rfl⟩,rfl⟩ hB
   rcases List.eq_nil_or_concat wt with rfl | ⟨wt,y,rfl⟩
   ·cases hB
   rw [List.concat_eq_append] at G e ⊢
   rw [List.length_append] at e
   have e:wt.length+1+rem fs cs=m+1:=e
   have hy:y∈nms cs:=G.names ht hn (.inr (List.mem_append_right _ (.head _)))
   obtain ⟨c,hc,rfl⟩:=List.mem_map.mp hy
   have hfl:fs.length<=60:=by
    have:=pigeon fs (nms cs) G.nd fun n q=>G.names ht hn (.inl q)
    rw [List.length_map] at this; omega
   refine go_pop (k:=2) (ws:=wt.map vs) (y:=vs c.1) rfl (by show some (O.list ((wt++[c.1]).map vs))=_; rw [List.map_append]; rfl) ?_
   show Aj _ _ _ (K (some (.ref 0)) z3 (some (.ref 1)) (some (.ref 2)) (some (vs c.1))) (St fs wt)
   refine Bn (t:=!decide (c.1∈fs)) (Ay rfl rfl (by rw [c_nin,in_of (l:=fs) (x:=.ref 1) (Eh rfl)]; rfl)) (fun q=>?_) fun q=>?_
   ·have q:c.1∉fs:=fun h=>by rw [decide_eq_true h] at q; cases q
    have er:=rem_add q nd hc
    refine AJ (k:=1) (ws:=fs.map vs) (y:=vs c.1) rfl rfl rfl (by rw [List.length_map]; exact Nat.lt_of_le_of_lt hfl (by decide)) ?_
    refine go_extend (k:=2) (ws:=wt.map vs) (us:=c.2.1.map vs) (y:=.d (dl c.2.1)) rfl (A0 (Ai rfl rfl (CE (k:=0) (kvs:=A5 Tx dl (lnK cs)) rfl (by rw [Ba dl B6,getL nd hc]; rfl)))) rfl (by show some ((c.2.1.map fun t=>PyData.str (Tx t)).map V.d)=_; rw [List.map_map]; rfl) (by rw [List.length_map,List.length_map]; exact Nat.le_trans (show wt.length+c.2.1.length<=10100 by have:=hg c hc; omega) (by decide)) (Ae (Ae ⟨_,rfl,by omega,fs++[c.1],wt++c.2.1,G.take nd hc q,by rw [List.length_append]; omega,⟨_,rfl⟩,?_⟩))
    show [oL cs,O.list ((fs++[c.1]).map vs),O.list ((wt++c.2.1).map vs)]=[oL cs,O.list (fs.map vs++[vs c.1]),O.list (wt.map vs++c.2.1.map vs)]
    rw [List.map_append,List.map_append]; rfl
   ·have q:c.1∈fs:=of_decide_eq_true (by cases h:decide (c.1∈fs) with | true=>rfl | false=>rw [h] at q; cases q)
    exact Ae (Ae ⟨_,rfl,by omega,fs,wt,G.skip q,by omega,⟨_,rfl⟩,rfl⟩)
  ·rintro m ρ _ ⟨_,fs,wt,G,e,⟨z6,rfl⟩,rfl⟩ hB
   have:wt=[]:=by
    cases wt with
    | nil=>rfl
    | cons _ _=>cases hB
   exact AS (v:=.ref 1) rfl ⟨fs,wt,G,this,rfl,rfl⟩)
 rw [k2,k3] at h
 subst g2
 refine ⟨fs,g1.nd,fun n=>g1.done,fun σ=>(FA.seal (σ:=[]) (d:=dl fs) h ⟨_,rfl,Nat.zero_le _,?_⟩).any (all_cons (Dl _ _) (all_cons (Dl _ _) AI))⟩
 show some (O.list _)=_
 rw [List.map_map]; rfl
end Mine
namespace Mine
open PySem
noncomputable def Cfg.knowF (C:Cfg) (f:Nat) {α:Type} (arg:α->List V) (out:α->V) (h:∀ a σ,FN C.n f (arg a) σ (out a) σ):Cfg:=C.add f (fun xs _=>@dite _ (∃ a,arg a=xs) (Classical.propDecidable _) (fun q=>some (out (Classical.choose q))) fun _=>none) fun xs σ v e=>by
 by_cases q:∃ a,arg a=xs
 ·rw [dif_pos q] at e
  rw [<-Option.some.inj e]
  have:=h (Classical.choose q) σ
  rw [Classical.choose_spec q] at this; exact this
 ·rw [dif_neg q] at e; exact Ac e
theorem knowF_eq {C:Cfg} {f:Nat} {α:Type} {arg:α->List V} {out:α->V} {h:∀ a σ,FN C.n f (arg a) σ (out a) σ} (inj:∀ a b,arg a=arg b->out a=out b) (a:α) (σ:Ab):(C.knowF f arg out h).O f (arg a) σ=some (out a):=by
 have q:∃ b,arg b=arg a:=⟨a,rfl⟩
 show (bif Nat.beq f f then @dite _ (∃ b,arg b=arg a) (Classical.propDecidable _) (fun q=>some (out (Classical.choose q))) fun _=>none else C.O f (arg a) σ)=_
 rw [Nat.beq_refl f]
 show @dite _ (∃ b,arg b=arg a) (Classical.propDecidable _) (fun q=>some (out (Classical.choose q))) (fun _=>none)=_
 rw [dif_pos q,inj _ _ (Classical.choose_spec q)]
theorem Blw.lower {F:List Ch} (nd:(F.map (·.1)).Nodup) (ht:Cl F) {a b:List Nat} (x:Blw F a b):hgt F b < hgt F a:=by
 have one:∀ {c:Ch} {l:List Nat},c∈F->l∈c.2.1->hgt F l < hgt F c.1:=fun {c l} hc hl=>by
  rw [hgt_rec nd ht hc]
  have:=max_ge 0 (c.2.1.map fun l=>hgt F l+1) (hgt F l+1) (List.mem_map_of_mem hl)
  omega
 induction x with
 | one hc hl=>exact one hc hl
 | more hc hl _ ih=>have:=one hc hl; omega
end Mine
namespace Mine
open PySem
section
variable {cs F:List Ch} {gs:Gsl}
theorem fn_namesD (h:Wov cs F gs) (τ:Ab):FN 2 40 [self] (W F gs (hts [] F)++τ) (.d (dl (Am (nms cs)))) (W F gs (hts [] F)++τ) :=
 FA.tail (FA.seal' (σ':=W F gs (hts [] F)) (fn_names h) rfl (EC 3) ⟨_,rfl,Nat.le_refl _,by
  show some (O.list _)=_
  rw [List.map_map]; rfl⟩) rfl (all_cons BX AI) (EC 3)
end
end Mine
namespace Mine
open PySem
noncomputable abbrev gdL (gs:Gsl) (o:List Nat):List (List Nat):=(Az gs o).getD []
end Mine
namespace Mine
open PySem
structure ShK (D L:Nat) (d:PyData):Prop where
 able:d.showable=true
 nod:d.hasDict=false
 dep:d.depth<=D
 len:d.shown.length<=L
section
variable {D L L' n:Nat} {d a b:PyData} {ds:List PyData}
theorem ShK.str {l:List Nat} (hl:l.length<=n) (hc:∀ c∈l,c < 4294967296):ShK 0 (10 * n+2) (.str (Tx l)):=by
 refine ⟨by simp only [PyData.showable],by simp only [PyData.hasDict],by simp only [PyData.depth,Nat.le_refl],?_⟩
 simp only [PyData.shown]
 have:=StrLaws.reprText_len (Tx l) (by rw [Gb]; exact hc)
 rw [Eu] at this; omega
theorem ShK.int {i:Int} (h:i.natAbs < 1000):ShK 0 13 (.int i):=by
 refine ⟨?_,by simp only [PyData.hasDict],by simp only [PyData.depth,Nat.le_refl],PyData.shown_int_le (Nat.lt_trans h (by decide))⟩
 simp only [PyData.showable]
 refine decide_eq_true ?_
 by_cases h0:i.natAbs=0
 ·rw [h0]; decide
 ·exact Nat.lt_trans ((Nat.log2_lt (k:=10) h0).mpr (Nat.lt_trans h (by decide))) (by decide)
theorem ShK.tup (h1:ShK D L a) (h2:ShK D L' b):ShK (D+1) (L+L' + 7) (.tuple [a,b]):=by
 refine ⟨by simp only [PyData.showable,PyData.showableAll,h1.able,h2.able,Bool.and_self],by simp only [PyData.hasDict,PyData.hasDictAll,h1.nod,h2.nod,Bool.or_self],?_,?_⟩
 ·simp only [PyData.depth,PyData.depthAll]
  have:=h1.dep; have:=h2.dep; omega
 ·simp only [PyData.shown,PyData.shownAll]
  have h3:=tupleText_len_le [a.shown,b.shown]
  simp only [List.map_cons,List.map_nil,List.sum_cons,List.sum_nil,List.length_cons,List.length_nil] at h3
  have:=h1.len; have:=h2.len; omega
theorem ShK.all:∀ ds:List PyData,(∀ d∈ds,ShK D L d)->PyData.showableAll ds=true/\PyData.hasDictAll ds=false/\PyData.depthAll ds<=D/\((PyData.shownAll ds).map (·.length)).sum+2 * (PyData.shownAll ds).length<=ds.length * (L+2)
 | [],_=>by simp only [PyData.showableAll,PyData.hasDictAll,PyData.depthAll,PyData.shownAll]; exact ⟨trivial,trivial,Nat.zero_le _,Nat.zero_le _⟩
 | d::ds,h=>by
  obtain ⟨a1,a2,a3,a4⟩:=ShK.all ds fun x hx=>h x (.tail _ hx)
  have hd:=h d (.head _)
  refine ⟨by simp only [PyData.showableAll,hd.able,a1,Bool.and_self],by simp only [PyData.hasDictAll,hd.nod,a2,Bool.or_self],by simp only [PyData.depthAll]; exact Nat.max_le.mpr ⟨hd.dep,a3⟩,?_⟩
  simp only [PyData.shownAll,List.map_cons,List.sum_cons,List.length_cons]
  have:=hd.len
  rw [Nat.add_mul]; omega
theorem ShK.lst (h:∀ d∈ds,ShK D L d) (hn:ds.length<=n):ShK (D+1) (n * (L+2)+3) (.list ds):=by
 obtain ⟨a1,a2,a3,a4⟩:=ShK.all ds h
 refine ⟨by simp only [PyData.showable,a1],by simp only [PyData.hasDict,a2],by simp only [PyData.depth]; omega,?_⟩
 simp only [PyData.shown]
 have h3:=listText_len_le (PyData.shownAll ds)
 have h4:=Nat.mul_le_mul_right (L+2) hn
 omega
theorem ShK.shw (h:ShK D L d) (hd:D<=50) (hl:L<=line):Shw d:=⟨h.able,h.nod,Nat.le_trans h.dep hd,Nat.le_trans h.len hl⟩
end
section
variable {cs F O:List Ch} {c:Ch} {m x:Mk} {r:List Mk}
theorem sign_lt {c:Nat} (h:c∈Cp):c < 4294967296:=Nat.lt_trans (signs_lt c h) (by decide)
theorem sh_name {t:List Nat} (h:AF t=true):ShK 0 122 (.str (Tx t)):=ShK.str (n:=12) ((Bz t).mp h).2.1 fun c hc=>sign_lt (((Bz t).mp h).2.2 c hc)
theorem sh_line {t:List Nat} (h:Cd t):ShK 0 2002 (.str (Tx t)):=ShK.str (n:=200) h.len fun c hc=>Nat.lt_of_le_of_lt (h.ok c hc).2 (by decide)
theorem sh_names {ns:List (List Nat)} (h:∀ n∈ns,AF n=true) (hl:ns.length<=60):ShK 1 7443 (dl ns):=by
 refine ShK.lst (D:=0) (L:=122) (n:=60) (fun d hd=>?_) (by rw [List.length_map]; exact hl)
 obtain ⟨t,ht,rfl⟩:=List.mem_map.mp hd
 exact sh_name (h t ht)
end
end Mine
namespace Mine
open PySem
noncomputable abbrev kp (d:PyData):PyData:=.tuple [d,.str d.shown]
def ShL (d:PyData):Prop:=Shw d/\isLT d=true
theorem repr_is {σ:Ab} {d:PyData} (h:ShL d):AV .repr σ [.d d]=some (.d (.str d.shown)):=by
 show (bif isLT d&&shwB d then some (V.d (.str d.shown)) else none)=_
 rw [shw_iff.mpr h.1,h.2]; rfl
theorem eq_self {σ:Ab} (z:Str):Bk .Eq (.d (.str z)) (.d (.str z)) σ=some true:=by
 show some (z == z)=_
 rw [beq_self_eq_true]
theorem fn_held {i:Nat} {σ:Ab} {hs:List PyData} (hi:σ[i]? = some (.list ((hs.map kp).map .d))) (hl:hs.length<=1000) (hh:∀ d∈hs,ShL d):FN 2 65 [.ref i] σ (vb true) σ:=by
 have hl':hs.length<=line:=Nat.le_trans hl (by decide)
 exact FN.same (C:=C0 1) (fn:=Fheld) (by unfold Pg; rfl) rfl (Nat.le_refl _) (by
  show Aj _ _ _ [some (.ref i),none,none] σ
  refine AS (AK (A0 (x:=.d (.list (hs.map fun _=>PyData.bool true))) ?_) (DG hs)) ⟨rfl,rfl⟩
  show (((CG σ[i]?).bind fun ws=>some (ws,Ct (.ref i) ws)).bind fun q=>CC _ q.1).bind mkL=_
  rw [hi]
  show (CC _ ((hs.map kp).map V.d)).bind mkL=_
  rw [List.map_map]
  rw [Cn (V.d∘kp) (fun _=>some (vb true)) hs (fun d hd=>?_),bs,List.filterMap_eq_map']
  ·rw [show (hs.map fun _=>vb true)=(hs.map fun _=>PyData.bool true).map V.d by rw [List.map_map]; rfl]
   exact FL _ (by rw [List.length_map]; exact hl')
  ·show ((ev (C0 1).O (.cmp .Eq (.bi .repr (.cons (.var 1) .nil)) (.var 2))).v [some (.ref i),some (.d d),some (.d (.str d.shown))] σ).bind _=_
   rw [Fr (AK (A0 rfl) (repr_is (hh d hd))) rfl (eq_self _)]; rfl)
end Mine
namespace Mine
open PySem
section
variable {cs F:List Ch} {gs:Gsl} {hs:List (List Nat×Int)} {a:List Nat} {τ:Ab}
theorem EJ (ha:a∈nms F):FN 2 38 [self,vs a] (W F gs hs++τ) A4 (W F gs hs++τ):=by
 exact FN.same (C:=C0 1) (fn:=DL) (by unfold Pg; rfl) rfl (Nat.le_refl _) (by
  show Aj _ _ _ [some self,some (vs a)] _
  exact Cf (t:=!decide (a∈nms F)) (Ay (y:=.ref 0) rfl (Dh rfl) (Gw a)) (by rw [decide_eq_true ha]; rfl) (Ae ⟨rfl,rfl⟩))
theorem EH (ha:a∉nms F):FX 2 38 [self,vs a] (W F gs hs++τ) 5 (W F gs hs++τ):=by
 refine FX.of (n:=1) (fn:=DL) (by unfold Pg; rfl) rfl (.head (.ite (σ₁:=W F gs hs++τ) ((Ad (C0 1).ok _).t ?_) (.head (.rse (Nat.le_add_left 3 _) ((Ad (C0 1).ok (.cons (.cst (.str (Str.ofString "no change has this name"))) .nil)).row rfl) (show 1<=line by decide) rfl)))) (Nat.le_refl _)
 show (ev (C0 1).O _).t [some self,some (vs a)] _=_
 refine (Ay (y:=.ref 0) rfl (Dh rfl) (Gw a)).trans ?_
 rw [decide_eq_false ha]; rfl
theorem hgt_at (ha:a∈nms F):Az (A5 Tx PyData.int (hts [] F)) (Tx a)=some (.int (hgt F a)):=by rw [Ba PyData.int B6,hgt_get ha]; rfl
theorem fn_height (ha:a∈nms F):FN 3 42 [self,vs a] (W F gs (hts [] F)++τ) (vi (hgt F a)) (W F gs (hts [] F)++τ):=by
 exact FN.same (C:=C0 2) (fn:=CL) (by unfold Pg; rfl) rfl (show 1<=2 by decide) (by
  show Aj _ _ _ [some self,some (vs a)] _
  refine Bv (v:=A4) rfl (.mcall (f:=38) Au (by unfold mtP; kernel_rfl) ((Ad (C0 2).ok (.var 0)).v rfl) ((Ad (C0 2).ok _).row rfl) (EJ ha)) ?_
  exact AS (v:=vi (hgt F a)) (Ai (Ea rfl) rfl (CE (a:=a) rfl (hgt_at ha))) ⟨rfl,rfl⟩)
theorem fx_height (ha:a∉nms F):FX 3 42 [self,vs a] (W F gs hs++τ) 5 (W F gs hs++τ) :=
 FX.of (n:=2) (fn:=CL) (by unfold Pg; rfl) rfl (.head (.exp rfl (.mcall (f:=38) Au (by unfold mtP; kernel_rfl) ((Ad (C0 2).ok (.var 0)).v rfl) ((Ad (C0 2).ok _).row rfl) (EH ha)) rfl)) (show 1<=2 by decide)
theorem fx_take (ha:a∉nms F):FX 3 39 [self,vs a] (W F gs hs++τ) 5 (W F gs hs++τ) :=
 FX.of (n:=2) (fn:=DK) (by unfold Pg; rfl) rfl (.head (.exp rfl (.mcall (f:=38) Au (by unfold mtP; kernel_rfl) ((Ad (C0 2).ok (.var 0)).v rfl) ((Ad (C0 2).ok _).row rfl) (EH ha)) rfl)) (show 1<=2 by decide)
theorem gd_at (w:WvOk F gs) (ha:a∈nms F):∃ ls,Az gs a=some ls/\(ls.length<=60/\ls.Pairwise (· < ·))/\∀ l,l∈ls ↔ Blw F a l:=by
 obtain ⟨ls,hls⟩:=AH.mpr (show a∈gs.map (·.1) by rw [w.gk]; exact ha)
 obtain ⟨pr,hpr,epr,epl⟩:∃ pr∈gs,pr.2=ls/\pr.1=a:=by
  unfold Az at hls
  obtain ⟨pr,e1,e2⟩:=Option.map_eq_some_iff.mp hls
  exact ⟨pr,List.mem_of_find?_eq_some e1,e2,by simpa using List.find?_some e1⟩
 have:=w.gin pr hpr
 rw [epr,epl] at this
 exact ⟨ls,hls,this⟩
noncomputable def lnL (cs:List Ch) (gs:Gsl) (a:List Nat):List (List Nat):=(Am (nms cs)).filter fun n=>decide (a∈gdL gs n)
end
section
variable {cs F:List Ch} {gs:Gsl} {hs:List (List Nat×Int)} {a:List Nat} {τ:Ab} {c:Ch}
theorem GH (nd:(F.map (·.1)).Nodup) (hg:∀ c∈F,GenCh c) (hc:c∈F):FN 3 41 [self,vs c.1] (W F gs hs++τ) (xt c (τ.length+3) ((τ++[oLs c]).length+3)) (W F gs hs++(τ++[oLs c]++[oDs c])):=by
 have ha:c.1∈nms F:=List.mem_map_of_mem hc
 let C:=C0 2
 exact FN.same (C:=C) (fn:=CN) (by unfold Pg; rfl) rfl (show 1<=2 by decide) (by
  show Aj C _ _ [some self,some (vs c.1),none] _
  refine Bv (v:=A4) rfl (.mcall (f:=38) Au (by unfold mtP; kernel_rfl) ((Ad C.ok (.var 0)).v rfl) ((Ad C.ok _).row rfl) (EJ ha)) ?_
  refine Aw (v:=vc c) (Ai (Dh rfl) rfl (CE (a:=c.1) rfl (by rw [Ba Ch.data B6,getH nd hc]; rfl))) ?_
  have l1:(ev C.O (.bi .list (.cons (.sub (.var 2) (.cst (.int 1))) .nil))).nl [some self,some (vs c.1),some (vc c)] (W F gs hs++τ)=some (c.2.1.map vs):=FE (b:=.list) (A0 (Ai rfl rfl (DO c))) (by show some ((c.2.1.map fun t=>PyData.str (Tx t)).map V.d)=_; rw [AR]) (by rw [List.length_map]; exact Nat.le_trans (hg c hc).few (by decide))
  have l2:(ev C.O (.bi .list (.cons (.sub (.var 2) (.cst (.int 2))) .nil))).nl [some self,some (vs c.1),some (vc c)] (W F gs hs++τ++[oLs c])=some (c.2.2.map fun d=>.d d.data):=FE (b:=.list) (A0 (Ai rfl rfl (Ez c))) (by show some ((c.2.2.map Deed.data).map V.d)=_; rw [List.map_map]; rfl) (by rw [List.length_map]; exact Nat.le_trans (hg c hc).deeds (by decide))
  exact Dc (v:=xt c (τ.length+3) ((τ++[oLs c]).length+3)) (σ':=W F gs hs++(τ++[oLs c]++[oDs c])) (SE.tupR (us:=[.inl (.str (Tx c.1)),.inr (τ.length+3),.inr ((τ++[oLs c]).length+3)]) (.cons ((Ad C.ok (.var 1)).v rfl) (.cons (SE.trk ((Ad C.ok _).nl l1)) (.cons (SE.trk ((Ad C.ok _).nl l2)) .nil))) (show 3<=line by decide)) ⟨rfl,rfl⟩)
theorem GG (w:WvOk F gs) (ha:a∈nms F):FN 3 43 [self,vs a] (W F gs hs++τ) (.ref (τ.length+3)) (W F gs hs++(τ++[.list ((gdL gs a).map vs)])):=by
 obtain ⟨ls,hls,⟨hl,_⟩,_⟩:=gd_at w ha
 have el:gdL gs a=ls:=by rw [gdL,hls]; rfl
 rw [el]
 let C:=C0 2
 exact FN.same (C:=C) (fn:=CM) (by unfold Pg; rfl) rfl (show 1<=2 by decide) (by
  show Aj C _ _ [some self,some (vs a)] _
  refine Bv (v:=A4) rfl (.mcall (f:=38) Au (by unfold mtP; kernel_rfl) ((Ad C.ok (.var 0)).v rfl) ((Ad C.ok _).row rfl) (EJ ha)) ?_
  exact Dc (v:=.ref (τ.length+3)) (SE.trk ((Ad C.ok _).nl (FE (b:=.list) (xs:=[.d (dl ls)]) (ws:=ls.map vs) (A0 (Ai (CU rfl) rfl (CE (a:=a) rfl (by rw [Ba dl B6,hls]; rfl)))) (by show some ((ls.map fun t=>PyData.str (Tx t)).map V.d)=_; rw [AR]) (by rw [List.length_map]; exact Nat.le_trans hl (by decide))))) ⟨rfl,rfl⟩)
theorem F7 (h:Wov cs F gs) (ha:a∈nms F):FN 4 44 [self,vs a] (W F gs (hts [] F)++τ) (.ref (τ.length+3)) (W F gs (hts [] F)++(τ++[.list ((lnL cs gs a).map vs)])):=by
 rw [AR]
 let C:=C0 3
 let σ:=W F gs (hts [] F)++τ
 have hl:(Am (nms cs)).length<=60:=by rw [(Ah _).length_eq,List.length_map]; exact h.len
 exact FN.same (C:=C) (fn:=C5) (by unfold Pg; rfl) rfl (show 1<=3 by decide) (by
  show Aj C _ _ [some self,some (vs a),none] σ
  refine Bv (v:=A4) rfl (.mcall (f:=38) Au (by unfold mtP; kernel_rfl) ((Ad C.ok (.var 0)).v rfl) ((Ad C.ok _).row rfl) ((EJ ha).more (show 2<=3 by decide))) ?_
  refine Dc (v:=.ref (τ.length+3)) (SE.trk (SL.comp (vs:=(Am (nms cs)).map vs) (kps:=[]) (ws:=((lnL cs gs a).map fun t=>PyData.str (Tx t)).map V.d) (SI.lst (.mcall (f:=40) Au (by unfold mtP; kernel_rfl) ((Ad C.ok (.var 0)).v rfl) .nil ((fn_namesD h τ).more (show 2<=3 by decide))) (by
   show some (((Am (nms cs)).map fun t=>PyData.str (Tx t)).map V.d)=_
   rw [List.map_map]; rfl)) (Cw (kps:=[]) (Ad C.ok _) (Ad C.ok _) (fun _ _ m=>nomatch m) ?_) (by
   rw [List.length_map,List.length_map]
   exact Nat.le_trans (List.length_filter_le _ _) (Nat.le_trans hl (by decide))))) ⟨rfl,rfl⟩
  rw [Cn vs (fun n=>if decide (a∈gdL gs n)=true then some (vs n) else none) (Am (nms cs)) (fun n hn=>?_)]
  ·congr 1
   rw [lnL,List.map_map]
   generalize Am (nms cs)=L
   induction L with
   | nil=>rfl
   | cons n L ih =>
    rw [List.filterMap_cons,List.filter_cons]
    by_cases q:decide (a∈gdL gs n)=true
    ·rw [if_pos q,if_pos q,List.map_cons,<-ih]; rfl
    ·rw [if_neg q,if_neg q,<-ih]
  ·have hnF:n∈nms F:=(h.perm.map _).mem_iff.mpr ((Ah _).mem_iff.mp hn)
   obtain ⟨ls,hls,_⟩:=gd_at h.w hnF
   have ht:(ev C.O (.cons (.cmp .In (.var 1) (.sub (.attr (Str.ofString "grounds") (.var 0)) (.var 2))) .nil)).ts [some self,some (vs a),some (vs n)] σ=some (decide (a∈gdL gs n)):=by
    exact e_ts1 (Ay (O:=C.O) (ρ:=[some self,some (vs a),some (vs n)]) (σ:=σ) (a:=.var 1) (b:=.sub (.attr (Str.ofString "grounds") (.var 0)) (.var 2)) (x:=vs a) (y:=.d (dl (gdL gs n))) (cop:=.In) rfl (Ai (CU rfl) rfl (CE (a:=n) rfl (by rw [Ba dl B6,gdL,hls]; rfl))) (by rw [c_in,FW]))
   show ((ev C.O (.cons (.cmp .In (.var 1) (.sub (.attr (Str.ofString "grounds") (.var 0)) (.var 2))) .nil)).ts [some self,some (vs a),some (vs n)] σ).bind _=_
   rw [ht]
   cases decide (a∈gdL gs n) <;> rfl)
theorem sn_last {d:PyData} {ds:List PyData} {σ:Ab} (e:d=.list ds):Sn (σ++[.list (ds.map .d)]) σ.length (.ref σ.length) d:=⟨ds,e,Nat.le_refl _,List.getElem?_concat_length⟩
theorem fn_groundM (w:WvOk F gs) (ha:a∈nms F):FN 3 43 [self,vs a] (W F gs hs++τ) (.d (dl (gdL gs a))) (W F gs hs++τ):=by
 have:=GG (hs:=hs) (τ:=τ) w ha
 rw [AR] at this
 exact FA.seal (σ:=W F gs hs++τ) this (sn_last rfl)
theorem GF (h:Wov cs F gs) (ha:a∈nms F):FN 4 44 [self,vs a] (W F gs (hts [] F)++τ) (.d (dl (lnL cs gs a))) (W F gs (hts [] F)++τ):=by
 have:=F7 (τ:=τ) h ha
 rw [AR] at this
 exact FA.seal (σ:=W F gs (hts [] F)++τ) this (sn_last rfl)
theorem fn_change (nd:(F.map (·.1)).Nodup) (hg:∀ c∈F,GenCh c) (hc:c∈F):FN 3 41 [self,vs c.1] (W F gs hs++τ) (vc c) (W F gs hs++τ) :=
 FA.seal (σ:=W F gs hs++τ) (τ:=[oLs c,oDs c]) (v:=xt c (τ.length+3) ((τ++[oLs c]).length+3)) (by have:=GH (hs:=hs) (gs:=gs) (τ:=τ) nd hg hc; rw [List.append_assoc] at this; exact this) ⟨_,rfl,rfl,⟨c.2.1.map fun t=>.str (Tx t),rfl,Nat.le_refl _,by
  rw [<-AR]
  show (τ++[oLs c,oDs c])[τ.length]? = _
  rw [List.getElem?_append_right (Nat.le_refl _),Nat.sub_self]; rfl⟩,⟨c.2.2.map Deed.data,rfl,by show τ.length+3<=(τ++[oLs c]).length+3; simp,by
  rw [List.map_map]
  show (τ++[oLs c,oDs c])[(τ++[oLs c]).length]? = _
  rw [show τ++[oLs c,oDs c]=τ++[oLs c]++[oDs c] by simp]
  exact Ck⟩,trivial⟩
end
end Mine
namespace Mine
open PySem
noncomputable def Cfg.knowA (C:Cfg) (f:Nat) {α:Type} (arg:α->List V) (out:α->V) (P:Ab->Prop) (h:∀ a σ,P σ->FN C.n f (arg a) σ (out a) σ):Cfg:=C.add f (fun xs σ=>@dite _ (P σ/\∃ a,arg a=xs) (Classical.propDecidable _) (fun q=>some (out (Classical.choose q.2))) fun _=>none) fun xs σ v e=>by
 by_cases q:P σ/\∃ a,arg a=xs
 ·rw [dif_pos q] at e
  rw [<-Option.some.inj e]
  have:=h (Classical.choose q.2) σ q.1
  rw [Classical.choose_spec q.2] at this; exact this
 ·rw [dif_neg q] at e; exact Ac e
theorem knowA_eq {C:Cfg} {f:Nat} {α:Type} {arg:α->List V} {out:α->V} {P:Ab->Prop} {h:∀ a σ,P σ->FN C.n f (arg a) σ (out a) σ} (inj:∀ a b,arg a=arg b->out a=out b) (a:α) {σ:Ab} (hσ:P σ):(C.knowA f arg out P h).O f (arg a) σ=some (out a):=by
 have q:P σ/\∃ b,arg b=arg a:=⟨hσ,a,rfl⟩
 show (bif Nat.beq f f then @dite _ (P σ/\∃ b,arg b=arg a) (Classical.propDecidable _) (fun q=>some (out (Classical.choose q.2))) fun _=>none else C.O f (arg a) σ)=_
 rw [Nat.beq_refl f]
 show @dite _ (P σ/\∃ b,arg b=arg a) (Classical.propDecidable _) (fun q=>some (out (Classical.choose q.2))) (fun _=>none)=_
 rw [dif_pos q,inj _ _ (Classical.choose_spec q.2)]
theorem e_mcall {O:Orc} {ρ:Ag} {σ:Ab} {nm:Str} {i f:Nat} {es:E} {ks:List Nat} {ys:List V} {v:V} (h1:Es ρ i=some (.obj ks)) (h2:(ev O es).row ρ σ=some ys) (hm:mtP nm=some f) (h3:O f (.obj ks::ys) σ=some v):(ev O (.mcall nm (.var i) es)).v ρ σ=some v:=by
 show ((Es ρ i).bind fun x=>((ev O es).row ρ σ).bind fun ys=>(objV x).bind fun ks=>(mtP nm).bind fun f=>O f (.obj ks::ys) σ)=_
 rw [h1,bs,h2,bs]
 show (mtP nm).bind _=_
 rw [hm]; exact h3
section
variable {cs F:List Ch} {gs:Gsl} {hs:List (List Nat×Int)} {a:List Nat} {τ:Ab}
theorem del_mapK {κ κ' α β:Type} [DecidableEq κ] [DecidableEq κ'] {φ:κ->κ'} {f:α->β} (inj:∀ a b,φ a=φ b->a=b) (kvs:List (κ×α)) (k:κ):GW (A5 φ f kvs) (φ k)=A5 φ f (GW kvs k):=by
 unfold GW A5
 rw [List.filter_map]
 congr 1
 refine List.filter_congr fun p _=>?_
 exact decide_eq_decide.mpr ⟨fun h e=>h (congrArg φ e),fun h e=>h (inj _ _ e)⟩
noncomputable abbrev Bs (p:List (List Nat)) (n:List Nat):Bool:=!decide (n∈p)
theorem GU {α:Type} (kvs:List (List Nat×α)) (p:List (List Nat)) (n:List Nat):GW (kvs.filter fun q=>Bs p q.1) n=kvs.filter fun q=>Bs (p++[n]) q.1:=by
 unfold GW
 rw [List.filter_filter]
 refine List.filter_congr fun q _=>?_
 by_cases h1:q.1=n
 ·simp [Bs,h1]
 ·simp [Bs,h1]
theorem pop_go {C:Cfg} {P:Fl->Ab->Prop} {r:S} {ρ:Ag} {σ:Ab} {nm:Str} {k:Nat} {β:Type} {f:β->PyData} {kvs:List (List Nat×β)} {n:List Nat} (ha:(ev C.O (.attr nm (.var 0))).v ρ σ=some (.ref k)) (hi:Es ρ 3=some (vs n)) (h0:σ[k]? = some (.dictS (A5 Tx f kvs))) (hn:n∈kvs.map (·.1)) (hl:kvs.length<=100) (kk:Aj C P r ρ (σ.set k (.dictS (A5 Tx f (GW kvs n))))):Aj C P (.cons (.exp (.meth .pop (.attr nm (.var 0)) (.cons (.var 3) .nil))) r) ρ σ:=by
 obtain ⟨x,hx⟩:=AH.mpr hn
 rw [<-del_mapK (f:=f) B6] at kk
 exact Bv rfl (SE.popS (z:=Tx n) (d:=f x) basic_attr ((Ad C.ok _).v ha) ((Ad C.ok _).row (A0 hi)) h0 h0 (by rw [Ba f B6,hx]; rfl) (by rw [BW]; exact Nat.lt_of_le_of_lt hl (by decide))) kk
noncomputable def Eb (cs:List Ch) (gs:Gsl) (a:List Nat):List (List Nat):=Am (lnL cs gs a++[a])
theorem fn_take (h:Wov cs F gs) (ha:a∈nms F) (hnd:(lnL cs gs a++[a]).Nodup) (hcl:∀ c∈F,Bs (Eb cs gs a) c.1=true->∀ l∈c.2.1,Bs (Eb cs gs a) l=true) :
 FN 5 39 [self,vs a] (W F gs (hts [] F)++τ) (.d (dl (Eb cs gs a))) (W (F.filter fun c=>Bs (Eb cs gs a) c.1) (gs.filter fun q=>Bs (Eb cs gs a) q.1) (hts [] (F.filter fun c=>Bs (Eb cs gs a) c.1))++τ):=by
 let σ:=W F gs (hts [] F)++τ
 let out:=Eb cs gs a
 have hL:(lnL cs gs a).length<=60:=Nat.le_trans (List.length_filter_le _ _) (by rw [(Ah _).length_eq,List.length_map]; exact h.len)
 have hk44:∀ (x:Unit) σ',σ'=σ->FN (C0 4).n 44 [self,vs a] σ' (.d (dl (lnL cs gs a))) σ':=fun _ σ' e=>e▸GF h ha
 let C:Cfg:=(C0 4).knowA 44 (fun _:Unit=>[self,vs a]) (fun _=>.d (dl (lnL cs gs a))) (fun σ'=>σ'=σ) hk44
 have o44:C.O 44 [self,vs a] σ=some (.d (dl (lnL cs gs a))):=knowA_eq (C:=C0 4) (arg:=fun _:Unit=>[self,vs a]) (fun _ _ _=>rfl) () rfl
 have odd:out.Nodup:=(Ah _).nodup_iff.mpr hnd
 have oin:∀ n∈out,n∈nms F:=fun n hn=>by
  rcases List.mem_append.mp ((Ah _).mem_iff.mp hn) with q | q
  ·exact (h.perm.map _).mem_iff.mpr ((Ah _).mem_iff.mp (List.mem_filter.mp q).1)
  ·rw [List.mem_singleton.mp q]; exact ha
 let St:List (List Nat)->Ab:=fun p=>[.dictS (A5 Tx Ch.data ((hK F).filter fun q=>Bs p q.1)),.dictS (A5 Tx dl (gs.filter fun q=>Bs p q.1)),.dictS (A5 Tx PyData.int ((hts [] F).filter fun q=>Bs p q.1))]++τ
 have St0:St []=σ:=by
  show [O.dictS (A5 Tx Ch.data ((hK F).filter fun _=>true)),.dictS (A5 Tx dl (gs.filter fun _=>true)),.dictS (A5 Tx PyData.int ((hts [] F).filter fun _=>true))]++τ=_
  rw [Bl,Bl,Bl]
 have eSt:St out=W (F.filter fun c=>Bs out c.1) (gs.filter fun q=>Bs out q.1) (hts [] (F.filter fun c=>Bs out c.1))++τ:=by
  have e1:=hts_filter (Bs out) [] F hcl
  rw [List.filter_nil] at e1
  have e2:(hK F).filter (fun q=>Bs out q.1)=hK (F.filter fun c=>Bs out c.1):=by
   show (F.map fun c=>(c.1,c)).filter _=_
   rw [List.filter_map]; rfl
  show [O.dictS (A5 Tx Ch.data ((hK F).filter fun q=>Bs out q.1)),.dictS (A5 Tx dl (gs.filter fun q=>Bs out q.1)),.dictS (A5 Tx PyData.int ((hts [] F).filter fun q=>Bs out q.1))]++τ=_
  rw [e2,<-e1]
 obtain ⟨v,σ',⟨h1,h2⟩,hf⟩:=FN.ends (C:=C) (f:=39) (fn:=DK) (zs:=[self,vs a]) (σ:=σ) (R:=fun v σ'=>v=.d (dl out)/\σ'=St out) (by unfold Pg; rfl) rfl (show 1<=4 by decide) (by
  show Aj C _ _ [some self,some (vs a),none,none] σ
  refine Bv (v:=A4) rfl (.mcall (f:=38) Au (by unfold mtP; kernel_rfl) ((Ad C.ok (.var 0)).v rfl) ((Ad C.ok _).row rfl) ((EJ ha).more (show 2<=4 by decide))) ?_
  refine Aw (v:=.d (dl out)) (AK (A0 (x:=.d (dl (lnL cs gs a++[a]))) ?_) (DP (by show some (((lnL cs gs a++[a]).map fun t=>PyData.str (Tx t)).map V.d)=_; rw [List.map_map]; rfl) (by rw [List.length_append]; show (lnL cs gs a).length+1 < 64; omega))) ?_
  ·refine An (x:=.d (dl (lnL cs gs a))) (y:=.d (dl [a])) (e_mcall rfl rfl (by unfold mtP; kernel_rfl) o44) rfl ?_
   rw [b_catL _ _ (by rw [List.length_map]; exact Nat.le_trans (Nat.succ_le_succ hL) (by decide)),<-List.map_append]
  show Aj C _ _ _ σ
  rw [<-St0]
  let K:Option V->Ag:=fun z=>[some self,some (vs a),some (.d (dl out)),z]
  refine Bu (l:=out) (fun n=>vs n) (fun p ρ σ'=>(∃ z,ρ=K z)/\σ'=St p) (F5 rfl) ⟨⟨none,rfl⟩,rfl⟩ ?_ ?_
  ·rintro p n q ρ _ e ⟨⟨z,rfl⟩,rfl⟩
   have hnp:n∉p:=by
    have h1:=odd
    rw [e] at h1
    exact fun q'=>(List.nodup_append.mp h1).2.2 n q' n (.head _) rfl
   have hnF:n∈nms F:=oin n (by rw [e]; exact List.mem_append_right _ (.head _))
   have key:∀ {β:Type} {kvs:List (List Nat×β)},n∈kvs.map (·.1)->n∈(kvs.filter fun q=>Bs p q.1).map (·.1):=fun {β kvs} hk=>by
    obtain ⟨x,hx,rfl⟩:=List.mem_map.mp hk
    exact List.mem_map_of_mem (List.mem_filter.mpr ⟨hx,by simp [Bs,hnp]⟩)
   have hF:=h.w.len
   have hg:gs.length<=100:=by have:=congrArg List.length h.w.gk; rw [List.length_map,List.length_map] at this; omega
   have hh:(hts [] F).length<=100:=by have:=congrArg List.length (Br [] F); rw [List.length_map,List.length_append,List.length_map] at this; simp at this; omega
   refine pop_go (k:=0) (f:=Ch.data) (n:=n) (Dh rfl) rfl rfl (key (by rw [hK_keys]; exact hnF)) (Nat.le_trans (List.length_filter_le _ _) (by rw [List.length_map]; omega)) ?_
   refine pop_go (k:=1) (f:=dl) (n:=n) (CU rfl) rfl rfl (key (by rw [h.w.gk]; exact hnF)) (Nat.le_trans (List.length_filter_le _ _) hg) ?_
   refine pop_go (k:=2) (f:=PyData.int) (n:=n) (Ea rfl) rfl rfl (key (by rw [Br]; exact hnF)) (Nat.le_trans (List.length_filter_le _ _) hh) (Ae ⟨_,rfl,⟨_,rfl⟩,?_⟩)
   show [O.dictS (A5 Tx Ch.data (GW ((hK F).filter fun q=>Bs p q.1) n)),.dictS (A5 Tx dl (GW (gs.filter fun q=>Bs p q.1) n)),.dictS (A5 Tx PyData.int (GW ((hts [] F).filter fun q=>Bs p q.1) n))]++τ=_
   rw [GU,GU,GU]
  ·rintro ρ _ ⟨⟨z,rfl⟩,rfl⟩
   exact AS (v:=.d (dl out)) rfl ⟨rfl,rfl⟩)
 rw [h1,h2,eSt] at hf; exact hf
end
end Mine
namespace Mine
open PySem
section
variable {cs F G:List Ch} {gs:Gsl} {a n:List Nat} {p:List Nat->Bool}
theorem gd_mem (h:Wov cs F gs) (hn:n∈nms cs):a∈gdL gs n ↔ Blw cs n a:=by
 obtain ⟨ls,hls,_,hm⟩:=gd_at h.w ((h.perm.map _).mem_iff.mpr hn)
 rw [gdL,hls]
 exact (hm a).trans ⟨Blw.mono fun c hc=>h.perm.mem_iff.mp hc,Blw.mono fun c hc=>h.perm.mem_iff.mpr hc⟩
theorem Fi (h:Wov cs F gs):n∈lnL cs gs a ↔ n∈nms cs/\Blw cs n a:=by
 rw [lnL,List.mem_filter,(Ah _).mem_iff]
 exact and_congr_right fun hn=>by rw [decide_eq_true_iff]; exact gd_mem h hn
theorem ln_nodup (h:Wov cs F gs):(lnL cs gs a++[a]).Nodup:=by
 refine List.nodup_append.mpr ⟨(Em (Be _ h.H.nd)).filter _,List.nodup_cons.mpr ⟨List.not_mem_nil,List.nodup_nil⟩,fun x hx y hy e=>?_⟩
 rw [List.mem_singleton.mp hy] at e
 rw [e] at hx
 exact absurd (((Fi h).mp hx).2.lower h.H.nd h.H.topo) (Int.lt_irrefl _)
theorem out_mem (h:Wov cs F gs) (ha:a∈nms cs):n∈Eb cs gs a ↔ n∈nms cs/\(n=a\/Blw cs n a):=by
 rw [Eb,(Ah _).mem_iff,List.mem_append,Fi h,List.mem_singleton]
 constructor
 ·rintro (⟨h1,h2⟩ | rfl)
  ·exact ⟨h1,.inr h2⟩
  ·exact ⟨ha,.inl rfl⟩
 ·rintro ⟨h1,h2 | h2⟩
  ·exact .inr h2
  ·exact .inl ⟨h1,h2⟩
theorem no_in {l:List (List Nat)} {n:List Nat}:Bs l n=true ↔ n∉l:=by simp [Bs]
theorem out_closed (h:Wov cs F gs) (ha:a∈nms cs):∀ c∈cs,Bs (Eb cs gs a) c.1=true->∀ l∈c.2.1,Bs (Eb cs gs a) l=true:=fun c hc h1 l hl=>by
 have h1:c.1∉Eb cs gs a:=no_in.mp h1
 refine no_in.mpr fun h2=>h1 ((out_mem h ha).mpr ⟨List.mem_map_of_mem hc,.inr ?_⟩)
 rcases ((out_mem h ha).mp h2).2 with q | q
 ·rw [<-q]; exact .one hc hl
 ·exact .more hc hl q
end
end Mine
namespace Mine
open PySem
theorem GS {O:Orc} {ρ:Ag} {σ:Ab} {a:E} {x:PyData} (h:(ev O a).v ρ σ=some (.d x)):(ev O (.lst (.cons a .nil))).v ρ σ=some (.d (.list [x])):=by
 show ((ev O (.cons a .nil)).row ρ σ).bind mkL=_
 rw [A0 h]
 exact FL [x] (show 1<=line by decide)
theorem GN {f:PyData->PyData->Option Bool}:∀ l:List PyData,(∀ d∈l,f d d=some true)->CB f l l=some true
 | [],_=>rfl
 | d::l,h=>by
  show (f d d).bind (fun a=>(CB f l l).bind fun b=>some (a&&b))=_
  rw [h d (.head _),GN l fun x hx=>h x (.tail _ hx)]; rfl
theorem eql_self {n:Nat} {l:List PyData} (h:∀ d∈l,eqN n d d=some true):eqN (n+1) (.list l) (.list l)=some true:=by
 show (if l.length=l.length then CB (eqN n) l l else some false)=_
 rw [if_pos rfl]; exact GN l h
theorem eqm_self (n:Nat) (m:Mk):eqN (n+1) (AP (some m)) (AP (some m))=some true:=by rw [eqn_mk n m m,decide_eq_true rfl]
theorem eqd_self (n:Nat) (l:List (List Nat)):eqN (n+1) (dl l) (dl l)=some true:=eql_self fun d hd=>by
 obtain ⟨t,_,rfl⟩:=List.mem_map.mp hd
 rw [CA,decide_eq_true rfl]
theorem ne_self {σ:Ab} {d:PyData} (h:eqN A2 d d=some true):Bk .NotEq (.d d) (.d d) σ=some false:=by
 show Fc (eqN A2 d d)=_
 rw [h]; rfl
theorem eq_self' {σ:Ab} {d:PyData} (h:eqN A2 d d=some true):Bk .Eq (.d d) (.d d) σ=some true:=h
section
variable {cs F:List Ch} {gs:Gsl} {hs:List (List Nat×Int)} {a:List Nat} {τ:Ab}
theorem gr_all (h:Wov cs F gs):∃ gr:{n // n∈nms cs} -> List (List Nat),∀ n:{n // n∈nms cs},((gr n).Nodup/\(gr n).length<=61/\∀ x,x∈gr n ↔ x=n.1\/Blw cs n.1 x)/\∀ σ,FN 2 28 [.d (.list (cs.map Ch.data)),.d (dl [n.1])] σ (.d (dl (gr n))) σ:=by
 refine Classical.axiomOfChoice (r:=fun (n:{n // n∈nms cs}) gr=>(gr.Nodup/\gr.length<=61/\∀ x,x∈gr ↔ x=n.1\/Blw cs n.1 x)/\∀ σ,FN 2 28 [.d (.list (cs.map Ch.data)),.d (dl [n.1])] σ (.d (dl gr)) σ) fun n=>?_
 obtain ⟨fs,h1,h2,h3⟩:=fn_ground h.H.nd h.H.topo h.len (fun c hc=>(h.gen c hc).few) (ns:=[n.1]) (fun x hx=>by rw [List.mem_singleton.mp hx]; exact n.2) (show 1<=100 by decide)
 have hm:∀ x,x∈fs ↔ x=n.1\/Blw cs n.1 x:=fun x=>(h2 x).trans ⟨fun ⟨o,ho,e⟩=>by rw [List.mem_singleton.mp ho] at e; exact e,fun e=>⟨n.1,.head _,e⟩⟩
 refine ⟨fs,⟨h1,?_,hm⟩,h3⟩
 have sub:fs ⊆ nms cs:=fun x hx=>((hm x).mp hx).elim (fun e=>e▸n.2) fun b=>b.names h.H.topo
 have:=List.Nodup.length_le_of_subset h1 sub
 rw [List.length_map] at this
 exact Nat.le_trans this (Nat.le_trans h.len (by decide))
theorem same_sort {l l':List (List Nat)} (n1:l.Nodup) (n2:l'.Nodup) (h:∀ x,x∈l ↔ x∈l'):Am l=Am l':=G6 ((List.perm_ext_iff_of_nodup n1 n2).mpr h) n1
theorem dlj {x y:List Nat} {d:PyData} (e:[V.d d,.d (dl [x])]=[.d d,.d (dl [y])]):x=y:=by
 injection e with _ e
 injection e with e _
 injection e with e
 injection e with e
 injection e with e _
 injection e with e
 exact Tx_inj e
theorem gi_ex (h:Wov cs F gs) (ha:a∈nms cs) {gr:{n // n∈nms cs} -> List (List Nat)} (hg:∀ n:{n // n∈nms cs},(gr n).Nodup/\(gr n).length<=61/\∀ x,x∈gr n ↔ x=n.1\/Blw cs n.1 x):∃ gi:List Nat->Bool,(∀ (o:List Nat) (h:o∈nms cs),gi o=decide (a∈gr ⟨o,h⟩))/\Am (nms (cs.filter fun c=>gi c.1))=Eb cs gs a:=by
 let gi:List Nat->Bool:=fun o=>@decide (∃ h:o∈nms cs,a∈gr ⟨o,h⟩) (Classical.propDecidable _)
 have gi_eq:∀ (o:List Nat) (h:o∈nms cs),gi o=decide (a∈gr ⟨o,h⟩):=fun o h=>by
  by_cases q:a∈gr ⟨o,h⟩
  ·rw [decide_eq_true q]; exact @decide_eq_true _ (Classical.propDecidable _) ⟨h,q⟩
  ·rw [decide_eq_false q]; exact @decide_eq_false _ (Classical.propDecidable _) fun ⟨_,r⟩=>q r
 let L:=cs.filter fun c=>gi c.1
 have eL:Am (nms L)=Eb cs gs a:=by
  refine same_sort ((List.Sublist.map _ List.filter_sublist).nodup h.H.nd) (ln_nodup h) fun x=>?_
  rw [List.mem_append,Fi h,List.mem_singleton]
  constructor
  ·intro hx
   obtain ⟨c,hc,rfl⟩:=List.mem_map.mp hx
   obtain ⟨h1,h2⟩:=List.mem_filter.mp hc
   have hcn:c.1∈nms cs:=List.mem_map_of_mem h1
   rw [gi_eq c.1 hcn] at h2
   rcases ((hg ⟨c.1,hcn⟩).2.2 a).mp (of_decide_eq_true h2) with q | q
   ·exact .inr q.symm
   ·exact .inl ⟨hcn,q⟩
  ·intro hx
   have hcn:x∈nms cs:=hx.elim (·.1) fun q=>q▸ha
   obtain ⟨c,hc,rfl⟩:=List.mem_map.mp hcn
   refine List.mem_map_of_mem (List.mem_filter.mpr ⟨hc,?_⟩)
   rw [gi_eq c.1 hcn]
   refine decide_eq_true (((hg ⟨c.1,hcn⟩).2.2 a).mpr ?_)
   rcases hx with q | q
   ·exact .inr q.2
   ·exact .inl q.symm
 exact ⟨gi,gi_eq,eL⟩
end
end Mine
namespace Mine
open PySem
end Mine
namespace Mine
open PySem
theorem BY {C:Cfg} {P:Fl->Ab->Prop} {r a:S} {ρ:Ag} {σ σ':Ab} {c:E} (h:ST (C.n+3) c ρ σ false σ') (k:Aj C P r ρ σ'):Aj C P (.cons (.ite c a .nil) r) ρ σ :=
 C8 (fl:=.next ρ) (σ':=σ') (fun Q q=>.ite h (fun e=>ff_ e) fun _=>.nil q) k
theorem D7 {α:Type} {d:α->PyData} {l:List α}:B4 0 (.list (l.map fun x=>.d (d x))):=fun v hv=>by
 obtain ⟨x,_,rfl⟩:=List.mem_map.mp hv
 trivial
section
variable {τ:Ab} {c:Ch}
theorem hnd_new:Hnd (τ++[oLs c]++[oDs c]) c τ.length (τ++[oLs c]).length:=⟨B3 Ck,Ck⟩
theorem set_two {a b x y:O}:((τ++[a]++[b]).set τ.length x).set (τ++[a]).length y=τ++[x]++[y]:=by
 rw [List.set_append_left _ _ (by simp),E1]
 have:(τ++[a]).length=(τ++[x]).length:=by simp
 rw [this,E1]
end
theorem fn_woven {cs F:List Ch} (H:BJ cs) (hg:∀ c∈cs,GenCh c) (hl:cs.length<=60) (hp:F.Perm cs) (ht:Cl F):∃ gs,WvOk F gs/\FN 6 27 [.d (.list (F.map Ch.data))] [] self (W F gs (hts [] F)):=by
 let C:=C0 5
 let D:V:=.d (.list (F.map Ch.data))
 obtain ⟨v,σ',⟨gs,k1,k2,k3⟩,h⟩:=FN.ends (C:=C) (f:=27) (fn:=Fwoven) (zs:=[D]) (σ:=[]) (R:=fun v σ'=>∃ gs,WvOk F gs/\v=self/\σ'=W F gs (hts [] F)) (by unfold Pg; rfl) rfl (show 1<=5 by decide) (by
  refine goF_end (P:=fun v σ'=>∃ gs,WvOk F gs/\v=self/\σ'=W F gs (hts [] F)) ?_
  show Dp C 0 _ _ [some D,none,none,none] []
  refine goF (AX (v:=self) (σ':=W [] [] []) rfl (.new (f:=35) (nv:=1) (by unfold mtP; kernel_rfl) (by unfold Pg; rfl)) (Ae ⟨_,rfl,?_⟩))
  refine goF (Bu (l:=F) vc (fun p ρ σ=>∃ gs τ,WvOk p gs/\(∃ z2 z3,ρ=[some D,some self,z2,z3])/\(∀ o∈τ,o=O.list [])/\W p gs (hts [] p)++τ=σ) (F5 rfl) ⟨[],[],⟨List.nodup_nil,fun pre c post e=>by simp at e,(fun c h=>nomatch h),Nat.zero_le _,rfl,fun p h=>nomatch h⟩,⟨none,none,rfl⟩,(fun o h=>nomatch h),rfl⟩ ?_ ?_)
  ·rintro p c q ρ _ e ⟨gs,τ,w,⟨z2,z3,rfl⟩,hτ,rfl⟩
   have A:=add_ok H hg hl hp ht e
   let X:=xt c (τ.length+3) ((τ++[oLs c]).length+3)
   have hτ1:∀ o∈τ++[oLs c]++[oDs c],B4 0 o:=fun o ho=>by
    rcases List.mem_append.mp ho with ho | ho
    ·rcases List.mem_append.mp ho with ho | ho
     ·rw [hτ o ho]; exact fun v hv=>nomatch hv
     ·rw [List.mem_singleton.mp ho]; exact D7
    ·rw [List.mem_singleton.mp ho]; exact D7
   obtain ⟨gs',w',hf⟩:=fn_add w c A hnd_new hτ1
   have l1:(ev C.O (.bi .list (.cons (.sub (.var 2) (.cst (.int 1))) .nil))).nl [some D,some self,some (vc c),z3] (W p gs (hts [] p)++τ)=some (c.2.1.map vs):=FE (b:=.list) (A0 (Ai rfl rfl (DO c))) (by show some ((c.2.1.map fun t=>PyData.str (Tx t)).map V.d)=_; rw [AR]) (by rw [List.length_map]; exact Nat.le_trans A.few (by decide))
   have l2:(ev C.O (.bi .list (.cons (.sub (.var 2) (.cst (.int 2))) .nil))).nl [some D,some self,some (vc c),z3] (W p gs (hts [] p)++τ++[oLs c])=some (c.2.2.map fun d=>.d d.data):=FE (b:=.list) (A0 (Ai rfl rfl (Ez c))) (by show some ((c.2.2.map Deed.data).map V.d)=_; rw [List.map_map]; rfl) (by rw [List.length_map]; exact Nat.le_trans A.deeds (by decide))
   refine AX (v:=X) (σ':=W p gs (hts [] p)++(τ++[oLs c]++[oDs c])) rfl (SE.tupR (us:=[.inl (.str (Tx c.1)),.inr (τ.length+3),.inr ((τ++[oLs c]).length+3)]) (.cons ((Ad C.ok _).v (Ai rfl rfl (Bo c))) (.cons (SE.trk ((Ad C.ok _).nl l1)) (.cons (SE.trk ((Ad C.ok _).nl l2)) .nil))) (show 3<=line by decide)) ?_
   refine BY (σ':=W (p++[c]) gs' (hts [] (p++[c]))++(τ++[oLs c]++[oDs c])) (.cmp (x:=A4) (y:=A4) (.mcall (f:=36) Au (by unfold mtP; kernel_rfl) ((Ad C.ok (.var 1)).v rfl) ((Ad C.ok _).row rfl) hf) (.cst .none) (CQ (op:=.IsNot) rfl)) ?_
   refine GA (k:=τ.length+3) (Ai rfl rfl C7) hnd_new.W.l ?_
   refine GA (k:=(τ++[oLs c]).length+3) (ws:=c.2.2.map fun d=>.d d.data) (Ai rfl rfl DM) ?_ (Ae ⟨_,rfl,gs',τ++[.list []]++[.list []],w',⟨_,_,rfl⟩,fun o ho=>?_,?_⟩)
   ·show ((τ++[oLs c]++[oDs c]).set τ.length (.list []))[(τ++[oLs c]).length]? = _
    rw [List.getElem?_set_ne (by simp)]; exact Ck
   ·rcases List.mem_append.mp ho with ho | ho
    ·rcases List.mem_append.mp ho with ho | ho
     ·exact hτ o ho
     ·exact List.mem_singleton.mp ho
    ·exact List.mem_singleton.mp ho
   ·exact congrArg (W (p++[c]) gs' (hts [] (p++[c])) ++ ·) set_two.symm
  ·rintro ρ _ ⟨gs,τ,w,⟨z2,z3,rfl⟩,hτ,rfl⟩
   refine Ae ⟨_,rfl,DA (ρ':=[some D,some self,none,none]) (goF_ret ((Ad C.ok (.var 1)).v rfl) ⟨gs,w,rfl,rfl⟩) (Nat.zero_le _) (EC 3) fun i v' e=>?_⟩
   match i,e with
   | 0,e=>exact ⟨D,rfl,.inl ⟨Option.some.inj (Option.some.inj e),trivial⟩⟩
   | 1,e=>exact ⟨self,rfl,.inl ⟨Option.some.inj (Option.some.inj e),BX⟩⟩
   | 2,e=>exact nomatch e
   | 3,e=>exact nomatch e
   | _+4,e=>exact nomatch e)
 rw [k2,k3] at h
 exact ⟨gs,k1,h⟩
section
variable {cs F:List Ch} {gs:Gsl} {hs:List (List Nat×Int)} {a:List Nat} {τ:Ab} {c:Ch}
theorem fn_namesT (h:Wov cs F gs):FN 2 40 [self] (W F gs (hts [] F)++τ) (.ref (τ.length+3)) (W F gs (hts [] F)++(τ++[.list ((Am (nms cs)).map vs)])):=by
 have:=FA.atR (τ:=[]) (τ':=τ) (σ':=W F gs (hts [] F)) (j:=0) (b:=0) (xs:=[]) (fn_names h) rfl rfl AI low0_W (fun o ho=>(List.mem_append.mp ho).elim (low0_W o) fun ho=>by rw [List.mem_singleton.mp ho]; exact D7) rfl
 exact this
theorem fx_change (ha:a∉nms F):FX 3 41 [self,vs a] (W F gs hs++τ) 5 (W F gs hs++τ) :=
 FX.of (n:=2) (fn:=CN) (by unfold Pg; rfl) rfl (.head (.exp rfl (.mcall (f:=38) Au (by unfold mtP; kernel_rfl) ((Ad (C0 2).ok (.var 0)).v rfl) ((Ad (C0 2).ok _).row rfl) (EH ha)) rfl)) (show 1<=2 by decide)
theorem fx_ground (ha:a∉nms F):FX 3 43 [self,vs a] (W F gs hs++τ) 5 (W F gs hs++τ) :=
 FX.of (n:=2) (fn:=CM) (by unfold Pg; rfl) rfl (.head (.exp rfl (.mcall (f:=38) Au (by unfold mtP; kernel_rfl) ((Ad (C0 2).ok (.var 0)).v rfl) ((Ad (C0 2).ok _).row rfl) (EH ha)) rfl)) (show 1<=2 by decide)
theorem fx_leaning (ha:a∉nms F):FX 3 44 [self,vs a] (W F gs hs++τ) 5 (W F gs hs++τ) :=
 FX.of (n:=2) (fn:=C5) (by unfold Pg; rfl) rfl (.head (.exp rfl (.mcall (f:=38) Au (by unfold mtP; kernel_rfl) ((Ad (C0 2).ok (.var 0)).v rfl) ((Ad (C0 2).ok _).row rfl) (EH ha)) rfl)) (show 1<=2 by decide)
end
end Mine
namespace Mine
open PySem
theorem eqp_self {n:Nat} {l:List PyData} (h:∀ d∈l,eqN n d d=some true):eqN (n+1) (.tuple l) (.tuple l)=some true:=GN l h
theorem eqv_self (n:Nat) (d:Deed):eqN (n+2) d.data d.data=some true:=by
 refine eqp_self fun x hx=>?_
 have hs:∀ t:List Nat,eqN (n+1) (.str (Tx t)) (.str (Tx t))=some true:=fun t=>by rw [CA,decide_eq_true rfl]
 rcases List.mem_cons.mp hx with rfl | hx
 ·exact hs _
 rcases List.mem_cons.mp hx with rfl | hx
 ·cases d.mark with
  | none=>rfl
  | some m=>exact eqm_self n m
 ·cases e:d.text with
  | none=>rw [e] at hx; exact nomatch hx
  | some l=>rw [e] at hx; rw [List.mem_singleton.mp hx]; exact hs _
section
variable {σ:Ab}
theorem isi_deed (d:Deed):AV .isinstance σ [.d d.data,.ty "tuple"]=some (vb true):=rfl
theorem deed_rest (d:Deed):∃ ts:List (List Nat),d.data=.tuple (.str (Tx d.word)::AP d.mark::ts.map fun t=>.str (Tx t))/\ts.length<=1:=by
 cases e:d.text with
 | none=>exact ⟨[],by unfold Deed.data; rw [e]; rfl,by decide⟩
 | some l=>exact ⟨[l],by unfold Deed.data; rw [e]; rfl,Nat.le_refl 1⟩
theorem fn_deedlike (d:Deed):FN 2 70 [.d d.data,.d d.data] σ (vb true) σ:=by
 obtain ⟨ts,ed,hts⟩:=deed_rest d
 let C:=C0 1
 let D:V:=.d d.data
 exact FN.same (C:=C) (fn:=Fdeed_like) (by unfold Pg; rfl) rfl (Nat.le_refl _) (by
  show Aj C _ _ [some D,some D,none,none] σ
  have hlen:AV .len σ [D]=some (vi ((ts.length+2:Nat):Int)):=by
   show lenV σ (.d d.data)=_
   rw [ed]
   show some (vi ((PyData.str (Tx d.word)::AP d.mark::ts.map fun t=>PyData.str (Tx t)).map V.d).length)=_
   rw [List.length_map,List.length_cons,List.length_cons,List.length_map]
  refine Cf (e_or3 (p:=false) (q:=false) (s:=false) (Cu (p:=true) (Cv (Bw rfl rfl) (isi_deed d))) (fun _=>(Ay (AK (A0 rfl) hlen) (AK (A0 rfl) hlen) ne_int).trans (by rw [decide_eq_true rfl]; rfl)) fun _ _=>Cu (p:=true) (Cv (Bw (Ai rfl rfl (Dx d)) rfl) (DU _))) rfl ?_
  refine Dd (M:=fun ρ σ'=>(∃ z,ρ=[some D,some D,z,none])/\σ=σ') ?_ ?_
  ·refine Bn (t:=!d.mark.isNone) (Ay (Ai rfl rfl (Dy d)) rfl (G7 d.mark)) (fun e=>?_) fun e=>Ae (Ae ⟨_,rfl,⟨_,rfl⟩,rfl⟩)
   refine Aw (v:=.d (AP d.mark)) (Ai rfl rfl (Dy d)) ?_
   cases em:d.mark with
   | none=>rw [em] at e; cases e
   | some m =>
    show Aj C _ _ [some D,some D,some (vm m),none] σ
    refine B2 (e_or3 (p:=false) (q:=false) (s:=false) (Cu (p:=true) (Cv (Bw rfl rfl) rfl)) (fun _=>rfl) fun _ _=>Cu (p:=true) (Cv (Bw (x:=vs m.1) (Ai rfl rfl rfl) rfl) (DU _))) ?_
    exact B2 (Dm (p:=false) (q:=false) (Cu (p:=true) (Cv (Bw (x:=vi m.2) (Ai rfl rfl rfl) rfl) rfl)) fun _=>Cv (Bw (x:=vi m.2) (Ai rfl rfl rfl) rfl) rfl) (Ae (Ae ⟨_,rfl,⟨_,rfl⟩,rfl⟩))
  ·rintro _ _ ⟨⟨z,rfl⟩,rfl⟩
   have hI:SI (C.n+3) (.slc (.var 0) (.cst (.int 2)) .nil) [some D,some D,z,none] σ (ts.map vs) [] σ:=by
    have:=SI.tup (n:=C.n+3) (σ:=σ) (ds:=ts.map fun t=>PyData.str (Tx t)) (e:=.slc (.var 0) (.cst (.int 2)) .nil) (ρ:=[some D,some D,z,none]) (Nat.le_add_left 3 _) (SE.slc (x:=.d (.tuple (.str (Tx d.word)::AP d.mark::ts.map fun t=>.str (Tx t)))) (by rw [<-ed]; exact (Ad C.ok (.var 0)).v rfl) (.some rfl ((Ad C.ok (.cst (.int 2))).v rfl)) .none (c_tup (k:=2) (by decide) (by simp)))
    rw [<-AR] at this; exact this
   have hc:SE (C.n+3) (.bi .all (.cons (.comp (.bi .isinstance (.cons (.var 3) (.cons (.ty "str") .nil))) [3] (.slc (.var 0) (.cst (.int 2)) .nil) .nil) .nil)) [some D,some D,z,none] σ (vb true) σ:=by
    have ht:vb true=vb ((ts.map fun _=>true).all id):=by rw [show (ts.map fun _=>true).all id=true from List.all_eq_true.mpr fun x hx=>by obtain ⟨_,_,rfl⟩:=List.mem_map.mp hx; rfl]
    rw [ht]
    refine SE.bi1 (x:=.d (.list (ts.map fun _=>PyData.bool true))) (.cons (SE.frz (SL.comp (ws:=(ts.map fun _=>PyData.bool true).map V.d) hI (Cw (kps:=[]) (Ad C.ok _) (Ad C.ok _) (fun _ _ m=>nomatch m) ?_) (by rw [List.length_map,List.length_map]; exact Nat.le_trans hts (by decide)))) .nil) (f_all (bs:=ts.map fun _=>true) ?_) (Nat.le_add_left 3 _)
    ·rw [Cn vs (fun _=>some (vb true)) ts (fun t _=>?_),List.filterMap_eq_map',List.map_map]
     ·rfl
     ·show ((ev C.O (.bi .isinstance (.cons (.var 3) (.cons (.ty "str") .nil)))).v [some D,some D,z,some (vs t)] σ).bind (fun u=>some (some u))=_
      rw [AK (Bw rfl rfl) (DU t)]; rfl
    ·show some ((ts.map fun _=>PyData.bool true).map V.d)=some ((ts.map fun _=>true).map _)
     rw [List.map_map,List.map_map]; rfl
   exact Dc (v:=vb true) (.bop (.more (t:=true) rfl hc (AL rfl) (fun q=>nomatch q) fun _=>.one ((Ad C.ok _).v (Fr (p:=true) rfl rfl (eq_self' (eqv_self 38 d)))))) ⟨rfl,rfl⟩)
theorem fn_changelike {c:Ch} {i j:Nat} (H:Hnd σ c i j) (hl:c.2.1.length<=100) (hd:c.2.2.length<=100):FN 3 71 [xt c i j,vc c] σ (vb true) σ:=by
 let C:Cfg:=(C0 2).knowF 70 (fun d:Deed=>[.d d.data,.d d.data]) (fun _=>vb true) fun d σ=>fn_deedlike d
 have k70:∀ (d:Deed) σ,C.O 70 [.d d.data,.d d.data] σ=some (vb true):=fun d σ=>knowF_eq (C:=C0 2) (fun _ _ _=>rfl) d σ
 let X:=xt c i j
 have L1:DI σ (.ref i) (c.2.1.map fun t=>.str (Tx t)):=.inr ⟨i,rfl,by rw [<-AR]; exact H.l⟩
 have L2:DI σ (.ref j) (c.2.2.map Deed.data):=.inr ⟨j,rfl,by rw [List.map_map]; exact H.d⟩
 exact FN.same (C:=C) (fn:=EV) (by unfold Pg; rfl) rfl (show 1<=2 by decide) (by
  show Aj C _ _ [some X,some (vc c),none,none,none] σ
  have x1:(ev C.O (.sub (.var 0) (.cst (.int 1)))).v [some X,some (vc c),none,none,none] σ=some (.ref i):=Ai rfl rfl C7
  have x2:(ev C.O (.sub (.var 0) (.cst (.int 2)))).v [some X,some (vc c),none,none,none] σ=some (.ref j):=Ai rfl rfl DM
  have y1:(ev C.O (.sub (.var 1) (.cst (.int 1)))).v [some X,some (vc c),none,none,none] σ=some (.d (dl c.2.1)):=Ai rfl rfl (DO c)
  have y2:(ev C.O (.sub (.var 1) (.cst (.int 2)))).v [some X,some (vc c),none,none,none] σ=some (.d (dds c.2.2)):=Ai rfl rfl (Ez c)
  refine B2 (e_or3 (p:=false) (q:=false) (s:=false) (Cu (p:=true) (Cv (Bw rfl rfl) rfl)) (fun _=>rfl) fun _ _=>Cu (p:=true) (Cv (Bw (x:=vs c.1) (Ai rfl rfl DN) rfl) (DU _))) ?_
  refine B2 (Dm (p:=false) (q:=false) (Cu (p:=true) (Cv (Bw x1 rfl) L1.isi)) fun _=>Cu (p:=true) (Cv (Bw x2 rfl) L2.isi)) ?_
  refine B2 (Dm (p:=false) (q:=false) (Cu (p:=true) (Cv (A0 (x:=.d (.list (c.2.1.map fun _=>PyData.bool true))) ?_) (DG c.2.1))) fun _=>(Ay (AK (A0 x2) L2.len) (AK (A0 y2) ED) ne_int).trans (by rw [decide_eq_true rfl]; rfl)) ?_
  ·refine D6 ?_
   rw [BP (t:=2) vs (fun _=>true) (fun _=>vb true) (it_ofV x1 (Eh H.l) rfl) (Nat.le_trans hl (by decide)) (fun _ _=>rfl) (fun a _ _=>AK (Bw rfl rfl) (DU a)),Bl,List.map_map]; rfl
  refine B2 (Dm (p:=false) (q:=false) ((Ay (Ai rfl rfl DN) (Ai rfl rfl (Bo c)) Fe).trans (by rw [decide_eq_true rfl]; rfl)) fun _=>Ay x1 y1 ?_) ?_
  ·show Fc ((snap σ (.ref i)).bind fun d=>(snap σ (.d (dl c.2.1))).bind fun d'=>eqN A2 d d')=_
   rw [L1.snap,bs]
   show Fc (eqN A2 (dl c.2.1) (dl c.2.1))=_
   rw [show eqN A2 (dl c.2.1) (dl c.2.1)=some true from eqd_self 39 _]; rfl
  refine AS (AK (A0 (x:=.d (.list (c.2.2.map fun _=>PyData.bool true))) ?_) (DG c.2.2)) ⟨rfl,rfl⟩
  have hit:(ev C.O (.zip (.sub (.var 0) (.cst (.int 2))) (.sub (.var 1) (.cst (.int 2))))).it [some X,some (vc c),none,none,none] σ=some (c.2.2.map (fun d=>V.d (.tuple [d.data,d.data])),Ct (.ref j) ((c.2.2.map Deed.data).map V.d)++[]):=by
   show (((ev C.O (.sub (.var 0) (.cst (.int 2)))).v [some X,some (vc c),none,none,none] σ).bind fun x=>((ev C.O (.sub (.var 1) (.cst (.int 2)))).v [some X,some (vc c),none,none,none] σ).bind fun y=>(As σ x).bind fun ds=>(As σ y).bind fun ds'=>some (FI ds ds',Ct x ds++Ct y ds'))=_
   rw [x2,bs,y2,bs,L2.lst,bs]
   show some (FI ((c.2.2.map Deed.data).map V.d) ((c.2.2.map Deed.data).map V.d),_)=_
   rw [Gd,zip_self,List.map_map]; rfl
  show (((ev C.O (.zip (.sub (.var 0) (.cst (.int 2))) (.sub (.var 1) (.cst (.int 2))))).it _ _).bind fun q=>CC _ q.1).bind mkL=_
  rw [show (ev C.O (.zip (.sub (.var 0) (.cst (.int 2))) (.sub (.var 1) (.cst (.int 2))))).it _ _=_ from hit]
  show (CC _ (c.2.2.map _)).bind mkL=_
  rw [Cn (fun d:Deed=>V.d (.tuple [d.data,d.data])) (fun _=>some (vb true)) c.2.2 (fun d _=>?_),bs,List.filterMap_eq_map']
  ·rw [show (c.2.2.map fun _=>vb true)=(c.2.2.map fun _=>PyData.bool true).map V.d by rw [List.map_map]; rfl]
   exact FL _ (by rw [List.length_map]; exact Nat.le_trans hd (by decide))
  ·show ((ev C.O (.fcall 70 (.cons (.var 3) (.cons (.var 4) .nil)))).v [some X,some (vc c),none,some (.d d.data),some (.d d.data)] σ).bind _=_
   rw [GT (Bw rfl rfl) (k70 d σ)]; rfl)
end
end Mine
namespace Mine
open PySem
section
variable {n:Nat} {σ:Ab} {ρ:Ag}
theorem Ft (hi:2 < ρ.length):∀ bs:List Bool,Ej n (.var 2) [2] (.cons (.var 2) .nil) [] ρ σ (vbs bs) σ (vbs (bs.filter id))
 | []=>⟨(fun _ _ m=>nomatch m),rfl,rfl⟩
 | b::bs=>by
  have hv:SE n (.var 2) (BF (A6 ρ [2]) [2] (vb b)) σ (vb b) σ:=SE.var (by show ((ρ.set 2 none).set 2 (some (vb b)))[2]? = _; rw [List.getElem?_set_self (by rw [List.length_set]; exact hi)])
  have ht:ST n (.var 2) (BF (A6 ρ [2]) [2] (vb b)) σ b σ:=ST.plain (fun hc=>BA (.var 2) rfl hc) hv (AL rfl)
  refine ⟨(fun _ _ m=>nomatch m),.inl rfl,b,σ,?_,fun q=>?_,fun q=>?_⟩
  ·cases b with
   | true=>exact .cons ht .nil
   | false=>exact .no ht
  ·subst q; exact Ft hi bs
  ·subst q; exact ⟨vb true,_,σ,hv,rfl,Ft hi bs⟩
theorem Gm {j k:Nat} (hv:ρ[0]? = some (some (.exc j))) (hj:j∈cauP) (h0:Nat.beq k 0=false) (hk:k < 10):SE n (.bi .isinstance (.cons (.var 0) (.cons (.glx k) .nil))) ρ σ (vb (Bp j k)) σ:=.bi2 (.cons (.var hv) (.cons .glx .nil)) (f_isx hj h0 hk)
theorem fn_alone {j:Nat} (hj:j∈cauP):FA 2 73 [.exc j] σ (vb true) σ:=by
 let b1:List Bool:=[Bp j 2,Bp j 3,Bp j 4,Bp j 5]
 let b2:List Bool:=[Bp j 6,Bp j 7,Bp j 8,Bp j 9]
 have e1:(b1++b2).filter id=[true]:=(show ∀ j∈cauP,(([Bp j 2,Bp j 3,Bp j 4,Bp j 5]:List Bool)++[Bp j 6,Bp j 7,Bp j 8,Bp j 9]).filter id=[true] by decide) j hj
 have e2:Bp j 1=true:=by unfold Bp; rw [show Nat.beq 1 1=true from rfl,Bool.true_or,Bool.or_true]
 have e3:Bp j 0=true:=by unfold Bp; rw [show Nat.beq 0 0=true from rfl,Bool.or_true,Bool.or_true]
 have row:∀ {z k1 k2 k3 k4},Nat.beq k1 0=false->k1 < 10->Nat.beq k2 0=false->k2 < 10->Nat.beq k3 0=false->k3 < 10->Nat.beq k4 0=false->k4 < 10 ->
  SE 1 (.lst (.cons (.bi .isinstance (.cons (.var 0) (.cons (.glx k1) .nil))) (.cons (.bi .isinstance (.cons (.var 0) (.cons (.glx k2) .nil))) (.cons (.bi .isinstance (.cons (.var 0) (.cons (.glx k3) .nil))) (.cons (.bi .isinstance (.cons (.var 0) (.cons (.glx k4) .nil))) .nil))))) [some (.exc j),z,none] σ (.d (.list [.bool (Bp j k1),.bool (Bp j k2),.bool (Bp j k3),.bool (Bp j k4)])) σ:=fun {z k1 k2 k3 k4} a1 a2 a3 a4 a5 a6 a7 a8 =>
  SE.frz (ds:=[.bool (Bp j k1),.bool (Bp j k2),.bool (Bp j k3),.bool (Bp j k4)]) (SL.lst (.cons (Gm rfl hj a1 a2) (.cons (Gm rfl hj a3 a4) (.cons (Gm rfl hj a5 a6) (.cons (Gm rfl hj a7 a8) .nil)))) (show 4<=line by decide))
 refine FA.of (fn:=Falone) (n:=1) (by unfold Pg; rfl) rfl ?_ (Nat.le_refl _)
 show SSs 1 _ [some (.exc j),none,none] σ _
 refine .cons (.asg rfl (row (k1:=2) (k2:=3) (k3:=4) (k4:=5) rfl (by decide) rfl (by decide) rfl (by decide) rfl (by decide)) ?_)
 show SSs 1 _ [some (.exc j),some (.d (.list (b1.map .bool))),none] σ _
 refine .cons (.asg (v:=.d (.list ((b1++b2).map .bool))) rfl (SE.frz (SL.bin (x:=.d (.list (b1.map .bool))) (y:=.d (.list (b2.map .bool))) (.var rfl) (row (k1:=6) (k2:=7) (k3:=8) (k4:=9) rfl (by decide) rfl (by decide) rfl (by decide) rfl (by decide)) (p_catL (ws:=(b1.map PyData.bool).map V.d) (us:=(b2.map PyData.bool).map V.d) rfl rfl (show 4+4<=line by decide)))) ?_)
 show SSs 1 _ [some (.exc j),some (.d (.list ((b1++b2).map .bool))),none] σ _
 have hc:SE 1 (.comp (.var 2) [2] (.var 1) (.cons (.var 2) .nil)) [some (.exc j),some (.d (.list ((b1++b2).map .bool))),none] σ (.d (.list [.bool true])) σ:=by
  have h:=Ft (n:=1) (σ:=σ) (ρ:=[some (.exc j),some (.d (.list ((b1++b2).map .bool))),none]) (show 2 < 3 by decide) (b1++b2)
  rw [e1] at h
  exact SE.frz (ds:=[.bool true]) (SL.comp (kps:=[]) (SI.lst (v:=.d (.list ((b1++b2).map .bool))) (ws:=vbs (b1++b2)) (.var rfl) rfl) h (show 1<=line by decide))
 refine .cons (.ret (v:=vb true) (.bop (.more (t:=true) (x:=vb true) rfl (.cmp (x:=vi 1) (y:=vi 1) (.bi1 (.cons hc .nil) (lenV_ok rfl)) (.cst (.int 1)) (CQ (op:=.Eq) rfl)) (AL rfl) (fun q=>nomatch q) fun _=>?_)) ⟨rfl,rfl⟩)
 refine .more (t:=true) (x:=vb true) rfl (e2▸Gm rfl hj rfl (by decide)) (AL rfl) (fun q=>nomatch q) fun _=>?_
 exact .one (e3▸SE.bi2 (.cons (.var rfl) (.cons .ty .nil)) (f_isx0 hj))
end
section
variable {F:List Ch} {gs:Gsl} {hs:List (List Nat×Int)} {a:List Nat} {τ:Ab}
theorem sx_ite {n k:Nat} {e:E} {p q:S} {ρ:Ag} {σ σ₁:Ab} {X:Ag->Ab->Prop} (h:ST n e ρ σ false σ₁) (h1:SXs n q ρ σ₁ k X):SX n (.ite e p q) ρ σ k X:=fun c g s x hc I=>hc (fun x=>c.wx (exec x c.env) (SXP n c g k X) s) fun ex xs ys pos c1 c2 c3=>by
 refine wpAny_If (wpAny_mono (h c g s ex c1 I) (fun b s₁ p=>p _ fun g₁ le a1 e₁=>?_) fun _ _ h=>h.elim)
 subst e₁
 exact wpAny_mono (h1 c g₁ s₁ ys c3 (I.step le a1)) (fun _ _ h=>h) fun _ _ p=>p.after le.toO
theorem fn_refused (ha:a∉nms F) (w:Nat) (hw:w < 5):FN 4 74 [self,vs a,vi w] (W F gs hs++τ) (vb true) (W F gs hs++τ):=by
 let σ:=W F gs hs++τ
 let ρ:Ag:=[some self,some (vs a),some (vi w),none]
 have hx:∀ {nm:Str} {f:Nat},mtP nm=some f->FX 3 f [self,vs a] σ 5 σ->SXs (3+3) (.cons (.exp (.mcall nm (.var 0) (.cons (.var 1) .nil))) .nil) ρ σ 5 fun ρ' σ₁=>ρ'=ρ/\σ₁=σ:=fun hm hf=>.head (.exp rfl (.mcall Au hm ((Ad (C0 3).ok (.var 0)).v rfl) ((Ad (C0 3).ok _).row rfl) hf) ⟨rfl,rfl⟩)
 have hc:∀ i:Nat,ST (3+3) (.cmp .Eq (.var 2) (.cst (.int i))) ρ σ (decide ((w:Int)=i)) σ:=fun i=>(Ad (C0 3).ok _).t (Ay (O:=(C0 3).O) (ρ:=ρ) (a:=.var 2) (b:=.cst (.int i)) rfl rfl Cc)
 have m1:mtP (Str.ofString "change")=some 41:=by unfold mtP; kernel_rfl
 have m2:mtP (Str.ofString "height")=some 42:=by unfold mtP; kernel_rfl
 have m3:mtP (Str.ofString "ground")=some 43:=by unfold mtP; kernel_rfl
 have m4:mtP (Str.ofString "leaning")=some 44:=by unfold mtP; kernel_rfl
 have m5:mtP (Str.ofString "take")=some 39:=by unfold mtP; kernel_rfl
 show FA (6+1) 74 _ _ _ _
 refine FA.of (fn:=Frefused) (by unfold Pg; rfl) rfl ?_ (by decide)
 show SSs 6 _ ρ σ _
 refine .cons (.tryAs (v:=vb true) (σ₁':=σ) (.head ?_) (by decide) (.fcall (.cons (.var rfl) .nil) (fn_alone (show 5∈[5] from .head _))) ⟨rfl,rfl⟩)
 by_cases h0:w=0
 ·exact .ite (σ₁:=σ) (by have:=hc 0; rw [decide_eq_true (by omega)] at this; exact this) (hx m1 (fx_change ha))
 refine sx_ite (σ₁:=σ) (by have:=hc 0; rw [decide_eq_false (by omega)] at this; exact this) (.head ?_)
 by_cases h1:w=1
 ·exact .ite (σ₁:=σ) (by have:=hc 1; rw [decide_eq_true (by omega)] at this; exact this) (hx m2 (fx_height ha))
 refine sx_ite (σ₁:=σ) (by have:=hc 1; rw [decide_eq_false (by omega)] at this; exact this) (.head ?_)
 by_cases h2:w=2
 ·exact .ite (σ₁:=σ) (by have:=hc 2; rw [decide_eq_true (by omega)] at this; exact this) (hx m3 (fx_ground ha))
 refine sx_ite (σ₁:=σ) (by have:=hc 2; rw [decide_eq_false (by omega)] at this; exact this) (.head ?_)
 by_cases h3:w=3
 ·exact .ite (σ₁:=σ) (by have:=hc 3; rw [decide_eq_true (by omega)] at this; exact this) (hx m4 (fx_leaning ha))
 exact sx_ite (σ₁:=σ) (by have:=hc 3; rw [decide_eq_false (by omega)] at this; exact this) (hx m5 (fx_take ha))
end
end Mine
namespace Mine
open PySem
theorem SealR.of {σ:Ab} {m:Nat}:∀ {ρ ρ':Ag},Aq (fun o o'=>∀ v',o'=some v'->∃ v,o=some v/\((v=v'/\low m v)\/∃ d,v'=V.d d/\Sn σ m v d)) ρ ρ'->SealR σ m ρ ρ'
 | [],[],_,_,_,e=>Ac e
 | o::ρ,o'::ρ',h,0,v',e=>by
  obtain ⟨v,h1,h2⟩:=h.1 v' (Option.some.inj e)
  exact ⟨v,congrArg some h1,h2⟩
 | _::ρ,_::ρ',h,i+1,v',e=>SealR.of h.2 i v' e
 | [],_::_,h,_,_,_=>h.elim
 | _::_,[],h,_,_,_=>h.elim
section
variable {σ:Ab} {m:Nat} {o:Option V} {v:V} {d:PyData}
theorem Ci:∀ v',none=some v'->∃ v,o=some v/\((v=v'/\low m v)\/∃ d,v'=V.d d/\Sn σ m v d):=fun _ e=>Ac e
theorem s_eq (h:low m v):∀ v',some v=some v'->∃ u,some v=some u/\((u=v'/\low m u)\/∃ d,v'=V.d d/\Sn σ m u d):=fun v' e=>⟨v,rfl,.inl ⟨Option.some.inj e,h⟩⟩
theorem s_d:∀ v',some (V.d d)=some v'->∃ u,some (V.d d)=some u/\((u=v'/\low m u)\/∃ d,v'=V.d d/\Sn σ m u d):=s_eq trivial
theorem s_sn (h:Sn σ m v d):∀ v',some (V.d d)=some v'->∃ u,some v=some u/\((u=v'/\low m u)\/∃ d,v'=V.d d/\Sn σ m u d):=fun v' e=>⟨v,rfl,.inr ⟨d,(Option.some.inj e).symm,h⟩⟩
end
theorem rise_same {l l':List (List Nat)} (h1:l.Pairwise (· < ·)) (h2:l'.Pairwise (· < ·)) (h:∀ x,x∈l ↔ x∈l'):l=l' :=
 D4 (fun x y p q=>List.lt_irrefl _ (List.lt_trans p q)) h1 h2 ((List.perm_ext_iff_of_nodup (Em h1) (Em h2)).mpr h)
theorem idx_str (a:List Nat):∀ l:List (List Nat),a∈l->∃ j,FO (.str (Tx a)) (l.map fun t=>.str (Tx t))=some j/\l.eraseIdx j=l.erase a
 | [],h=>nomatch h
 | y::l,h=>by
  have e0:eqN A2 (.str (Tx y)) (.str (Tx a))=some (decide (y=a)):=CA ..
  by_cases e:y=a
  ·refine ⟨0,?_,by rw [e,List.erase_cons_head]; rfl⟩
   show (eqN A2 (.str (Tx y)) (.str (Tx a))).bind _=_
   rw [e0,decide_eq_true e]; rfl
  ·obtain ⟨j,h1,h2⟩:=idx_str a l ((List.mem_cons.mp h).resolve_left fun q=>e q.symm)
   refine ⟨j+1,?_,by rw [List.erase_cons_tail (by simp [e])]; show y::l.eraseIdx j=_; rw [h2]⟩
   show (eqN A2 (.str (Tx y)) (.str (Tx a))).bind _=_
   rw [e0,decide_eq_false e]
   show (FO (.str (Tx a)) (l.map fun t=>.str (Tx t))).bind _=_
   rw [h1]; rfl
theorem sort_mk {σ:Ab} {x:V} {l:List (List Nat)} (hx:As σ x=some (l.map vs)) (h:l.length < 64):bmake .sorted σ [x]=some ((Am l).map vs):=by
 show ((As σ x).bind fun ws=>(BV Bq ws).bind fun ss=>if ss.length < 64 then some (vss (Cg ss)) else none)=_
 rw [hx,bs,mapV_vs,bs,if_pos (by rw [List.length_map]; exact h),CX]
 show some (((Am l).map Tx).map _)=_
 rw [List.map_map]; rfl
section
variable {cs F:List Ch} {gs:Gsl} {c:Ch} {τ:Ab}
theorem gd_rem (h:Wov cs F gs) {a:List Nat} (ha:a∈nms cs) {l:List (List Nat)} (nd:l.Nodup) (hm:∀ x,x∈l ↔ x=a\/Blw cs a x):(Am l).erase a=gdL gs a:=by
 obtain ⟨ls,hls,⟨_,hr⟩,_⟩:=gd_at h.w ((h.perm.map _).mem_iff.mpr ha)
 have el:gdL gs a=ls:=by rw [gdL,hls]; rfl
 have nd':(Am l).Nodup:=(Ah _).nodup_iff.mpr nd
 refine rise_same ((Be l nd).sublist List.erase_sublist) (by rw [el]; exact hr) fun x=>?_
 rw [nd'.mem_erase_iff,(Ah _).mem_iff,hm,gd_mem h ha]
 constructor
 ·rintro ⟨h1,h2 | h2⟩
  ·exact absurd h2 h1
  ·exact h2
 ·intro b
  exact ⟨fun e=>by subst e; have:=b.lower h.H.nd h.H.topo; omega,.inr b⟩
theorem fn_asked (h:Wov cs F gs) (hc:c∈cs):FN 5 72 [self,.d (.list (cs.map Ch.data)),vc c] (W F gs (hts [] F)) (vb true) (W F gs (hts [] F)):=by
 let a:=c.1
 have ha:a∈nms cs:=List.mem_map_of_mem hc
 have haF:a∈nms F:=(h.perm.map _).mem_iff.mpr ha
 have hcF:c∈F:=h.perm.mem_iff.mpr hc
 have hlen:=h.len
 obtain ⟨gr,hgr⟩:=gr_all h
 let C:Cfg:=(C0 4).knowF 28 (fun n:{n // n∈nms cs}=>[.d (.list (cs.map Ch.data)),.d (dl [n.1])]) (fun n=>.d (dl (gr n))) (fun m σ=>((hgr m).2 σ).more (by decide))
 have k28:∀ (n:{n // n∈nms cs}) σ,C.O 28 [.d (.list (cs.map Ch.data)),.d (dl [n.1])] σ=some (.d (dl (gr n))):=fun m σ=>knowF_eq (C:=C0 4) (fun a b e=>by rw [Subtype.ext (dlj e)]) m σ
 let cD:V:=.d (.list (cs.map Ch.data))
 let σ:Ab:=W F gs (hts [] F)
 let L:=Am (gr ⟨a,ha⟩)
 have gl:=(hgr ⟨a,ha⟩).1
 have eG:L.erase a=gdL gs a:=gd_rem h ha gl.1 gl.2.2
 obtain ⟨j,hj1,hj2⟩:=idx_str a L ((Ah _).mem_iff.mpr ((gl.2.2 a).mpr (.inl rfl)))
 obtain ⟨gi,gi_eq,_⟩:=gi_ex h ha fun n=>(hgr n).1
 let lf:List (List Nat):=nms (cs.filter fun o=>gi o.1 && !decide (o.1=a))
 have elf:Am lf=lnL cs gs a:=by
  have nlf:lf.Nodup:=(List.Sublist.map _ List.filter_sublist).nodup h.H.nd
  refine rise_same (Be _ nlf) ((Be _ h.H.nd).sublist List.filter_sublist) fun x=>?_
  rw [(Ah _).mem_iff,Fi h]
  constructor
  ·intro hx
   obtain ⟨o,ho,rfl⟩:=List.mem_map.mp hx
   obtain ⟨o1,o2⟩:=List.mem_filter.mp ho
   have hn:o.1∈nms cs:=List.mem_map_of_mem o1
   obtain ⟨p1,p2⟩:=Bool.and_eq_true_iff.mp o2
   rw [gi_eq _ hn] at p1
   refine ⟨hn,(((hgr ⟨o.1,hn⟩).1.2.2 a).mp (of_decide_eq_true p1)).resolve_left fun e=>?_⟩
   rw [decide_eq_true e.symm] at p2; cases p2
  ·rintro ⟨hn,hb⟩
   obtain ⟨o,ho,rfl⟩:=List.mem_map.mp hn
   refine List.mem_map_of_mem (List.mem_filter.mpr ⟨ho,Bool.and_eq_true_iff.mpr ⟨?_,?_⟩⟩)
   ·rw [gi_eq _ hn]; exact decide_eq_true (((hgr ⟨o.1,hn⟩).1.2.2 a).mpr (.inr hb))
   ·rw [decide_eq_false fun e=>by have:=hb.lower h.H.nd h.H.topo; rw [e] at this; omega]; rfl
 have hlf:lf.length<=60:=Nat.le_trans (by rw [List.length_map]; exact List.length_filter_le _ _) hlen
 exact FN.same (C:=C) (fn:=Fasked) (by unfold Pg; rfl) rfl (show 1<=4 by decide) (by
  refine goF_end (P:=fun v σ'=>v=vb true/\σ'=σ) ?_
  show Dp C 3 _ _ [some self,some cD,some (vc c),none,none,none,none,none,none,none,none,none] σ
  refine goF (Aw (v:=vs a) (Ai rfl rfl (Bo c)) (Ae ⟨_,rfl,?_⟩))
  refine goF (BE (ws:=L.map vs) (FE (b:=.sorted) (A0 (GT (Bw rfl (GS rfl)) (k28 ⟨a,ha⟩ _))) (sort_mk (by show some (((gr ⟨a,ha⟩).map fun t=>PyData.str (Tx t)).map V.d)=_; rw [<-AR]) (by have:=gl.2.1; omega)) (by rw [List.length_map,(Ah _).length_eq]; exact Nat.le_trans gl.2.1 (by decide))) (Ae ⟨_,rfl,?_⟩))
  refine goF (go_remove (k:=3) (d:=.str (Tx a)) (ds:=L.map fun t=>.str (Tx t)) rfl rfl (by show some (O.list (L.map vs))=_; rw [AR]) (inD_str a L) hj1 (Ae ⟨_,rfl,?_⟩))
  show Dp C 3 _ _ _ (σ++[.list (((L.map fun t=>PyData.str (Tx t)).map V.d).eraseIdx j)])
  rw [<-AR,Fp,hj2,eG,AR]
  refine DA (ρ':=[some self,some cD,some (vc c),some (vs a),some (.d (dl (gdL gs a))),none,none,none,none,none,none,none]) ?_ (Nat.le_refl _) (EC 3) (.of ⟨s_eq BX,s_d,s_d,s_d,s_sn ⟨_,rfl,Nat.le_refl _,rfl⟩,Ci,Ci,Ci,Ci,Ci,Ci,Ci,trivial⟩)
  refine goF (go_comp (ds:=lf.map fun t=>.str (Tx t)) ?_ (Ae ⟨_,rfl,?_⟩))
  ·refine Eq.trans (b:=some ((cs.filter fun o=>gi o.1 && !decide (o.1=a)).map fun o=>vs o.1)) (BP (l:=cs) vc (fun o=>gi o.1 && !decide (o.1=a)) (fun o=>vs o.1) (F5 rfl) (Nat.le_trans hlen (by decide)) (fun o ho=>?_) (fun o _ _=>Ai rfl rfl (Bo o))) ?_
   rotate_left
   ·rw [List.map_map,List.map_map]; rfl
   ·have hn:o.1∈nms cs:=List.mem_map_of_mem ho
    refine e_ts1 (DD (p:=gi o.1) (q:=!decide (o.1=a)) ?_ fun _=>Ay (Ai rfl rfl (Bo o)) rfl Fe)
    rw [gi_eq _ hn]
    exact Ay (y:=.d (dl (gr ⟨o.1,hn⟩))) rfl (GT (Bw rfl (GS (Ai rfl rfl (Bo o)))) (k28 ⟨o.1,hn⟩ _)) (FW _ _)
  let K:Option V->Option V->Option V->Option V->Option V->Ag:=fun z7 z8 z9 z10 z11=>[some self,some cD,some (vc c),some (vs a),some (.d (dl (gdL gs a))),some (.d (dl lf)),none,z7,z8,z9,z10,z11]
  refine goF (AX (v:=vi (hgt F a)) (σ':=σ) rfl (.mcall (f:=42) Au (by unfold mtP; kernel_rfl) ((Ad C.ok (.var 0)).v rfl) ((Ad C.ok _).row rfl) ((fn_height (τ:=[]) haF).more (show 3<=4 by decide))) (Ae ⟨_,rfl,?_⟩))
  show Dp C 3 _ _ (K (some (vi (hgt F a))) none none none none) σ
  have hh:hgt F a=hgt cs a:=(hgt_same h.H.nd h.perm h.H.topo h.w.topo c hc).symm
  have fh:FN 2 19 [cD] σ (.ref (σ.length+0)) (σ++[oT (hts [] cs)]):=FA.newR (fn_heights cs (fun x hx=>(h.gen x hx).few) hlen h.H.nd h.H.topo) (all_cons trivial AI) (all_cons trivial AI)
  refine goF (BY (σ':=σ++[oT (hts [] cs)]) (.bop (.cons (t:=false) ((Ad C.ok _).t (Cu (p:=true) (Cv (Bw rfl rfl) rfl))) (fun q=>nomatch q) fun _=>.cons (t:=false) ((Ad C.ok _).t (Cv (Bw rfl rfl) rfl)) (fun q=>nomatch q) fun _=>.cons (t:=false) (.cmp (x:=vi (hgt F a)) (y:=vi (hgt cs a)) (.var rfl) (.sub (.fcall ((Ad C.ok _).row rfl) (fh.more (show 2<=4 by decide))) (.var rfl) (subscr_ok (CE (k:=3) (a:=a) (kvs:=A5 Tx PyData.int (hts [] cs)) rfl (by rw [Ba PyData.int B6,hgt_get ha]; rfl)))) (CQ (op:=.NotEq) (b:=false) (by rw [hh]; exact ne_int.trans (by rw [decide_eq_true rfl]; rfl)))) (fun q=>nomatch q) fun _=>.nil)) (Ae ⟨_,rfl,?_⟩))
  refine DA (ρ':=K (some (vi (hgt F a))) none none none none) ?_ (Nat.le_refl _) (EC 3) (.of ⟨s_eq BX,s_d,s_d,s_d,s_d,s_d,Ci,s_d,Ci,Ci,Ci,Ci,trivial⟩)
  refine goF (AX (v:=xt c 3 4) (σ':=σ++[oLs c,oDs c]) rfl (.mcall (f:=41) Au (by unfold mtP; kernel_rfl) ((Ad C.ok (.var 0)).v rfl) ((Ad C.ok _).row rfl) ((GH (τ:=[]) h.w.nd h.w.gen hcF).more (show 3<=4 by decide))) (Ae ⟨_,rfl,?_⟩))
  show Dp C 3 _ _ (K (some (vi (hgt F a))) (some (xt c 3 4)) none none none) _
  have gc:=h.gen c hc
  refine goF (BY (σ':=σ++[oLs c,oDs c]) (ST.not (t:=true) (ST.plain (fun hc=>BA (.fcall 71 (.cons (.var 8) (.cons (.var 2) .nil))) rfl hc) (.fcall (vs:=[xt c 3 4,vc c]) ((Ad C.ok _).row rfl) ((fn_changelike (i:=3) (j:=4) ⟨rfl,rfl⟩ (Nat.le_trans gc.few (by decide)) (Nat.le_trans gc.deeds (by decide))).more (show 3<=4 by decide))) (AL rfl))) (Ae ⟨_,rfl,?_⟩))
  refine goF (AJ (k:=3) (y:=.d (.str (Str.ofString "a"))) (ws:=c.2.1.map vs) (Ai rfl rfl C7) rfl rfl (by rw [List.length_map]; exact Nat.lt_of_le_of_lt gc.few (by decide)) (Ae ⟨_,rfl,?_⟩))
  refine goF (AJ (k:=4) (y:=.d (.tuple [.str (Str.ofString "add"),.none,.str (Str.ofString "")])) (ws:=c.2.2.map fun d=>.d d.data) (Ai rfl rfl DM) rfl rfl (by rw [List.length_map]; exact Nat.lt_of_le_of_lt gc.deeds (by decide)) (Ae ⟨_,rfl,?_⟩))
  show Dp C 3 _ _ _ (σ++[.list (c.2.1.map vs++[.d (.str (Str.ofString "a"))]),.list ((c.2.2.map fun d=>V.d d.data)++[.d (.tuple [.str (Str.ofString "add"),.none,.str (Str.ofString "")])])])
  refine DA (ρ':=K none none none none none) ?_ (Nat.le_refl _) (EC 3) (.of ⟨s_eq BX,s_d,s_d,s_d,s_d,s_d,Ci,Ci,Ci,Ci,Ci,Ci,trivial⟩)
  refine goF (Bu (l:=List.range 2) (fun j:Nat=>vi (j:Int)) (fun _ ρ σ'=>(∃ z9 z10 z11,ρ=K none none z9 z10 z11)/\∃ τ,σ'=σ++τ) (itr (m:=2) rfl (by decide) (by decide)) ⟨⟨none,none,none,rfl⟩,[],rfl⟩ ?_ ?_)
  ·rintro p n q ρ _ e ⟨⟨z9,z10,z11,rfl⟩,τ,rfl⟩
   let G:O:=.list ((gdL gs a).map vs)
   let N:O:=.list ((lnL cs gs a).map vs)
   have gln:(gdL gs a).length<=60:=by
    obtain ⟨ls,hls,⟨hl,_⟩,_⟩:=gd_at h.w haF
    rw [gdL,hls]; exact hl
   have lln:(lnL cs gs a).length<=60:=by rw [<-elf,(Ah _).length_eq]; exact hlf
   refine C8 (fl:=.next (K none none (some (vi (n:Int))) (some (.ref (τ.length+3))) (some (.ref ((τ++[G]).length+3))))) (σ':=σ++(τ++[G]++[N])) (fun Q q=>.sw2 (v:=.tup [.inr (τ.length+3),.inr ((τ++[G]).length+3)]) (Nat.le_add_left 3 _) (SE.tupR (us:=[.inr (τ.length+3),.inr ((τ++[G]).length+3)]) (.cons (.mcall (f:=43) Au (by unfold mtP; kernel_rfl) ((Ad C.ok (.var 0)).v rfl) ((Ad C.ok _).row rfl) ((GG h.w haF).more (show 3<=4 by decide))) (.cons (.mcall (f:=44) Au (by unfold mtP; kernel_rfl) ((Ad C.ok (.var 0)).v rfl) ((Ad C.ok _).row rfl) (F7 (τ:=τ++[G]) h haF)) .nil)) (show 2<=line by decide)) rfl q) ?_
   have a1:(σ++(τ++[G]++[N]))[τ.length+3]? = some G:=(show (τ++[G]++[N])[τ.length]? = some G from B3 Ck)
   have a2:(σ++(τ++[G]++[N]))[(τ++[G]).length+3]? = some N:=(show (τ++[G]++[N])[(τ++[G]).length]? = some N from Ck)
   have t1:FN 2 24 [.ref (τ.length+3),.d (dl (gdL gs a))] (σ++(τ++[G]++[N])) (vb true) (σ++(τ++[G]++[N])):=De _ (.inr ⟨_,rfl,by rw [<-AR]; exact a1⟩) (Nat.le_trans gln (by decide))
   have t2:FN 2 24 [.ref ((τ++[G]).length+3),.d (dl (lnL cs gs a))] (σ++(τ++[G]++[N])) (vb true) (σ++(τ++[G]++[N])):=De _ (.inr ⟨_,rfl,by rw [<-AR]; exact a2⟩) (Nat.le_trans lln (by decide))
   refine BY (σ':=σ++(τ++[G]++[N])) (.bop (.cons (t:=false) (ST.not (t:=true) (ST.plain (fun hc=>BA (.fcall 24 (.cons (.var 10) (.cons (.var 4) .nil))) rfl hc) (.fcall (vs:=[.ref (τ.length+3),.d (dl (gdL gs a))]) ((Ad C.ok _).row rfl) (t1.more (show 2<=4 by decide))) (AL rfl))) (fun q=>nomatch q) fun _=>.cons (t:=false) (ST.not (t:=true) (ST.plain (fun hc=>BA (.fcall 24 (.cons (.var 11) (.cons (.bi .sorted (.cons (.var 5) .nil)) .nil))) rfl hc) (.fcall (vs:=[.ref ((τ++[G]).length+3),.d (dl (lnL cs gs a))]) ((Ad C.ok _).row (Bw rfl (AK (A0 rfl) ((DP (l:=lf) (by show some ((lf.map fun t=>PyData.str (Tx t)).map V.d)=_; rw [<-AR]) (by omega)).trans (by rw [elf]))))) (t2.more (show 2<=4 by decide))) (AL rfl))) (fun q=>nomatch q) fun _=>.nil)) ?_
   refine AJ (k:=τ.length+3) (y:=.d (.str (Str.ofString "a"))) (ws:=(gdL gs a).map vs) rfl rfl a1 (by rw [List.length_map]; exact Nat.lt_of_le_of_lt gln (by decide)) ?_
   refine GA (k:=(τ++[G]).length+3) (ws:=(lnL cs gs a).map vs) rfl ?_ (Ae ⟨_,rfl,⟨_,_,_,rfl⟩,_,rfl⟩)
   show ((τ++[G]++[N]).set τ.length _)[(τ++[G]).length]? = _
   rw [List.getElem?_set_ne (by simp)]; exact Ck
  ·rintro ρ _ ⟨⟨z9,z10,z11,rfl⟩,τ,rfl⟩
   exact Ae ⟨_,rfl,DA (ρ':=K none none none none none) (goF_ret ((Ad C.ok (.cst (.bool true))).v rfl) ⟨rfl,rfl⟩) (Nat.le_refl _) (EC 3) (.of ⟨s_eq BX,s_d,s_d,s_d,s_d,s_d,Ci,Ci,Ci,Ci,Ci,Ci,trivial⟩)⟩)
end
end Mine
namespace Mine
open PySem
section
variable {D L D' L' n:Nat} {d:PyData} {ds:List PyData}
theorem ShK.up (h:ShK D L d) (hD:D<=D') (hL:L<=L'):ShK D' L' d:=⟨h.able,h.nod,Nat.le_trans h.dep hD,Nat.le_trans h.len hL⟩
theorem ShK.none:ShK 0 4 .none:=by
 refine ⟨by simp only [PyData.showable],by simp only [PyData.hasDict],by simp only [PyData.depth,Nat.le_refl],?_⟩
 simp only [PyData.shown]; decide +kernel
theorem ShK.tups (h:∀ d∈ds,ShK D L d) (hn:ds.length<=n):ShK (D+1) (n * (L+2)+3) (.tuple ds):=by
 obtain ⟨a1,a2,a3,a4⟩:=ShK.all ds h
 refine ⟨by simp only [PyData.showable,a1],by simp only [PyData.hasDict,a2],by simp only [PyData.depth]; omega,?_⟩
 simp only [PyData.shown]
 have h3:=tupleText_len_le (PyData.shownAll ds)
 have h4:=Nat.mul_le_mul_right (L+2) hn
 omega
end
theorem sh_deed {d:Deed} (h:CO d) (hm:∀ m,d.mark=some m->AF m.1=true/\m.2.natAbs < 1000):ShK 2 6015 d.data:=by
 have hw:∀ w∈[Ec,kset,kcut],ShK 0 32 (.str (Tx w)):=fun w hw=>ShK.str (n:=3) ((show ∀ w∈[Ec,kset,kcut],w.length<=3 by decide) w hw) ((show ∀ w∈[Ec,kset,kcut],∀ c∈w,c < 4294967296 by decide) w hw)
 have hmk:ShK 1 142 (AP d.mark):=by
  cases e:d.mark with
  | none=>exact ShK.none.up (by decide) (by decide)
  | some m=>exact (sh_name (hm m e).1).tup (.int (hm m e).2)
 have hword:d.word∈[Ec,kset,kcut]:=by
  rcases h.shp with ⟨e,_⟩ | ⟨e,_⟩ | ⟨e,_⟩ <;> rw [e] <;> decide
 refine ShK.tups (D:=1) (L:=2002) (n:=3) (fun x hx=>?_) (by show (_::_::(match d.text with | none=>[] | some l=>[PyData.str (Tx l)])).length<=3; cases d.text <;> exact Nat.le_of_ble_eq_true rfl)
 rcases List.mem_cons.mp hx with rfl | hx
 ·exact (hw _ hword).up (by decide) (by decide)
 rcases List.mem_cons.mp hx with rfl | hx
 ·exact hmk.up (by decide) (by decide)
 ·cases e:d.text with
  | none=>rw [e] at hx; exact nomatch hx
  | some l =>
   rw [e] at hx
   rw [List.mem_singleton.mp hx]
   exact (sh_line (h.lin l e)).up (by decide) (by decide)
section
variable {cs F:List Ch} {gs:Gsl} {c m:Ch}
theorem sh_change (h:Wov cs F gs) (hc:c∈cs):ShL (Ch.data c):=by
 obtain ⟨pre,post,e⟩:=List.append_of_mem hc
 have A:=add_ok h.H h.gen h.len (List.Perm.refl cs) h.H.topo e
 have hp:∀ x∈pre,x∈cs:=fun x hx=>by rw [e]; exact List.mem_append_left _ hx
 have hd:ShK 3 120343 (dds c.2.2):=by
  refine ShK.lst (D:=2) (L:=6015) (n:=20) (fun x hx=>?_) (by rw [List.length_map]; exact A.deeds)
  obtain ⟨d,hd,rfl⟩:=List.mem_map.mp hx
  refine sh_deed (A.ok d hd) fun k hk=>?_
  obtain ⟨p,q,ed⟩:=List.append_of_mem hd
  rcases A.mrk p d q ed k hk with ⟨k1,k2,k3⟩ | ⟨_,c',hc',k1,k2,k3⟩
  ·refine ⟨k1▸A.name,?_⟩
   have:=ER p
   have:=A.deeds
   rw [ed,List.length_append,List.length_cons] at this
   omega
  ·refine ⟨k1▸(h.gen c' (hp c' hc')).name,?_⟩
   have:=ER c'.2.2
   have:=(h.gen c' (hp c' hc')).deeds
   omega
 refine ⟨(ShK.tups (D:=3) (L:=120343) (n:=3) (ds:=[.str (Tx c.1),dl c.2.1,dds c.2.2]) (fun x hx=>?_) (Nat.le_refl 3)).shw (by decide) (by decide),rfl⟩
 rcases List.mem_cons.mp hx with rfl | hx
 ·exact (sh_name A.name).up (by decide) (by decide)
 rcases List.mem_cons.mp hx with rfl | hx
 ·exact (sh_names A.lnm A.few).up (by decide) (by decide)
 ·rw [List.mem_singleton.mp hx]; exact hd
theorem sh_nms {l:List (List Nat)} (h:Wov cs F gs) (hl:l.length<=60) (hs:∀ n∈l,n∈nms cs):ShL (dl l) :=
 ⟨(sh_names (fun n hn=>by obtain ⟨x,hx,rfl⟩:=List.mem_map.mp (hs n hn); exact (h.gen x hx).name) hl).shw (by decide) (by decide),rfl⟩
noncomputable def ans4 (cs:List Ch) (gs:Gsl) (c:Ch):List PyData:=[dl (gdL gs c.1),dl (lnL cs gs c.1),Ch.data c,dl (Am (nms cs))]
theorem ans4_sh (h:Wov cs F gs) (hc:c∈cs):∀ d∈ans4 cs gs c,ShL d:=by
 have ha:c.1∈nms cs:=List.mem_map_of_mem hc
 have hn:(Am (nms cs)).length<=60:=by rw [(Ah _).length_eq,List.length_map]; exact h.len
 refine all_cons (sh_nms h ?_ fun n hn=>((gd_mem h ha).mp hn).names h.H.topo) (all_cons (sh_nms h (Nat.le_trans (List.length_filter_le _ _) hn) fun n hn=>((Fi h).mp hn).1) (all_cons (sh_change h hc) (all_cons (sh_nms h hn fun n hn=>(Ah _).mem_iff.mp hn) AI)))
 obtain ⟨ls,hls,⟨hl,_⟩,_⟩:=gd_at h.w ((h.perm.map _).mem_iff.mpr ha)
 rw [gdL,hls]; exact hl
theorem Blw.end {F:List Ch} {a b:List Nat} (x:Blw F a b):∃ c∈F,b∈c.2.1:=by
 induction x with
 | one hc hl=>exact ⟨_,hc,hl⟩
 | more _ _ _ ih=>exact ih
theorem out_last {gs':Gsl} (h':Wov (cs++[m]) F gs') (ht:Cl cs) (hn:m.1∉nms cs) (hl:∀ l∈m.2.1,l∈nms cs):Eb (cs++[m]) gs' m.1=[m.1]:=by
 have e:lnL (cs++[m]) gs' m.1=[]:=List.eq_nil_iff_forall_not_mem.mpr fun x hx=>by
  obtain ⟨c,hc,q⟩:=((Fi h').mp hx).2.end
  rcases List.mem_append.mp hc with hc | hc
  ·exact hn (ht.lean hc q)
  ·rw [List.mem_singleton.mp hc] at q; exact hn (hl _ q)
 show Am (lnL (cs++[m]) gs' m.1++[m.1])=_
 rw [e]; rfl
theorem Gl {hs:List (List Nat×Int)} {a:List Nat} {τ:Ab} {z0 z1 z3 z4 z5 z6 z7 z8 z10 z11:Option V} (ha:a∉nms F):SE 23 (.bi .all (.cons (.comp (.fcall 74 (.cons (.var 2) (.cons (.var 9) (.cons (.var 10) .nil)))) [10] (.range (.cons (.cst (.int 5)) .nil)) .nil) .nil)) [z0,z1,some self,z3,z4,z5,z6,z7,z8,some (vs a),z10,z11] (W F gs hs++τ) (vb true) (W F gs hs++τ):=by
 let σ:=W F gs hs++τ
 have hk:∀ (x:{w:Nat // w < 5}) σ',σ'=σ->FN (C0 20).n 74 [self,vs a,vi (x.1:Int)] σ' (vb true) σ':=fun x σ' e=>e▸(fn_refused ha x.1 x.2).more (show 4<=20 by decide)
 let C:Cfg:=(C0 20).knowA 74 (fun x:{w:Nat // w < 5}=>[self,vs a,vi (x.1:Int)]) (fun _=>vb true) (fun σ'=>σ'=σ) hk
 have o74:∀ w:Nat,w < 5->C.O 74 [self,vs a,vi (w:Int)] σ=some (vb true):=fun w hw=>knowA_eq (C:=C0 20) (arg:=fun x:{w:Nat // w < 5}=>[self,vs a,vi (x.1:Int)]) (fun _ _ _=>rfl) ⟨w,hw⟩ rfl
 refine (Ad C.ok _).v (AK (A0 (x:=.d (.list ((List.range 5).map fun _=>PyData.bool true))) (D6 ?_)) (DG _))
 refine Eq.trans (b:=some (((List.range 5).filter fun _=>true).map fun _=>vb true)) (BP (l:=List.range 5) (fun j:Nat=>vi (j:Int)) (fun _=>true) (fun _=>vb true) (itr (m:=5) rfl (by decide) (by decide)) (show 5<=line by decide) (fun _ _=>rfl) fun j hj _=>GT (e_r3 rfl rfl rfl) (o74 j (List.mem_range.mp hj))) ?_
 rfl
end
end Mine
namespace Mine
open PySem
theorem k_x:Str.ofString "x" = Tx [120]:=by decide +kernel
noncomputable abbrev dX:Deed:=⟨Ec,none,some [120]⟩
theorem e_dX {O:Orc} {ρ:Ag} {σ:Ab}:(ev O (.tup (.cons (.cst (.str (Str.ofString "add"))) (.cons (.cst .none) (.cons (.cst (.str (Str.ofString "x"))) .nil))))).v ρ σ=some (.d dX.data):=by
 show some (V.d (.tuple [.str (Str.ofString "add"),.none,.str (Str.ofString "x")]))=_
 rw [G4,k_x]; rfl
theorem dX_ok:CO dX:=⟨.inl ⟨rfl,[120],rfl,by decide,by decide⟩,fun l e=>by rw [<-Option.some.inj e]; exact ⟨by decide,by decide⟩⟩
theorem run05 (ns:List Int) (hns:ns.length<=63):∃ σ',SSs 23 Flaw.body (Bc Flaw [.d (.list (ns.map .int))]) [] (RetIs (vb true) σ'):=by
 obtain ⟨cs,c1,c2,H,z0,c4⟩:=fn_changes (ns.drop 2) 12 (by rw [List.length_drop]; omega) (by decide) (by decide)
 have cl:cs.length<=60:=by omega
 have cl':cs.length<=12:=by omega
 let C:=C0 20
 let cD:V:=.d (.list (cs.map Ch.data))
 let N:=Am (nms cs)
 have hN:N.length<=12:=by rw [(Ah _).length_eq,List.length_map]; exact cl'
 have hslc:∀ {ρ σ},Es ρ 0=some (.d (scD ns))->(ev C.O (.slc (.var 0) (.cst (.int 2)) .nil)).v ρ σ=some (.d (scD (ns.drop 2))):=fun {ρ σ} h=>by
  show ((Es ρ 0).bind fun x=>slice σ x (some 2) none)=_
  rw [h,bs,slL_fromZ (by decide) (by rw [List.length_map]; exact Nat.le_trans hns (by decide)),<-List.map_drop]; rfl
 have hE:Aj C (fun fl _=>Gn fl=vb true) Flaw.body (Bc Flaw [.d (.list (ns.map .int))]) []:=by
  show Aj C _ _ [some (.d (scD ns)),none,none,none,none,none,none,none,none,none,none,none] []
  refine AX (v:=cD) (σ':=[]) rfl (.fcall (.cons ((Ad C.ok _).v (hslc rfl)) (.cons (.cst _) .nil)) ((c4 _).more (show 4<=20 by decide))) ?_
  obtain ⟨F,hp,ht,f0⟩:=fn_turned cs (ns.getD 0 0) cl c2 H
  obtain ⟨gs,wv,hw⟩:=fn_woven H c2 cl hp ht
  have h:Wov cs F gs:=⟨H,c2,cl,hp,wv⟩
  let Ws:Ab:=W F gs (hts [] F)
  refine AX (v:=self) (σ':=Ws) rfl (.fcall (.cons (.fcall (.cons (.var rfl) (.cons (.fcall ((Ad C.ok _).row rfl) ((fn_cell ns 0 (by decide) (by decide)).more (show 2<=20 by decide))) .nil)) ((f0 _).more (show 3<=20 by decide))) .nil) (hw.more (show 6<=20 by decide))) ?_
  refine B2 (Ay (x:=self) (y:=A4) rfl rfl rfl) ?_
  refine Aw (v:=.d (dl N)) (AK (A0 (x:=.d (dl (nms cs))) ?_) (DP (by show some (((nms cs).map fun t=>PyData.str (Tx t)).map V.d)=_; rw [<-AR]) (by rw [List.length_map]; omega))) ?_
  ·rw [EL (l:=cs) Ch.data (fun _=>true) (fun c=>.str (Tx c.1)) (F5 rfl) (Nat.le_trans cl (by decide)) (fun _ _=>rfl) (fun c _ _=>Ai rfl rfl (Bo c)),Bl]
   show some (V.d (.list (cs.map fun c=>PyData.str (Tx c.1))))=some (V.d (.list ((cs.map (·.1)).map fun t=>PyData.str (Tx t))))
   rw [List.map_map]; rfl
  refine BE (ws:=[]) rfl ?_
  let K:Option V->Option V->Option V->Option V->Option V->Option V->Option V->Ag:=fun z4 z6 z7 z8 z9 z10 z11=>[some (.d (scD ns)),some cD,some self,some (.d (dl N)),z4,some (.ref 3),z6,z7,z8,z9,z10,z11]
  let oHd:List PyData->O:=fun hs=>.list ((hs.map kp).map .d)
  let T:List PyData->Ab->Ab:=fun hs τ=>Ws++(oHd hs::τ)
  refine Bu (l:=cs) vc (fun p ρ σ'=>(∃ z4 z6,ρ=K z4 z6 none none none none none)/\∃ hs,(∀ d∈hs,ShL d)/\hs.length=4 * p.length/\σ'=T hs []) (F5 rfl) ⟨⟨none,none,rfl⟩,[],(fun d h=>nomatch h),rfl,rfl⟩ ?_ ?_
  ·rintro p c q ρ _ e ⟨⟨z4,z6,rfl⟩,hs,hsh,hsl,rfl⟩
   have hc:c∈cs:=by rw [e]; simp
   have haF:c.1∈nms F:=(hp.map _).mem_iff.mpr (List.mem_map_of_mem hc)
   have hpl:p.length < 12:=by have:=congrArg List.length e; rw [List.length_append,List.length_cons] at this; omega
   have mc:∀ {nm:Str} {f:Nat} {d:PyData},mtP nm=some f->FN 20 f [self,vs c.1] (T hs []) (.d d) (T hs [])->SE (C.n+3) (.mcall nm (.var 2) (.cons (.sub (.var 4) (.cst (.int 0))) .nil)) (K (some (vc c)) z6 none none none none none) (T hs []) (.d d) (T hs []):=fun hm hf=>.mcall Au hm ((Ad C.ok (.var 2)).v rfl) ((Ad C.ok _).row (A0 (Ai rfl rfl (Bo c)))) hf
   have hit:=SI.lst (n:=C.n+3) (ρ:=K (some (vc c)) z6 none none none none none) (v:=.d (.list (ans4 cs gs c))) (ws:=(ans4 cs gs c).map V.d) (SE.frz (ds:=ans4 cs gs c) (SL.lst (.cons (mc (nm:=Str.ofString "ground") (by unfold mtP; kernel_rfl) ((fn_groundM (τ:=[oHd hs]) h.w haF).more (show 3<=20 by decide))) (.cons (mc (nm:=Str.ofString "leaning") (by unfold mtP; kernel_rfl) ((GF (τ:=[oHd hs]) h haF).more (show 4<=20 by decide))) (.cons (mc (nm:=Str.ofString "change") (by unfold mtP; kernel_rfl) ((fn_change (τ:=[oHd hs]) h.w.nd h.w.gen (hp.mem_iff.mpr hc)).more (show 3<=20 by decide))) (.cons (.mcall (f:=40) (nm:=Str.ofString "names") Au (by unfold mtP; kernel_rfl) ((Ad C.ok (.var 2)).v rfl) .nil ((fn_namesD h [oHd hs]).more (show 2<=20 by decide))) .nil)))) (show 4<=line by decide))) rfl
   refine go_forI (l:=ans4 cs gs c) V.d (fun r ρ σ'=>(∃ z6,ρ=K (some (vc c)) z6 none none none none none)/\σ'=T (hs++r) []) hit ⟨⟨z6,rfl⟩,by rw [List.append_nil]⟩ ?_ ?_
   ·rintro r d r' ρ _ e' ⟨⟨z6,rfl⟩,rfl⟩
    have hd:ShL d:=ans4_sh h hc d (by rw [e']; simp)
    have hrl:r.length < 4:=by have:=congrArg List.length e'; rw [List.length_append,List.length_cons] at this; have:4=r.length+(r'.length+1):=this; omega
    refine AJ (k:=3) (y:=.d (kp d)) (ws:=((hs++r).map kp).map .d) rfl (A0 (EK (Bw rfl (AK (A0 rfl) (repr_is hd))) rfl)) rfl (by rw [List.length_map,List.length_map,List.length_append]; exact Nat.lt_of_le_of_lt (show hs.length+r.length<=100 by omega) (by decide)) (Ae ⟨_,rfl,⟨_,rfl⟩,?_⟩)
    show Ws++[.list (((hs++r).map kp).map V.d++[.d (kp d)])]=Ws++[.list (((hs++(r++[d])).map kp).map V.d)]
    rw [<-List.append_assoc hs,List.map_append (l₁:=hs++r),List.map_append (l₁:=(hs++r).map kp)]; rfl
   ·rintro ρ _ ⟨⟨z6,rfl⟩,rfl⟩
    refine Ae ⟨_,rfl,⟨_,_,rfl⟩,hs++ans4 cs gs c,fun d hd=>(List.mem_append.mp hd).elim (hsh d) (ans4_sh h hc d),?_,rfl⟩
    rw [List.length_append,List.length_append,hsl]
    show 4 * p.length+4=4 * (p.length+1); omega
  rintro ρ _ ⟨⟨z4,z6,rfl⟩,hs,hsh,hsl,rfl⟩
  have lowH:∀ {τ:Ab},(∀ o∈τ,B4 0 o)->∀ o∈oHd hs::τ,B4 0 o:=fun hτ=>all_cons (fun v hv=>by obtain ⟨x,_,rfl⟩:=List.mem_map.mp hv; trivial) hτ
  refine Bu (l:=List.range 2) (fun j:Nat=>vi (j:Int)) (fun _ ρ σ'=>(∃ z4 z7 z8,ρ=K z4 z6 z7 z8 none none none)/\∃ τ,(∀ o∈τ,B4 0 o)/\σ'=T hs τ) (itr (m:=2) rfl (by decide) (by decide)) ⟨⟨z4,none,none,rfl⟩,[],(fun o h=>nomatch h),rfl⟩ ?_ ?_
  ·rintro p n q ρ _ e ⟨⟨z4,z7,z8,rfl⟩,τ,hτ,rfl⟩
   let Nl:O:=.list (N.map vs)
   let j:=(oHd hs::τ).length+3
   let σ1:Ab:=Ws++((oHd hs::τ)++[Nl])
   refine AX (v:=.ref j) (σ':=σ1) rfl (.mcall (f:=40) Au (by unfold mtP; kernel_rfl) ((Ad C.ok (.var 2)).v rfl) .nil ((fn_namesT (τ:=oHd hs::τ) h).more (show 2<=20 by decide))) ?_
   have a1:σ1[j]? = some Nl:=(show ((oHd hs::τ)++[Nl])[(oHd hs::τ).length]? = some Nl from Ck)
   have t1:FN 2 24 [.ref j,.d (dl N)] σ1 (vb true) σ1:=De _ (.inr ⟨_,rfl,by rw [<-AR]; exact a1⟩) (Nat.le_trans hN (by decide))
   refine BY (σ':=σ1) (ST.not (t:=true) (ST.plain (fun hc=>BA (.fcall 24 (.cons (.var 8) (.cons (.var 3) .nil))) rfl hc) (.fcall (vs:=[.ref j,.d (dl N)]) ((Ad C.ok _).row rfl) (t1.more (show 2<=20 by decide))) (AL rfl))) ?_
   refine AJ (k:=j) (y:=.d (.str (Str.ofString "a"))) (ws:=N.map vs) rfl rfl a1 (by rw [List.length_map]; exact Nat.lt_of_le_of_lt hN (by decide)) ?_
   let x:O:=.list (N.map vs++[.d (.str (Str.ofString "a"))])
   have es:σ1.set j x=T hs (τ++[x]):=congrArg (Ws ++ ·) (E1 (τ:=oHd hs::τ))
   rw [es]
   have hx:∀ o∈τ++[x],B4 0 o:=fun o ho=>(List.mem_append.mp ho).elim (hτ o) fun ho=>by
    rw [List.mem_singleton.mp ho]
    intro v hv
    rcases List.mem_append.mp hv with hv | hv
    ·obtain ⟨t,_,rfl⟩:=List.mem_map.mp hv; trivial
    ·rw [List.mem_singleton.mp hv]; trivial
   refine Bu (l:=cs) vc (fun _ ρ σ'=>(∃ z4,ρ=K z4 z6 (some (vi (n:Int))) (some (.ref j)) none none none)/\σ'=T hs (τ++[x])) (F5 rfl) ⟨⟨z4,rfl⟩,rfl⟩ ?_ ?_
   ·rintro p c q ρ _ e ⟨⟨z4,rfl⟩,rfl⟩
    have fa:FN 5 72 [self,cD,vc c] (T hs (τ++[x])) (vb true) (T hs (τ++[x])):=FA.tail (fn_asked h (by rw [e]; simp)) rfl (all_cons BX (all_cons trivial (all_cons trivial AI))) (EC 3)
    exact BY (σ':=T hs (τ++[x])) (ST.not (t:=true) (ST.plain (fun hc=>BA (.fcall 72 (.cons (.var 2) (.cons (.var 1) (.cons (.var 4) .nil)))) rfl hc) (.fcall (vs:=[self,cD,vc c]) ((Ad C.ok _).row rfl) (fa.more (show 5<=20 by decide))) (AL rfl))) (Ae ⟨_,rfl,⟨_,rfl⟩,rfl⟩)
   ·rintro ρ _ ⟨⟨z4,rfl⟩,rfl⟩
    exact Ae ⟨_,rfl,⟨_,_,_,rfl⟩,τ++[x],hx,rfl⟩
  rintro ρ _ ⟨⟨z4,z7,z8,rfl⟩,τ,hτ,rfl⟩
  have hNn:∀ n∈N,AF n=true:=fun n hn=>by
   obtain ⟨c,hc,rfl⟩:=List.mem_map.mp ((Ah _).mem_iff.mp hn)
   exact (c2 c hc).name
  have lN:∀ {σ},As σ (.d (dl N))=some (N.map vs):=by intro σ; rw [AR]; rfl
  obtain ⟨a,an,anew,fn⟩:=fn_name (σ:=T hs τ) (x:=.d (dl N)) (ns.getD 1 0) N lN hNn (by omega)
  have hac:a∉nms cs:=fun q=>anew ((Ah _).mem_iff.mpr q)
  have haF:a∉nms F:=fun q=>hac ((hp.map _).mem_iff.mp q)
  refine AX (v:=vs a) (σ':=T hs τ) rfl (.fcall (.cons (.fcall ((Ad C.ok _).row rfl) ((fn_cell ns 1 (by decide) (by decide)).more (show 2<=20 by decide))) (.cons (.var rfl) .nil)) (fn.more (show 3<=20 by decide))) ?_
  refine BY (σ':=T hs τ) (ST.not (t:=true) (ST.plain (fun hc=>BA (.bi .all (.cons (.comp (.fcall 74 (.cons (.var 2) (.cons (.var 9) (.cons (.var 10) .nil)))) [10] (.range (.cons (.cst (.int 5)) .nil)) .nil) .nil)) rfl hc) (Gl haF) (AL rfl))) ?_
  let m:Ch:=(a,Am N,[dX])
  have hml:∀ l∈Am N,l∈nms cs:=fun l hl=>(Ah _).mem_iff.mp ((Ah _).mem_iff.mp hl)
  have hNd:N.Nodup:=(Ah _).nodup_iff.mpr H.nd
  have H':BJ (cs++[m]):=H.snoc hac hml ⟨fun k e=>Ac e,trivial⟩
  have gm:GenCh m:=⟨an,by show (Am N).length<=60; rw [(Ah _).length_eq]; omega,Be _ hNd,(show 1<=20 by decide),fun d hd=>by rw [List.mem_singleton.mp hd]; exact dX_ok⟩
  have c2':∀ c∈cs++[m],GenCh c:=fun c hc=>(List.mem_append.mp hc).elim (c2 c) fun hc=>by rw [List.mem_singleton.mp hc]; exact gm
  have cl2:(cs++[m]).length<=60:=by rw [List.length_append]; show cs.length+1<=60; omega
  have hp':(F++[m]).Perm (cs++[m]):=hp.append_right _
  have ht':Cl (F++[m]):=ht.snoc fun l hl=>(hp.map _).mem_iff.mpr (hml l hl)
  have srt:∀ {σ},AV .sorted σ [.d (dl N)]=some (.d (dl (Am N))):=DP lN (by omega)
  refine Aw (v:=vc m) (EK (e_r3 (x:=vs a) (y:=.d (dl (Am N))) (z:=.d (dds [dX])) rfl (AK (A0 rfl) srt) (GS e_dX)) rfl) ?_
  let τ1:=oHd hs::τ
  have lowT:∀ o∈τ1++[oLs m]++[oDs m],B4 0 o:=fun o ho=>by
   rcases List.mem_append.mp ho with ho | ho
   ·rcases List.mem_append.mp ho with ho | ho
    ·exact lowH hτ o ho
    ·rw [List.mem_singleton.mp ho]; exact D7
   ·rw [List.mem_singleton.mp ho]; exact D7
  obtain ⟨gs',w',hf⟩:=fn_add wv m (add_ok H' c2' cl2 hp' ht' (post:=[]) rfl) (hnd_new (τ:=τ1)) lowT
  have h':Wov (cs++[m]) (F++[m]) gs':=⟨H',c2',cl2,hp',w'⟩
  let τ2:=τ1++[oLs m]++[oDs m]
  let σ2:Ab:=W (F++[m]) gs' (hts [] (F++[m]))++τ2
  let ρ2:Ag:=K z4 z6 z7 z8 (some (vs a)) none (some (vc m))
  have l1:(ev C.O (.bi .sorted (.cons (.var 3) .nil))).nl ρ2 (Ws++τ1)=some ((Am N).map vs):=FE (b:=.sorted) (xs:=[.d (dl N)]) rfl (sort_mk lN (by omega)) (by rw [List.length_map,(Ah _).length_eq]; exact Nat.le_trans hN (by decide))
  have l2:(ev C.O (.lst (.cons (.tup (.cons (.cst (.str (Str.ofString "add"))) (.cons (.cst .none) (.cons (.cst (.str (Str.ofString "x"))) .nil)))) .nil))).nl ρ2 (Ws++τ1++[oLs m])=some [.d dX.data]:=e_nlst (A0 e_dX) (show 1<=line by decide)
  refine Bv (v:=A4) (σ':=σ2) rfl (.mcall (f:=36) Au (by unfold mtP; kernel_rfl) ((Ad C.ok (.var 2)).v rfl) (.cons (SE.tupR (us:=[.inl (.str (Tx a)),.inr (τ1.length+3),.inr ((τ1++[oLs m]).length+3)]) (.cons (.var rfl) (.cons (SE.trk ((Ad C.ok _).nl l1)) (.cons (SE.trk ((Ad C.ok _).nl l2)) .nil))) (show 3<=line by decide)) .nil) (hf.more (show 5<=20 by decide))) ?_
  show Aj C _ _ ρ2 σ2
  have fa:FN 5 72 [self,.d (.list ((cs++[m]).map Ch.data)),vc m] σ2 (vb true) σ2:=FA.tail (fn_asked h' (List.mem_append_right _ (.head _))) rfl (all_cons BX (all_cons trivial (all_cons trivial AI))) (EC 3)
  have ham:a∈nms (cs++[m]):=by rw [nms,List.map_append]; exact List.mem_append_right _ (.head _)
  have hamF:a∈nms (F++[m]):=(hp'.map _).mem_iff.mpr ham
  have ft:=fn_take (τ:=τ2) h' hamF (ln_nodup h') fun c hc=>out_closed h' ham c (hp'.mem_iff.mp hc)
  rw [show Eb (cs++[m]) gs' a=[a] from out_last h' H.topo hac hml] at ft
  let σ3:Ab:=W ((F++[m]).filter fun c=>Bs [a] c.1) (gs'.filter fun q=>Bs [a] q.1) (hts [] ((F++[m]).filter fun c=>Bs [a] c.1))++τ2
  have ha3:a∉nms ((F++[m]).filter fun c=>Bs [a] c.1):=fun q=>by
   obtain ⟨c,hc,e⟩:=List.mem_map.mp q
   exact no_in.mp (List.mem_filter.mp hc).2 (by rw [e]; exact .head _)
  have row72:(ev C.O (.cons (.var 2) (.cons (.bin .Add (.var 1) (.lst (.cons (.var 11) .nil))) (.cons (.var 11) .nil)))).row ρ2 σ2=some [self,.d (.list ((cs++[m]).map Ch.data)),vc m]:=e_r3 rfl (An (x:=cD) (y:=.d (.list [Ch.data m])) rfl (GS rfl) (by rw [b_catL _ _ (by rw [List.length_map]; exact Nat.le_trans (show cs.length+1<=100 by omega) (by decide)),List.map_append]; rfl)) rfl
  refine BY (σ':=σ3) (.bop (.cons (t:=false) (ST.not (t:=true) (ST.plain (fun hc=>BA (.fcall 72 (.cons (.var 2) (.cons (.bin .Add (.var 1) (.lst (.cons (.var 11) .nil))) (.cons (.var 11) .nil)))) rfl hc) (.fcall ((Ad C.ok _).row row72) (fa.more (show 5<=20 by decide))) (AL rfl))) (fun q=>nomatch q) fun _=>.cons (t:=false) (.cmp (x:=.d (dl [a])) (y:=.d (dl [a])) (.mcall (f:=39) Au (by unfold mtP; kernel_rfl) ((Ad C.ok (.var 2)).v rfl) ((Ad C.ok _).row rfl) (ft.more (show 5<=20 by decide))) ((Ad C.ok _).v (GS rfl)) (CQ (op:=.NotEq) (ne_self (eqd_self 39 [a])))) (fun q=>nomatch q) fun _=>.nil)) ?_
  have hsl2:hs.length<=1000:=by omega
  exact Dc (v:=vb true) (σ':=σ3) (.bop (.more rfl (t:=true) (x:=vb true) (.fcall ((Ad C.ok _).row (A0 (x:=.ref 3) rfl)) ((fn_held (i:=3) (hs:=hs) rfl hsl2 hsh).more (show 2<=20 by decide))) (AL rfl) (fun q=>tt_ q) fun _=>.one (Gl ha3))) rfl
 obtain ⟨fl,σ',h1,h2⟩:=hE
 refine ⟨σ',SSs.mono (fun f s e=>?_) h2⟩
 rw [e.1,e.2]
 cases fl with
 | next _=>exact ⟨h1.symm,rfl⟩
 | ret _=>exact ⟨h1.symm,rfl⟩
end Mine
open PySem PySem.W PyProof.Rows
set_option tactic.hygienic true in
set_option backward.match.sparseCases true in
set_option genInjectivity true in
set_option maxRecDepth 100000 in
set_option maxHeartbeats 8000000 in
theorem PySem.Challenge.cw_uf010019_05_holds : PySem.Challenge.rw_uf010019_05.Holds := by
 refine holds_law Mine.said05 fun said=>?_
 refine W.holds_open (q:=Mine.view05) (loose:=[]) (Xt:=Mine.xt05) (XP:=XL Mine.view05 []) (Yf:=Hook.obs Mine.hook05) (Ya:=Hook.val Mine.hook05) (YP:=Hook.says Mine.hook05) (N:=5300) Mine.left05 (Hook.of Mine.hook05) (Hook.keeps Mine.hook05) (fun s e=>xl_of s (Bool.and_eq_true_iff.mp e).1) XL.keeps (by rfl) (by rfl) (by rfl) (fun s e=>recFacts_of (Bool.and_eq_true_iff.mp e).2) (by rfl) said (by decide +kernel) ⟨rfl,rfl,rfl,rfl,rfl,by decide +kernel⟩ ?hw ?hc
 case hw=>w_witness2
 intro w s₀ s₁ mg mb G Y fa o pm cd doc dV kV ho hd hcd hD hmg hg args vals as hpre hlay hrd hwl hlo
 obtain ⟨K,KX,KC⟩:=Y
 refine Ground.open G ?_
 intro T B D TE TW
 clear hd hcd hD ho
 wrow_args hpre hlay hrd hwl hlo
 rename_i sc _ _ _ _ _ _ _ l vs _ hL _ _ _ hI _ hlen _
 refine Mine.law05 Mine.run05 (w:=w) T TE KX KC hmg hL hI (by omega) ?_
 intro s' hk hgens hos
 refine ⟨.inl ⟨.bool true,.bool true,[],rfl,?_,.bool true,?_,?_⟩,OldK.of_keep hk,hos,?_⟩
 ·intro cls; rfl
 ·wrow_post
 ·exact fun _=>⟨List.nodup_nil,fun a h=>by cases h⟩
 ·exact AllBare.of_eq (hgens.trans hg)